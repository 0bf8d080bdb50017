import PyProof.Rows.All
import Wide.All
import OpenK.AllK
import Wide.FinOn
import HandS.Words
import HandS.WordsExc
import HandS.Exc
import HandS.Head0
import HandS.Head1
import HandS.Head2
import HandS.HeadHook1
import HandS.HeadHook2
import PySem.Challenge.RW_sealchart_k33_search_by_the_rules
import HandS.ForMost
import HandS.ForExc
import HandS.Wide
import HandS.EndBits
import HandS.IsInst
import HandS.Conv
import HandS.TupAny
import PyProof.Rows.StrIntSpec
import PyProof.FString3
import HandS.FStr
import HandS.Replace
import HandS.Style
import KE.KRevSl
import PyProof.SliceStr2
import HandS.ExcOwn
import HandS.TryOnly
import HandS.TryMany
import PyProof.ExcBaseAll.ValueError
import PyProof.StrOps2
import HandS.More
import PyProof.StrLaws
import PyProof.Rows.StrMeet
import PyProof.Rows.SortShellAny
import HandS.TupMul
import HandS.ExcIs
import HandS.Dict
import HandS.ExcCtx
import HandS.RaiseFrom
import HandS.SuiteRaise
import HandS.TupLen
import HandS.WordsDict
import HandS.ExcInit
import HandS.ExcField
import HandS.DictComp
import HandS.Deep
import HandS.SetFor
import HandS.Strs
import KE.SortData
import HandS.HeadEnd
import HandS.List
import HandS.ExcInitHot
import KE.KTryMore
import HandS.Iter
import HandS.ListItems
import KE.IntTextLaws
import KE.KIntText
import KE.IntTextText
set_option Elab.async false
set_option linter.all false
set_option maxRecDepth 100000
set_option maxHeartbeats 4000000
/-! tests by names for the head's one run -/
namespace HE
open PySem L2 PySem.Spec PyProof.Rows
def veQ : List Value := [.type "ValueError", .type "Exception", .type "BaseException", .type "object"]
def intT (K : PySem.W.Frag) (x : Str) (i : Int) : Bool := match PySem.W.nsIn K mainGlobals x with
  | some (some (.int j _)) => decide (j = i)
  | _ => false
def strT (K : PySem.W.Frag) (x : Str) (z : Str) : Bool := match PySem.W.nsIn K mainGlobals x with
  | some (some (.str y _)) => decide (y = z)
  | _ => false
def tupT (K : PySem.W.Frag) (x : Str) (ss : List String) : Bool := (match K.lookup (He.ga K x) with
  | some ⟨.type c, none, .seq its _, _⟩ => decide (c = "tuple") && (decide (its.size ≤ sizeLine) && He.relAll (ss.map fun s => V.str (Str.ofString s)) its.toList)
  | _ => false) && decide (PySem.W.nsIn K mainGlobals x = some (some (.ref (He.ga K x))))
/-! ### the Hook -/
abbrev AlM : Type := Bool × List He.FnV
def obsM (ft : List (PySem.W.Frag → Bool)) (fn : List He.FnD) (K : PySem.W.Frag) : AlM := ((ft.all fun f => f K) && fn.all fun d => (He.Fa.code d.at_ d.qual).ok K, fn.map fun d => He.fnObs K d.at_)
def valM (fn : List He.FnD) : AlM := (true, fn.map He.FnD.val)
def SaysM (ft : List (PySem.W.Frag → Bool)) (fn : List He.FnD) (K : PySem.W.Frag) : Prop := obsM ft fn K = valM fn
section
variable {ft : List (PySem.W.Frag → Bool)} {fn : List He.FnD} {K : PySem.W.Frag}
theorem SaysM.all (c : SaysM ft fn K) : (ft.all fun f => f K) = true :=
  (Bool.and_eq_true_iff.mp (show ((ft.all fun f => f K) && fn.all fun d => (He.Fa.code d.at_ d.qual).ok K) = true from congrArg (fun z : AlM => z.1) c)).1
theorem SaysM.fact (c : SaysM ft fn K) (i : Nat) {f : PySem.W.Frag → Bool} (h : ft[i]? = some f := by rfl) : f K = true :=
  List.all_eq_true.mp c.all f (List.mem_of_getElem? h)
theorem SaysM.def_ (c : SaysM ft fn K) (i : Nat) {d : He.FnD} (h : fn[i]? = some d := by rfl) :
    ∃ oc od osl kV doc pm an cdv ct, K.lookup (He.fAd K d.at_) = some ⟨oc, od, .func (PySem.W.fnOf d.name d.qual d.params d.body d.scope .none kV doc pm an cdv ct), osl⟩ ∧ PySem.W.codeIn K cdv d.qual = true := by
  have c2 := (Bool.and_eq_true_iff.mp (show ((ft.all fun f => f K) && fn.all fun d => (He.Fa.code d.at_ d.qual).ok K) = true from congrArg (fun z : AlM => z.1) c)).2
  have e : fn.map (fun d => He.fnObs K d.at_) = fn.map He.FnD.val := congrArg (fun z : AlM => z.2) c
  have e2 : (fn.map fun d => He.fnObs K d.at_)[i]? = (fn.map He.FnD.val)[i]? := by rw [e]
  rw [List.getElem?_map, List.getElem?_map, h] at e2
  exact He.fn_ok (Option.some.inj e2) (List.all_eq_true.mp c2 d (List.mem_of_getElem? h))
end
end HE
set_option Elab.async false
set_option linter.all false
set_option maxRecDepth 100000
set_option maxHeartbeats 4000000
/-! a run that looks at a short part of the heap: the module's names, the classes named, the defs named and their code -/
namespace HE
open PySem PySem.W PySem.Calls PySem.Spec PyProof.Rows L2
def clOf (g : Addr → Option Obj) (x : Str) : Addr := He.ga (He.frG g [mainGlobals]) x
def asC (g : Addr → Option Obj) (cls : List Str) : List Addr := mainGlobals :: cls.flatMap fun x => match g (clOf g x) with
  | some ⟨_, _, .cls cd, _⟩ => [clOf g x, cd.ns]
  | _ => [clOf g x]
def codeA (g : Addr → Option Obj) (a : Addr) : List Addr := match g a with
  | some ⟨_, _, .func fd, _⟩ => (match fd.code with
    | .ref c => [a, c]
    | _ => [a])
  | _ => [a]
def asF (g : Addr → Option Obj) (cls : List Str) (FN : List He.FnD) : List Addr := asC g cls ++ FN.flatMap fun d => codeA g (He.fAd (He.frG g (asC g cls)) d.at_)
def obsFG (cls : List Str) (FN : List He.FnD) (ft : List (PySem.W.Frag → Bool)) (fn : List He.FnD) (g : Addr → Option Obj) : AlM := obsM ft fn (He.frG g (asF g cls FN))
def hookF (cls : List Str) (FN : List He.FnD) (ft : List (PySem.W.Frag → Bool)) (fn : List He.FnD) : PySem.W.Hook where
  α := AlM
  obs := fun s => obsFG cls FN ft fn s.heap.get?
  val := fun _ => valM fn
  says := fun _ h => ∃ K : PySem.W.Frag, K.In h ∧ SaysM ft fn K
  of := fun _ _ e => ⟨_, He.frG_in, e⟩
  keeps := fun _ _ _ ⟨K, hK, c⟩ k => ⟨K, PySem.W.Frag.In.keeps hK k, c⟩
theorem obsFG_eq {cls : List Str} {FN : List He.FnD} {ft : List (PySem.W.Frag → Bool)} {fn : List He.FnD} {g : Addr → Option Obj} {s : Shared} (h : ∀ a, g a = s.heap.get? a) : obsFG cls FN ft fn g = (hookF cls FN ft fn).obs s := by
  have e : g = s.heap.get? := funext h
  rw [e] <;> rfl
end HE
set_option Elab.async false
set_option linter.all false
set_option maxRecDepth 100000
set_option maxHeartbeats 4000000
namespace GH
open PySem PySem.W PySem.Calls PySem.Spec PyProof.Rows L2 HE
def top (i : Nat) : Stmt := PySem.Challenge.pw_sealchart_k33_search_by_the_rules.main.body.getD i (.Pass ⟨0, 0, 0, 0⟩)
abbrev st_made_of : Stmt := top 15
abbrev st_is_list_name : Stmt := top 16
abbrev st_is_key : Stmt := top 17
abbrev st_has_parts : Stmt := top 20
abbrev st_is_path : Stmt := top 18
abbrev st_is_pattern : Stmt := top 19
abbrev st_ends_behind : Stmt := top 23
abbrev st_part_matches : Stmt := top 22
abbrev st_matches : Stmt := top 21
abbrev st_is_integer : Stmt := top 25
abbrev st_is_row : Stmt := top 30
abbrev st_is_table : Stmt := top 31
abbrev st_is_version : Stmt := top 32
abbrev st_is_amount : Stmt := top 33
abbrev st_is_digest : Stmt := top 34
abbrev st_is_ascending : Stmt := top 35
abbrev st_is_role : Stmt := top 36
abbrev st_is_grant : Stmt := top 37
abbrev st_has_head : Stmt := top 38
abbrev st_are_goods : Stmt := top 40
abbrev st_are_grants : Stmt := top 41
abbrev st_is_list : Stmt := top 39
abbrev st_covers : Stmt := top 42
abbrev st_good_of : Stmt := top 43
abbrev st_entry_of : Stmt := top 44
abbrev st_role_of : Stmt := top 47
abbrev st_Search___init__ : Stmt := inClass (top 49) 0
abbrev st_Search_wanted : Stmt := inClass (top 49) 1
abbrev st_Search_give : Stmt := inClass (top 49) 2
abbrev st_Search_result : Stmt := inClass (top 49) 3
abbrev st_lookup : Stmt := top 50
abbrev st__law_cell_v2 : Stmt := top 52
abbrev st__law_draws : Stmt := top 53
abbrev st__law_names_v2 : Stmt := top 54
abbrev st__law_path_v3 : Stmt := top 55
abbrev st__law_patterns : Stmt := top 56
abbrev st__law_fits_v2 : Stmt := top 58
abbrev st__law_covers_v2 : Stmt := top 57
abbrev st__law_list_v5 : Stmt := top 59
abbrev st__law_walk_v2 : Stmt := top 60
abbrev st__law_refused : Stmt := top 61
abbrev st_law : Stmt := top 62
abbrev R : PySem.W.OpenRow := PySem.W.OpenLaw.row PySem.Challenge.rw_sealchart_k33_search_by_the_rules
def D0 : He.FnD := ⟨("made_of", none), "made_of", "made_of", defArgs st_made_of, defBody st_made_of, defScope st_made_of⟩
def D1 : He.FnD := ⟨("is_list_name", none), "is_list_name", "is_list_name", defArgs st_is_list_name, defBody st_is_list_name, defScope st_is_list_name⟩
def D2 : He.FnD := ⟨("is_key", none), "is_key", "is_key", defArgs st_is_key, defBody st_is_key, defScope st_is_key⟩
def D3 : He.FnD := ⟨("has_parts", none), "has_parts", "has_parts", defArgs st_has_parts, defBody st_has_parts, defScope st_has_parts⟩
def D4 : He.FnD := ⟨("is_path", none), "is_path", "is_path", defArgs st_is_path, defBody st_is_path, defScope st_is_path⟩
def D5 : He.FnD := ⟨("is_pattern", none), "is_pattern", "is_pattern", defArgs st_is_pattern, defBody st_is_pattern, defScope st_is_pattern⟩
def D6 : He.FnD := ⟨("ends_behind", none), "ends_behind", "ends_behind", defArgs st_ends_behind, defBody st_ends_behind, defScope st_ends_behind⟩
def D7 : He.FnD := ⟨("part_matches", none), "part_matches", "part_matches", defArgs st_part_matches, defBody st_part_matches, defScope st_part_matches⟩
def D8 : He.FnD := ⟨("matches", none), "matches", "matches", defArgs st_matches, defBody st_matches, defScope st_matches⟩
def D9 : He.FnD := ⟨("is_integer", none), "is_integer", "is_integer", defArgs st_is_integer, defBody st_is_integer, defScope st_is_integer⟩
def D10 : He.FnD := ⟨("is_row", none), "is_row", "is_row", defArgs st_is_row, defBody st_is_row, defScope st_is_row⟩
def D11 : He.FnD := ⟨("is_table", none), "is_table", "is_table", defArgs st_is_table, defBody st_is_table, defScope st_is_table⟩
def D12 : He.FnD := ⟨("is_version", none), "is_version", "is_version", defArgs st_is_version, defBody st_is_version, defScope st_is_version⟩
def D13 : He.FnD := ⟨("is_amount", none), "is_amount", "is_amount", defArgs st_is_amount, defBody st_is_amount, defScope st_is_amount⟩
def D14 : He.FnD := ⟨("is_digest", none), "is_digest", "is_digest", defArgs st_is_digest, defBody st_is_digest, defScope st_is_digest⟩
def D15 : He.FnD := ⟨("is_ascending", none), "is_ascending", "is_ascending", defArgs st_is_ascending, defBody st_is_ascending, defScope st_is_ascending⟩
def D16 : He.FnD := ⟨("is_role", none), "is_role", "is_role", defArgs st_is_role, defBody st_is_role, defScope st_is_role⟩
def D17 : He.FnD := ⟨("is_grant", none), "is_grant", "is_grant", defArgs st_is_grant, defBody st_is_grant, defScope st_is_grant⟩
def D18 : He.FnD := ⟨("has_head", none), "has_head", "has_head", defArgs st_has_head, defBody st_has_head, defScope st_has_head⟩
def D19 : He.FnD := ⟨("are_goods", none), "are_goods", "are_goods", defArgs st_are_goods, defBody st_are_goods, defScope st_are_goods⟩
def D20 : He.FnD := ⟨("are_grants", none), "are_grants", "are_grants", defArgs st_are_grants, defBody st_are_grants, defScope st_are_grants⟩
def D21 : He.FnD := ⟨("is_list", none), "is_list", "is_list", defArgs st_is_list, defBody st_is_list, defScope st_is_list⟩
def D22 : He.FnD := ⟨("covers", none), "covers", "covers", defArgs st_covers, defBody st_covers, defScope st_covers⟩
def D23 : He.FnD := ⟨("good_of", none), "good_of", "good_of", defArgs st_good_of, defBody st_good_of, defScope st_good_of⟩
def D24 : He.FnD := ⟨("entry_of", none), "entry_of", "entry_of", defArgs st_entry_of, defBody st_entry_of, defScope st_entry_of⟩
def D25 : He.FnD := ⟨("role_of", none), "role_of", "role_of", defArgs st_role_of, defBody st_role_of, defScope st_role_of⟩
def D26 : He.FnD := ⟨("Search", some "__init__"), "__init__", "Search.__init__", defArgs st_Search___init__, defBody st_Search___init__, defScope st_Search___init__⟩
def D27 : He.FnD := ⟨("Search", some "wanted"), "wanted", "Search.wanted", defArgs st_Search_wanted, defBody st_Search_wanted, defScope st_Search_wanted⟩
def D28 : He.FnD := ⟨("Search", some "give"), "give", "Search.give", defArgs st_Search_give, defBody st_Search_give, defScope st_Search_give⟩
def D29 : He.FnD := ⟨("Search", some "result"), "result", "Search.result", defArgs st_Search_result, defBody st_Search_result, defScope st_Search_result⟩
def D30 : He.FnD := ⟨("lookup", none), "lookup", "lookup", defArgs st_lookup, defBody st_lookup, defScope st_lookup⟩
def D31 : He.FnD := ⟨("_law_cell", none), "_law_cell", "_law_cell", defArgs st__law_cell_v2, defBody st__law_cell_v2, defScope st__law_cell_v2⟩
def D32 : He.FnD := ⟨("_law_draws", none), "_law_draws", "_law_draws", defArgs st__law_draws, defBody st__law_draws, defScope st__law_draws⟩
def D33 : He.FnD := ⟨("_law_names", none), "_law_names", "_law_names", defArgs st__law_names_v2, defBody st__law_names_v2, defScope st__law_names_v2⟩
def D34 : He.FnD := ⟨("_law_path", none), "_law_path", "_law_path", defArgs st__law_path_v3, defBody st__law_path_v3, defScope st__law_path_v3⟩
def D35 : He.FnD := ⟨("_law_patterns", none), "_law_patterns", "_law_patterns", defArgs st__law_patterns, defBody st__law_patterns, defScope st__law_patterns⟩
def D36 : He.FnD := ⟨("_law_fits", none), "_law_fits", "_law_fits", defArgs st__law_fits_v2, defBody st__law_fits_v2, defScope st__law_fits_v2⟩
def D37 : He.FnD := ⟨("_law_covers", none), "_law_covers", "_law_covers", defArgs st__law_covers_v2, defBody st__law_covers_v2, defScope st__law_covers_v2⟩
def D38 : He.FnD := ⟨("_law_list", none), "_law_list", "_law_list", defArgs st__law_list_v5, defBody st__law_list_v5, defScope st__law_list_v5⟩
def D39 : He.FnD := ⟨("_law_walk", none), "_law_walk", "_law_walk", defArgs st__law_walk_v2, defBody st__law_walk_v2, defScope st__law_walk_v2⟩
def D40 : He.FnD := ⟨("_law_refused", none), "_law_refused", "_law_refused", defArgs st__law_refused, defBody st__law_refused, defScope st__law_refused⟩
def D41 : He.FnD := ⟨("law", none), "law", "law", defArgs st_law, defBody st_law, defScope st_law⟩
def FN : List He.FnD := [D0, D1, D2, D3, D4, D5, D6, D7, D8, D9, D10, D11, D12, D13, D14, D15, D16, D17, D18, D19, D20, D21, D22, D23, D24, D25, D26, D27, D28, D29, D30, D31, D32, D33, D34, D35, D36, D37, D38, D39, D40, D41]
def fn : List He.FnD := FN
def ft0 (K : PySem.W.Frag) : Bool := decide (PySem.W.nsIn K mainGlobals "Search" = some (some (.ref (He.ga K "Search")))) && (PySem.W.plainGet K (He.ga K "Search") Str.empty && (PySem.W.hasDictIn K (He.ga K "Search") && (PySem.W.plainOver K (He.ga K "Search") && (decide (PySem.W.findIn K (.ref (He.ga K "Search")) "__setattr__" = some (some (.builtin "object.__setattr__"))) && (PySem.W.makesIn K (He.ga K "Search") && (PySem.W.keepIn K (.ref (He.ga K "Search")) && (decide (PySem.W.findIn K (.ref (He.ga K "Search")) "outcome" = some none) && (decide (PySem.W.findIn K (.ref (He.ga K "Search")) "path" = some none) && (decide (PySem.W.findIn K (.ref (He.ga K "Search")) "shelf" = some none) && (decide (PySem.W.findIn K (.ref (He.ga K "Search")) "visited" = some none) && (decide (PySem.W.findIn K (.ref (He.ga K "Search")) "waiting" = some none) && (decide (PySem.W.nsIn K mainGlobals "made_of" = some (some (.ref (He.fAd K ("made_of", none))))) && (PySem.W.keepIn K (.ref (He.fAd K ("made_of", none))) && (decide (PySem.W.nsIn K mainGlobals "is_list_name" = some (some (.ref (He.fAd K ("is_list_name", none))))) && (PySem.W.keepIn K (.ref (He.fAd K ("is_list_name", none))) && (decide (PySem.W.nsIn K mainGlobals "is_key" = some (some (.ref (He.fAd K ("is_key", none))))) && (PySem.W.keepIn K (.ref (He.fAd K ("is_key", none))) && (decide (PySem.W.nsIn K mainGlobals "has_parts" = some (some (.ref (He.fAd K ("has_parts", none))))) && (PySem.W.keepIn K (.ref (He.fAd K ("has_parts", none))))))))))))))))))))))
def ft1 (K : PySem.W.Frag) : Bool := decide (PySem.W.nsIn K mainGlobals "is_path" = some (some (.ref (He.fAd K ("is_path", none))))) && (PySem.W.keepIn K (.ref (He.fAd K ("is_path", none))) && (decide (PySem.W.nsIn K mainGlobals "is_pattern" = some (some (.ref (He.fAd K ("is_pattern", none))))) && (PySem.W.keepIn K (.ref (He.fAd K ("is_pattern", none))) && (decide (PySem.W.nsIn K mainGlobals "ends_behind" = some (some (.ref (He.fAd K ("ends_behind", none))))) && (PySem.W.keepIn K (.ref (He.fAd K ("ends_behind", none))) && (decide (PySem.W.nsIn K mainGlobals "part_matches" = some (some (.ref (He.fAd K ("part_matches", none))))) && (PySem.W.keepIn K (.ref (He.fAd K ("part_matches", none))) && (decide (PySem.W.nsIn K mainGlobals "matches" = some (some (.ref (He.fAd K ("matches", none))))) && (PySem.W.keepIn K (.ref (He.fAd K ("matches", none))) && (decide (PySem.W.nsIn K mainGlobals "is_integer" = some (some (.ref (He.fAd K ("is_integer", none))))) && (PySem.W.keepIn K (.ref (He.fAd K ("is_integer", none))) && (decide (PySem.W.nsIn K mainGlobals "is_row" = some (some (.ref (He.fAd K ("is_row", none))))) && (PySem.W.keepIn K (.ref (He.fAd K ("is_row", none))) && (decide (PySem.W.nsIn K mainGlobals "is_table" = some (some (.ref (He.fAd K ("is_table", none))))) && (PySem.W.keepIn K (.ref (He.fAd K ("is_table", none))) && (decide (PySem.W.nsIn K mainGlobals "is_version" = some (some (.ref (He.fAd K ("is_version", none))))) && (PySem.W.keepIn K (.ref (He.fAd K ("is_version", none))) && (decide (PySem.W.nsIn K mainGlobals "is_amount" = some (some (.ref (He.fAd K ("is_amount", none))))) && (PySem.W.keepIn K (.ref (He.fAd K ("is_amount", none))))))))))))))))))))))
def ft2 (K : PySem.W.Frag) : Bool := decide (PySem.W.nsIn K mainGlobals "is_digest" = some (some (.ref (He.fAd K ("is_digest", none))))) && (PySem.W.keepIn K (.ref (He.fAd K ("is_digest", none))) && (decide (PySem.W.nsIn K mainGlobals "is_ascending" = some (some (.ref (He.fAd K ("is_ascending", none))))) && (PySem.W.keepIn K (.ref (He.fAd K ("is_ascending", none))) && (decide (PySem.W.nsIn K mainGlobals "is_role" = some (some (.ref (He.fAd K ("is_role", none))))) && (PySem.W.keepIn K (.ref (He.fAd K ("is_role", none))) && (decide (PySem.W.nsIn K mainGlobals "is_grant" = some (some (.ref (He.fAd K ("is_grant", none))))) && (PySem.W.keepIn K (.ref (He.fAd K ("is_grant", none))) && (decide (PySem.W.nsIn K mainGlobals "has_head" = some (some (.ref (He.fAd K ("has_head", none))))) && (PySem.W.keepIn K (.ref (He.fAd K ("has_head", none))) && (decide (PySem.W.nsIn K mainGlobals "are_goods" = some (some (.ref (He.fAd K ("are_goods", none))))) && (PySem.W.keepIn K (.ref (He.fAd K ("are_goods", none))) && (decide (PySem.W.nsIn K mainGlobals "are_grants" = some (some (.ref (He.fAd K ("are_grants", none))))) && (PySem.W.keepIn K (.ref (He.fAd K ("are_grants", none))) && (decide (PySem.W.nsIn K mainGlobals "is_list" = some (some (.ref (He.fAd K ("is_list", none))))) && (PySem.W.keepIn K (.ref (He.fAd K ("is_list", none))) && (decide (PySem.W.nsIn K mainGlobals "covers" = some (some (.ref (He.fAd K ("covers", none))))) && (PySem.W.keepIn K (.ref (He.fAd K ("covers", none))) && (decide (PySem.W.nsIn K mainGlobals "good_of" = some (some (.ref (He.fAd K ("good_of", none))))) && (PySem.W.keepIn K (.ref (He.fAd K ("good_of", none))))))))))))))))))))))
def ft3 (K : PySem.W.Frag) : Bool := decide (PySem.W.nsIn K mainGlobals "entry_of" = some (some (.ref (He.fAd K ("entry_of", none))))) && (PySem.W.keepIn K (.ref (He.fAd K ("entry_of", none))) && (decide (PySem.W.nsIn K mainGlobals "role_of" = some (some (.ref (He.fAd K ("role_of", none))))) && (PySem.W.keepIn K (.ref (He.fAd K ("role_of", none))) && (decide (PySem.W.findIn K (.ref (He.ga K "Search")) "__init__" = some (some (.ref (He.fAd K ("Search", some "__init__"))))) && (PySem.W.isFn K (.ref (He.fAd K ("Search", some "__init__"))) && (PySem.W.keepIn K (.ref (He.fAd K ("Search", some "__init__"))) && (decide (PySem.W.findIn K (.ref (He.ga K "Search")) "wanted" = some (some (.ref (He.fAd K ("Search", some "wanted"))))) && (PySem.W.isFn K (.ref (He.fAd K ("Search", some "wanted"))) && (PySem.W.keepIn K (.ref (He.fAd K ("Search", some "wanted"))) && (decide (PySem.W.findIn K (.ref (He.ga K "Search")) "give" = some (some (.ref (He.fAd K ("Search", some "give"))))) && (PySem.W.isFn K (.ref (He.fAd K ("Search", some "give"))) && (PySem.W.keepIn K (.ref (He.fAd K ("Search", some "give"))) && (decide (PySem.W.findIn K (.ref (He.ga K "Search")) "result" = some (some (.ref (He.fAd K ("Search", some "result"))))) && (PySem.W.isFn K (.ref (He.fAd K ("Search", some "result"))) && (PySem.W.keepIn K (.ref (He.fAd K ("Search", some "result"))) && (decide (PySem.W.nsIn K mainGlobals "lookup" = some (some (.ref (He.fAd K ("lookup", none))))) && (PySem.W.keepIn K (.ref (He.fAd K ("lookup", none))) && (decide (PySem.W.nsIn K mainGlobals "_law_cell" = some (some (.ref (He.fAd K ("_law_cell", none))))) && (PySem.W.keepIn K (.ref (He.fAd K ("_law_cell", none))))))))))))))))))))))
def ft4 (K : PySem.W.Frag) : Bool := decide (PySem.W.nsIn K mainGlobals "_law_draws" = some (some (.ref (He.fAd K ("_law_draws", none))))) && (PySem.W.keepIn K (.ref (He.fAd K ("_law_draws", none))) && (decide (PySem.W.nsIn K mainGlobals "_law_names" = some (some (.ref (He.fAd K ("_law_names", none))))) && (PySem.W.keepIn K (.ref (He.fAd K ("_law_names", none))) && (decide (PySem.W.nsIn K mainGlobals "_law_path" = some (some (.ref (He.fAd K ("_law_path", none))))) && (PySem.W.keepIn K (.ref (He.fAd K ("_law_path", none))) && (decide (PySem.W.nsIn K mainGlobals "_law_patterns" = some (some (.ref (He.fAd K ("_law_patterns", none))))) && (PySem.W.keepIn K (.ref (He.fAd K ("_law_patterns", none))) && (decide (PySem.W.nsIn K mainGlobals "_law_fits" = some (some (.ref (He.fAd K ("_law_fits", none))))) && (PySem.W.keepIn K (.ref (He.fAd K ("_law_fits", none))) && (decide (PySem.W.nsIn K mainGlobals "_law_covers" = some (some (.ref (He.fAd K ("_law_covers", none))))) && (PySem.W.keepIn K (.ref (He.fAd K ("_law_covers", none))) && (decide (PySem.W.nsIn K mainGlobals "_law_list" = some (some (.ref (He.fAd K ("_law_list", none))))) && (PySem.W.keepIn K (.ref (He.fAd K ("_law_list", none))) && (decide (PySem.W.nsIn K mainGlobals "_law_walk" = some (some (.ref (He.fAd K ("_law_walk", none))))) && (PySem.W.keepIn K (.ref (He.fAd K ("_law_walk", none))) && (decide (PySem.W.nsIn K mainGlobals "_law_refused" = some (some (.ref (He.fAd K ("_law_refused", none))))) && (PySem.W.keepIn K (.ref (He.fAd K ("_law_refused", none))) && (decide (PySem.W.nsIn K mainGlobals "law" = some (some (.ref (He.fAd K ("law", none))))) && (PySem.W.keepIn K (.ref (He.fAd K ("law", none))))))))))))))))))))))
def ft5 (K : PySem.W.Frag) : Bool := decide (PySem.W.nsIn K mainGlobals "ChartError" = some (some (.ref (He.ga K "ChartError")))) && (PySem.W.keepIn K (.ref (He.ga K "ChartError")) && (decide (PySem.W.subIn K (.ref (He.ga K "ChartError")) (.type "BaseException") = some true) && (decide (PySem.W.typeIn K (.ref (He.ga K "ChartError")) = some (.type "type")) && (decide (PySem.W.nsIn K mainGlobals "BadState" = some (some (.ref (He.ga K "BadState")))) && (PySem.W.keepIn K (.ref (He.ga K "BadState")) && (decide (PySem.W.subIn K (.ref (He.ga K "BadState")) (.type "BaseException") = some true) && (decide (PySem.W.typeIn K (.ref (He.ga K "BadState")) = some (.type "type")) && (PySem.W.excIn K (He.ga K "ChartError") veQ "ValueError.__new__" && (PySem.W.excIn K (He.ga K "BadState") veQ "ValueError.__new__" && (PySem.W.isClsIn K (He.ga K "BadState") && (decide (PySem.W.subIn K (.ref (He.ga K "ChartError")) (.ref (He.ga K "BadState")) = some false) && (decide (PySem.W.subIn K (.ref (He.ga K "BadState")) (.ref (He.ga K "BadState")) = some true) && (decide (PySem.W.nsIn K mainGlobals "abs" = some none) && (decide (PySem.W.nsIn K mainGlobals "all" = some none) && (decide (PySem.W.nsIn K mainGlobals "any" = some none) && (decide (PySem.W.nsIn K mainGlobals "bool" = some none) && (decide (PySem.W.nsIn K mainGlobals "int" = some none) && (decide (PySem.W.nsIn K mainGlobals "isinstance" = some none) && (decide (PySem.W.nsIn K mainGlobals "len" = some none))))))))))))))))))))
def ft6 (K : PySem.W.Frag) : Bool := decide (PySem.W.nsIn K mainGlobals "list" = some none) && (decide (PySem.W.nsIn K mainGlobals "range" = some none) && (decide (PySem.W.nsIn K mainGlobals "sorted" = some none) && (decide (PySem.W.nsIn K mainGlobals "str" = some none) && (decide (PySem.W.nsIn K mainGlobals "tuple" = some none) && (decide (PySem.W.nsIn K mainGlobals "BadText" = some none) && (decide (PySem.W.nsIn K mainGlobals "BadDocument" = some none) && (decide (PySem.W.nsIn K mainGlobals "BadKey" = some none) && (decide (PySem.W.nsIn K mainGlobals "DiskError" = some none) && (decide (PySem.W.nsIn K mainGlobals "DiskCrashed" = some none) && (decide (PySem.W.nsIn K mainGlobals "Refused" = some none) && (decide (PySem.W.nsIn K mainGlobals "BadAct" = some none) && (intT K "DIGEST_SIZE" 18 && (strT K "DIGITS" "0123456789" && (strT K "HEX_DIGITS" "0123456789abcdef" && (strT K "LETTERS" "abcdefghijklmnopqrstuvwxyz" && (intT K "MOST_GOODS" 64 && (intT K "MOST_KEYS" 16 && (intT K "MOST_LISTS" 32 && (intT K "MOST_NAME" 12)))))))))))))))))))
def ft7 (K : PySem.W.Frag) : Bool := intT K "MOST_NUMBER" 1000000000000 && (intT K "MOST_PARTS" 6 && (intT K "MOST_PATH" 60 && (intT K "MOST_PATTERNS" 8 && (tupT K "NAMES" ["charter", "stamp", "shelf", "list"] && (strT K "PATH_CHARS" "abcdefghijklmnopqrstuvwxyz0123456789.-_" && (strT K "PATTERN_CHARS" "abcdefghijklmnopqrstuvwxyz0123456789.-_*"))))))
def cl : List PySem.Str := ["BadState", "ChartError", "Search", "NAMES"]
def ft : List (PySem.W.Frag → Bool) := [ft0, ft1, ft2, ft3, ft4, ft5, ft6, ft7]
def nm0 : List PySem.Str := ["ChartError", "BadState", "MOST_NUMBER", "MOST_KEYS", "MOST_LISTS", "MOST_GOODS", "MOST_PATH", "LETTERS", "DIGITS", "PATH_CHARS", "PATTERN_CHARS", "MOST_PARTS", "MOST_NAME", "made_of", "is_list_name", "is_key", "is_path", "is_pattern", "has_parts", "matches", "part_matches", "ends_behind", "is_integer", "HEX_DIGITS", "DIGEST_SIZE", "MOST_PATTERNS", "is_row", "is_table", "is_version", "is_amount"]
def nm1 : List PySem.Str := ["is_digest", "is_ascending", "is_role", "is_grant", "has_head", "is_list", "are_goods", "are_grants", "covers", "good_of", "entry_of", "NAMES", "role_of", "Search", "lookup", "_law_cell", "_law_draws", "_law_names", "_law_path", "_law_patterns", "_law_covers", "_law_fits", "_law_list", "_law_walk", "_law_refused"]
def names : List PySem.Str := nm0 ++ nm1
abbrev qv : Program := view R.prog [62]
abbrev hk : PySem.W.Hook := hookF cl FN ft fn
def ob (s : PySem.W.SharedT) : AlM := obsFG cl FN ft fn (HandSHeadRun.getT s)
theorem ob_eq (s : PySem.W.SharedT) : ob s = hk.obs s.abs := obsFG_eq (HandSHeadRun.getT_eq s)
theorem run (w : World) : HandSHeadRun.RunEq R qv hk ob 8000 names w := by
  intro os
  kernel_rfl
end GH
set_option Elab.async false
set_option linter.all false
set_option maxRecDepth 100000
set_option maxHeartbeats 4000000
namespace HM
open PySem L2

/-! ### values, objects, results of the mirrors -/
inductive D where
  | non | bl (b : Bool) | int (i : Int) | str (s : List Nat) | tup (xs : List D) | ref (i : Nat) | scr (ns : List Int) | exn (a : Addr) | exr (a dx : Addr) (d : D)
  deriving Inhabited
inductive LO where
  | lst (xs : List D)
  | ins (c : String) (fs : List (String × D))
  | dK (kvs : List (Sum Int (List Nat) × D))
  | dT (kvs : List (List (Sum Int (List Nat)) × D))
  | dL (kvs : List (Sum Int (List Nat) × D))
  deriving Inhabited
abbrev LH := List LO
abbrev EN := List (Option D)
structure XO where
  cls : String
  flds : List (String × D)
inductive Res (α : Type) where
  | ok (a : α) (h : LH)
  | exc (e : XO) (h : LH)
  | bad
def Res.bind {α β : Type} (x : Res α) (f : α → LH → Res β) : Res β := match x with
  | .ok a h => f a h
  | .exc e h => .exc e h
  | .bad => .bad
abbrev M (α : Type) := EN → LH → Res α
abbrev MF := List D → LH → Res D
inductive RSt where
  | next (e : EN) (h : LH)
  | ret (d : D) (h : LH)
  | brk (e : EN) (h : LH)
  | cnt (e : EN) (h : LH)
  | exc (x : XO) (e : EN) (h : LH)
  | bad
abbrev MS := EN → LH → RSt

/-! ### the relations -/
mutual
inductive RD (K : PySem.W.Frag) (φ : Nat → Addr) (n : Nat) (H : Hp) : D → V → Prop
  | non : RD K φ n H .non .non
  | bl (b : Bool) : RD K φ n H (.bl b) (.bl b)
  | int (i : Int) : RD K φ n H (.int i) (.int i)
  | str (s : List Nat) : RD K φ n H (.str s) (.str ⟨s.toArray⟩)
  | tup {xs : List D} {vs : List V} {a : Addr} : SqT K H a vs → RDs K φ n H xs vs → RD K φ n H (.tup xs) (.ref a)
  | ref {i : Nat} : i < n → RD K φ n H (.ref i) (.ref (φ i))
  | scr {ns : List Int} {a : Addr} : ((∃ o, H a = some (.frz o (.lst (ns.map V.int)))) ∨ (∃ (o : Obj) (its : Array Value) (m : Nat), K.lookup a = some o ∧ o.cls = .type "list" ∧ o.dict = none ∧ o.data = .seq its m ∧ its.size ≤ sizeLine ∧ Vals (ns.map V.int) its.toList)) → RD K φ n H (.scr ns) (.ref a)
  | exn (a : Addr) : RD K φ n H (.exn a) (.ref a)
  | exr {d : D} {v : V} (a dx : Addr) : H dx = some (.xd [(Str.ofString "reason", v)]) → RD K φ n H d v → RD K φ n H (.exr a dx d) (.ref a)
inductive RDs (K : PySem.W.Frag) (φ : Nat → Addr) (n : Nat) (H : Hp) : List D → List V → Prop
  | nil : RDs K φ n H [] []
  | cons {d : D} {v : V} {ds : List D} {vs : List V} : RD K φ n H d v → RDs K φ n H ds vs → RDs K φ n H (d :: ds) (v :: vs)
end
def kc : Sum Int (List Nat) → Key
  | .inl i => .inl i
  | .inr s => .inr ⟨s.toArray⟩
inductive RF (K : PySem.W.Frag) (φ : Nat → Addr) (n : Nat) (H : Hp) : List (String × D) → List (Str × V) → Prop
  | nil : RF K φ n H [] []
  | cons {f : String} {d : D} {v : V} {ds : List (String × D)} {vs : List (Str × V)} : RD K φ n H d v → RF K φ n H ds vs → RF K φ n H ((f, d) :: ds) ((Str.ofString f, v) :: vs)
inductive RKs (K : PySem.W.Frag) (φ : Nat → Addr) (n : Nat) (H : Hp) : List (Sum Int (List Nat) × D) → List (Key × V) → Prop
  | nil : RKs K φ n H [] []
  | cons {k : Sum Int (List Nat)} {d : D} {v : V} {ds : List (Sum Int (List Nat) × D)} {vs : List (Key × V)} : RD K φ n H d v → RKs K φ n H ds vs → RKs K φ n H ((k, d) :: ds) ((kc k, v) :: vs)
inductive RTs (K : PySem.W.Frag) (φ : Nat → Addr) (n : Nat) (H : Hp) : List (List (Sum Int (List Nat)) × D) → List (List Key × V) → Prop
  | nil : RTs K φ n H [] []
  | cons {k : List (Sum Int (List Nat))} {d : D} {v : V} {ds : List (List (Sum Int (List Nat)) × D)} {vs : List (List Key × V)} : RD K φ n H d v → RTs K φ n H ds vs → RTs K φ n H ((k, d) :: ds) ((k.map kc, v) :: vs)
def OA (K : PySem.W.Frag) (mg : Str → Option Value) (φ : Nat → Addr) (n : Nat) (H : Hp) (a : Addr) : LO → Prop
  | .lst ds => ∃ vs, H a = some (.lst vs) ∧ RDs K φ n H ds vs
  | .ins c fs => ∃ C dx vs, mg (Str.ofString c) = some (.ref C) ∧ H a = some (.ins C dx vs) ∧ RF K φ n H fs vs
  | .dK kvs => ∃ vs, H a = some (.dK vs) ∧ RKs K φ n H kvs vs
  | .dT kvs => ∃ vs, H a = some (.dT vs) ∧ RTs K φ n H kvs vs
  | .dL kvs => ∃ o vs, H a = some (.frz o (.dK vs)) ∧ RKs K φ n H kvs vs
structure HR (K : PySem.W.Frag) (mg : Str → Option Value) (φ : Nat → Addr) (lh : LH) (H : Hp) : Prop where
  inj : ∀ i j, i < lh.length → j < lh.length → φ i = φ j → i = j
  obj : ∀ i o, lh[i]? = some o → OA K mg φ lh.length H (φ i) o
structure Ext (H H' : Hp) : Prop where
  tup : ∀ a xs, H a = some (.tup xs) → H' a = some (.tup xs)
  frz : ∀ a o u, H a = some (.frz o u) → H' a = some (.frz o u)
  xd : ∀ a vs, H a = some (.xd vs) → H' a = some (.xd vs)
theorem Ext.refl (H : Hp) : Ext H H := ⟨fun _ _ h => h, fun _ _ _ h => h, fun _ _ h => h⟩
theorem Ext.trans {H H1 H2 : Hp} (a : Ext H H1) (b : Ext H1 H2) : Ext H H2 := ⟨fun x xs h => b.tup x xs (a.tup x xs h), fun x o u h => b.frz x o u (a.frz x o u h), fun x vs h => b.xd x vs (a.xd x vs h)⟩
structure Po (K : PySem.W.Frag) (mg : Str → Option Value) (φ : Nat → Addr) (lh : LH) (H : Hp) (φ' : Nat → Addr) (lh' : LH) (H' : Hp) : Prop where
  le : lh.length ≤ lh'.length
  ag : ∀ i, i < lh.length → φ' i = φ i
  ext : Ext H H'
  hr : HR K mg φ' lh' H'
section
variable {K : PySem.W.Frag} {mg : Str → Option Value} {φ φ' φ1 φ2 : Nat → Addr} {lh lh' lh1 lh2 : LH} {H H' H1 H2 : Hp} {n n' : Nat}
theorem Po.refl (h : HR K mg φ lh H) : Po K mg φ lh H φ lh H := ⟨Nat.le_refl _, fun _ _ => rfl, Ext.refl H, h⟩
theorem Po.trans (a : Po K mg φ lh H φ1 lh1 H1) (b : Po K mg φ1 lh1 H1 φ2 lh2 H2) : Po K mg φ lh H φ2 lh2 H2 :=
  ⟨Nat.le_trans a.le b.le, fun i hi => (b.ag i (Nat.lt_of_lt_of_le hi a.le)).trans (a.ag i hi), a.ext.trans b.ext, b.hr⟩
theorem sqT_ext {a : Addr} {vs : List V} (e : Ext H H') (h : SqT K H a vs) : SqT K H' a vs := by
  rcases h with (h | ⟨o, h⟩) | h
  · exact .inl (.inl (e.tup _ _ h))
  · exact .inl (.inr ⟨o, e.frz _ _ _ h⟩)
  · exact .inr h
mutual
theorem RD.mono (hn : n ≤ n') (ag : ∀ i, i < n → φ' i = φ i) (e : Ext H H') : ∀ {d : D} {v : V}, RD K φ n H d v → RD K φ' n' H' d v
  | _, _, .non => .non
  | _, _, .bl b => .bl b
  | _, _, .int i => .int i
  | _, _, .str s => .str s
  | _, _, .tup h r => .tup (sqT_ext e h) (RDs.mono hn ag e r)
  | _, _, .ref (i := i) h => by
    have q := ag i h
    rw [← q]
    exact .ref (Nat.lt_of_lt_of_le h hn)
  | _, _, .scr h => .scr (h.imp (fun ⟨o, h⟩ => ⟨o, e.frz _ _ _ h⟩) id)
  | _, _, .exn a => .exn a
  | _, _, .exr a dx h r => .exr a dx (e.xd _ _ h) (RD.mono hn ag e r)
theorem RDs.mono (hn : n ≤ n') (ag : ∀ i, i < n → φ' i = φ i) (e : Ext H H') : ∀ {d : List D} {v : List V}, RDs K φ n H d v → RDs K φ' n' H' d v
  | _, _, .nil => .nil
  | _, _, .cons h r => .cons (RD.mono hn ag e h) (RDs.mono hn ag e r)
end
theorem RF.mono (hn : n ≤ n') (ag : ∀ i, i < n → φ' i = φ i) (e : Ext H H') {d v} (r : RF K φ n H d v) : RF K φ' n' H' d v := by
  induction r with
  | nil => exact .nil
  | cons h _ ih => exact .cons (h.mono hn ag e) ih
theorem RKs.mono (hn : n ≤ n') (ag : ∀ i, i < n → φ' i = φ i) (e : Ext H H') {d v} (r : RKs K φ n H d v) : RKs K φ' n' H' d v := by
  induction r with
  | nil => exact .nil
  | cons h _ ih => exact .cons (h.mono hn ag e) ih
theorem RTs.mono (hn : n ≤ n') (ag : ∀ i, i < n → φ' i = φ i) (e : Ext H H') {d v} (r : RTs K φ n H d v) : RTs K φ' n' H' d v := by
  induction r with
  | nil => exact .nil
  | cons h _ ih => exact .cons (h.mono hn ag e) ih
theorem RD.up (p : Po K mg φ lh H φ' lh' H') {d : D} {v : V} (r : RD K φ lh.length H d v) : RD K φ' lh'.length H' d v := r.mono p.le p.ag p.ext
theorem RDs.up (p : Po K mg φ lh H φ' lh' H') {d : List D} {v : List V} (r : RDs K φ lh.length H d v) : RDs K φ' lh'.length H' d v := r.mono p.le p.ag p.ext
theorem RDs.len {d : List D} {v : List V} (r : RDs K φ n H d v) : d.length = v.length := by
  induction d generalizing v with
  | nil => cases r; rfl
  | cons a l ih =>
    cases r with
    | cons h q => rw [List.length_cons, List.length_cons, ih q]
theorem RDs.get {d : List D} {v : List V} (r : RDs K φ n H d v) {i : Nat} {x : D} (h : d[i]? = some x) : ∃ y, v[i]? = some y ∧ RD K φ n H x y := by
  induction d generalizing v i with
  | nil => simp at h
  | cons a l ih =>
    cases r with
    | cons ha q =>
      cases i with
      | zero =>
        simp only [List.getElem?_cons_zero, Option.some.injEq] at h ⊢
        subst h
        exact ⟨_, rfl, ha⟩
      | succ i =>
        simp only [List.getElem?_cons_succ] at h ⊢
        exact ih q h
theorem RDs.app {d e : List D} {v w : List V} (r : RDs K φ n H d v) (q : RDs K φ n H e w) : RDs K φ n H (d ++ e) (v ++ w) := by
  induction d generalizing v with
  | nil => cases r; exact q
  | cons a l ih =>
    cases r with
    | cons h t => exact .cons h (ih t)
theorem RDs.take {d : List D} {v : List V} (r : RDs K φ n H d v) (i : Nat) : RDs K φ n H (d.take i) (v.take i) := by
  induction d generalizing v i with
  | nil => cases r; simp; exact .nil
  | cons a l ih =>
    cases r with
    | cons h t =>
      cases i with
      | zero => exact .nil
      | succ i => exact .cons h (ih t i)
theorem RDs.drop {d : List D} {v : List V} (r : RDs K φ n H d v) (i : Nat) : RDs K φ n H (d.drop i) (v.drop i) := by
  induction d generalizing v i with
  | nil => cases r; simp; exact .nil
  | cons a l ih =>
    cases r with
    | cons h t =>
      cases i with
      | zero => exact .cons h t
      | succ i => exact ih t i
theorem RDs.set {d : List D} {v : List V} (r : RDs K φ n H d v) {x : D} {y : V} (q : RD K φ n H x y) (i : Nat) : RDs K φ n H (d.set i x) (v.set i y) := by
  induction d generalizing v i with
  | nil => cases r; exact .nil
  | cons a l ih =>
    cases r with
    | cons h t =>
      cases i with
      | zero => exact .cons q t
      | succ i => exact .cons h (ih t i)
theorem OA.mono (hn : n ≤ n') (ag : ∀ i, i < n → φ' i = φ i) (e : Ext H H') {a : Addr} (ha : H' a = H a) : ∀ {o : LO}, OA K mg φ n H a o → OA K mg φ' n' H' a o
  | .lst _, ⟨vs, h, r⟩ => ⟨vs, ha.trans h, r.mono hn ag e⟩
  | .ins _ _, ⟨C, dx, vs, m, h, r⟩ => ⟨C, dx, vs, m, ha.trans h, r.mono hn ag e⟩
  | .dK _, ⟨vs, h, r⟩ => ⟨vs, ha.trans h, r.mono hn ag e⟩
  | .dT _, ⟨vs, h, r⟩ => ⟨vs, ha.trans h, r.mono hn ag e⟩
  | .dL _, ⟨o, vs, h, r⟩ => ⟨o, vs, ha.trans h, r.mono hn ag e⟩
theorem OA.some {a : Addr} : ∀ {o : LO}, OA K mg φ n H a o → ∃ u, H a = some u
  | .lst _, ⟨vs, h, r⟩ => ⟨_, h⟩
  | .ins _ _, ⟨C, dx, vs, m, h, r⟩ => ⟨_, h⟩
  | .dK _, ⟨vs, h, r⟩ => ⟨_, h⟩
  | .dT _, ⟨vs, h, r⟩ => ⟨_, h⟩
  | .dL _, ⟨o, vs, h, r⟩ => ⟨_, h⟩
theorem HR.lt_some (h : HR K mg φ lh H) {i : Nat} (hi : i < lh.length) : ∃ u, H (φ i) = Option.some u :=
  (h.obj i lh[i] (by simp [hi])).some
def Wr (H : Hp) (a : Addr) : Prop := ∃ u, H a = Option.some u ∧ (∀ xs, u ≠ .tup xs) ∧ ((∀ ob w, u ≠ .frz ob w) ∧ ∀ vs, u ≠ .xd vs)
theorem Wr.lst {a : Addr} {vs : List V} (h : H a = Option.some (.lst vs)) : Wr H a := ⟨_, h, fun _ z => by (cases z), fun _ _ z => by (cases z), fun _ z => by (cases z)⟩
theorem Wr.ins {a C dx : Addr} {vs : List (Str × V)} (h : H a = Option.some (.ins C dx vs)) : Wr H a := ⟨_, h, fun _ z => by (cases z), fun _ _ z => by (cases z), fun _ z => by (cases z)⟩
theorem Wr.dK {a : Addr} {vs : List (Key × V)} (h : H a = Option.some (.dK vs)) : Wr H a := ⟨_, h, fun _ z => by (cases z), fun _ _ z => by (cases z), fun _ z => by (cases z)⟩
theorem Wr.dT {a : Addr} {vs : List (List Key × V)} (h : H a = Option.some (.dT vs)) : Wr H a := ⟨_, h, fun _ z => by (cases z), fun _ _ z => by (cases z), fun _ z => by (cases z)⟩
theorem Ext.new {p : Addr} {o : HO} (hp : H p = none) : Ext H (upd H p o) :=
  ⟨fun a xs h => by rw [upd_ne (ne_of_none h hp)]; exact h, fun a ob u h => by rw [upd_ne (ne_of_none h hp)]; exact h, fun a vs h => by rw [upd_ne (ne_of_none h hp)]; exact h⟩
theorem Ext.put {p : Addr} {o u : HO} (hp : H p = some u) (h1 : ∀ xs, u ≠ .tup xs) (h2 : (∀ ob w, u ≠ .frz ob w) ∧ ∀ vs, u ≠ .xd vs) : Ext H (upd H p o) := by
  refine ⟨fun a xs h => ?_, fun a ob w h => ?_, fun a vs h => ?_⟩
  · rw [upd_ne]
    · exact h
    · rintro rfl
      rw [hp] at h
      exact h1 _ (Option.some.inj h)
  · rw [upd_ne]
    · exact h
    · rintro rfl
      rw [hp] at h
      exact h2.1 _ _ (Option.some.inj h)
  · rw [upd_ne]
    · exact h
    · rintro rfl
      rw [hp] at h
      exact h2.2 _ (Option.some.inj h)
theorem Po.side {p : Addr} {o : HO} (h : HR K mg φ lh H) (hp : H p = none) : Po K mg φ lh H φ lh (upd H p o) := by
  have e : Ext H (upd H p o) := Ext.new hp
  refine ⟨Nat.le_refl _, fun _ _ => rfl, e, h.inj, fun i u hi => (h.obj i u hi).mono (Nat.le_refl _) (fun _ _ => rfl) e ?_⟩
  obtain ⟨w, hw⟩ := (h.obj i u hi).some
  exact upd_ne (ne_of_none hw hp)
def ext1 (φ : Nat → Addr) (n : Nat) (p : Addr) : Nat → Addr := fun i => if i = n then p else φ i
theorem ext1_lt {p : Addr} {i : Nat} (h : i < n) : ext1 φ n p i = φ i := by
  unfold ext1; rw [if_neg (Nat.ne_of_lt h)]
theorem ext1_at {p : Addr} : ext1 φ n p n = p := by
  unfold ext1; rw [if_pos rfl]
theorem Po.new {p : Addr} {o : HO} {u : LO} (h : HR K mg φ lh H) (hp : H p = none)
    (ho : OA K mg (ext1 φ lh.length p) (lh.length + 1) (upd H p o) p u) : Po K mg φ lh H (ext1 φ lh.length p) (lh ++ [u]) (upd H p o) := by
  have e : Ext H (upd H p o) := Ext.new hp
  have hl : (lh ++ [u]).length = lh.length + 1 := by simp
  have hne : ∀ i, i < lh.length → φ i ≠ p := fun i hi z => by
    obtain ⟨w, hw⟩ := h.lt_some hi
    rw [z, hp] at hw
    cases hw
  refine ⟨by omega, fun i hi => ext1_lt hi, e, fun i j hi hj z => ?_, fun i w hi => ?_⟩
  · rw [hl] at hi hj
    by_cases c : i = lh.length
    · by_cases d : j = lh.length
      · omega
      · subst c
        rw [ext1_at, ext1_lt (by omega)] at z
        exact absurd z.symm (hne j (by omega))
    · by_cases d : j = lh.length
      · subst d
        rw [ext1_at, ext1_lt (by omega)] at z
        exact absurd z (hne i (by omega))
      · rw [ext1_lt (by omega), ext1_lt (by omega)] at z
        exact h.inj i j (by omega) (by omega) z
  · rw [hl]
    by_cases c : i = lh.length
    · subst c
      rw [List.getElem?_append_right (Nat.le_refl _), Nat.sub_self] at hi
      simp only [List.getElem?_cons_zero, Option.some.injEq] at hi
      subst hi
      rw [ext1_at]
      exact ho
    · have hi2 : i < lh.length := by
        have := (List.getElem?_eq_some_iff.mp hi).1
        rw [hl] at this
        omega
      rw [List.getElem?_append_left hi2] at hi
      rw [ext1_lt hi2]
      exact (h.obj i w hi).mono (by omega) (fun j hj => ext1_lt hj) e (upd_ne (hne i hi2))
theorem Po.put {i : Nat} {o : HO} {u : LO} (h : HR K mg φ lh H) (hi : i < lh.length) (wr : Wr H (φ i)) (ho : OA K mg φ lh.length (upd H (φ i) o) (φ i) u) : Po K mg φ lh H φ (lh.set i u) (upd H (φ i) o) := by
  obtain ⟨w, hw, h1, h2⟩ := wr
  have e : Ext H (upd H (φ i) o) := Ext.put hw h1 h2
  refine ⟨by simp, fun _ _ => rfl, e, by simpa using h.inj, fun j x hj => ?_⟩
  rw [List.length_set]
  by_cases c : j = i
  · subst c
    rw [List.getElem?_set_self hi] at hj
    cases hj
    exact ho
  · rw [List.getElem?_set_ne (Ne.symm c)] at hj
    have hj2 := (List.getElem?_eq_some_iff.mp hj).1
    exact (h.obj j x hj).mono (Nat.le_refl _) (fun _ _ => rfl) e (upd_ne fun z => c (h.inj j i hj2 hi z))
end

/-! ### the slots -/
structure RS (K : PySem.W.Frag) (φ : Nat → Addr) (n : Nat) (H : Hp) (env : EN) (σ : L2.St) : Prop where
  len : env.length = σ.length
  at' : ∀ (i : Nat) (d : D), env[i]? = some (some d) → ∃ v, σ[i]? = some (some v) ∧ RD K φ n H d v
section
variable {K : PySem.W.Frag} {mg : Str → Option Value} {φ φ' : Nat → Addr} {lh lh' : LH} {H H' : Hp} {n : Nat} {env : EN} {σ : L2.St}
theorem RS.up (p : Po K mg φ lh H φ' lh' H') (r : RS K φ lh.length H env σ) : RS K φ' lh'.length H' env σ := ⟨r.len, fun i d h => by
  obtain ⟨v, e, q⟩ := r.at' i d h
  exact ⟨v, e, q.up p⟩⟩
theorem RS.set (r : RS K φ n H env σ) {d : D} {v : V} (q : RD K φ n H d v) (i : Nat) : RS K φ n H (env.set i (some d)) (σ.set i (some v)) := by
  refine ⟨by simpa using r.len, fun j x h => ?_⟩
  by_cases c : i = j
  · subst c
    have hi := (List.getElem?_eq_some_iff.mp h).1
    rw [List.length_set] at hi
    rw [List.getElem?_set_self hi] at h
    cases h
    exact ⟨v, by rw [List.getElem?_set_self (by rw [← r.len]; exact hi)], q⟩
  · rw [List.getElem?_set_ne c] at h
    obtain ⟨w, e, q⟩ := r.at' j x h
    exact ⟨w, by rw [List.getElem?_set_ne c]; exact e, q⟩
theorem RS.clear (r : RS K φ n H env σ) (i : Nat) : RS K φ n H (env.set i none) (σ.set i none) := by
  refine ⟨by simpa using r.len, fun j x h => ?_⟩
  by_cases c : i = j
  · subst c
    have hi := (List.getElem?_eq_some_iff.mp h).1
    rw [List.length_set] at hi
    rw [List.getElem?_set_self hi] at h
    cases h
  · rw [List.getElem?_set_ne c] at h
    obtain ⟨w, e, q⟩ := r.at' j x h
    exact ⟨w, by rw [List.getElem?_set_ne c]; exact e, q⟩
end

/-! ### readings from mirrors -/
def ER (K : PySem.W.Frag) (mg : Str → Option Value) (φ : Nat → Addr) (n : Nat) (H : Hp) (e : XO) (cls : Value) (dd : Option Addr) : Prop :=
  ∃ C, mg (Str.ofString e.cls) = some (.ref C) ∧ cls = .ref C ∧ (e.flds = [] → dd = none) ∧ (e.flds ≠ [] → ∃ a vs, dd = some a ∧ H a = some (.xd vs) ∧ RF K φ n H e.flds vs)
section
variable (K : PySem.W.Frag) (mg : Str → Option Value) (W : WX) (σ : L2.St)
def wp {α β : Type} (R : (Nat → Addr) → Nat → Hp → α → β → Prop) (x : Res α) (φ : Nat → Addr) (lh : LH) (H : Hp) (Q : β → Hp → Prop) : Prop :=
  match x with
  | .ok d lh' => ∀ φ' v H', Po K mg φ lh H φ' lh' H' → R φ' lh'.length H' d v → Q v H'
  | .exc e lh' => ∀ φ' cls dd H', Po K mg φ lh H φ' lh' H' → ER K mg φ' lh'.length H' e cls dd → W cls dd σ H'
  | .bad => False
end
abbrev REq {α : Type} : (Nat → Addr) → Nat → Hp → α → α → Prop := fun _ _ _ a b => a = b
section
variable (K : PySem.W.Frag) (mg : Str → Option Value) (W : WX)
def rd {α β : Type} (R : (Nat → Addr) → Nat → Hp → α → β → Prop) (m : M α) : L2.St → Hp → (β → Hp → Prop) → Prop := fun σ H Q =>
  ∃ φ env lh, HR K mg φ lh H ∧ RS K φ lh.length H env σ ∧ wp K mg W σ R (m env lh) φ lh H Q
abbrev rdE (m : M D) : TE := rd K mg W (RD K) m
abbrev rdT (m : M Bool) : TT := rd K mg W REq m
abbrev rdA (m : M (List D)) : TA := rd K mg W (RDs K) m
def rdS (m : MS) : TS := fun D σ H => ∃ φ env lh, HR K mg φ lh H ∧ RS K φ lh.length H env σ ∧ match m env lh with
  | .next env' lh' => ∀ φ' σ' H', Po K mg φ lh H φ' lh' H' → RS K φ' lh'.length H' env' σ' → D.nx σ' H'
  | .ret d lh' => ∀ φ' v H', Po K mg φ lh H φ' lh' H' → RD K φ' lh'.length H' d v → D.rt v H'
  | .brk env' lh' => ∀ φ' σ' H', Po K mg φ lh H φ' lh' H' → RS K φ' lh'.length H' env' σ' → D.bk σ' H'
  | .cnt env' lh' => ∀ φ' σ' H', Po K mg φ lh H φ' lh' H' → RS K φ' lh'.length H' env' σ' → D.ct σ' H'
  | .exc e env' lh' => ∀ φ' cls dd σ' H', Po K mg φ lh H φ' lh' H' → ER K mg φ' lh'.length H' e cls dd → RS K φ' lh'.length H' env' σ' → W cls dd σ' H'
  | .bad => False
end
section
variable {K : PySem.W.Frag} {mg : Str → Option Value} {W : WX} {σ : L2.St} {φ φ' : Nat → Addr} {lh lh' : LH} {H H' : Hp}
theorem wp_ok {α β : Type} {R : (Nat → Addr) → Nat → Hp → α → β → Prop} {d : α} {v : β} {Q : β → Hp → Prop} (h : wp K mg W σ R (.ok d lh') φ lh H Q) (p : Po K mg φ lh H φ' lh' H') (r : R φ' lh'.length H' d v) : Q v H' := h φ' v H' p r
theorem wp_step {α β γ δ : Type} {R : (Nat → Addr) → Nat → Hp → α → β → Prop} {R' : (Nat → Addr) → Nat → Hp → γ → δ → Prop} {x : Res α} {f : α → LH → Res γ} {Q : δ → Hp → Prop} {G : β → Hp → Prop}
    (h : wp K mg W σ R' (x.bind f) φ lh H Q) (hg : ∀ d lh1 φ1 v H1, Po K mg φ lh H φ1 lh1 H1 → R φ1 lh1.length H1 d v → wp K mg W σ R' (f d lh1) φ1 lh1 H1 Q → G v H1) : wp K mg W σ R x φ lh H G := by
  cases x with
  | ok d lh1 =>
    intro φ1 v H1 p r
    refine hg d lh1 φ1 v H1 p r ?_
    have h' : wp K mg W σ R' (f d lh1) φ lh H Q := h
    revert h'
    cases f d lh1 with
    | ok e lh2 => exact fun h' φ2 w H2 p2 r2 => h' φ2 w H2 (p.trans p2) r2
    | exc e lh2 => exact fun h' φ2 c dd H2 p2 r2 => h' φ2 c dd H2 (p.trans p2) r2
    | bad => exact fun h' => h'
  | exc e lh1 => exact h
  | bad => exact h
theorem rd_of {α β : Type} {R : (Nat → Addr) → Nat → Hp → α → β → Prop} {m : M α} {Q : β → Hp → Prop} {env : EN} (h1 : HR K mg φ lh H) (h2 : RS K φ lh.length H env σ) (h : wp K mg W σ R (m env lh) φ lh H Q) : rd K mg W R m σ H Q := ⟨φ, env, lh, h1, h2, h⟩
end
theorem peI {X : Cx} {e : Expr} {t t' : TE} (h : PE X e t) (i : ∀ σ H Q, t' σ H Q → t σ H Q) : PE X e t' := ⟨fun pins s σ H Q I q => h.run pins s σ H Q I (i σ H Q q)⟩
theorem ptI {X : Cx} {e : Expr} {t t' : TT} (h : PT X e t) (i : ∀ σ H Q, t' σ H Q → t σ H Q) : PT X e t' := ⟨fun pins s σ H Q I q => h.run pins s σ H Q I (i σ H Q q)⟩
theorem pwI {X : Cx} {e : Expr} {t t' : TT} (h : PW X e t) (i : ∀ σ H Q, t' σ H Q → t σ H Q) : PW X e t' := ⟨fun wh pins s σ H Q I q => h.run wh pins s σ H Q I (i σ H Q q)⟩
theorem paI {X : Cx} {e : List Expr} {t t' : TA} (h : PA X e t) (i : ∀ σ H Q, t' σ H Q → t σ H Q) : PA X e t' := ⟨fun pos pins s σ H Q I q => h.run pos pins s σ H Q I (i σ H Q q)⟩
theorem psI {X : Cx} {e : Stmt} {t t' : TS} (h : PS X e t) (i : ∀ D σ H, t' D σ H → t D σ H) : PS X e t' := ⟨fun pins s σ H D I q => h.run pins s σ H D I (i D σ H q)⟩
theorem pssI {X : Cx} {e : List Stmt} {t t' : TS} (h : PSs X e t) (i : ∀ D σ H, t' D σ H → t D σ H) : PSs X e t' := ⟨fun pins s σ H D I q => h.run pins s σ H D I (i D σ H q)⟩
/-! ### the judgements of this layer -/
abbrev QE (X : Cx) (W : WX) (e : Expr) (m : M D) : Prop := PE X e (rdE X.K X.mg W m)
abbrev QT (X : Cx) (W : WX) (e : Expr) (m : M Bool) : Prop := PT X e (rdT X.K X.mg W m)
abbrev QW (X : Cx) (W : WX) (e : Expr) (m : M Bool) : Prop := PW X e (rdT X.K X.mg W m)
abbrev QA (X : Cx) (W : WX) (e : List Expr) (m : M (List D)) : Prop := PA X e (rdA X.K X.mg W m)
abbrev QS (X : Cx) (W : WX) (e : Stmt) (m : MS) : Prop := PS X e (rdS X.K X.mg W m)
abbrev QSs (X : Cx) (W : WX) (e : List Stmt) (m : MS) : Prop := PSs X e (rdS X.K X.mg W m)
end HM
set_option Elab.async false
set_option linter.all false
set_option maxRecDepth 100000
set_option maxHeartbeats 4000000
namespace HM
open PySem L2
section
variable {K : PySem.W.Frag} {mg : Str → Option Value} {W : WX} {σ : L2.St} {φ φ' : Nat → Addr} {lh lh' : LH} {H H' : Hp} {n : Nat}
/-! ### what values are -/
theorem RD.str_inv {s : List Nat} {v : V} (r : RD K φ n H (.str s) v) : v = .str ⟨s.toArray⟩ := by cases r; rfl
theorem RD.tup_inv {xs : List D} {v : V} (r : RD K φ n H (.tup xs) v) : ∃ a vs, v = .ref a ∧ SqT K H a vs ∧ RDs K φ n H xs vs := by
  cases r with
  | tup h q => exact ⟨_, _, rfl, h, q⟩
theorem RD.ref_inv {i : Nat} {v : V} (r : RD K φ n H (.ref i) v) : v = .ref (φ i) ∧ i < n := by
  cases r with
  | ref h => exact ⟨rfl, h⟩
theorem RD.scr_inv {ns : List Int} {v : V} (r : RD K φ n H (.scr ns) v) : ∃ a, v = .ref a ∧ SqL K H a (ns.map V.int) := by
  cases r with
  | scr h =>
    rcases h with ⟨o, h⟩ | h
    · exact ⟨_, rfl, .inl (.inr ⟨o, h⟩)⟩
    · exact ⟨_, rfl, .inr h⟩
theorem HR.lst (h : HR K mg φ lh H) {i : Nat} {xs : List D} (e : lh[i]? = some (.lst xs)) : ∃ vs, H (φ i) = some (.lst vs) ∧ RDs K φ lh.length H xs vs := h.obj i _ e
theorem lt_of_get {α : Type} {l : List α} {i : Nat} {x : α} (h : l[i]? = some x) : i < l.length := (List.getElem?_eq_some_iff.mp h).1
/-! ### mirrors -/
end
def mVar (i : Nat) : M D := fun e h => match e[i]? with
  | some (some d) => .ok d h
  | _ => .bad
def mC (d : D) : M D := fun _ h => .ok d h
def mOp (f : D → D → LH → Res D) (a b : M D) : M D := fun e h => (a e h).bind fun x h1 => (b e h1).bind fun y h2 => f x y h2
def mUn (f : D → LH → Res D) (a : M D) : M D := fun e h => (a e h).bind fun x h1 => f x h1
def mNil : M (List D) := fun _ h => .ok [] h
def mCons (a : M D) (r : M (List D)) : M (List D) := fun e h => (a e h).bind fun x h1 => (r e h1).bind fun xs h2 => .ok (x :: xs) h2
def mApp (f : MF) (a : M (List D)) : M D := fun e h => (a e h).bind fun xs h1 => f xs h1
def mTst (a : M D) : M Bool := fun e h => (a e h).bind fun x h1 => match x with
  | .bl b => .ok b h1
  | _ => .bad
def mTAnd (a b : M Bool) : M Bool := fun e h => (a e h).bind fun x h1 => if x then b e h1 else .ok false h1
def mTOr (a b : M Bool) : M Bool := fun e h => (a e h).bind fun x h1 => if x then .ok true h1 else b e h1
def mTNot (a : M Bool) : M Bool := fun e h => (a e h).bind fun x h1 => .ok (!x) h1
def mAnd (a b : M D) : M D := fun e h => (a e h).bind fun x h1 => match x with
  | .bl true => b e h1
  | .bl false => .ok (.bl false) h1
  | _ => .bad
def mOr (a b : M D) : M D := fun e h => (a e h).bind fun x h1 => match x with
  | .bl true => .ok (.bl true) h1
  | .bl false => b e h1
  | _ => .bad
def mNot (a : M D) : M D := fun e h => (a e h).bind fun x h1 => match x with
  | .bl b => .ok (.bl (!b)) h1
  | _ => .bad
def mIfE (c : M Bool) (a b : M D) : M D := fun e h => (c e h).bind fun x h1 => if x then a e h1 else b e h1
/-! statements -/
def sNil : MS := fun e h => .next e h
def sSeq (a b : MS) : MS := fun e h => match a e h with
  | .next e1 h1 => b e1 h1
  | .ret d h1 => .ret d h1
  | .brk e1 h1 => .brk e1 h1
  | .cnt e1 h1 => .cnt e1 h1
  | .exc x e1 h1 => .exc x e1 h1
  | .bad => .bad
def rsBind {α : Type} (r : Res α) (e : EN) (f : α → LH → RSt) : RSt := match r with
  | .ok a h => f a h
  | .exc x h => .exc x e h
  | .bad => .bad
def sIf (c : M Bool) (a b : MS) : MS := fun e h => rsBind (c e h) e fun x h1 => if x then a e h1 else b e h1
def sSet (i : Nat) (a : M D) : MS := fun e h => rsBind (a e h) e fun x h1 => .next (e.set i (some x)) h1
def sRet (a : M D) : MS := fun e h => rsBind (a e h) e fun x h1 => .ret x h1
def sRetN : MS := fun _ h => .ret .non h
def sExpr (a : M D) : MS := fun e h => rsBind (a e h) e fun _ h1 => .next e h1
def sBrk : MS := fun e h => .brk e h
def sCnt : MS := fun e h => .cnt e h

section
variable {X : Cx} {W : WX} {e a b c : Expr} {es : List Expr} {pos : Pos} {ma mb : M D} {mc ta tb : M Bool} {mas : M (List D)}
/-! ### expressions -/
theorem qe_var (i : Nat) {x : Str} {pos : Pos} (hN : X.N[i]? = some x := by rfl) (hv : Vis X.env.scope x := by first | exact Or.inl rfl | exact Or.inr (Or.inl rfl) | exact Or.inr (Or.inr rfl)) (hd : (x == ("__debug__" : Str)) = false := by decide)
    (hcd : (x == ("__classdict__" : Str)) = false := by decide) : QE X W (.Name x pos) (mVar i) := by
  refine peI (pe_var hN hv hd hcd) fun σ H Q ⟨φ, env, lh, h1, h2, h⟩ => ?_
  unfold mVar at h
  split at h
  · rename_i d e
    obtain ⟨v, ev, r⟩ := h2.at' i d e
    exact ⟨v, ev, wp_ok h (.refl h1) r⟩
  · exact h.elim
theorem qe_of {t : TE} {m : M D} (h : PE X e t) (i : ∀ σ φ env lh H Q, HR X.K X.mg φ lh H → RS X.K φ lh.length H env σ → wp X.K X.mg W σ (RD X.K) (m env lh) φ lh H Q → t σ H Q) : QE X W e m :=
  peI h fun σ H Q ⟨φ, env, lh, h1, h2, q⟩ => i σ φ env lh H Q h1 h2 q
theorem qe_int {i : Int} {j pos} : QE X W (.Constant (.int i) j pos) (mC (.int i)) := qe_of pe_int fun σ φ env lh H Q h1 h2 q => wp_ok q (.refl h1) (.int i)
theorem qe_bl {b : Bool} {j pos} : QE X W (.Constant (.bool b) j pos) (mC (.bl b)) := qe_of pe_bl fun σ φ env lh H Q h1 h2 q => wp_ok q (.refl h1) (.bl b)
theorem qe_non {j pos} : QE X W (.Constant .none j pos) (mC .non) := qe_of pe_non fun σ φ env lh H Q h1 h2 q => wp_ok q (.refl h1) .non
theorem str_eta (x : Str) : (⟨x.cps.toList.toArray⟩ : Str) = x := by cases x; simp
def S (s : String) : D := .str (Str.ofString s).cps.toList
theorem qe_str {x : String} {j pos} : QE X W (.Constant (.str (Str.ofString x)) j pos) (mC (S x)) := qe_of pe_str fun σ φ env lh H Q h1 h2 q => by
  have r : RD X.K φ lh.length H (S x) (.str (Str.ofString x)) := by
    have := RD.str (K := X.K) (φ := φ) (n := lh.length) (H := H) (Str.ofString x).cps.toList
    rw [str_eta] at this
    exact this
  exact wp_ok q (.refl h1) r
theorem qe_glob {x : Str} {d : D} {v : V} {u : Value} {pos : Pos} (hg : Gl X x) (hm : X.mg x = some u) (r : RelV v u) (hd : ∀ φ n H, RD X.K φ n H d v) (hdb : (x == ("__debug__" : Str)) = false := by decide) : QE X W (.Name x pos) (mC d) :=
  qe_of (pe_glob hg hm r hdb) fun σ φ env lh H Q h1 h2 q => wp_ok q (.refl h1) (hd _ _ _)
def OpM (X : Cx) (g : Value → Value → Sem Value) (f : D → D → LH → Res D) : Prop :=
  ∃ r : R2, OpR X g r ∧ ∀ W σ φ lh H x y v w Q, HR X.K X.mg φ lh H → RD X.K φ lh.length H x v → RD X.K φ lh.length H y w → wp X.K X.mg W σ (RD X.K) (f x y lh) φ lh H Q → r v w H Q
theorem qe_bin {op : Operator} {f : D → D → LH → Res D} (ho : OpM X (binaryOp op) f) (ha : QE X W a ma) (hb : QE X W b mb) : QE X W (.BinOp a op b pos) (mOp f ma mb) := by
  obtain ⟨r, h, k⟩ := ho
  refine qe_of (pe_op h ha hb) fun σ φ env lh H Q h1 h2 q => ?_
  refine rd_of h1 h2 (wp_step q fun x lh1 φ1 v H1 p1 r1 q1 => ?_)
  refine rd_of p1.hr (h2.up p1) (wp_step q1 fun y lh2 φ2 w H2 p2 r2 q2 => ?_)
  exact k W σ φ2 lh2 H2 x y v w Q p2.hr (r1.up p2) r2 q2
theorem qe_cmp {op : CmpOp} {f : D → D → LH → Res D} (ho : OpM X (compareOp op) f) (ha : QE X W a ma) (hb : QE X W b mb) (hm : behindInMarks op b = false) : QE X W (.Compare a [op] [b] pos) (mOp f ma mb) := by
  obtain ⟨r, h, k⟩ := ho
  refine qe_of (pe_cmpR h ha hb hm) fun σ φ env lh H Q h1 h2 q => ?_
  refine rd_of h1 h2 (wp_step q fun x lh1 φ1 v H1 p1 r1 q1 => ?_)
  refine rd_of p1.hr (h2.up p1) (wp_step q1 fun y lh2 φ2 w H2 p2 r2 q2 => ?_)
  exact k W σ φ2 lh2 H2 x y v w Q p2.hr (r1.up p2) r2 q2
def mChain (f g : D → D → LH → Res D) (a b c : M D) : M D := fun e h => (a e h).bind fun x h1 => (b e h1).bind fun y h2 => (f x y h2).bind fun z h3 => match z with
  | .bl true => (c e h3).bind fun w h4 => g y w h4
  | .bl false => .ok (.bl false) h3
  | _ => .bad
theorem qa_nil : QA X W [] mNil := paI pa_nil fun σ H Q ⟨φ, env, lh, h1, h2, q⟩ => wp_ok q (.refl h1) .nil
theorem qa_cons (ha : QE X W e ma) (hr : QA X W es mas) (hs : starEach (e :: es) X.env = (false, eval e X.env) :: starEach es X.env := by rfl) : QA X W (e :: es) (mCons ma mas) := by
  refine paI (pa_cons ha hr hs) fun σ H Q ⟨φ, env, lh, h1, h2, q⟩ => ?_
  refine rd_of h1 h2 (wp_step q fun x lh1 φ1 v H1 p1 r1 q1 => ?_)
  refine rd_of p1.hr (h2.up p1) (wp_step q1 fun xs lh2 φ2 vs H2 p2 r2 q2 => ?_)
  exact wp_ok q2 (.refl p2.hr) (.cons (r1.up p2) r2)
def CallM (X : Cx) (g : Value) (f : MF) : Prop :=
  ∃ r : List V → Hp → VK → Prop, CallR X g r ∧ ∀ W σ φ lh H xs vs Q, HR X.K X.mg φ lh H → RDs X.K φ lh.length H xs vs → wp X.K X.mg W σ (RD X.K) (f xs lh) φ lh H Q → r vs H Q
theorem qe_callB {x : Str} {id : String} {f : MF} {p : Pos} (ho : CallM X (.builtin id) f) (hg : Gl X x) (hm : X.mg x = none) (hv : bootBuiltins x = some (.builtin id)) (ha : QA X W (e :: es) mas) (hn : x ≠ "__name__" := by decide) (hdb : (x == ("__debug__" : Str)) = false := by decide)
    (he : starEach (e :: es) X.env = (false, eval e X.env) :: starEach es X.env := by rfl) (hpl : (backTo pos (starEach es X.env)).any (·.1) = false := by rfl) : QE X W (.Call (.Name x p) (e :: es) [] pos) (mApp f mas) := by
  obtain ⟨r, h, k⟩ := ho
  refine qe_of (pe_callB h hg hm hv ha hn hdb he hpl) fun σ φ env lh H Q h1 h2 q => ?_
  refine rd_of h1 h2 (wp_step q fun xs lh1 φ1 vs H1 p1 r1 q1 => ?_)
  exact k W σ φ1 lh1 H1 xs vs Q p1.hr r1 q1
theorem qe_callTy {x : Str} {T : String} {f : MF} {p : Pos} (ho : CallM X (.type T) f) (hg : Gl X x) (hm : X.mg x = none) (hv : bootBuiltins x = some (.type T)) (ha : QA X W (e :: es) mas) (hn : x ≠ "__name__" := by decide) (hdb : (x == ("__debug__" : Str)) = false := by decide)
    (he : starEach (e :: es) X.env = (false, eval e X.env) :: starEach es X.env := by rfl) (hpl : (backTo pos (starEach es X.env)).any (·.1) = false := by rfl) : QE X W (.Call (.Name x p) (e :: es) [] pos) (mApp f mas) := by
  obtain ⟨r, h, k⟩ := ho
  refine qe_of (pe_callTy h hg hm hv ha hn hdb he hpl) fun σ φ env lh H Q h1 h2 q => ?_
  refine rd_of h1 h2 (wp_step q fun xs lh1 φ1 vs H1 p1 r1 q1 => ?_)
  exact k W σ φ1 lh1 H1 xs vs Q p1.hr r1 q1
/-! ### tests -/
theorem qt_of {t : TT} {m : M Bool} (h : PT X e t) (i : ∀ σ φ env lh H Q, HR X.K X.mg φ lh H → RS X.K φ lh.length H env σ → wp X.K X.mg W σ REq (m env lh) φ lh H Q → t σ H Q) : QT X W e m :=
  ptI h fun σ H Q ⟨φ, env, lh, h1, h2, q⟩ => i σ φ env lh H Q h1 h2 q
theorem tst_ok {σ : L2.St} {φ : Nat → Addr} {env : EN} {lh : LH} {H : Hp} {Q : Bool → Hp → Prop} (h1 : HR X.K X.mg φ lh H) (h2 : RS X.K φ lh.length H env σ) (q : wp X.K X.mg W σ REq (mTst ma env lh) φ lh H Q) :
    rdE X.K X.mg W ma σ H fun x H1 => ∃ k, x = .bl k ∧ Q k H1 := by
  refine rd_of h1 h2 (wp_step q fun x lh1 φ1 v H1 p1 r1 q1 => ?_)
  cases x with
  | bl b =>
    cases r1
    exact ⟨b, rfl, wp_ok q1 (.refl p1.hr) rfl⟩
  | _ => exact q1.elim
theorem qt_cmp {op : CmpOp} {f : D → D → LH → Res D} (ho : OpM X (compareOp op) f) (ha : QE X W a ma) (hb : QE X W b mb) (hm : behindInMarks op b = false) : QT X W (.Compare a [op] [b] pos) (mTst (mOp f ma mb)) := by
  obtain ⟨r, h, k⟩ := ho
  refine qt_of (pt_cmpR h ha hb hm) fun σ φ env lh H Q h1 h2 q => ?_
  have q' := tst_ok (ma := mOp f ma mb) h1 h2 q
  obtain ⟨φ0, env0, lh0, h10, h20, q0⟩ := q'
  refine rd_of h10 h20 (wp_step q0 fun x lh1 φ1 v H1 p1 r1 q1 => ?_)
  refine rd_of p1.hr (h20.up p1) (wp_step q1 fun y lh2 φ2 w H2 p2 r2 q2 => ?_)
  exact k W σ φ2 lh2 H2 x y v w _ p2.hr (r1.up p2) r2 q2
theorem qe_chain {op op' : CmpOp} {f g : D → D → LH → Res D} {md : M D} (ho : OpM X (compareOp op) f) (ho' : OpM X (compareOp op') g) (ha : QE X W a ma) (hb : QE X W b mb) (hc : QE X W c md) (hm : lastMarks [op, op'] [b, c] = false) :
    QE X W (.Compare a [op, op'] [b, c] pos) (mChain f g ma mb md) := by
  obtain ⟨r, h, k⟩ := ho
  obtain ⟨r', h', k'⟩ := ho'
  refine qe_of (pe_chain h h' ha hb hc hm) fun σ φ env lh H Q h1 h2 q => ?_
  refine rd_of h1 h2 (wp_step q fun x lh1 φ1 v H1 p1 r1 q1 => ?_)
  refine rd_of p1.hr (h2.up p1) (wp_step q1 fun y lh2 φ2 w H2 p2 r2 q2 => ?_)
  refine k W σ φ2 lh2 H2 x y v w _ p2.hr (r1.up p2) r2 (wp_step q2 fun z lh3 φ3 vz H3 p3 r3 q3 => ?_)
  cases z with
  | bl t =>
    cases r3
    cases t with
    | true =>
      refine ⟨true, rfl, ?_⟩
      simp only [if_true]
      refine rd_of p3.hr ((h2.up p1).up (p2.trans p3)) (wp_step q3 fun w' lh4 φ4 vw H4 p4 r4 q4 => ?_)
      exact k' W σ φ4 lh4 H4 y w' _ _ _ p4.hr (r2.up (p3.trans p4)) r4 q4
    | false =>
      refine ⟨false, rfl, ?_⟩
      exact wp_ok q3 (.refl p3.hr) (.bl false)
  | _ => exact q3.elim
theorem qt_chain {op op' : CmpOp} {f g : D → D → LH → Res D} {md : M D} (ho : OpM X (compareOp op) f) (ho' : OpM X (compareOp op') g) (ha : QE X W a ma) (hb : QE X W b mb) (hc : QE X W c md) (hm : lastMarks [op, op'] [b, c] = false) :
    QT X W (.Compare a [op, op'] [b, c] pos) (mTst (mChain f g ma mb md)) := by
  obtain ⟨r, h, k⟩ := ho
  obtain ⟨r', h', k'⟩ := ho'
  refine qt_of (pt_chain h h' ha hb hc hm) fun σ φ env lh H Q h1 h2 q => ?_
  have q' := tst_ok (ma := mChain f g ma mb md) h1 h2 q
  obtain ⟨φ0, env0, lh0, h10, h20, q0⟩ := q'
  refine rd_of h10 h20 (wp_step q0 fun x lh1 φ1 v H1 p1 r1 q1 => ?_)
  refine rd_of p1.hr (h20.up p1) (wp_step q1 fun y lh2 φ2 w H2 p2 r2 q2 => ?_)
  refine k W σ φ2 lh2 H2 x y v w _ p2.hr (r1.up p2) r2 (wp_step q2 fun z lh3 φ3 vz H3 p3 r3 q3 => ?_)
  cases z with
  | bl t =>
    cases r3
    cases t with
    | true =>
      refine ⟨true, rfl, ?_⟩
      simp only [if_true]
      refine rd_of p3.hr ((h20.up p1).up (p2.trans p3)) (wp_step q3 fun w' lh4 φ4 vw H4 p4 r4 q4 => ?_)
      exact k' W σ φ4 lh4 H4 y w' _ _ _ p4.hr (r2.up (p3.trans p4)) r4 q4
    | false =>
      refine ⟨false, rfl, ?_⟩
      exact wp_ok q3 (.refl p3.hr) (.bl false)
  | _ => exact q3.elim
theorem qt_not (h : QT X W e ta) : QT X W (.UnaryOp .Not e pos) (mTNot ta) := by
  refine qt_of (pt_not h) fun σ φ env lh H Q h1 h2 q => ?_
  refine rd_of h1 h2 (wp_step q fun x lh1 φ1 v H1 p1 r1 q1 => ?_)
  cases r1
  exact wp_ok q1 (.refl p1.hr) rfl
theorem qw_of {t : TT} {m : M Bool} (h : PW X e t) (i : ∀ σ φ env lh H Q, HR X.K X.mg φ lh H → RS X.K φ lh.length H env σ → wp X.K X.mg W σ REq (m env lh) φ lh H Q → t σ H Q) : QW X W e m :=
  pwI h fun σ H Q ⟨φ, env, lh, h1, h2, q⟩ => i σ φ env lh H Q h1 h2 q
variable {rest : List Expr}
theorem qw_and1 (ha : QT X W a ta) : QW X W (.BoolOp .And [a] pos) ta := pw_and1 ha
theorem qw_or1 (ha : QT X W a ta) : QW X W (.BoolOp .Or [a] pos) ta := pw_or1 ha
theorem qw_and (ha : QT X W a ta) (hb : QW X W (.BoolOp .And (b :: rest) pos) tb) : QW X W (.BoolOp .And (a :: b :: rest) pos) (mTAnd ta tb) := by
  refine qw_of (pw_and ha hb) fun σ φ env lh H Q h1 h2 q => ?_
  refine rd_of h1 h2 (wp_step q fun x lh1 φ1 v H1 p1 r1 q1 => ?_)
  cases r1
  cases x with
  | true => exact rd_of p1.hr (h2.up p1) q1
  | false => exact wp_ok q1 (.refl p1.hr) rfl
theorem qw_or (ha : QT X W a ta) (hb : QW X W (.BoolOp .Or (b :: rest) pos) tb) : QW X W (.BoolOp .Or (a :: b :: rest) pos) (mTOr ta tb) := by
  refine qw_of (pw_or ha hb) fun σ φ env lh H Q h1 h2 q => ?_
  refine rd_of h1 h2 (wp_step q fun x lh1 φ1 v H1 p1 r1 q1 => ?_)
  cases r1
  cases x with
  | true => exact wp_ok q1 (.refl p1.hr) rfl
  | false => exact rd_of p1.hr (h2.up p1) q1
theorem qt_w (h : QW X W e ta) : QT X W e ta := PW.pt h
/-! ### and, or, not as values -/
theorem qe_one {op} (h : QE X W a ma) : QE X W (.BoolOp op [a] pos) ma := pe_one h
theorem qe_and (ha : QE X W a ma) (hb : QE X W (.BoolOp .And (b :: rest) pos) mb) : QE X W (.BoolOp .And (a :: b :: rest) pos) (mAnd ma mb) := by
  refine qe_of (pe_and ha hb) fun σ φ env lh H Q h1 h2 q => ?_
  refine rd_of h1 h2 (wp_step q fun x lh1 φ1 v H1 p1 r1 q1 => ?_)
  cases x with
  | bl t =>
    cases r1
    cases t with
    | true => exact ⟨true, rfl, rd_of p1.hr (h2.up p1) q1⟩
    | false => exact ⟨false, rfl, wp_ok q1 (.refl p1.hr) (.bl false)⟩
  | _ => exact q1.elim
/-! ### statements -/
variable {st : Stmt} {sts : List Stmt} {m m1 m2 : MS}
def wps (K : PySem.W.Frag) (mg : Str → Option Value) (W : WX) (x : RSt) (φ : Nat → Addr) (lh : LH) (H : Hp) (D : Ends) : Prop := match x with
  | .next env' lh' => ∀ φ' σ' H', Po K mg φ lh H φ' lh' H' → RS K φ' lh'.length H' env' σ' → D.nx σ' H'
  | .ret d lh' => ∀ φ' v H', Po K mg φ lh H φ' lh' H' → RD K φ' lh'.length H' d v → D.rt v H'
  | .brk env' lh' => ∀ φ' σ' H', Po K mg φ lh H φ' lh' H' → RS K φ' lh'.length H' env' σ' → D.bk σ' H'
  | .cnt env' lh' => ∀ φ' σ' H', Po K mg φ lh H φ' lh' H' → RS K φ' lh'.length H' env' σ' → D.ct σ' H'
  | .exc e env' lh' => ∀ φ' cls dd σ' H', Po K mg φ lh H φ' lh' H' → ER K mg φ' lh'.length H' e cls dd → RS K φ' lh'.length H' env' σ' → W cls dd σ' H'
  | .bad => False
theorem wps_mono {K : PySem.W.Frag} {mg : Str → Option Value} {x : RSt} {φ φ1 : Nat → Addr} {lh lh1 : LH} {H H1 : Hp} {D : Ends} (p : Po K mg φ lh H φ1 lh1 H1) (h : wps K mg W x φ lh H D) : wps K mg W x φ1 lh1 H1 D := by
  cases x with
  | next env' lh' => exact fun φ' σ' H' p' r => h φ' σ' H' (p.trans p') r
  | ret d lh' => exact fun φ' σ' H' p' r => h φ' σ' H' (p.trans p') r
  | brk env' lh' => exact fun φ' σ' H' p' r => h φ' σ' H' (p.trans p') r
  | cnt env' lh' => exact fun φ' σ' H' p' r => h φ' σ' H' (p.trans p') r
  | exc e env' lh' => exact fun φ' cls dd σ' H' p' r => h φ' cls dd σ' H' (p.trans p') r
  | bad => exact h
theorem wps_step {α β : Type} {R : (Nat → Addr) → Nat → Hp → α → β → Prop} {x : Res α} {f : α → LH → RSt} {φ : Nat → Addr} {env : EN} {lh : LH} {H : Hp} {D : Ends} {σ : L2.St} {G : β → Hp → Prop} (h2 : RS X.K φ lh.length H env σ)
    (h : wps X.K X.mg W (rsBind x env f) φ lh H D) (hg : ∀ d lh1 φ1 v H1, Po X.K X.mg φ lh H φ1 lh1 H1 → R φ1 lh1.length H1 d v → wps X.K X.mg W (f d lh1) φ1 lh1 H1 D → G v H1) : wp X.K X.mg W σ R x φ lh H G := by
  cases x with
  | ok d lh1 => exact fun φ1 v H1 p r => hg d lh1 φ1 v H1 p r (wps_mono p h)
  | exc e lh1 => exact fun φ1 cls dd H1 p r => h φ1 cls dd σ H1 p r (h2.up p)
  | bad => exact h
theorem qss_nil : QSs X W [] sNil := pssI pss_nil fun D σ H ⟨φ, env, lh, h1, h2, q⟩ => q φ σ H (.refl h1) h2
theorem qss_cons (h : QS X W st m1) (k : QSs X W sts m2) : QSs X W (st :: sts) (sSeq m1 m2) := by
  refine pssI (pss_cons h k) fun D σ H ⟨φ, env, lh, h1, h2, q⟩ => ?_
  refine ⟨φ, env, lh, h1, h2, ?_⟩
  have q' : wps X.K X.mg W (sSeq m1 m2 env lh) φ lh H D := q
  unfold sSeq at q'
  cases e : m1 env lh with
  | next env' lh' =>
    rw [e] at q'
    exact fun φ' σ' H' p r => ⟨φ', env', lh', p.hr, r, wps_mono (x := m2 env' lh') p q'⟩
  | ret d lh' => rw [e] at q'; exact q'
  | brk d lh' => rw [e] at q'; exact q'
  | cnt d lh' => rw [e] at q'; exact q'
  | exc d _ lh' => rw [e] at q'; exact q'
  | bad => rw [e] at q'; exact q'
theorem qss_one (h : QS X W st m1) : QSs X W [st] m1 := pss_one h
theorem qs_if (hc : QT X W c mc) (ha : QSs X W sts m1) {sts2 : List Stmt} (hb : QSs X W sts2 m2) : QS X W (.If c sts sts2 pos) (sIf mc m1 m2) := by
  refine psI (ps_if hc ha hb) fun D σ H ⟨φ, env, lh, h1, h2, q⟩ => ?_
  have q' : wps X.K X.mg W (sIf mc m1 m2 env lh) φ lh H D := q
  refine rd_of h1 h2 (wps_step h2 q' fun x lh1 φ1 v H1 p1 r1 q1 => ?_)
  cases r1
  cases x with
  | true => exact ⟨φ1, env, lh1, p1.hr, h2.up p1, q1⟩
  | false => exact ⟨φ1, env, lh1, p1.hr, h2.up p1, q1⟩
theorem qs_set {i : Nat} {x : Str} {pos' : Pos} (he : QE X W e ma) (hN : X.N.Nodup) (hi : X.N[i]? = some x) (hx : Loc X.env.scope x) (hs : swapsWith e (some (.Name x pos')) pos.line X.env = pure false := by rfl) (hf : X.fn x = true ∨ X.env.scope.names.lookup x = some .local := by first | exact .inl rfl | exact .inr rfl | assumption) :
    QS X W (.Assign [.Name x pos'] e pos) (sSet i ma) := by
  refine psI (ps_set hN hi hx he hs hf) fun D σ H ⟨φ, env, lh, h1, h2, q⟩ => ?_
  have q' : wps X.K X.mg W (sSet i ma env lh) φ lh H D := q
  exact rd_of h1 h2 (wps_step h2 q' fun x lh1 φ1 v H1 p1 r1 q1 => q1 φ1 _ H1 (.refl p1.hr) ((h2.up p1).set r1 i))
theorem qs_ret (he : QE X W e ma) : QS X W (.Return (some e) pos) (sRet ma) := by
  refine psI (ps_ret he) fun D σ H ⟨φ, env, lh, h1, h2, q⟩ => ?_
  have q' : wps X.K X.mg W (sRet ma env lh) φ lh H D := q
  exact rd_of h1 h2 (wps_step h2 q' fun x lh1 φ1 v H1 p1 r1 q1 => q1 φ1 _ H1 (.refl p1.hr) r1)
theorem qs_retN : QS X W (.Return none pos) sRetN := psI ps_retN fun D σ H ⟨φ, env, lh, h1, h2, q⟩ => q φ _ H (.refl h1) .non
theorem qs_expr (he : QE X W e ma) (hs : swapsWith e none pos.line X.env = pure false := by rfl) : QS X W (.Expr e pos) (sExpr ma) := by
  refine psI (ps_expr he hs) fun D σ H ⟨φ, env, lh, h1, h2, q⟩ => ?_
  have q' : wps X.K X.mg W (sExpr ma env lh) φ lh H D := q
  exact rd_of h1 h2 (wps_step h2 q' fun x lh1 φ1 v H1 p1 r1 q1 => q1 φ1 _ H1 (.refl p1.hr) (h2.up p1))
theorem qs_brk : QS X W (.Break pos) sBrk := psI ps_break fun D σ H ⟨φ, env, lh, h1, h2, q⟩ => q φ σ H (.refl h1) h2
theorem qs_cnt : QS X W (.Continue pos) sCnt := psI ps_continue fun D σ H ⟨φ, env, lh, h1, h2, q⟩ => q φ σ H (.refl h1) h2
end
end HM
set_option Elab.async false
set_option linter.all false
set_option maxRecDepth 100000
set_option maxHeartbeats 4000000
namespace HM
open PySem L2 PySem.Spec PyProof.Rows
/-! ### defs and their calls -/
def spM (K : PySem.W.Frag) (mg : Str → Option Value) (f : MF) : Sp := fun vs H Q E => ∃ φ lh ds, HR K mg φ lh H ∧ RDs K φ lh.length H ds vs ∧ wp K mg (fun c d _ H => E c d H) [] (RD K) (f ds lh) φ lh H Q
def mkF (np nn : Nat) (m : MS) : MF := fun ds lh => if ds.length = np then (match m (ds.map some ++ List.replicate (nn - np) none) lh with
  | .next _ h => .ok .non h
  | .ret d h => .ok d h
  | .exc x _ h => .exc x h
  | .brk _ _ => .bad
  | .cnt _ _ => .bad
  | .bad => .bad) else .bad
structure CalM (P : Program) (w : World) (K : PySem.W.Frag) (mg : Str → Option Value) (base : Heap) (k : Nat) (x : String) (f : MF) : Prop where
  ex : ∃ fa fd ps, mg (Str.ofString x) = some (.ref fa) ∧ PySem.W.keepIn K (.ref fa) = true ∧ Binds K fd ps [] ∧ FnOk P w K mg base (L2.CX P w) k fa fd ps (spM K mg f)
theorem CalM.mono {P : Program} {w : World} {K : PySem.W.Frag} {mg : Str → Option Value} {base : Heap} {k k' : Nat} {x : String} {f : MF} (c : CalM P w K mg base k x f) (h : k ≤ k') : CalM P w K mg base k' x f := by
  obtain ⟨fa, fd, ps, h1, h2, h3, h4⟩ := c.ex
  exact ⟨fa, fd, ps, h1, h2, h3, h4.mono h⟩
section
variable {X : Cx} {W : WX} {e a b c : Expr} {es : List Expr} {pos : Pos} {ma mb : M D} {mc ta tb : M Bool} {mas : M (List D)}
theorem qe_call {k : Nat} {x : String} {f : MF} {p : Pos} (C : CalM X.prog X.w X.K X.mg X.base k x f) (hr : Room k X.A) (tk : Takes X W) (hg : Gl X (Str.ofString x)) (ha : QA X W (e :: es) mas)
    (hdb : (Str.ofString x == ("__debug__" : Str)) = false := by decide) (he : starEach (e :: es) X.env = (false, eval e X.env) :: starEach es X.env := by rfl) (hpl : (backTo pos (starEach es X.env)).any (·.1) = false := by rfl) :
    QE X W (.Call (.Name (Str.ofString x) p) (e :: es) [] pos) (mApp f mas) := by
  obtain ⟨fa, fd, ps, h1, h2, h3, h4⟩ := C.ex
  refine qe_of (pe_callS h4 hr hg h1 h2 h3 (fun σ => passAt tk σ) ha hdb he hpl) fun σ φ env lh H Q g1 g2 q => ?_
  refine rd_of g1 g2 (wp_step q fun xs lh1 φ1 vs H1 p1 r1 q1 => ?_)
  exact ⟨φ1, lh1, xs, p1.hr, r1, q1⟩
def mApp0 (f : MF) : M D := fun _ h => match f [] h with
  | .ok d h1 => .ok d h1
  | .exc _ _ => .bad
  | .bad => .bad
theorem qe_call0 {k : Nat} {x : String} {f : MF} {p : Pos} (C : CalM X.prog X.w X.K X.mg X.base k x f) (hr : Room k X.A) (hg : Gl X (Str.ofString x))
    (hdb : (Str.ofString x == ("__debug__" : Str)) = false := by decide) : QE X W (.Call (.Name (Str.ofString x) p) [] [] pos) (mApp0 f) := by
  obtain ⟨fa, fd, ps, h1, h2, h3, h4⟩ := C.ex
  refine qe_of (pe_call0 (E := fun _ _ _ => False) h4 hr hg h1 h2 h3 .nil passL hdb) fun σ φ env lh H Q g1 g2 q => ?_
  refine ⟨φ, lh, [], g1, .nil, ?_⟩
  unfold mApp0 at q
  cases e : f [] lh with
  | ok d h1 => rw [e] at q; exact q
  | exc d h1 => rw [e] at q; exact q.elim
  | bad => rw [e] at q; exact q.elim
end
theorem okM {P : Program} {w : World} {K : PySem.W.Frag} {mg : Str → Option Value} {base : Heap} {x qual : Str} {st : Stmt} {f : Addr} {fd : FuncData} {N ps : List Str} {k : Nat} {m : MS} (F : Fun K x qual st f fd) (S : FnScope N ps (defScope st))
    (hb : ∀ (cdv : Value) (A : Around) (outer : List Env) (s : Shared) (H : Hp) (E : XK), Room k (A.deeper (envOfC qual (defScope st) s.heap.objs.size f cdv)) →
      QSs (cxOf (L2.CX P w) P w K mg base N qual (defScope st) f cdv A outer s H E) (fun c d _ H => E c d H) (defBody st) m) :
    FnOk P w K mg base (L2.CX P w) (k + 1) f fd ps (spM K mg (mkF ps.length N.length m)) := by
  have key : ∀ vs H Q E, spM K mg (mkF ps.length N.length m) vs H Q E → vs.length = ps.length := by
    rintro vs H Q E ⟨φ, lh, ds, h1, h2, q⟩
    unfold mkF at q
    by_cases c : ds.length = ps.length
    · rw [← h2.len]; exact c
    · rw [if_neg c] at q
      exact q.elim
  refine F.okX S key fun cdv A outer s H vs Q E hr hsp => ⟨_, hb cdv A outer s H E hr, ?_⟩
  have hl := key _ _ _ _ hsp
  obtain ⟨φ, lh, ds, h1, h2, q⟩ := hsp
  have hd : ds.length = ps.length := by rw [h2.len]; exact hl
  have rs : RS K φ lh.length H (ds.map some ++ List.replicate (N.length - ps.length) none) (L2.start N vs) := by
    have e1 : vs.length = ds.length := h2.len.symm
    refine ⟨by unfold L2.start; simp [h2.len, hl], fun i d hi => ?_⟩
    have hlt : i < ds.length := by
      rcases Nat.lt_or_ge i ds.length with c | c
      · exact c
      · rw [List.getElem?_append_right (by simpa using c)] at hi
        rw [List.getElem?_replicate] at hi
        split at hi <;> simp at hi
    rw [List.getElem?_append_left (by simpa using hlt)] at hi
    have hi' : ds[i]? = some d := by
      rw [List.getElem?_map] at hi
      cases z : ds[i]? with
      | none => rw [z] at hi; simp at hi
      | some y => rw [z] at hi; simp at hi; rw [hi]
    obtain ⟨v, ev, r⟩ := h2.get hi'
    refine ⟨v, ?_, r⟩
    show (vs.map some ++ _)[i]? = _
    rw [List.getElem?_append_left (by simp; omega), List.getElem?_map, ev]
    rfl
  refine ⟨φ, _, lh, h1, rs, ?_⟩
  unfold mkF at q
  rw [if_pos hd] at q
  show wps K mg _ (m (ds.map some ++ List.replicate (N.length - ps.length) none) lh) φ lh H _
  revert q
  cases m (ds.map some ++ List.replicate (N.length - ps.length) none) lh with
  | next e h => exact fun q φ' σ' H' p _ => q φ' _ H' p .non
  | ret d h => exact fun q φ' v H' p r => q φ' v H' p r
  | exc x e h => exact fun q φ' cls dd σ' H' p r _ => q φ' cls dd H' p r
  | brk e h => exact fun q => q.elim
  | cnt e h => exact fun q => q.elim
  | bad => exact fun q => q.elim

/-! ### what is walked -/
abbrev IT := LH → Nat → Option (Option D)
structure ItOk (K : PySem.W.Frag) (mg : Str → Option Value) (φ : Nat → Addr) (n : Nat) (H : Hp) (g : IT × Nat) (J : It) : Prop where
  stop : ∀ φ' lh' H', n ≤ lh'.length → (∀ i, i < n → φ' i = φ i) → Ext H H' → HR K mg φ' lh' H' → ∀ j, g.1 lh' j = some none → J.stop j H'
  go : ∀ φ' lh' H', n ≤ lh'.length → (∀ i, i < n → φ' i = φ i) → Ext H H' → HR K mg φ' lh' H' → ∀ j d, g.1 lh' j = some (some d) → J.go j H' ∧ ∀ x H'', J.yld j H' x H'' → H'' = H' ∧ RD K φ' lh'.length H' d x
abbrev QI (X : Cx) (W : WX) (tg e : Expr) (m : M (IT × Nat)) : Prop := PI X tg e (rd X.K X.mg W (ItOk X.K X.mg) m)
def itL (xs : List D) : IT := fun _ j => some xs[j]?
def itO (i : Nat) : IT := fun h j => match h[i]? with
  | some (.lst xs) => some xs[j]?
  | _ => none
def iRng1M (a : M (List D)) : M (IT × Nat) := fun e h => (a e h).bind fun d h1 => match d with
  | [.int n] => if -(2 ^ 62) ≤ n ∧ n < 2 ^ 62 then .ok (fun _ j => some (if j < n.toNat then some (.int j) else none), n.toNat) h1 else .bad
  | _ => .bad
def iRng2M (a : M (List D)) : M (IT × Nat) := fun e h => (a e h).bind fun d h1 => match d with
  | [.int m, .int n] => if -(2 ^ 62) ≤ m ∧ m < 2 ^ 62 ∧ -(2 ^ 62) ≤ n ∧ n < 2 ^ 62 then .ok (fun _ j => some (if j < (n - m).toNat then some (.int (m + j)) else none), (n - m).toNat) h1 else .bad
  | _ => .bad
section
variable {X : Cx} {W : WX} {tg e : Expr} {es : List Expr} {ma : M D} {mas : M (List D)}
theorem itok_tup {K : PySem.W.Frag} {mg : Str → Option Value} {φ : Nat → Addr} {n : Nat} {H : Hp} {a : Addr} {xs : List D} {vs : List V} (h : SqT K H a vs) (r : RDs K φ n H xs vs) : ItOk K mg φ n H (itL xs, xs.length) (Itt K a) := by
  refine ⟨fun φ' lh' H' hn ag ex hr j hj => ?_, fun φ' lh' H' hn ag ex hr j d hj => ?_⟩
  · refine ⟨vs, sqT_ext ex h, ?_⟩
    have := List.getElem?_eq_none_iff.mp (Option.some.inj hj)
    rw [← r.len]; exact this
  · have hj' : xs[j]? = some d := Option.some.inj hj
    obtain ⟨v, ev, rv⟩ := r.get hj'
    refine ⟨⟨vs, v, sqT_ext ex h, ev⟩, fun x H'' ⟨e1, y⟩ => ⟨e1, ?_⟩⟩
    have := y vs (sqT_ext ex h)
    rw [ev] at this
    cases this
    exact rv.mono hn ag ex
theorem scrL_ext {K : PySem.W.Frag} {H H' : Hp} {a : Addr} {ns : List Int} (ex : Ext H H') (h : (∃ o, H a = some (.frz o (.lst (ns.map V.int)))) ∨ (∃ (o : Obj) (its : Array Value) (m : Nat), K.lookup a = some o ∧ o.cls = .type "list" ∧ o.dict = none ∧ o.data = .seq its m ∧ its.size ≤ sizeLine ∧ Vals (ns.map V.int) its.toList)) :
    SqL K H' a (ns.map V.int) := by
  rcases h with ⟨o, h⟩ | h
  · exact .inl (.inr ⟨o, ex.frz _ _ _ h⟩)
  · exact .inr h
theorem RDs.ints {K : PySem.W.Frag} {φ : Nat → Addr} {n : Nat} {H : Hp} : ∀ ns : List Int, RDs K φ n H (ns.map D.int) (ns.map V.int)
  | [] => .nil
  | i :: ns => .cons (.int i) (RDs.ints ns)
theorem itok_scr {K : PySem.W.Frag} {mg : Str → Option Value} {φ : Nat → Addr} {n : Nat} {H : Hp} {a : Addr} {ns : List Int} (h : (∃ o, H a = some (.frz o (.lst (ns.map V.int)))) ∨ (∃ (o : Obj) (its : Array Value) (m : Nat), K.lookup a = some o ∧ o.cls = .type "list" ∧ o.dict = none ∧ o.data = .seq its m ∧ its.size ≤ sizeLine ∧ Vals (ns.map V.int) its.toList)) : ItOk K mg φ n H (itL (ns.map D.int), ns.length) (Itl K a) := by
  refine ⟨fun φ' lh' H' hn ag ex hr j hj => ?_, fun φ' lh' H' hn ag ex hr j d hj => ?_⟩
  · refine ⟨_, scrL_ext ex h, ?_⟩
    have := List.getElem?_eq_none_iff.mp (Option.some.inj hj)
    simpa using this
  · have hj' : (ns.map D.int)[j]? = some d := Option.some.inj hj
    obtain ⟨v, ev, rv⟩ := (RDs.ints (K := K) (φ := φ') (n := lh'.length) (H := H') ns).get hj'
    refine ⟨⟨_, v, scrL_ext ex h, ev⟩, fun x H'' ⟨e1, y⟩ => ⟨e1, ?_⟩⟩
    have := y _ (scrL_ext ex h)
    rw [ev] at this
    cases this
    exact rv
theorem itok_obj {K : PySem.W.Frag} {mg : Str → Option Value} {φ : Nat → Addr} {n m : Nat} {H : Hp} {i : Nat} (hi : i < n) : ItOk K mg φ n H (itO i, m) (Itl K (φ i)) := by
  refine ⟨fun φ' lh' H' hn ag ex hr j hj => ?_, fun φ' lh' H' hn ag ex hr j d hj => ?_⟩
  · unfold itO at hj
    simp only at hj
    cases el : lh'[i]? with
    | none => rw [el] at hj; cases hj
    | some o =>
      cases o with
      | lst xs =>
        rw [el] at hj
        obtain ⟨vs, hv, r⟩ := hr.lst el
        rw [ag i hi] at hv
        refine ⟨vs, SqL.of hv, ?_⟩
        have := List.getElem?_eq_none_iff.mp (Option.some.inj hj)
        rw [← r.len]; exact this
      | _ => rw [el] at hj; cases hj
  · unfold itO at hj
    simp only at hj
    cases el : lh'[i]? with
    | none => rw [el] at hj; cases hj
    | some o =>
      cases o with
      | lst xs =>
        rw [el] at hj
        obtain ⟨vs, hv, r⟩ := hr.lst el
        rw [ag i hi] at hv
        have hj' : xs[j]? = some d := Option.some.inj hj
        obtain ⟨v, ev, rv⟩ := r.get hj'
        refine ⟨⟨vs, v, SqL.of hv, ev⟩, fun x H'' ⟨e1, y⟩ => ⟨e1, ?_⟩⟩
        have := y vs (SqL.of hv)
        rw [ev] at this
        cases this
        exact rv
      | _ => rw [el] at hj; cases hj
theorem RDs.chars {K : PySem.W.Frag} {φ : Nat → Addr} {n : Nat} {H : Hp} {s : List Nat} {j : Nat} {d : D} (h : (s.map fun c => D.str [c])[j]? = some d) : ∃ c, s[j]? = some c ∧ d = .str [c] := by
  rw [List.getElem?_map] at h
  cases e : s[j]? with
  | none => rw [e] at h; cases h
  | some c => rw [e] at h; exact ⟨c, rfl, (Option.some.inj h).symm⟩
theorem qi_range1 {p pos : Pos} (hg : Gl X "range") (hm : X.mg "range" = none) (ha : QA X W [e] mas) (hs : starEach [e] X.env = [(false, eval e X.env)] := by rfl) : QI X W tg (.Call (.Name "range" p) [e] [] pos) (iRng1M mas) := by
  refine ⟨fun pins s σ H R I ⟨φ, env, lh, h1, h2, q⟩ => (pi_range1 hg hm ha hs).run pins s σ H R I ?_⟩
  refine rd_of h1 h2 (wp_step q fun ds lh1 φ1 vs H1 p1 r1 q1 => ?_)
  split at q1
  · rename_i n
    cases r1 with
    | cons r1 rn =>
      cases rn
      cases r1
      by_cases c : -(2 ^ 62) ≤ n ∧ n < 2 ^ 62
      · rw [if_pos c] at q1
        refine ⟨n, rfl, c.1, c.2, wp_ok q1 (.refl p1.hr) ?_⟩
        refine ⟨fun φ' lh' H' hn ag ex hr j hj => ?_, fun φ' lh' H' hn ag ex hr j d hj => ?_⟩
        · simp only [Option.some.injEq] at hj
          split at hj
          · cases hj
          · rename_i c2; exact Nat.le_of_not_lt c2
        · simp only [Option.some.injEq] at hj
          split at hj
          · rename_i c2
            cases hj
            refine ⟨c2, fun x H'' ⟨e1, e2⟩ => ⟨e1, ?_⟩⟩
            subst e2
            rw [Int.zero_add]
            exact .int _
          · cases hj
      · rw [if_neg c] at q1; exact q1.elim
  · exact q1.elim
theorem qi_range2 {e2 : Expr} {p pos : Pos} (hg : Gl X "range") (hm : X.mg "range" = none) (ha : QA X W [e, e2] mas) (hs : starEach [e, e2] X.env = [(false, eval e X.env), (false, eval e2 X.env)] := by rfl) (hs2 : starEach [e2] X.env = [(false, eval e2 X.env)] := by rfl) : QI X W tg (.Call (.Name "range" p) [e, e2] [] pos) (iRng2M mas) := by
  refine ⟨fun pins s σ H R I ⟨φ, env, lh, h1, h2, q⟩ => (pi_range2 hg hm ha hs hs2).run pins s σ H R I ?_⟩
  refine rd_of h1 h2 (wp_step q fun ds lh1 φ1 vs H1 p1 r1 q1 => ?_)
  split at q1
  · rename_i m n
    cases r1 with
    | cons r1 rn =>
      cases rn with
      | cons r2 rn =>
        cases rn
        cases r1
        cases r2
        by_cases c : -(2 ^ 62) ≤ m ∧ m < 2 ^ 62 ∧ -(2 ^ 62) ≤ n ∧ n < 2 ^ 62
        · rw [if_pos c] at q1
          refine ⟨m, n, rfl, c, wp_ok q1 (.refl p1.hr) ?_⟩
          refine ⟨fun φ' lh' H' hn ag ex hr j hj => ?_, fun φ' lh' H' hn ag ex hr j d hj => ?_⟩
          · simp only [Option.some.injEq] at hj
            split at hj
            · cases hj
            · rename_i c2; exact Nat.le_of_not_lt c2
          · simp only [Option.some.injEq] at hj
            split at hj
            · rename_i c2
              cases hj
              refine ⟨c2, fun x H'' ⟨e1, e2⟩ => ⟨e1, ?_⟩⟩
              subst e2
              exact .int _
            · cases hj
        · rw [if_neg c] at q1; exact q1.elim
  · exact q1.elim
end
/-! ### targets of names -/
inductive TN where
  | nm (i : Nat)
  | tp (is : List Nat)
def setAll : List Nat → List D → EN → Option EN
  | [], [], e => some e
  | i :: is, d :: ds, e => setAll is ds (e.set i (some d))
  | _, _, _ => none
def tnSet : TN → D → EN → Option EN
  | .nm i, d, e => some (e.set i (some d))
  | .tp is, .tup ds, e => setAll is ds e
  | _, _, _ => none
def gsN : List Nat → TGs
  | [] => gNil
  | i :: is => gCons (gName i) (gsN is)
def gN (K : PySem.W.Frag) : TN → TG
  | .nm i => gName i
  | .tp is => gTup K is.length (gsN is)
def tnIx : TN → List Nat
  | .nm i => [i]
  | .tp is => is
def setV : List Nat → List V → L2.St → L2.St
  | i :: is, v :: vs, σ => setV is vs (σ.set i (some v))
  | _, _, σ => σ
section
variable {K : PySem.W.Frag} {mg : Str → Option Value} {φ : Nat → Addr} {n : Nat} {H : Hp}
theorem gsN_ok : ∀ {is : List Nat} {ds : List D} {vs : List V} {e e' : EN} {σ : L2.St} {Q : L2.St → Hp → Prop}, setAll is ds e = some e' → RS K φ n H e σ → RDs K φ n H ds vs → (∀ σ', σ' = setV is vs σ → RS K φ n H e' σ' → Q σ' H) → gsN is vs σ H Q
  | [], [], _, e, e', σ, Q, h, r, rd, q => by
    cases rd
    cases h
    exact ⟨rfl, q _ rfl r⟩
  | i :: is, d :: ds, _, e, e', σ, Q, h, r, rd, q => by
    cases rd with
    | cons r1 rn => exact ⟨_, _, rfl, gsN_ok (is := is) h (r.set r1 i) rn q⟩
  | [], _ :: _, _, _, _, _, _, h, _, _, _ => by cases h
  | _ :: _, [], _, _, _, _, _, h, _, _, _ => by cases h
theorem setAll_len : ∀ {is : List Nat} {ds : List D} {e e' : EN}, setAll is ds e = some e' → ds.length = is.length
  | [], [], _, _, _ => rfl
  | i :: is, d :: ds, e, e', h => by rw [List.length_cons, List.length_cons, setAll_len (is := is) h]
  | [], _ :: _, _, _, h => by cases h
  | _ :: _, [], _, _, h => by cases h
theorem wipe_setV {vs : List Nat} : ∀ {is : List Nat} {ws : List V} {σ : L2.St}, (∀ i ∈ is, i ∈ vs) → wipe (setV is ws σ) vs = wipe σ vs
  | [], _, σ, _ => by cases ‹List V› <;> rfl
  | i :: is, [], σ, _ => rfl
  | i :: is, w :: ws, σ, h => by
    show wipe (setV is ws (σ.set i (some w))) vs = _
    rw [wipe_setV (is := is) fun j hj => h j (List.mem_cons_of_mem _ hj)]
    have hi := h i (List.mem_cons_self ..)
    clear h
    induction vs with
    | nil => cases hi
    | cons v vs ih =>
      show (wipe (σ.set i (some w)) vs).set v none = (wipe σ vs).set v none
      by_cases c : i ∈ vs
      · rw [ih c]
      · have e : i = v := by
          rcases List.mem_cons.mp hi with e | e
          · exact e
          · exact absurd e c
        subst e
        clear ih hi
        have out : ∀ (vs : List Nat) (σ : L2.St), i ∉ vs → wipe (σ.set i (some w)) vs = (wipe σ vs).set i (some w) := by
          intro vs
          induction vs with
          | nil => intro σ _; rfl
          | cons u us ih =>
            intro σ hu
            show (wipe (σ.set i (some w)) us).set u none = ((wipe σ us).set u none).set i (some w)
            rw [ih σ fun z => hu (List.mem_cons_of_mem _ z), List.set_comm]
            intro z
            exact hu (by rw [z]; exact List.mem_cons_self ..)
        rw [out vs σ c, List.set_set]
theorem gN_ok {t : TN} {d : D} {v : V} {e e' : EN} {σ : L2.St} {Q : L2.St → Hp → Prop} (h : tnSet t d e = some e') (r : RS K φ n H e σ) (rd : RD K φ n H d v)
    (q : ∀ σ', (∀ vs : List Nat, (∀ i ∈ tnIx t, i ∈ vs) → wipe σ' vs = wipe σ vs) → RS K φ n H e' σ' → Q σ' H) : gN K t v σ H Q := by
  cases t with
  | nm i =>
    cases h
    exact q _ (fun vs hv => wipe_setV (is := [i]) (ws := [v]) hv) (r.set rd i)
  | tp is =>
    cases d with
    | tup ds =>
      obtain ⟨a, vs, rfl, hq, rs⟩ := rd.tup_inv
      refine ⟨a, vs, rfl, hq, ?_, gsN_ok h r rs fun σ' e1 r' => q σ' (fun ws hw => by rw [e1]; exact wipe_setV hw) r'⟩
      rw [← rs.len]; exact setAll_len h
    | _ => cases h
end
/-! ### for -/
def loopF (g : IT) (t : TN) (body : MS) : Nat → Nat → EN → LH → RSt
  | n, j, e, h => match g h j with
    | none => .bad
    | some none => .next e h
    | some (some d) => match n with
      | 0 => .bad
      | n + 1 => match tnSet t d e with
        | none => .bad
        | some e1 => match body e1 h with
          | .next e2 h2 => loopF g t body n (j + 1) e2 h2
          | .cnt e2 h2 => loopF g t body n (j + 1) e2 h2
          | .brk e2 h2 => .next e2 h2
          | .ret x h2 => .ret x h2
          | .exc x e2 h2 => .exc x e2 h2
          | .bad => .bad
def sFor (it : M (IT × Nat)) (t : TN) (body : MS) : MS := fun e h => rsBind (it e h) e fun g h1 => loopF g.1 t body g.2 0 e h1
section
variable {X : Cx} {W : WX} {tg iter : Expr} {body : List Stmt} {pos : Pos} {mi : M (IT × Nat)} {t : TN} {mb : MS}
theorem qs_for (hp : PassesOwn (model X.prog X.w) X.A X.env X.xe) (hc : X.calm = true) (hi : QI X W tg iter mi) (hg : PG X tg (gN X.K t)) (hb : QSs X W body mb)
    (hs : ∀ x, foldedSetIterable iter X.env x = pure x := by intro _; rfl) : QS X W (.For tg iter body [] pos) (sFor mi t mb) := by
  refine psI (ps_for hp hc hi hg hb hs) fun D σ H ⟨φ, env, lh, h1, h2, q⟩ => ?_
  have q' : wps X.K X.mg W (sFor mi t mb env lh) φ lh H D := q
  refine rd_of h1 h2 (wps_step h2 q' fun g lh1 φ1 J H1 p1 r1 q1 => ?_)
  refine ⟨fun i m σ H => ∃ φ2 env2 lh2, Po X.K X.mg φ1 lh1 H1 φ2 lh2 H ∧ RS X.K φ2 lh2.length H env2 σ ∧ wps X.K X.mg W (loopF g.1 t mb m i env2 lh2) φ2 lh2 H D, ⟨g.2, φ1, env, lh1, .refl p1.hr, h2.up p1, q1⟩, ?_⟩
  rintro i m σ2 H2 ⟨φ2, env2, lh2, p2, r2, q2⟩
  unfold loopF at q2
  cases eg : g.1 lh2 i with
  | none => simp only [eg] at q2; exact q2.elim
  | some od =>
    cases od with
    | none =>
      simp only [eg] at q2
      exact .inl ⟨r1.stop φ2 lh2 H2 p2.le p2.ag p2.ext p2.hr i eg, q2 φ2 σ2 H2 (.refl p2.hr) r2⟩
    | some d =>
      simp only [eg] at q2
      cases m with
      | zero => exact q2.elim
      | succ m =>
        simp only at q2
        cases et : tnSet t d env2 with
        | none => simp only [et] at q2; exact q2.elim
        | some e1 =>
          simp only [et] at q2
          obtain ⟨hgo, hy⟩ := r1.go φ2 lh2 H2 p2.le p2.ag p2.ext p2.hr i d eg
          refine .inr ⟨hgo, fun σ' H' => ∃ m', m' < m + 1 ∧ ∃ φ2 env2 lh2, Po X.K X.mg φ1 lh1 H1 φ2 lh2 H' ∧ RS X.K φ2 lh2.length H' env2 σ' ∧ wps X.K X.mg W (loopF g.1 t mb m' (i + 1) env2 lh2) φ2 lh2 H' D, fun σ' H' n => n, fun x H' y => ?_⟩
          obtain ⟨e0, rx⟩ := hy x H' y
          subst e0
          refine gN_ok et r2 rx fun σ3 _ r3 => ?_
          refine ⟨φ2, e1, lh2, p2.hr, r3, ?_⟩
          cases em : mb e1 lh2 with
          | next e2 h2' =>
            simp only [em] at q2
            exact fun φ' σ' H' p r => ⟨m, Nat.lt_succ_self _, φ', e2, h2', p2.trans p, r, wps_mono p q2⟩
          | cnt e2 h2' =>
            simp only [em] at q2
            exact fun φ' σ' H' p r => ⟨m, Nat.lt_succ_self _, φ', e2, h2', p2.trans p, r, wps_mono p q2⟩
          | brk e2 h2' => simp only [em] at q2; exact q2
          | ret e2 h2' => simp only [em] at q2; exact q2
          | exc x e2 h2' => simp only [em] at q2; exact q2
          | bad => simp only [em] at q2; exact q2.elim
/-! ### while -/
def loopW (c : M Bool) (body : MS) : Nat → EN → LH → RSt
  | n, e, h => rsBind (c e h) e fun b h1 => if b then (match n with
    | 0 => .bad
    | n + 1 => match body e h1 with
      | .next e2 h2 => loopW c body n e2 h2
      | .cnt e2 h2 => loopW c body n e2 h2
      | .brk e2 h2 => .next e2 h2
      | .ret x h2 => .ret x h2
      | .exc x e2 h2 => .exc x e2 h2
      | .bad => .bad) else .next e h1
def sWhile (fuel : Nat) (c : M Bool) (body : MS) : MS := fun e h => loopW c body fuel e h
theorem qs_while {c : Expr} {mc : M Bool} (fuel : Nat) (hp : PassesOwn (model X.prog X.w) X.A X.env X.xe) (hc : QT X W c mc) (hb : QSs X W body mb) : QS X W (.While c body [] pos) (sWhile fuel mc mb) := by
  refine psI (ps_while hp hc hb) fun D σ H ⟨φ, env, lh, h1, h2, q⟩ => ?_
  have q' : wps X.K X.mg W (loopW mc mb fuel env lh) φ lh H D := q
  refine ⟨fun m σ H => ∃ φ2 env2 lh2, HR X.K X.mg φ2 lh2 H ∧ RS X.K φ2 lh2.length H env2 σ ∧ wps X.K X.mg W (loopW mc mb m env2 lh2) φ2 lh2 H D, ⟨fuel, φ, env, lh, h1, h2, q'⟩, ?_⟩
  rintro m σ2 H2 ⟨φ2, env2, lh2, p2, r2, q2⟩
  unfold loopW at q2
  refine rd_of p2 r2 (wps_step r2 q2 fun b lh3 φ3 v H3 p3 r3 q3 => ?_)
  cases r3
  cases b with
  | false => exact q3 φ3 σ2 H3 (.refl p3.hr) (r2.up p3)
  | true =>
    simp only [if_true] at q3 ⊢
    cases m with
    | zero => exact q3.elim
    | succ m =>
      simp only at q3
      refine ⟨fun σ' H' => ∃ m', m' < m + 1 ∧ ∃ φ2 env2 lh2, HR X.K X.mg φ2 lh2 H' ∧ RS X.K φ2 lh2.length H' env2 σ' ∧ wps X.K X.mg W (loopW mc mb m' env2 lh2) φ2 lh2 H' D, fun σ' H' n => n, ?_⟩
      refine ⟨φ3, env2, lh3, p3.hr, r2.up p3, ?_⟩
      cases em : mb env2 lh3 with
      | next e2 h2' =>
        simp only [em] at q3
        exact fun φ' σ' H' p r => ⟨m, Nat.lt_succ_self _, φ', e2, h2', p.hr, r, wps_mono p q3⟩
      | cnt e2 h2' =>
        simp only [em] at q3
        exact fun φ' σ' H' p r => ⟨m, Nat.lt_succ_self _, φ', e2, h2', p.hr, r, wps_mono p q3⟩
      | brk e2 h2' => simp only [em] at q3; exact q3
      | ret e2 h2' => simp only [em] at q3; exact q3
      | exc x e2 h2' => simp only [em] at q3; exact q3
      | bad => simp only [em] at q3; exact q3.elim
end
/-! ### displays -/
def mTup (a : M (List D)) : M D := fun e h => (a e h).bind fun xs h1 => if xs.length ≤ 16777216 then .ok (.tup xs) h1 else .bad
def mLst (a : M (List D)) : M D := fun e h => (a e h).bind fun xs h1 => if xs.length ≤ 16777216 then .ok (.ref h1.length) (h1 ++ [.lst xs]) else .bad
section
variable {X : Cx} {W : WX} {es : List Expr} {pos : Pos} {mas : M (List D)}
theorem sz_le {n : Nat} (h : n ≤ 16777216) : n ≤ sizeLine := by rw [sizeLine_eq]; exact h
theorem wp_new {K : PySem.W.Frag} {mg : Str → Option Value} {W : WX} {σ : L2.St} {φ : Nat → Addr} {lh : LH} {H : Hp} {Q : VK} {u : LO} {o : HO} {p : Addr} (q : wp K mg W σ (RD K) (.ok (.ref lh.length) (lh ++ [u])) φ lh H Q) (h : HR K mg φ lh H) (hp : H p = none)
    (ho : OA K mg (ext1 φ lh.length p) (lh.length + 1) (upd H p o) p u) : Q (.ref p) (upd H p o) := by
  have P := Po.new h hp ho
  have r : RD K (ext1 φ lh.length p) (lh ++ [u]).length (upd H p o) (.ref lh.length) (.ref (ext1 φ lh.length p lh.length)) := .ref (by simp)
  rw [ext1_at] at r
  exact wp_ok q P r
theorem wp_newL {K : PySem.W.Frag} {mg : Str → Option Value} {W : WX} {σ : L2.St} {φ : Nat → Addr} {lh : LH} {H : Hp} {Q : VK} {xs : List D} {vs : List V} {p : Addr} (q : wp K mg W σ (RD K) (.ok (.ref lh.length) (lh ++ [.lst xs])) φ lh H Q) (h : HR K mg φ lh H) (hp : H p = none)
    (r : RDs K φ lh.length H xs vs) : Q (.ref p) (upd H p (.lst vs)) :=
  wp_new q h hp ⟨vs, upd_same, r.mono (Nat.le_succ _) (fun i hi => ext1_lt hi) (Ext.new hp)⟩
theorem wp_newT {K : PySem.W.Frag} {mg : Str → Option Value} {W : WX} {σ : L2.St} {φ : Nat → Addr} {lh : LH} {H : Hp} {Q : VK} {xs : List D} {vs : List V} {p : Addr} (q : wp K mg W σ (RD K) (.ok (.tup xs) lh) φ lh H Q) (h : HR K mg φ lh H) (hp : H p = none)
    (r : RDs K φ lh.length H xs vs) : Q (.ref p) (upd H p (.tup vs)) := by
  have P : Po K mg φ lh H φ lh (upd H p (.tup vs)) := Po.side h hp
  exact wp_ok q P (.tup (SqT.of upd_same) (r.up P))
theorem qe_tup {x1} (h : QA X W es mas) : QE X W (.Tuple es x1 pos) (mTup mas) := by
  refine qe_of (pe_tup h) fun σ φ env lh H Q h1 h2 q => ?_
  refine rd_of h1 h2 (wp_step q fun xs lh1 φ1 vs H1 p1 r1 q1 => ?_)
  by_cases c : xs.length ≤ 16777216
  · rw [if_pos c] at q1
    exact ⟨by rw [← r1.len]; exact sz_le c, fun p hp => wp_newT q1 p1.hr hp r1⟩
  · rw [if_neg c] at q1; exact q1.elim
theorem qe_lst (h : QA X W es mas) : QE X W (.List es pos) (mLst mas) := by
  refine qe_of (pe_lst h) fun σ φ env lh H Q h1 h2 q => ?_
  refine rd_of h1 h2 (wp_step q fun xs lh1 φ1 vs H1 p1 r1 q1 => ?_)
  by_cases c : xs.length ≤ 16777216
  · rw [if_pos c] at q1
    exact ⟨by rw [← r1.len]; exact sz_le c, fun p hp => wp_newL q1 p1.hr hp r1⟩
  · rw [if_neg c] at q1; exact q1.elim
end
/-! ### comprehensions -/
def wipeM (e : EN) : List Nat → EN
  | [] => e
  | v :: vs => (wipeM e vs).set v none
def mYes : M Bool := fun _ h => .ok true h
def loopC (g : IT) (t : TN) (c : M Bool) (y : M D) (e : EN) (k : Nat) : Nat → Nat → LH → Res D
  | n, j, h => match g h j with
    | none => .bad
    | some none => .ok (.ref k) h
    | some (some d) => match n with
      | 0 => .bad
      | n + 1 => match tnSet t d e with
        | none => .bad
        | some e1 => match c e1 h with
          | .ok true h2 => (match y e1 h2 with
            | .ok x h3 => (match h3[k]? with
              | some (.lst acc) => if acc.length < 16777216 then loopC g t c y e k n (j + 1) (h3.set k (.lst (acc ++ [x]))) else .bad
              | _ => .bad)
            | _ => .bad)
          | .ok false h2 => loopC g t c y e k n (j + 1) h2
          | _ => .bad
def mLc (it : M (IT × Nat)) (t : TN) (c : M Bool) (y : M D) (vs : List Nat) : M D := fun e h => (it e h).bind fun g h1 => loopC g.1 t c y (wipeM e vs) h1.length g.2 0 (h1 ++ [.lst []])
abbrev WN : WX := fun _ _ _ _ => False
abbrev QTs (X : Cx) (W : WX) (es : List Expr) (m : M Bool) : Prop := PTs X es (rdT X.K X.mg W m)
theorem qts_nil {X : Cx} {W : WX} : QTs X W [] mYes := ⟨fun pins s σ H Q I ⟨φ, env, lh, h1, h2, q⟩ => pts_nil.run pins s σ H Q I (wp_ok q (.refl h1) rfl)⟩
theorem qts_one {X : Cx} {W : WX} {c : Expr} {m : M Bool} (h : QT X W c m) : QTs X W [c] m := pts_one h
section
variable {K : PySem.W.Frag} {φ : Nat → Addr} {n : Nat} {H : Hp}
theorem RS.wipe {e : EN} {σ : L2.St} (r : RS K φ n H e σ) : ∀ vs : List Nat, RS K φ n H (wipeM e vs) (L2.wipe σ vs)
  | [] => r
  | v :: vs => (r.wipe vs).clear v
end
theorem wp_mono {K : PySem.W.Frag} {mg : Str → Option Value} {W : WX} {σ : L2.St} {α β : Type} {R : (Nat → Addr) → Nat → Hp → α → β → Prop} {x : Res α} {φ φ1 : Nat → Addr} {lh lh1 : LH} {H H1 : Hp} {Q : β → Hp → Prop} (p : Po K mg φ lh H φ1 lh1 H1) (h : wp K mg W σ R x φ lh H Q) : wp K mg W σ R x φ1 lh1 H1 Q := by
  cases x with
  | ok d lh' => exact fun φ' v H' p' r => h φ' v H' (p.trans p') r
  | exc e lh' => exact fun φ' cls dd H' p' r => h φ' cls dd H' (p.trans p') r
  | bad => exact h
theorem wipe_set0 (σ : L2.St) (i : Nat) : ∀ vs : List Nat, wipe (σ.set i none) vs = (wipe σ vs).set i none
  | [] => rfl
  | v :: vs => by
    show (wipe (σ.set i none) vs).set v none = ((wipe σ vs).set v none).set i none
    rw [wipe_set0 σ i vs]
    by_cases c : i = v
    · subst c; rfl
    · rw [List.set_comm _ _ c]
theorem wipe_wipe (σ : L2.St) : ∀ vs : List Nat, wipe (wipe σ vs) vs = wipe σ vs
  | [] => rfl
  | v :: vs => by
    show (wipe ((wipe σ vs).set v none) vs).set v none = (wipe σ vs).set v none
    rw [wipe_set0, wipe_wipe σ vs, List.set_set]
section
variable {X : Cx} {W : WX} {elt tg iter : Expr} {ifs : List Expr} {scope : Scope} {own : List (Str × Nat)} {pos : Pos} {mi : M (IT × Nat)} {t : TN} {mc : M Bool} {my : M D}
theorem lc_ok {vs : List Nat} (ho : ∀ i ∈ tnIx t, i ∈ vs) {K : PySem.W.Frag} {mg : Str → Option Value} {σ : L2.St} {H : Hp} {Q : VK} {φ : Nat → Addr} {env : EN} {lh : LH} (h1 : HR K mg φ lh H) (h2 : RS K φ lh.length H env σ)
    (q : wp K mg W σ (RD K) (mLc mi t mc my vs env lh) φ lh H Q) : tLc (rd K mg W (ItOk K mg) mi) (gN K t) (rdT K mg WN mc) (rdE K mg WN my) vs σ H Q := by
  refine rd_of h1 h2 (wp_step q fun g lh1 φ1 J H1 p1 r1 q1 => ?_)
  intro D hD
  have P0 : Po K mg φ1 lh1 H1 (ext1 φ1 lh1.length D) (lh1 ++ [.lst []]) (upd H1 D (.lst [])) := Po.new p1.hr hD ⟨[], upd_same, .nil⟩
  have hw : RS K φ1 lh1.length H1 (wipeM env vs) (wipe σ vs) := (h2.up p1).wipe _
  have hk : lh1.length < (lh1 ++ [LO.lst []]).length := by simp
  refine ⟨fun i m H => ∃ φ2 lh2, Po K mg (ext1 φ1 lh1.length D) (lh1 ++ [.lst []]) (upd H1 D (.lst [])) φ2 lh2 H ∧ wp K mg W σ (RD K) (loopC g.1 t mc my (wipeM env vs) lh1.length m i lh2) φ2 lh2 H Q, ⟨g.2, _, _, .refl P0.hr, wp_mono P0 q1⟩, ?_⟩
  rintro i m H2 ⟨φ2, lh2, p2, q2⟩
  have pp := P0.trans p2
  have eD : φ2 lh1.length = D := (p2.ag _ hk).trans ext1_at
  have hk2 : lh1.length < lh2.length := Nat.lt_of_lt_of_le hk p2.le
  unfold loopC at q2
  cases eg : g.1 lh2 i with
  | none => simp only [eg] at q2; exact q2.elim
  | some od =>
    cases od with
    | none =>
      simp only [eg] at q2
      refine .inl ⟨r1.stop φ2 lh2 H2 pp.le pp.ag pp.ext pp.hr i eg, ?_⟩
      have := wp_ok q2 (.refl p2.hr) (.ref hk2)
      rw [eD] at this
      exact this
    | some d =>
      simp only [eg] at q2
      cases m with
      | zero => exact q2.elim
      | succ m =>
        simp only at q2
        cases et : tnSet t d (wipeM env vs) with
        | none => simp only [et] at q2; exact q2.elim
        | some e1 =>
          simp only [et] at q2
          obtain ⟨hgo, hy⟩ := r1.go φ2 lh2 H2 pp.le pp.ag pp.ext pp.hr i d eg
          refine .inr ⟨hgo, fun H' => ∃ m', m' < m + 1 ∧ ∃ φ2 lh2, Po K mg (ext1 φ1 lh1.length D) (lh1 ++ [.lst []]) (upd H1 D (.lst [])) φ2 lh2 H' ∧ wp K mg W σ (RD K) (loopC g.1 t mc my (wipeM env vs) lh1.length m' (i + 1) lh2) φ2 lh2 H' Q, fun H' n => n, fun x H' y => ?_⟩
          obtain ⟨e0, rx⟩ := hy x H' y
          subst e0
          refine gN_ok et (hw.up pp) rx fun σ3 ew r3 => ⟨(ew vs ho).trans (wipe_wipe σ vs), φ2, e1, lh2, p2.hr, r3, ?_⟩
          cases ec : mc e1 lh2 with
          | exc e h => simp only [ec] at q2; exact q2.elim
          | bad => simp only [ec] at q2; exact q2.elim
          | ok b h3 =>
            intro φ3 b' H3 p3 eb
            cases eb
            cases b with
            | false =>
              simp only [ec] at q2
              exact ⟨m, Nat.lt_succ_self _, φ3, h3, p2.trans p3, wp_mono p3 q2⟩
            | true =>
              simp only [ec] at q2
              simp only [if_true]
              refine ⟨φ3, e1, h3, p3.hr, r3.up p3, ?_⟩
              cases ey : my e1 h3 with
              | exc e h => simp only [ey] at q2; exact q2.elim
              | bad => simp only [ey] at q2; exact q2.elim
              | ok z h4 =>
                simp only [ey] at q2
                intro φ4 v H4 p4 rv
                have p24 := p2.trans (p3.trans p4)
                have eD4 : φ4 lh1.length = D := (p24.ag _ hk).trans ext1_at
                have hk4 : lh1.length < h4.length := Nat.lt_of_lt_of_le hk p24.le
                cases ek : h4[lh1.length]? with
                | none => simp only [ek] at q2; exact q2.elim
                | some o =>
                  cases o with
                  | lst acc =>
                    simp only [ek] at q2
                    by_cases ca : acc.length < 16777216
                    · rw [if_pos ca] at q2
                      obtain ⟨ws, hws, rws⟩ := p4.hr.lst ek
                      have PP : Po K mg φ4 h4 H4 φ4 (h4.set lh1.length (.lst (acc ++ [z]))) (upd H4 (φ4 lh1.length) (.lst (ws ++ [v]))) :=
                        Po.put p4.hr hk4 (Wr.lst hws) ⟨_, upd_same, (rws.app (.cons rv .nil)).mono (Nat.le_refl _) (fun _ _ => rfl) (by
                          obtain ⟨u, hu, u1, u2⟩ := Wr.lst hws
                          exact Ext.put hu u1 u2)⟩
                      rw [eD4] at hws PP
                      refine ⟨ws, hws, by rw [← rws.len, sizeLine_eq]; exact ca, m, Nat.lt_succ_self _, φ4, _, p24.trans PP, ?_⟩
                      exact wp_mono ((p3.trans p4).trans PP) q2
                    · rw [if_neg ca] at q2; exact q2.elim
                  | _ => simp only [ek] at q2; exact q2.elim
theorem qe_lc (ho : ∀ i ∈ tnIx t, i ∈ own.map (·.2)) (hc : X.calm = true) (hN : X.N.Nodup) (hi : QI X W tg iter mi) (ok : BlkOk X.N X.env.scope scope own)
    (hg : ∀ (s : Shared) (H : Hp) (C : Addr) (cl : List (Str × Addr)) (fp : List Addr), PG (X.blk s H scope (compEnvC scope cl C X.env) fp) tg (gN X.K t)) (ht : ∀ (s : Shared) (H : Hp) (C : Addr) (cl : List (Str × Addr)) (fp : List Addr), QTs (X.blk s H scope (compEnvC scope cl C X.env) fp) WN ifs mc)
    (he : ∀ (s : Shared) (H : Hp) (C : Addr) (cl : List (Str × Addr)) (fp : List Addr), QE (X.blk s H scope (compEnvC scope cl C X.env) fp) WN elt my) (hs : ∀ x, foldedSetIterable iter X.env x = pure x := by intro _; rfl) :
    QE X W (.ListComp elt [⟨tg, iter, ifs, 0⟩] scope pos) (mLc mi t mc my (own.map (·.2))) :=
  qe_of (pe_lc hc hN hi ok hg ht he hs) fun σ φ env lh H Q h1 h2 q => lc_ok ho h1 h2 q
end
end HM
set_option Elab.async false
set_option linter.all false
set_option maxRecDepth 100000
set_option maxHeartbeats 4000000
namespace HM
open PySem L2 PySem.Spec PyProof.Rows
/-! ### operators by values -/
def dAdd : D → D → LH → Res D
  | .int a, .int b, h => .ok (.int (a + b)) h
  | .str a, .str b, h => if a.length + b.length ≤ 16777216 then .ok (.str (a ++ b)) h else .bad
  | .tup a, .tup b, h => if a.length + b.length ≤ 16777216 then .ok (.tup (a ++ b)) h else .bad
  | .ref i, .ref j, h => match h[i]?, h[j]? with
    | some (.lst a), some (.lst b) => if a.length + b.length ≤ 16777216 then .ok (.ref h.length) (h ++ [.lst (a ++ b)]) else .bad
    | _, _ => .bad
  | _, _, _ => .bad
def dSub : D → D → LH → Res D
  | .int a, .int b, h => .ok (.int (a - b)) h
  | _, _, _ => .bad
def mulOk (a b : Int) : Bool := decide (b.natAbs < 2 ^ 63) || decide (a.natAbs.log2 + b.natAbs.log2 < 1000000)
def dMul : D → D → LH → Res D
  | .int a, .int b, h => if mulOk a b then .ok (.int (a * b)) h else .bad
  | _, _, _ => .bad
def dDiv : D → D → LH → Res D
  | .int a, .int b, h => if 0 < b ∧ b.natAbs.log2 < 9000 then .ok (.int (a / b)) h else .bad
  | _, _, _ => .bad
def dMod : D → D → LH → Res D
  | .int a, .int b, h => if 0 < b then .ok (.int (a % b)) h else .bad
  | _, _, _ => .bad
def dPow : D → D → LH → Res D
  | .int a, .int b, h => if 0 ≤ b ∧ b ≤ 1000000 ∧ a.natAbs < 2 ^ 64 then .ok (.int (a ^ b.toNat)) h else .bad
  | _, _, _ => .bad
def dLt : D → D → LH → Res D
  | .int a, .int b, h => .ok (.bl (decide (a < b))) h
  | .str a, .str b, h => .ok (.bl (decide (a < b))) h
  | _, _, _ => .bad
def dLe : D → D → LH → Res D
  | .int a, .int b, h => .ok (.bl (decide (a ≤ b))) h
  | .str a, .str b, h => .ok (.bl (!decide (b < a))) h
  | _, _, _ => .bad
def dGt : D → D → LH → Res D
  | .int a, .int b, h => .ok (.bl (decide (b < a))) h
  | .str a, .str b, h => .ok (.bl (decide (b < a))) h
  | _, _, _ => .bad
def dGe : D → D → LH → Res D
  | .int a, .int b, h => .ok (.bl (decide (b ≤ a))) h
  | .str a, .str b, h => .ok (.bl (!decide (a < b))) h
  | _, _, _ => .bad
def dIsN (d : D) : Bool := match d with
  | .non => true
  | _ => false
def dIs : D → D → LH → Res D
  | a, .non, h => .ok (.bl (dIsN a)) h
  | _, _, _ => .bad
def dIsNot : D → D → LH → Res D
  | a, .non, h => .ok (.bl (!dIsN a)) h
  | _, _, _ => .bad
def flD : D → Bool
  | .non => true
  | .bl _ => true
  | .int _ => true
  | .str _ => true
  | _ => false
def eqF : D → D → Bool
  | .non, .non => true
  | .bl a, .bl b => a == b
  | .bl a, .int b => (if a then 1 else 0) == b
  | .int a, .bl b => a == (if b then 1 else 0)
  | .int a, .int b => a == b
  | .str a, .str b => a == b
  | _, _ => false
def seqD (d : D) (h : LH) : Option (List D) := match d with
  | .tup xs => some xs
  | .scr ns => some (ns.map D.int)
  | .ref i => match h[i]? with
    | some (.lst xs) => some xs
    | _ => none
  | _ => none
def dIn : D → D → LH → Res D
  | .str [c], .str z, h => .ok (.bl (decide (c ∈ z))) h
  | x, d, h => match seqD d h with
    | some xs => if flD x && xs.all flD then .ok (.bl (xs.any fun y => eqF y x)) h else .bad
    | none => .bad
def dNotIn : D → D → LH → Res D
  | .str [c], .str z, h => .ok (.bl (!decide (c ∈ z))) h
  | x, d, h => match seqD d h with
    | some xs => if flD x && xs.all flD then .ok (.bl (!(xs.any fun y => eqF y x))) h else .bad
    | none => .bad
/-! data for == -/
mutual
def toP : Nat → LH → D → Option PyData
  | 0, _, _ => none
  | n + 1, h, d => match d with
    | .non => some .none
    | .bl b => some (.bool b)
    | .int i => some (.int i)
    | .str s => some (.str ⟨s.toArray⟩)
    | .tup xs => (toPs n h xs).map PyData.tuple
    | .scr ns => (toPs n h (ns.map D.int)).map PyData.list
    | .ref i => match h[i]? with
      | some (.lst xs) => (toPs n h xs).map PyData.list
      | _ => none
    | .exn _ => none
    | .exr _ _ _ => none
def toPs : Nat → LH → List D → Option (List PyData)
  | 0, _, _ => none
  | n + 1, h, xs => match xs with
    | [] => some []
    | x :: xs => match toP n h x, toPs n h xs with
      | some p, some ps => some (p :: ps)
      | _, _ => none
end
def dEqB (fu : Nat) (a b : D) (h : LH) : Option Bool := match a, b with
  | .int a, .int b => some (decide (a = b))
  | .str a, .str b => some (decide (a = b))
  | .bl a, .bl b => some (decide (a = b))
  | .non, .non => some true
  | .non, .int _ => some false
  | .int _, .non => some false
  | .non, .bl _ => some false
  | .bl _, .non => some false
  | .non, .str _ => some false
  | .str _, .non => some false
  | .int _, .str _ => some false
  | .str _, .int _ => some false
  | .bl _, .str _ => some false
  | .str _, .bl _ => some false
  | a, b => match toP fu h a, toP fu h b with
    | some p, some q => if SeqAt.shaped p && SeqAt.shaped q then some (PyData.eqv p q) else none
    | _, _ => none
def dEq (a b : D) (h : LH) : Res D := match dEqB 10000000 a b h with
  | some r => .ok (.bl r) h
  | none => .bad
def dNe (a b : D) (h : LH) : Res D := match dEqB 10000000 a b h with
  | some r => .ok (.bl (!r)) h
  | none => .bad
section
variable {K : PySem.W.Frag} {mg : Str → Option Value} {φ : Nat → Addr} {lh : LH} {H : Hp} {n : Nat}
theorem seqD_ok (hr : HR K mg φ lh H) {d : D} {v : V} {xs : List D} (r : RD K φ lh.length H d v) (h : seqD d lh = some xs) : ∃ a vs, v = .ref a ∧ (SqL K H a vs ∨ SqT K H a vs) ∧ RDs K φ lh.length H xs vs := by
  cases d with
  | tup ys =>
    cases h
    obtain ⟨a, vs, e, hq, r⟩ := r.tup_inv
    exact ⟨a, vs, e, .inr hq, r⟩
  | scr ns =>
    cases h
    obtain ⟨a, e, hq⟩ := r.scr_inv
    exact ⟨a, _, e, .inl hq, RDs.ints ns⟩
  | ref i =>
    obtain ⟨e, hi⟩ := r.ref_inv
    unfold seqD at h
    simp only at h
    cases el : lh[i]? with
    | none => rw [el] at h; cases h
    | some o =>
      cases o with
      | lst ys =>
        rw [el] at h
        cases h
        obtain ⟨vs, hv, r⟩ := hr.lst el
        exact ⟨_, vs, e, .inl (SqL.of hv), r⟩
      | _ => rw [el] at h; cases h
  | _ => cases h
mutual
theorem toP_ok (hr : HR K mg φ lh H) : ∀ {k : Nat} {d : D} {v : V} {p : PyData}, RD K φ lh.length H d v → toP k lh d = some p → Dp K H v p
  | 0, _, _, _, _, h => by unfold toP at h; cases h
  | k + 1, d, v, p, r, h => by
    unfold toP at h
    cases d with
    | exn a => cases h
    | exr a dx d => cases h
    | non => cases h; cases r; exact .non
    | bl b => cases h; cases r; exact .bl b
    | int b => cases h; cases r; exact .int b
    | str b => cases h; cases r; exact .str _
    | tup xs =>
      obtain ⟨a, vs, rfl, hq, rs⟩ := r.tup_inv
      cases e : toPs k lh xs with
      | none => simp only [e] at h; cases h
      | some ps =>
        simp only [e] at h
        cases h
        exact .tup hq (toPs_ok hr rs e)
    | scr ns =>
      obtain ⟨a, rfl, hq⟩ := r.scr_inv
      cases e : toPs k lh (ns.map D.int) with
      | none => simp only [e] at h; cases h
      | some ps =>
        simp only [e] at h
        cases h
        exact .lst hq (toPs_ok hr (RDs.ints ns) e)
    | ref i =>
      obtain ⟨rfl, hi⟩ := r.ref_inv
      simp only at h
      cases el : lh[i]? with
      | none => rw [el] at h; cases h
      | some o =>
        cases o with
        | lst ys =>
          rw [el] at h
          obtain ⟨vs, hv, rs⟩ := hr.lst el
          cases e : toPs k lh ys with
          | none => simp only [e] at h; cases h
          | some ps =>
            simp only [e] at h
            cases h
            exact .lst (SqL.of hv) (toPs_ok hr rs e)
        | _ => rw [el] at h; cases h
theorem toPs_ok (hr : HR K mg φ lh H) : ∀ {k : Nat} {ds : List D} {vs : List V} {ps : List PyData}, RDs K φ lh.length H ds vs → toPs k lh ds = some ps → DpAll K H vs ps
  | 0, _, _, _, _, h => by unfold toPs at h; cases h
  | k + 1, [], vs, ps, r, h => by
    unfold toPs at h
    cases h
    cases r
    exact .nil
  | k + 1, d :: ds, vs, ps, r, h => by
    unfold toPs at h
    cases r with
    | cons r1 r2 =>
      cases e1 : toP k lh d with
      | none => simp only [e1] at h; cases h
      | some p =>
        cases e2 : toPs k lh ds with
        | none => simp only [e1, e2] at h; cases h
        | some ps2 =>
          simp only [e1, e2] at h
          cases h
          exact .cons (toP_ok hr r1 e1) (toPs_ok hr r2 e2)
end
end
section
variable {X : Cx}
theorem str_app (a b : List Nat) : ((⟨a.toArray⟩ : Str) ++ (⟨b.toArray⟩ : Str)) = ⟨(a ++ b).toArray⟩ := by
  show (⟨a.toArray ++ b.toArray⟩ : Str) = _
  simp
theorem str_len (a : List Nat) : (⟨a.toArray⟩ : Str).length = a.length := by
  show a.toArray.size = _
  simp
theorem opm_add : OpM X (binaryOp .Add) dAdd := by
  refine ⟨_, op_add.or (op_add_str.or (op_catA.or op_cat)), fun W σ φ lh H x y v w Q hr rx ry q => ?_⟩
  unfold dAdd at q
  split at q
  · cases rx; cases ry
    exact .inl ⟨_, _, rfl, rfl, wp_ok q (.refl hr) (.int _)⟩
  · rename_i a b
    cases rx; cases ry
    split at q
    · rename_i c
      refine .inr (.inl ⟨_, _, rfl, rfl, by rw [str_len, str_len]; exact sz_le c, ?_⟩)
      rw [str_app]
      exact wp_ok q (.refl hr) (.str _)
    · exact q.elim
  · rename_i a b
    obtain ⟨p, vs, rfl, h1, r1⟩ := rx.tup_inv
    obtain ⟨p2, vs2, rfl, h2, r2⟩ := ry.tup_inv
    split at q
    · rename_i c
      have e1 := r1.len
      have e2 := r2.len
      refine .inr (.inr (.inl ⟨p, p2, vs, vs2, rfl, rfl, h1, h2, sz_le (by omega), fun e => ?_, fun e e' => ?_, fun e e' p hp => ?_⟩))
      · have : a = [] := List.eq_nil_of_length_eq_zero (by rw [e1, e]; rfl)
        subst this
        exact wp_ok q (.refl hr) ry
      · have : b = [] := List.eq_nil_of_length_eq_zero (by rw [e2, e']; rfl)
        subst this
        rw [List.append_nil] at q
        exact wp_ok q (.refl hr) rx
      · exact wp_newT q hr hp (r1.app r2)
    · exact q.elim
  · rename_i i j
    obtain ⟨rfl, _⟩ := rx.ref_inv
    obtain ⟨rfl, _⟩ := ry.ref_inv
    split at q
    · rename_i a b ea eb
      obtain ⟨vs, hv, r1⟩ := hr.lst ea
      obtain ⟨ws, hw, r2⟩ := hr.lst eb
      split at q
      · rename_i c
        have e1 := r1.len
        have e2 := r2.len
        exact .inr (.inr (.inr ⟨_, _, vs, ws, rfl, rfl, hv, hw, sz_le (by omega), fun p hp => wp_newL q hr hp (r1.app r2)⟩))
      · exact q.elim
    · exact q.elim
  · exact q.elim
theorem opm_sub : OpM X (binaryOp .Sub) dSub := by
  refine ⟨_, op_sub, fun W σ φ lh H x y v w Q hr rx ry q => ?_⟩
  unfold dSub at q
  split at q
  · cases rx; cases ry
    exact ⟨_, _, rfl, rfl, wp_ok q (.refl hr) (.int _)⟩
  · exact q.elim
theorem opm_mul : OpM X (binaryOp .Mult) dMul := by
  refine ⟨_, op_mul.or op_mulW, fun W σ φ lh H x y v w Q hr rx ry q => ?_⟩
  unfold dMul at q
  split at q
  · rename_i a b
    cases rx; cases ry
    split at q
    · rename_i c
      unfold mulOk at c
      rw [Bool.or_eq_true, decide_eq_true_eq, decide_eq_true_eq] at c
      rcases c with c | c
      · exact .inl ⟨_, _, rfl, rfl, .inr ⟨by omega, by omega⟩, wp_ok q (.refl hr) (.int _)⟩
      · exact .inr ⟨_, _, rfl, rfl, c, wp_ok q (.refl hr) (.int _)⟩
    · exact q.elim
  · exact q.elim
theorem opm_div : OpM X (binaryOp .FloorDiv) dDiv := by
  refine ⟨_, op_fdivW, fun W σ φ lh H x y v w Q hr rx ry q => ?_⟩
  unfold dDiv at q
  split at q
  · cases rx; cases ry
    split at q
    · rename_i c
      exact ⟨_, _, rfl, rfl, c, wp_ok q (.refl hr) (.int _)⟩
    · exact q.elim
  · exact q.elim
theorem opm_mod : OpM X (binaryOp .Mod) dMod := by
  refine ⟨_, op_mod, fun W σ φ lh H x y v w Q hr rx ry q => ?_⟩
  unfold dMod at q
  split at q
  · cases rx; cases ry
    split at q
    · rename_i c
      exact ⟨_, _, rfl, rfl, c, wp_ok q (.refl hr) (.int _)⟩
    · exact q.elim
  · exact q.elim
theorem opm_pow : OpM X (binaryOp .Pow) dPow := by
  refine ⟨_, op_pow, fun W σ φ lh H x y v w Q hr rx ry q => ?_⟩
  unfold dPow at q
  split at q
  · cases rx; cases ry
    split at q
    · rename_i c
      exact ⟨_, _, rfl, rfl, c, wp_ok q (.refl hr) (.int _)⟩
    · exact q.elim
  · exact q.elim
theorem opm_lt : OpM X (compareOp .Lt) dLt := by
  refine ⟨_, op_lt.or op_lt_str, fun W σ φ lh H x y v w Q hr rx ry q => ?_⟩
  unfold dLt at q
  split at q
  · cases rx; cases ry
    exact .inl ⟨_, _, rfl, rfl, wp_ok q (.refl hr) (.bl _)⟩
  · cases rx; cases ry
    exact .inr ⟨_, _, rfl, rfl, wp_ok q (.refl hr) (.bl _)⟩
  · exact q.elim
theorem opm_le : OpM X (compareOp .LtE) dLe := by
  refine ⟨_, op_le.or op_le_str, fun W σ φ lh H x y v w Q hr rx ry q => ?_⟩
  unfold dLe at q
  split at q
  · cases rx; cases ry
    exact .inl ⟨_, _, rfl, rfl, wp_ok q (.refl hr) (.bl _)⟩
  · cases rx; cases ry
    exact .inr ⟨_, _, rfl, rfl, wp_ok q (.refl hr) (.bl _)⟩
  · exact q.elim
theorem opm_gt : OpM X (compareOp .Gt) dGt := by
  refine ⟨_, op_gt.or op_gt_str, fun W σ φ lh H x y v w Q hr rx ry q => ?_⟩
  unfold dGt at q
  split at q
  · cases rx; cases ry
    exact .inl ⟨_, _, rfl, rfl, wp_ok q (.refl hr) (.bl _)⟩
  · cases rx; cases ry
    exact .inr ⟨_, _, rfl, rfl, wp_ok q (.refl hr) (.bl _)⟩
  · exact q.elim
theorem opm_ge : OpM X (compareOp .GtE) dGe := by
  refine ⟨_, op_ge.or op_ge_str, fun W σ φ lh H x y v w Q hr rx ry q => ?_⟩
  unfold dGe at q
  split at q
  · cases rx; cases ry
    exact .inl ⟨_, _, rfl, rfl, wp_ok q (.refl hr) (.bl _)⟩
  · cases rx; cases ry
    exact .inr ⟨_, _, rfl, rfl, wp_ok q (.refl hr) (.bl _)⟩
  · exact q.elim
theorem isN_ok {K : PySem.W.Frag} {φ : Nat → Addr} {n : Nat} {H : Hp} {d : D} {v : V} (r : RD K φ n H d v) : decide (v = V.non) = dIsN d := by
  cases r <;> first | rfl | exact decide_eq_false (fun z => nomatch z)
theorem opm_is : OpM X (compareOp .Is) dIs := by
  refine ⟨_, op_isN, fun W σ φ lh H x y v w Q hr rx ry q => ?_⟩
  unfold dIs at q
  split at q
  · cases ry
    refine ⟨rfl, ?_⟩
    rw [isN_ok rx]
    exact wp_ok q (.refl hr) (.bl _)
  · exact q.elim
theorem opm_isNot : OpM X (compareOp .IsNot) dIsNot := by
  refine ⟨_, op_notN, fun W σ φ lh H x y v w Q hr rx ry q => ?_⟩
  unfold dIsNot at q
  split at q
  · cases ry
    refine ⟨rfl, ?_⟩
    rw [isN_ok rx]
    exact wp_ok q (.refl hr) (.bl _)
  · exact q.elim
theorem flD_ok {K : PySem.W.Frag} {φ : Nat → Addr} {n : Nat} {H : Hp} {d : D} {v : V} (r : RD K φ n H d v) : flatV v = flD d := by
  cases r <;> rfl
theorem flDs_ok {K : PySem.W.Frag} {φ : Nat → Addr} {n : Nat} {H : Hp} : ∀ {ds : List D} {vs : List V}, RDs K φ n H ds vs → vs.all flatV = ds.all flD
  | _, _, .nil => rfl
  | _, _, .cons r rs => by rw [List.all_cons, List.all_cons, flD_ok r, flDs_ok rs]
theorem str_inj {a b : List Nat} : ((⟨a.toArray⟩ : Str) = ⟨b.toArray⟩) ↔ a = b := by
  constructor
  · intro h
    have : a.toArray = b.toArray := congrArg Str.cps h
    simpa using this
  · rintro rfl; rfl
theorem eqF_ok {K : PySem.W.Frag} {φ : Nat → Addr} {n : Nat} {H : Hp} {d e : D} {v w : V} (r : RD K φ n H d v) (s : RD K φ n H e w) : eqV v w = eqF d e := by
  cases r <;> cases s <;> first
    | rfl
    | (show ((⟨_⟩ : Str) == ⟨_⟩) = (_ == _)
       rw [Bool.eq_iff_iff, beq_iff_eq, beq_iff_eq]
       exact str_inj)
theorem inV_ok {K : PySem.W.Frag} {φ : Nat → Addr} {n : Nat} {H : Hp} {d : D} {v : V} (r : RD K φ n H d v) : ∀ {ds : List D} {vs : List V}, RDs K φ n H ds vs → inV v vs = ds.any fun y => eqF y d
  | _, _, .nil => rfl
  | _, _, .cons q qs => by
    have e1 := eqF_ok q r
    have e2 := inV_ok r qs
    unfold inV at e2 ⊢
    rw [List.any_cons, List.any_cons, e1, e2]
theorem opm_in : OpM X (compareOp .In) dIn := by
  refine ⟨_, op_in_sign.or op_in_seq, fun W σ φ lh H x y v w Q hr rx ry q => ?_⟩
  unfold dIn at q
  split at q
  · cases rx; cases ry
    refine .inl ⟨_, _, rfl, rfl, ?_⟩
    exact wp_ok q (.refl hr) (by simpa using .bl _)
  · split at q
    · rename_i xs e
      obtain ⟨a, vs, rfl, hq, rs⟩ := seqD_ok hr ry e
      split at q
      · rename_i c
        rw [Bool.and_eq_true] at c
        refine .inr ⟨a, vs, rfl, hq, (flD_ok rx).trans c.1, (flDs_ok rs).trans c.2, ?_⟩
        simp only [Bool.false_eq_true, if_false]
        rw [inV_ok rx rs]
        exact wp_ok q (.refl hr) (.bl _)
      · exact q.elim
    · exact q.elim
theorem opm_notIn : OpM X (compareOp .NotIn) dNotIn := by
  refine ⟨_, op_notIn_sign.or op_notIn_seq, fun W σ φ lh H x y v w Q hr rx ry q => ?_⟩
  unfold dNotIn at q
  split at q
  · cases rx; cases ry
    refine .inl ⟨_, _, rfl, rfl, ?_⟩
    exact wp_ok q (.refl hr) (by simpa using .bl _)
  · split at q
    · rename_i xs e
      obtain ⟨a, vs, rfl, hq, rs⟩ := seqD_ok hr ry e
      split at q
      · rename_i c
        rw [Bool.and_eq_true] at c
        refine .inr ⟨a, vs, rfl, hq, (flD_ok rx).trans c.1, (flDs_ok rs).trans c.2, ?_⟩
        simp only [if_true]
        rw [inV_ok rx rs]
        exact wp_ok q (.refl hr) (.bl _)
      · exact q.elim
    · exact q.elim
theorem dEqB_ok {K : PySem.W.Frag} {mg : Str → Option Value} {φ : Nat → Addr} {lh : LH} {H : Hp} {fu : Nat} {d e : D} {v w : V} {b : Bool} (hr : HR K mg φ lh H) (r : RD K φ lh.length H d v) (s : RD K φ lh.length H e w) (h : dEqB fu d e lh = some b) :
    (scal v w = true ∧ decide (v = w) = b) ∨ ∃ p q, Dp K H v p ∧ Dp K H w q ∧ SeqAt.shaped p = true ∧ SeqAt.shaped q = true ∧ PyData.eqv p q = b := by
  unfold dEqB at h
  split at h
  all_goals first
    | (cases r; cases s; cases h; exact .inl ⟨rfl, decide_eq_false (fun z => nomatch z)⟩)
    | (cases r; cases s; cases h; exact .inl ⟨rfl, decide_eq_true rfl⟩)
    | (cases r; cases s; cases h
       refine .inl ⟨rfl, ?_⟩
       rw [decide_eq_decide]
       constructor
       · intro z
         first
           | (exact V.int.inj z)
           | (exact V.bl.inj z)
           | (exact str_inj.mp (V.str.inj z))
       · rintro rfl; rfl)
    | skip
  rename_i a b' _ _ _ _ _ _ _ _ _ _ _ _ _ _
  split at h
  · rename_i p q ep eq
    split at h
    · rename_i c
      rw [Bool.and_eq_true] at c
      cases h
      exact .inr ⟨p, q, toP_ok hr r ep, toP_ok hr s eq, c.1, c.2, rfl⟩
    · cases h
  · cases h
theorem opm_eq (hu : X.A.units + 64 < cLine) : OpM X (compareOp .Eq) dEq := by
  refine ⟨_, op_eq.or (op_eqD hu), fun W σ φ lh H x y v w Q hr rx ry q => ?_⟩
  unfold dEq at q
  split at q
  · rename_i b e
    have q' := wp_ok q (.refl hr) (.bl b)
    rcases dEqB_ok hr rx ry e with ⟨h1, h2⟩ | ⟨p, p2, h1, h2, h3, h4, h5⟩
    · exact .inl ⟨h1, by rw [h2]; exact q'⟩
    · exact .inr ⟨p, p2, h1, h2, h3, h4, by rw [h5]; exact q'⟩
  · exact q.elim
theorem opm_ne (hu : X.A.units + 64 < cLine) : OpM X (compareOp .NotEq) dNe := by
  refine ⟨_, op_ne.or (op_neD hu), fun W σ φ lh H x y v w Q hr rx ry q => ?_⟩
  unfold dNe at q
  split at q
  · rename_i b e
    have q' := wp_ok q (.refl hr) (.bl (!b))
    rcases dEqB_ok hr rx ry e with ⟨h1, h2⟩ | ⟨p, p2, h1, h2, h3, h4, h5⟩
    · exact .inl ⟨h1, by rw [h2]; exact q'⟩
    · exact .inr ⟨p, p2, h1, h2, h3, h4, by rw [h5]; exact q'⟩
  · exact q.elim
end
end HM
set_option Elab.async false
set_option linter.all false
set_option maxRecDepth 100000
set_option maxHeartbeats 4000000
namespace HM
open PySem L2 PySem.Spec PyProof.Rows
/-! ### built-ins by values -/
def dLen : MF := fun xs h => match xs with
  | [.str s] => if s.length ≤ 16777216 then .ok (.int s.length) h else .bad
  | [.ref i] => match h[i]? with
    | some (.lst ys) => .ok (.int ys.length) h
    | _ => .bad
  | [.tup ys] => .ok (.int ys.length) h
  | [.scr ys] => .ok (.int ys.length) h
  | _ => .bad
def dOrd : MF := fun xs h => match xs with
  | [.str [c]] => .ok (.int c) h
  | _ => .bad
def dInt : MF := fun xs h => match xs with
  | [.int i] => .ok (.int i) h
  | [.bl b] => .ok (.int (if b then 1 else 0)) h
  | _ => .bad
def dAbs : MF := fun xs h => match xs with
  | [.int i] => .ok (.int (if i < 0 then -i else i)) h
  | _ => .bad
def strI (i : Int) : List Nat := (Str.ofString (toString i)).cps.toList
def dStr : MF := fun xs h => match xs with
  | [.int i] => if i.natAbs.log2 < 1920 then .ok (.str (strI i)) h else .bad
  | _ => .bad
def dList : MF := fun xs h => match xs with
  | [d] => match seqD d h with
    | some ys => .ok (.ref h.length) (h ++ [.lst ys])
    | none => .bad
  | _ => .bad
def dTuple : MF := fun xs h => match xs with
  | [d] => match seqD d h with
    | some ys => .ok (.tup ys) h
    | none => .bad
  | _ => .bad
inductive BT where
  | str | int | bool | list | tuple | dict | none
  deriving DecidableEq
def tyD (d : D) (h : LH) : Option BT := match d with
  | .non => some .none
  | .bl _ => some .bool
  | .int _ => some .int
  | .str _ => some .str
  | .tup _ => some .tuple
  | .scr _ => some .list
  | .ref i => match h[i]? with
    | some (.lst _) => some .list
    | some (.dK _) => some .dict
    | some (.dT _) => some .dict
    | _ => Option.none
  | .exn _ => Option.none
  | .exr _ _ _ => Option.none
def isB (a b : BT) : Bool := match a, b with
  | .bool, .int => true
  | a, b => decide (a = b)
def mIsI (b : BT) (a : M D) : M D := fun e h => (a e h).bind fun d h1 => match tyD d h1 with
  | some t => .ok (.bl (isB t b)) h1
  | Option.none => .bad
def btName : BT → String
  | .str => "str" | .int => "int" | .bool => "bool" | .list => "list" | .tuple => "tuple" | .dict => "dict" | .none => "NoneType"
section
variable {X : Cx} {W : WX} {e : Expr} {ma : M D}
theorem callm_of {g : Value} {f : MF} {r : List V → Hp → VK → Prop} (h : CallR X g r) (k : ∀ W σ φ lh H xs vs Q, HR X.K X.mg φ lh H → RDs X.K φ lh.length H xs vs → wp X.K X.mg W σ (RD X.K) (f xs lh) φ lh H Q → r vs H Q) : CallM X g f := ⟨r, h, k⟩
theorem RDs.one {K : PySem.W.Frag} {φ : Nat → Addr} {n : Nat} {H : Hp} {d : D} {vs : List V} (r : RDs K φ n H [d] vs) : ∃ v, vs = [v] ∧ RD K φ n H d v := by
  cases r with
  | cons r rn => cases rn; exact ⟨_, rfl, r⟩
theorem cm_len : CallM X (.builtin "len") dLen := by
  refine callm_of call_len fun W σ φ lh H xs vs Q hr rs q => ?_
  unfold dLen at q
  split at q
  · obtain ⟨v, rfl, r⟩ := rs.one
    cases r
    split at q
    · rename_i s c
      exact ⟨_, _, rfl, ⟨by rw [str_len]; exact sz_le c, rfl⟩, by rw [str_len]; exact wp_ok q (.refl hr) (.int _)⟩
    · exact q.elim
  · obtain ⟨v, rfl, r⟩ := rs.one
    obtain ⟨rfl, hi⟩ := r.ref_inv
    split at q
    · rename_i ys ey
      obtain ⟨ws, hw, r2⟩ := hr.lst ey
      exact ⟨_, _, rfl, .inl ⟨_, SqL.of hw, rfl⟩, by rw [← r2.len]; exact wp_ok q (.refl hr) (.int _)⟩
    · exact q.elim
  · obtain ⟨v, rfl, r⟩ := rs.one
    obtain ⟨a, ws, rfl, hq, r2⟩ := r.tup_inv
    exact ⟨_, _, rfl, .inr ⟨_, hq, rfl⟩, by rw [← r2.len]; exact wp_ok q (.refl hr) (.int _)⟩
  · obtain ⟨v, rfl, r⟩ := rs.one
    obtain ⟨a, rfl, hq⟩ := r.scr_inv
    exact ⟨_, _, rfl, .inl ⟨_, hq, rfl⟩, by rw [List.length_map]; exact wp_ok q (.refl hr) (.int _)⟩
  · exact q.elim
theorem cm_int : CallM X (.type "int") dInt := by
  refine callm_of call_int1 fun W σ φ lh H xs vs Q hr rs q => ?_
  unfold dInt at q
  split at q
  · obtain ⟨v, rfl, r⟩ := rs.one
    cases r
    exact .inl ⟨_, rfl, wp_ok q (.refl hr) (.int _)⟩
  · obtain ⟨v, rfl, r⟩ := rs.one
    cases r
    exact .inr ⟨_, rfl, wp_ok q (.refl hr) (.int _)⟩
  · exact q.elim
theorem cm_abs : CallM X (.builtin "abs") dAbs := by
  refine callm_of call_abs fun W σ φ lh H xs vs Q hr rs q => ?_
  unfold dAbs at q
  split at q
  · obtain ⟨v, rfl, r⟩ := rs.one
    cases r
    exact ⟨_, rfl, wp_ok q (.refl hr) (.int _)⟩
  · exact q.elim
theorem rd_str {K : PySem.W.Frag} {φ : Nat → Addr} {n : Nat} {H : Hp} (x : Str) : RD K φ n H (.str x.cps.toList) (.str x) := by
  have r := RD.str (K := K) (φ := φ) (n := n) (H := H) x.cps.toList
  rw [str_eta] at r
  exact r
theorem cm_str : CallM X (.type "str") dStr := by
  refine callm_of call_str_int fun W σ φ lh H xs vs Q hr rs q => ?_
  unfold dStr at q
  split at q
  · obtain ⟨v, rfl, r⟩ := rs.one
    cases r
    split at q
    · rename_i c
      exact ⟨_, rfl, c, wp_ok q (.refl hr) (rd_str _)⟩
    · exact q.elim
  · exact q.elim
theorem cm_tuple : CallM X (.type "tuple") dTuple := by
  refine callm_of call_tuple_of fun W σ φ lh H xs vs Q hr rs q => ?_
  unfold dTuple at q
  split at q
  · obtain ⟨v, rfl, r⟩ := rs.one
    split at q
    · rename_i ys e
      obtain ⟨a, ws, rfl, hq, r2⟩ := seqD_ok hr r e
      refine ⟨a, ws, rfl, ?_⟩
      rcases hq with hq | hq
      · exact .inl ⟨hq, fun l hl => wp_newT q hr hl r2⟩
      · exact .inr ⟨hq, wp_ok q (.refl hr) (.tup hq r2)⟩
    · exact q.elim
  · exact q.elim
theorem tyD_ok {K : PySem.W.Frag} {mg : Str → Option Value} {φ : Nat → Addr} {lh : LH} {H : Hp} {d : D} {v : V} {t : BT} (hr : HR K mg φ lh H) (r : RD K φ lh.length H d v) (h : tyD d lh = some t) : TyX K H v (.type (btName t)) := by
  unfold tyD at h
  split at h
  · cases h; cases r; exact .base .non
  · cases h; cases r; exact .base (.bl _)
  · cases h; cases r; exact .base (.int _)
  · cases h; cases r; exact .base (.str _)
  · cases h
    obtain ⟨a, vs, rfl, hq, _⟩ := r.tup_inv
    rcases hq with (hq | ⟨o, hq⟩) | ⟨o, its, n, hk, hc, _⟩
    · exact .base (.tup hq)
    · exact .fTuple hq
    · exact .kTuple hk hc
  · cases h
    cases r with
    | scr hs =>
      rcases hs with ⟨o, hs⟩ | ⟨o, its, m, hk, hc, _⟩
      · exact .base (.frz hs)
      · exact .kList hk hc
  · rename_i i
    obtain ⟨rfl, _⟩ := r.ref_inv
    split at h
    · rename_i xs e
      cases h
      obtain ⟨vs, hv, _⟩ := hr.lst e
      exact .base (.lst hv)
    · rename_i xs e
      cases h
      obtain ⟨vs, hv, _⟩ := hr.obj _ _ e
      exact .base (.dK hv)
    · rename_i xs e
      cases h
      obtain ⟨vs, hv, _⟩ := hr.obj _ _ e
      exact .base (.dT hv)
    · cases h
  · cases h
  · cases h
theorem kit_all (a b : BT) (hb : b ≠ .none) : kitB (btName a) (btName b) = some (isB a b) := by
  cases b <;> first
    | exact absurd rfl hb
    | (cases a <;> decide +kernel)
theorem qe_isi (b : BT) {p p2 pos : Pos} (hb : b ≠ .none) (he : QE X W e ma) (hg : Gl X "isinstance") (hm : X.mg "isinstance" = none) (hg2 : Gl X (Str.ofString (btName b))) (hm2 : X.mg (Str.ofString (btName b)) = none)
    (hv2 : bootBuiltins (Str.ofString (btName b)) = some (.type (btName b))) (hn2 : Str.ofString (btName b) ≠ "__name__" := by decide) (hdb2 : (Str.ofString (btName b) == ("__debug__" : Str)) = false := by decide)
    (hs1 : starEach [e, .Name (Str.ofString (btName b)) p2] X.env = (false, eval e X.env) :: starEach [.Name (Str.ofString (btName b)) p2] X.env := by rfl)
    (hs2 : starEach [.Name (Str.ofString (btName b)) p2] X.env = (false, eval (.Name (Str.ofString (btName b)) p2) X.env) :: starEach [] X.env := by rfl)
    (hpl : (backTo pos (starEach [.Name (Str.ofString (btName b)) p2] X.env)).any (·.1) = false := by rfl) :
    QE X W (.Call (.Name "isinstance" p) [e, .Name (Str.ofString (btName b)) p2] [] pos) (mIsI b ma) := by
  have pb : PE X (.Name (Str.ofString (btName b)) p2) (tC (.ty (btName b))) := pe_bltn hg2 hm2 hv2 rfl hn2 hdb2
  refine qe_of (pe_callB call_isi hg hm (by decide +kernel) (pa_cons he (pa_cons pb pa_nil hs2) hs1) (he := hs1) (hpl := hpl)) fun σ φ env lh H Q h1 h2 q => ?_
  refine rd_of h1 h2 (wp_step q fun d lh1 φ1 v H1 p1 r1 q1 => ?_)
  split at q1
  · rename_i t et
    exact ⟨v, .ty (btName b), _, _, isB t b, rfl, .ty _, tyD_ok p1.hr r1 et, kit_ty (kit_all t b hb), wp_ok q1 (.refl p1.hr) (.bl _)⟩
  · exact q1.elim
end
/-! ### subscripts and slices -/
def dIx : D → D → LH → Res D
  | .str s, .int i, h => if s.length ≤ 16777216 then (match atI s i with
    | some c => .ok (.str [c]) h
    | none => .bad) else .bad
  | d, .int i, h => match seqD d h with
    | some xs => (match atI xs i with
      | some x => .ok x h
      | none => .bad)
    | none => .bad
  | _, _, _ => .bad
def mNoP : M (Option Int) := fun _ h => .ok none h
def mPart (a : M D) : M (Option Int) := fun e h => (a e h).bind fun d h1 => match d with
  | .int i => .ok (some i) h1
  | _ => .bad
def cutD {α : Type} (xs : List α) (lo hi : Option Int) : List α := (xs.drop (HT.sIx xs.length 0 lo)).take (HT.sIx xs.length xs.length hi - HT.sIx xs.length 0 lo)
def dSl (d : D) (lo hi : Option Int) (h : LH) : Res D := match d with
  | .str s => if s.length ≤ 16777216 then .ok (.str (cutD s lo hi)) h else .bad
  | .tup xs => .ok (.tup (cutD xs lo hi)) h
  | d => match seqD d h with
    | some xs => .ok (.ref h.length) (h ++ [.lst (cutD xs lo hi)])
    | none => .bad
def mSl (a : M D) (lo hi : M (Option Int)) : M D := fun e h => (a e h).bind fun d h1 => (lo e h1).bind fun l h2 => (hi e h2).bind fun u h3 => dSl d l u h3
abbrev QO (X : Cx) (W : WX) (e : Option Expr) (m : M (Option Int)) : Prop := PO X e (rd X.K X.mg W REq m)
section
variable {X : Cx} {W : WX} {a b : Expr} {pos p2 : Pos} {ma mb : M D} {lo hi : Option Expr} {ml mh : M (Option Int)}
theorem RDs.atI {K : PySem.W.Frag} {φ : Nat → Addr} {n : Nat} {H : Hp} {ds : List D} {vs : List V} {i : Int} {d : D} (r : RDs K φ n H ds vs) (h : L2.atI ds i = some d) : ∃ v, L2.atI vs i = some v ∧ RD K φ n H d v := by
  unfold L2.atI at h ⊢
  rw [r.len] at h
  cases e : ixN vs.length i with
  | none => rw [e] at h; cases h
  | some j =>
    rw [e] at h
    exact r.get h
theorem qe_ix (ha : QE X W a ma) (hb : QE X W b mb) (hs : PlainIx b) : QE X W (.Subscript a b pos) (mOp dIx ma mb) := by
  refine qe_of (pe_ix ix_seq ha hb hs) fun σ φ env lh H Q h1 h2 q => ?_
  refine rd_of h1 h2 (wp_step q fun x lh1 φ1 v H1 p1 r1 q1 => ?_)
  refine rd_of p1.hr (h2.up p1) (wp_step q1 fun y lh2 φ2 w H2 p2 r2 q2 => ?_)
  have r1' := r1.up p2
  unfold dIx at q2
  split at q2
  · cases r1'
    cases r2
    split at q2
    · rename_i s i c
      split at q2
      · rename_i ch e
        exact .inr (.inr ⟨_, i, ch, rfl, rfl, by rw [str_len]; exact sz_le c, by simpa using e, wp_ok q2 (.refl p2.hr) (.str [ch])⟩)
      · exact q2.elim
    · exact q2.elim
  · cases r2
    split at q2
    · rename_i xs e
      obtain ⟨ad, vs, rfl, hq, rs⟩ := seqD_ok p2.hr r1' e
      split at q2
      · rename_i x e2
        obtain ⟨u, eu, ru⟩ := rs.atI e2
        rcases hq with hq | hq
        · exact .inl ⟨ad, vs, _, u, rfl, rfl, hq, eu, wp_ok q2 (.refl p2.hr) ru⟩
        · exact .inr (.inl ⟨ad, vs, _, u, rfl, rfl, hq, eu, wp_ok q2 (.refl p2.hr) ru⟩)
      · exact q2.elim
    · exact q2.elim
  · exact q2.elim
theorem qo_none : QO X W none mNoP := ⟨fun pins s σ H Q I ⟨φ, env, lh, h1, h2, q⟩ => po_none.run pins s σ H Q I (wp_ok q (.refl h1) rfl)⟩
theorem qo_some (h : QE X W a ma) : QO X W (some a) (mPart ma) := by
  refine ⟨fun pins s σ H Q I ⟨φ, env, lh, h1, h2, q⟩ => (po_some h).run pins s σ H Q I ?_⟩
  refine rd_of h1 h2 (wp_step q fun d lh1 φ1 v H1 p1 r1 q1 => ?_)
  cases d with
  | int i => cases r1; exact ⟨i, rfl, wp_ok q1 (.refl p1.hr) rfl⟩
  | _ => exact q1.elim
theorem RDs.cut {K : PySem.W.Frag} {φ : Nat → Addr} {n : Nat} {H : Hp} {ds : List D} {vs : List V} (r : RDs K φ n H ds vs) (lo hi : Option Int) : RDs K φ n H (cutD ds lo hi) (cutV vs lo hi) := by
  unfold cutD cutV
  rw [r.len]
  exact (r.drop _).take _
theorem qe_sl (ha : QE X W a ma) (hl : QO X W lo ml) (hh : QO X W hi mh) : QE X W (.Subscript a (.Slice lo hi none p2) pos) (mSl ma ml mh) := by
  refine qe_of (pe_slice (sl_list.or (sl_tupA.or sl_str)) ha hl hh) fun σ φ env lh H Q h1 h2 q => ?_
  refine rd_of h1 h2 (wp_step q fun x lh1 φ1 v H1 p1 r1 q1 => ?_)
  refine rd_of p1.hr (h2.up p1) (wp_step q1 fun l lh2 φ2 l' H2 p2 r2 q2 => ?_)
  cases r2
  refine rd_of p2.hr ((h2.up p1).up p2) (wp_step q2 fun u lh3 φ3 u' H3 p3 r3 q3 => ?_)
  cases r3
  have r := (r1.up p2).up p3
  unfold dSl at q3
  split at q3
  · cases r
    split at q3
    · rename_i s c
      refine .inr (.inr ⟨_, rfl, by rw [str_len]; exact sz_le c, ?_⟩)
      refine wp_ok q3 (.refl p3.hr) ?_
      have e : cutS ⟨s.toArray⟩ l u = ⟨(cutD s l u).toArray⟩ := by
        unfold cutS cutD
        simp [str_len]
      rw [e]
      exact .str _
    · exact q3.elim
  · rename_i xs
    obtain ⟨ad, vs, rfl, hq, rs⟩ := r.tup_inv
    refine .inr (.inl ⟨ad, vs, rfl, hq, fun c => ?_, fun c p hp => wp_newT q3 p3.hr hp (rs.cut l u)⟩)
    have e : cutD xs l u = xs := by
      unfold cutD
      rw [rs.len, c.1, c.2, List.drop_zero, Nat.sub_zero, ← rs.len, List.take_length]
    rw [e] at q3
    exact wp_ok q3 (.refl p3.hr) (.tup hq rs)
  · rename_i d _ hx
    split at q3
    · rename_i xs e
      obtain ⟨ad, vs, rfl, hq, rs⟩ := seqD_ok p3.hr r e
      rcases hq with hq | hq
      · exact .inl ⟨ad, vs, rfl, hq, fun p hp => wp_newL q3 p3.hr hp (rs.cut l u)⟩
      · cases r with
        | exn => cases e
        | exr => cases e
        | tup => exact absurd rfl (hx _)
        | ref hi =>
          unfold seqD at e
          simp only at e
          split at e
          · rename_i ys el
            cases e
            obtain ⟨ws, hw, rw'⟩ := p3.hr.lst el
            exact .inl ⟨_, ws, rfl, SqL.of hw, fun p hp => wp_newL q3 p3.hr hp (rw'.cut l u)⟩
          · cases e
        | scr hs =>
          cases e
          exact .inl ⟨ad, _, rfl, scrL_ext (Ext.refl _) hs, fun p hp => wp_newL q3 p3.hr hp ((RDs.ints _).cut l u)⟩
    · exact q3.elim
end
end HM
set_option Elab.async false
set_option linter.all false
set_option maxRecDepth 100000
set_option maxHeartbeats 4000000
namespace HM
open PySem L2 PySem.Spec PyProof.Rows
/-! ### methods of built-ins -/
abbrev MM := D → List D → LH → Res D
def isLst (d : D) (h : LH) : Bool := match seqD d h, d with
  | some _, .tup _ => false
  | some _, _ => true
  | none, _ => false
def mMet (ck : D → LH → Bool) (f : MM) (o : M D) (a : M (List D)) : M D := fun e h => (o e h).bind fun x h1 => if ck x h1 then (a e h1).bind fun xs h2 => f x xs h2 else .bad
def isStr (d : D) (_ : LH) : Bool := match d with
  | .str _ => true
  | _ => false
def dAppend : MM := fun x xs h => match x, xs with
  | .ref i, [y] => match h[i]? with
    | some (.lst ys) => if ys.length < 16777216 then .ok .non (h.set i (.lst (ys ++ [y]))) else .bad
    | _ => .bad
  | _, _ => .bad
def strsD : List D → Option (List (List Nat))
  | [] => some []
  | .str s :: r => (strsD r).map fun l => s :: l
  | _ :: _ => none
def dSplit : MM := fun x xs h => match x, xs with
  | .str a, [.str b] => if b ≠ [] ∧ b.all (· < 256) = true ∧ a.length + 2 ≤ 16777216 then .ok (.ref h.length) (h ++ [.lst ((TL.spl b 0 [] a).map D.str)]) else .bad
  | _, _ => .bad
section
variable {X : Cx} {W : WX} {o e : Expr} {es : List Expr} {ma mo : M D} {mas : M (List D)} {apos cpos : Pos}
theorem isLst_ok {K : PySem.W.Frag} {mg : Str → Option Value} {φ : Nat → Addr} {lh : LH} {H : Hp} {d : D} {v : V} (hr : HR K mg φ lh H) (r : RD K φ lh.length H d v) (h : isLst d lh = true) : tyV K "list" v H := by
  unfold isLst at h
  cases d with
  | tup xs => simp only [seqD] at h; cases h
  | scr ns =>
    obtain ⟨a, rfl, hq⟩ := r.scr_inv
    exact .inl ⟨rfl, _, hq⟩
  | ref i =>
    obtain ⟨rfl, _⟩ := r.ref_inv
    cases e : seqD (.ref i) lh with
    | none => rw [e] at h; cases h
    | some xs =>
      unfold seqD at e
      simp only at e
      split at e
      · rename_i ys el
        obtain ⟨vs, hv, _⟩ := hr.lst el
        exact .inl ⟨rfl, _, SqL.of hv⟩
      · cases e
  | _ => simp only [seqD] at h; cases h
def MetM (X : Cx) (id : String) (f : MM) : Prop :=
  ∃ r : V → List V → Hp → VK → Prop, MtR X id r ∧ ∀ W σ φ lh H x xs v vs Q, HR X.K X.mg φ lh H → RD X.K φ lh.length H x v → RDs X.K φ lh.length H xs vs → wp X.K X.mg W σ (RD X.K) (f x xs lh) φ lh H Q → r v vs H Q
theorem qe_bm {T id : String} {name : Str} {f : MM} {ck : D → LH → Bool} (pa : PlainAttrs T) (slot : Slot T name id) (hty : typeOf (.builtin id) = pure (.type "method_descriptor")) (hm : MetM X id f)
    (hck : ∀ φ lh H d v, HR X.K X.mg φ lh H → RD X.K φ lh.length H d v → ck d lh = true → tyV X.K T v H) (ho : QE X W o mo) (ha : QA X W (e :: es) mas)
    (hbase : attributeBase o name X.env (eval o X.env) = eval o X.env := by rfl)
    (hfew : ((backTo cpos (starEach (e :: es) X.env)).all (fun x => !x.1) && (backToKw cpos (keywordEach [] X.env)).all (fun x => x.1.isSome)
      && decide ((e :: es).length + ([] : List Keyword).length + (if ([] : List Keyword).isEmpty then 0 else 1) < 30)) = true := by rfl)
    (hline : (apos.endLine == cpos.line) = true := by rfl) (hs : starEach (e :: es) X.env = (false, eval e X.env) :: starEach es X.env := by rfl) (hplain : (backTo cpos (starEach es X.env)).any (·.1) = false := by rfl) :
    QE X W (.Call (.Attribute o name apos) (e :: es) [] cpos) (mMet ck f mo mas) := by
  obtain ⟨r, h, k⟩ := hm
  refine qe_of (pe_bm pa slot hty h ho ha hbase hfew hline hs hplain) fun σ φ env lh H Q h1 h2 q => ?_
  refine rd_of h1 h2 (wp_step q fun x lh1 φ1 v H1 p1 r1 q1 => ?_)
  split at q1
  · rename_i c
    refine ⟨hck _ _ _ _ _ p1.hr r1 c, ?_⟩
    refine rd_of p1.hr (h2.up p1) (wp_step q1 fun xs lh2 φ2 vs H2 p2 r2 q2 => ?_)
    exact k W σ φ2 lh2 H2 x xs v vs Q p2.hr (r1.up p2) r2 q2
  · exact q1.elim
theorem mm_append : MetM X "list.append" dAppend := by
  refine ⟨_, mt_append, fun W σ φ lh H x xs v vs Q hr rx rs q => ?_⟩
  unfold dAppend at q
  split at q
  · rename_i i y
    obtain ⟨rfl, hi⟩ := rx.ref_inv
    obtain ⟨u, rfl, ru⟩ := rs.one
    split at q
    · rename_i ys e
      obtain ⟨ws, hw, rw'⟩ := hr.lst e
      split at q
      · rename_i c
        refine ⟨_, ws, u, rfl, rfl, hw, by rw [← rw'.len, sizeLine_eq]; exact c, ?_⟩
        have P : Po X.K X.mg φ lh H φ (lh.set i (.lst (ys ++ [y]))) (upd H (φ i) (.lst (ws ++ [u]))) := Po.put hr hi (Wr.lst hw) ⟨_, upd_same, (rw'.app (.cons ru .nil)).mono (Nat.le_refl _) (fun _ _ => rfl) (by
          obtain ⟨w, hw, w1, w2⟩ := Wr.lst hw
          exact Ext.put hw w1 w2)⟩
        exact wp_ok q P .non
      · exact q.elim
    · exact q.elim
  · exact q.elim
theorem qe_append (ho : QE X W o mo) (ha : QE X W e ma) (hbase : attributeBase o "append" X.env (eval o X.env) = eval o X.env := by rfl)
    (hfew : ((backTo cpos (starEach (e :: []) X.env)).all (fun x => !x.1) && (backToKw cpos (keywordEach [] X.env)).all (fun x => x.1.isSome)
      && decide ((e :: []).length + ([] : List Keyword).length + (if ([] : List Keyword).isEmpty then 0 else 1) < 30)) = true := by rfl)
    (hline : (apos.endLine == cpos.line) = true := by rfl) (hs : starEach (e :: []) X.env = (false, eval e X.env) :: starEach [] X.env := by rfl) (hplain : (backTo cpos (starEach [] X.env)).any (·.1) = false := by rfl) :
    QE X W (.Call (.Attribute o "append" apos) [e] [] cpos) (mMet isLst dAppend mo (mCons ma mNil)) :=
  qe_bm PySem.F.plainAttrs_list PySem.F.slot_list_append PySem.F.type_list_append mm_append (fun _ _ _ _ _ => isLst_ok) ho (qa_cons ha qa_nil hs) hbase hfew hline hs hplain
theorem strsD_ok {K : PySem.W.Frag} {φ : Nat → Addr} {n : Nat} {H : Hp} : ∀ {ds : List D} {vs : List V} {ss : List (List Nat)}, RDs K φ n H ds vs → strsD ds = some ss → vs = (ss.map fun s => (⟨s.toArray⟩ : Str)).map V.str
  | [], _, ss, r, h => by
    cases r
    cases h
    rfl
  | d :: ds, vs, ss, r, h => by
    cases r with
    | cons r1 r2 =>
      cases d with
      | str s =>
        unfold strsD at h
        cases e : strsD ds with
        | none => rw [e] at h; cases h
        | some l =>
          rw [e] at h
          cases h
          cases r1
          rw [strsD_ok r2 e]
          rfl
      | _ => cases h
theorem tl_mk (s : List Nat) : TL.tl ⟨s.toArray⟩ = s := by
  show s.toArray.toList = s
  simp
theorem mm_split : MetM X "str.split" dSplit := by
  refine ⟨_, L2.mt_split, fun W σ φ lh H x xs v vs Q hr rx rs q => ?_⟩
  unfold dSplit at q
  split at q
  · rename_i a b
    cases rx
    obtain ⟨u, rfl, ru⟩ := rs.one
    cases ru
    split at q
    · rename_i c
      refine ⟨_, _, rfl, rfl, ?_, by rw [str_len]; exact sz_le c.2.2, fun p hp => ?_⟩
      · rw [str_len]
        cases b with
        | nil => exact absurd rfl c.1
        | cons y ys => rfl
      · have e : (Txt.split ⟨a.toArray⟩ ⟨b.toArray⟩).map V.str = ((TL.spl b 0 [] a).map fun s => V.str ⟨s.toArray⟩) := by
          have := TL.split_spl ⟨a.toArray⟩ ⟨b.toArray⟩ (by rw [tl_mk]; exact c.1) (TL.kind_ok (by
            show b.toArray.all _ = true
            simpa using c.2.1))
          rw [tl_mk, tl_mk] at this
          rw [← this, List.map_map]
          exact List.map_congr_left fun s _ => by
            show V.str s = V.str ⟨(TL.tl s).toArray⟩
            rw [TL.mk_tl]
        rw [e]
        refine wp_newL q hr hp ?_
        generalize TL.spl b 0 [] a = l
        induction l with
        | nil => exact .nil
        | cons y ys ih => exact .cons (.str y) ih
    · exact q.elim
  · exact q.elim
theorem qe_split (ho : QE X W o mo) (he : QE X W e ma) (hs : starEach [e] X.env = [(false, eval e X.env)] := by rfl) (hbase : attributeBase o "split" X.env (eval o X.env) = eval o X.env := by rfl) (hline : (apos.endLine == cpos.line) = true := by rfl) :
    QE X W (.Call (.Attribute o "split" apos) [e] [] cpos) (mMet isStr dSplit mo (mCons ma mNil)) := by
  obtain ⟨r, h, k⟩ := mm_split (X := X)
  refine qe_of (pe_m1 PySem.F.slot_str_split PySem.F.type_str_split h ho he hs hbase hline) fun σ φ env lh H Q h1 h2 q => ?_
  refine rd_of h1 h2 (wp_step q fun x lh1 φ1 v H1 p1 r1 q1 => ?_)
  split at q1
  · rename_i c
    have hst : ∃ a, v = .str a := by
      cases x with
      | str s => cases r1; exact ⟨_, rfl⟩
      | _ => cases c
    refine ⟨hst, ?_⟩
    have q1' : wp X.K X.mg W σ (RD X.K) ((ma env lh1).bind fun y h2 => dSplit x [y] h2) φ1 lh1 H1 Q := by
      revert q1
      unfold mCons
      cases ma env lh1 with
      | ok y h2 => exact fun z => z
      | exc y h2 => exact fun z => z
      | bad => exact fun z => z
    refine rd_of p1.hr (h2.up p1) (wp_step q1' fun y lh2 φ2 w H2 p2 r2 q2 => ?_)
    exact k W σ φ2 lh2 H2 x [y] v [w] Q p2.hr (r1.up p2) (.cons r2 .nil) q2
  · exact q1.elim
end
/-! ### xs[i] = e; a, b = e -/
def setL (o i v : D) (h : LH) : Option LH := match o, i with
  | .ref r, .int k => match h[r]? with
    | some (.lst xs) => match ixN xs.length k with
      | some j => some (h.set r (.lst (xs.set j v)))
      | none => none
    | _ => none
  | _, _ => none
def sSetL (o i : M D) (a : M D) : MS := fun e h => rsBind (a e h) e fun v h1 => rsBind (o e h1) e fun x h2 => rsBind (i e h2) e fun y h3 => match setL x y v h3 with
  | some h4 => .next e h4
  | none => .bad
def sTup (is : List Nat) (a : M D) : MS := fun e h => rsBind (a e h) e fun v h1 => match tnSet (.tp is) v e with
  | some e1 => .next e1 h1
  | none => .bad
section
variable {X : Cx} {W : WX} {o i e : Expr} {es : List Expr} {mo mi ma : M D} {pos pos2 : Pos}
theorem qs_tup {k : Nat} {is : List Nat} (he : QE X W e ma) (hg : PG X (.Tuple es k pos2) (gN X.K (.tp is)))
    (hs : swapsWithSole [.Tuple es k pos2] e pos.line X.env = pure false := by rfl) (hw : swappedStores [.Tuple es k pos2] e X.env = pure none := by rfl)
    (h1 : (assignEach [.Tuple es k pos2] X.env).map (·.2) = [assign (.Tuple es k pos2) X.env] := by rfl) : QS X W (.Assign [.Tuple es k pos2] e pos) (sTup is ma) := by
  refine psI (ps_asg he hg hs hw h1) fun D σ H ⟨φ, env, lh, g1, g2, q⟩ => ?_
  have q' : wps X.K X.mg W (sTup is ma env lh) φ lh H D := q
  refine rd_of g1 g2 (wps_step g2 q' fun v lh1 φ1 vv H1 p1 r1 q1 => ?_)
  split at q1
  · rename_i e1 et
    exact gN_ok et (g2.up p1) r1 fun σ' _ r' => q1 φ1 σ' H1 (.refl p1.hr) r'
  · exact q1.elim
end
/-! ### truth of any value -/
def truD (d : D) (h : LH) : Option Bool := match d with
  | .non => some false
  | .bl b => some b
  | .int i => some (i != 0)
  | .str s => if s.length ≤ 16777216 then some ((s.length : Int) != 0) else none
  | .tup xs => some (!xs.isEmpty)
  | .scr xs => some (!xs.isEmpty)
  | .ref i => match h[i]? with
    | some (.lst xs) => some (!xs.isEmpty)
    | some (.dK xs) => some (!xs.isEmpty)
    | _ => none
  | .exn _ => none
  | .exr _ _ _ => none
def mTru (a : M D) : M Bool := fun e h => (a e h).bind fun d h1 => match truD d h1 with
  | some b => .ok b h1
  | none => .bad
section
variable {X : Cx} {W : WX} {e : Expr} {ma : M D}
theorem RDs.emp {K : PySem.W.Frag} {φ : Nat → Addr} {n : Nat} {H : Hp} {ds : List D} {vs : List V} (r : RDs K φ n H ds vs) : vs.isEmpty = ds.isEmpty := by
  cases r <;> rfl
theorem RKs.emp {K : PySem.W.Frag} {φ : Nat → Addr} {n : Nat} {H : Hp} {ds vs} (r : RKs K φ n H ds vs) : vs.isEmpty = ds.isEmpty := by
  cases r <;> rfl
theorem truD_ok {K : PySem.W.Frag} {mg : Str → Option Value} {φ : Nat → Addr} {lh : LH} {H : Hp} {d : D} {v : V} {b : Bool} (hr : HR K mg φ lh H) (r : RD K φ lh.length H d v) (h : truD d lh = some b) : TruV K v H b := by
  unfold truD at h
  split at h
  · cases h; cases r; rfl
  · cases h; cases r; rfl
  · cases h; cases r; rfl
  · cases r
    split at h
    · rename_i c
      cases h
      exact ⟨by rw [str_len]; exact sz_le c, by rw [str_len]⟩
    · cases h
  · cases h
    obtain ⟨a, vs, rfl, hq, rs⟩ := r.tup_inv
    exact .inr (.inl ⟨vs, hq, by rw [rs.emp]⟩)
  · cases h
    obtain ⟨a, rfl, hq⟩ := r.scr_inv
    exact .inl ⟨_, hq, by cases ‹List Int› <;> rfl⟩
  · obtain ⟨rfl, _⟩ := r.ref_inv
    split at h
    · rename_i xs e
      cases h
      obtain ⟨vs, hv, rs⟩ := hr.lst e
      exact .inl ⟨vs, SqL.of hv, by rw [rs.emp]⟩
    · rename_i xs e
      cases h
      obtain ⟨vs, hv, rs⟩ := hr.obj _ _ e
      exact .inr (.inr ⟨vs, hv, by rw [rs.emp]⟩)
    · cases h
  · cases h
  · cases h
theorem qt_tru (ha : QE X W e ma) (he : ∀ whole, isTrue e X.env whole = (do let v ← whole; standAt e.pos; holding [v] (truthy v)) := by intro _; rfl) : QT X W e (mTru ma) := by
  refine qt_of (pt_truth ha he) fun σ φ env lh H Q h1 h2 q => ?_
  refine rd_of h1 h2 (wp_step q fun x lh1 φ1 v H1 p1 r1 q1 => ?_)
  split at q1
  · rename_i b eb
    exact ⟨b, truD_ok p1.hr r1 eb, wp_ok q1 (.refl p1.hr) rfl⟩
  · exact q1.elim
end
end HM
set_option Elab.async false
set_option linter.all false
set_option maxRecDepth 100000
set_option maxHeartbeats 4000000
namespace HM
open PySem L2 PySem.Spec PyProof.Rows
def iAny (a : M D) : M (IT × Nat) := fun e h => (a e h).bind fun d h1 => match d with
  | .tup xs => .ok (itL xs, xs.length) h1
  | .scr ns => .ok (itL (ns.map D.int), ns.length) h1
  | .str s => .ok (itL (s.map fun c => D.str [c]), s.length) h1
  | .ref i => match h1[i]? with
    | some (.lst xs) => .ok (itO i, xs.length) h1
    | _ => .bad
  | _ => .bad
section
variable {X : Cx} {W : WX} {tg l : Expr} {ma : M D}
theorem itok_str {K : PySem.W.Frag} {mg : Str → Option Value} {φ : Nat → Addr} {n : Nat} {H : Hp} (s : List Nat) : ItOk K mg φ n H (itL (s.map fun c => D.str [c]), s.length) (Its ⟨s.toArray⟩) := by
  refine ⟨fun φ' lh' H' hn ag ex hr j hj => ?_, fun φ' lh' H' hn ag ex hr j d hj => ?_⟩
  · have := List.getElem?_eq_none_iff.mp (Option.some.inj hj)
    show s.toArray.size ≤ j
    simpa using this
  · obtain ⟨c, ec, rfl⟩ := RDs.chars (K := K) (φ := φ) (n := 0) (H := H) (Option.some.inj hj)
    have hlt : j < s.toArray.size := by
      have := lt_of_get ec
      simpa using this
    refine ⟨hlt, fun x H'' ⟨e1, c', e2, e3⟩ => ⟨e1, ?_⟩⟩
    have : s[j]? = some c' := by simpa using e2
    rw [ec] at this
    cases this
    subst e3
    exact .str [c]
theorem qi_any (hl : QE X W l ma) : QI X W tg l (iAny ma) := by
  refine ⟨fun pins s σ H R I ⟨φ, env, lh, h1, h2, q⟩ => ?_⟩
  refine thn (hl.run pins s σ H (fun v H1 => (∃ a, v = .ref a ∧ (∃ xs, SqL X.K H1 a xs) ∧ R (Itl X.K a) H1) ∨ (∃ a, v = .ref a ∧ (∃ xs, SqT X.K H1 a xs) ∧ R (Itt X.K a) H1) ∨ (∃ x, v = .str x ∧ R (Its x) H1)) I
    (rd_of h1 h2 (wp_step q fun d lh1 φ1 v H1 p1 r1 q1 => ?_))) fun v s1 ⟨x, H1, I1, r1, q1⟩ => ?_
  · cases d with
    | scr ns =>
      cases r1 with
      | scr hs => exact .inl ⟨_, rfl, ⟨_, scrL_ext (Ext.refl _) hs⟩, wp_ok q1 (.refl p1.hr) (itok_scr hs)⟩
    | ref i =>
      obtain ⟨e1, hi⟩ := r1.ref_inv
      cases el : lh1[i]? with
      | none => simp only [el] at q1; exact q1.elim
      | some o =>
        cases o with
        | lst xs =>
          simp only [el] at q1
          obtain ⟨vs, hv, r⟩ := p1.hr.lst el
          exact .inl ⟨_, e1, ⟨_, SqL.of hv⟩, wp_ok q1 (.refl p1.hr) (itok_obj hi)⟩
        | _ => simp only [el] at q1; exact q1.elim
    | tup xs =>
      obtain ⟨a, vs, e1, hq, r⟩ := r1.tup_inv
      exact .inr (.inl ⟨_, e1, ⟨_, hq⟩, wp_ok q1 (.refl p1.hr) (itok_tup hq r)⟩)
    | str s =>
      exact .inr (.inr ⟨_, r1.str_inv, wp_ok q1 (.refl p1.hr) (itok_str s)⟩)
    | _ => exact q1.elim
  · rcases q1 with ⟨a, e, ⟨xs, hq⟩, q1⟩ | ⟨a, e, ⟨xs, hq⟩, q1⟩ | ⟨y, e, q1⟩
    · subst e
      cases r1
      obtain ⟨its, rv, p, hz⟩ := I1.list hq
      refine wpAny_pyIter_list p.isList ?_
      refine ⟨s1.heap.objs.size, [s1.heap.objs.size], _, _, H1, rfl, I1.kept (t' := s1.toks) fun b o e => Heap.get?_push_of_some _ e, turn_list a _, ⟨_, Heap.get?_push_size _ rfl, rfl, rfl⟩, fun b hb => ?_, q1⟩
      have e : b = s1.heap.objs.size := by simpa using hb
      subst e
      exact I1.fpOk (Nat.le_refl _) (I1.hok.fresh (Nat.le_refl _))
    · subst e
      cases r1
      obtain ⟨its, rv, p, hz⟩ := I1.tuple hq
      refine wpAny_pyIter_tuple (show s1.heap.IsTuple a its.toArray from p) ?_
      refine ⟨s1.heap.objs.size, [s1.heap.objs.size], _, _, H1, rfl, I1.kept (t' := s1.toks) fun b o e => Heap.get?_push_of_some _ e, turn_tuple a _, ⟨_, Heap.get?_push_size _ rfl, rfl, rfl⟩, fun b hb => ?_, q1⟩
      have e : b = s1.heap.objs.size := by simpa using hb
      subst e
      exact I1.fpOk (Nat.le_refl _) (I1.hok.fresh (Nat.le_refl _))
    · subst e
      obtain ⟨t, rfl⟩ := r1
      cases ha : y.cps.all (· < 128)
      · exact wpAny_pyIter_wide ha (pi_one (tk := s1.toks) I1 _ (turn_str _ y t "str_iterator" (.inr rfl)) ⟨_, Heap.get?_push_size _ rfl, rfl, rfl⟩ q1)
      · exact wpAny_pyIter_ascii ha (pi_one (tk := s1.toks) I1 _ (turn_str _ y t "str_ascii_iterator" (.inl rfl)) ⟨_, Heap.get?_push_size _ rfl, rfl, rfl⟩ q1)
end
/-! ### name op= e -/
def sAug (f : D → D → LH → Res D) (i : Nat) (a : M D) : MS := fun e h => match e[i]? with
  | some (some x) => rsBind (a e h) e fun y h1 => rsBind (f x y h1) e fun z h2 => .next (e.set i (some z)) h2
  | _ => .bad
section
variable {X : Cx} {W : WX} {e : Expr} {ma : M D} {pos pos' : Pos}
end
/-! ### the end -/
def LawOk (f : MF) : Prop := ∀ ns : List Int, ns.length ≤ 63 → (∀ z ∈ ns, Builtin.Int.intBits z ≤ 1048576) → ∃ h, f [.scr ns] [] = .ok (.bl true) h
theorem law_end {K : PySem.W.Frag} {mg : Str → Option Value} {f : MF} (L : LawOk f) {H : Hp} {a : Addr} {ns : List Int} (hn : ns.length ≤ 63) (hb : ∀ z ∈ ns, Builtin.Int.intBits z ≤ 1048576) (hO : Only H) (hS : SqL K H a (ns.map V.int)) :
    spM K mg f [.ref a] H (fun v _ => v = .bl true) fun _ _ _ => False := by
  obtain ⟨h, e⟩ := L ns hn hb
  have hs : RD K (fun _ => 0) 0 H (.scr ns) (.ref a) := by
    rcases hS with (hS | ⟨o, hS⟩) | hS
    · rcases hO a with h | ⟨o, xs, h⟩
      · rw [h] at hS; cases hS
      · rw [h] at hS; cases hS
    · exact .scr (.inl ⟨o, hS⟩)
    · exact .scr (.inr hS)
  refine ⟨fun _ => 0, [], [.scr ns], ⟨fun i j hi => absurd hi (Nat.not_lt_zero _), fun i o hi => by simp at hi⟩, .cons hs .nil, ?_⟩
  rw [e]
  intro φ' v H' p r
  cases r
  rfl
end HM
set_option Elab.async false
set_option linter.all false
set_option maxRecDepth 100000
set_option maxHeartbeats 4000000
namespace HM
open PySem L2 PySem.Spec PyProof.Rows
theorem cx_false {P : Program} {w : World} {H : Hp} {s : Shared} {e : Value} {s' : Shared} (h : L2.CX P w [] H s (fun _ _ _ => False) e s') : False := by
  obtain ⟨_, _, _, _, _, _, _, _, _, _, _, _, z⟩ := h
  exact z
theorem walk_M {l : PySem.W.OpenLaw} {k : Nat} {q : Program} {loose : List Str} {XP : (Str → Option Value) → Heap → Prop} {YP : World → Heap → Prop} {d : DefRec} {K : Params → PySem.W.Frag} {f : MF} {x : Str} (L : LawOk f) (hn : l.most = some 63) (hdf : d.params.defaults = []) (hr : Room k callerA)
    (hY : ∀ (w : World) (h : Heap), YP w h → (K w.params).In h)
    (F : ∀ (w : World) (mg : Str → Option Value) (fa : Addr) (h : Heap), (K w.params).In h → h.Ns mainGlobals mg → mg d.name = some (.ref fa) →
      ∃ fd : FuncData, (∀ (s : Shared) (u : Value), BindsTo s fd ⟨[u], []⟩ [(x, u)]) ∧ ∀ base : Heap, (K w.params).In base → base.Ns mainGlobals mg → FnOk l.prog w (K w.params) mg base (L2.CX l.prog w) k fa fd [x] (spM (K w.params) mg f)) :
    PySem.W.WalkO q loose XP YP l.row.toRowW d [] (fun f vs => PySem.call f vs) := by
  refine Att.attach_callB hn hdf fun w s₀ s₁ mg mb fa o pm cd doc a vs ns G Y ho hd hcd hmg hobj hints hlen hbits hg => ?_
  have KX := hY w _ Y
  obtain ⟨fd, hb, hF⟩ := F w mg fa _ KX G.T.g hmg
  exact law_call KX G.T.g G.T.b G.T.builtins G.T.nolimit hg hobj hints (Nat.le_trans hlen (by decide)) hr hF hb (fun H hO hS => law_end L hlen hbits hO hS) fun H e s' h => cx_false h
end HM
set_option Elab.async false
set_option linter.all false
set_option maxRecDepth 100000
set_option maxHeartbeats 4000000
namespace HM
open PySem L2 PySem.Spec PyProof.Rows
open PySem.Builtin PySem.Builtin.Str PySem.Builtin.Int PySem.Builtin.Float
def fx : FormatSpec := { fill := 48, align := 61, sign := none, noNeg0 := false, alt := false, width := some 18, grouping := none, precision := none, type := some 120 }
def hexText (a : Int) : Str := intField' fx (decide (a < 0)) [] ((Nat.toDigits 16 a.natAbs).map fun c => (if (120 : Nat) == 88 then c.toUpper else c).toNat) [] 4
section
variable {prog : Program} {w : World} {A : Around} {E : Value → Shared → Prop} {s : Shared}
end
def dHex : D → LH → Res D := fun d h => match d with
  | .int i => if i.natAbs < 2 ^ 200 then .ok (.str (hexText i).cps.toList) h else .bad
  | _ => .bad
section
variable {X : Cx} {W : WX} {e : Expr} {ma : M D}
end
end HM
set_option Elab.async false
set_option linter.all false
set_option maxRecDepth 100000
set_option maxHeartbeats 4000000
namespace HM
open PySem L2 PySem.Spec PyProof.Rows
/-! ### s.index(c), list(range(..)), x[::-1] -/
section
variable {X : Cx} {W : WX} {o e : Expr} {ma mo : M D} {apos cpos : Pos}
def rgD (a b : Int) : List D := (List.range (b - a).toNat).map fun i => D.int (a + (i : Nat))
def mLRg (a b : M D) : M D := fun e h => (a e h).bind fun x h1 => (b e h1).bind fun y h2 => match x, y with
  | .int i, .int j => if -(2 ^ 62) ≤ i ∧ i < 2 ^ 62 ∧ -(2 ^ 62) ≤ j ∧ j < 2 ^ 62 ∧ (j - i).toNat ≤ 2 ^ 24 then .ok (.ref h2.length) (h2 ++ [.lst (rgD i j)]) else .bad
  | _, _ => .bad
theorem rgD_rel {K : PySem.W.Frag} {φ : Nat → Addr} {n : Nat} {H : Hp} (a b : Int) : RDs K φ n H (rgD a b) (rgV a b) := by
  unfold rgD rgV
  generalize List.range (b - a).toNat = l
  induction l with
  | nil => exact .nil
  | cons x l ih => exact .cons (.int _) ih
theorem qe_listRg {a b : Expr} {mb : M D} {p p2 pos pos2 : Pos} (hc : X.calm = true) (hg : Gl X "list") (hm : X.mg "list" = none) (hg2 : Gl X "range") (hm2 : X.mg "range" = none) (ha : QE X W a ma) (hb : QE X W b mb)
    (na : starEach [.Call (.Name "range" p2) [a, b] [] pos2] X.env = (false, eval (.Call (.Name "range" p2) [a, b] [] pos2) X.env) :: starEach [] X.env := by rfl)
    (nb : starEach [a, b] X.env = (false, eval a X.env) :: starEach [b] X.env := by rfl) (nc : starEach [b] X.env = (false, eval b X.env) :: starEach [] X.env := by rfl) (hp : (backTo pos2 (starEach [b] X.env)).any (·.1) = false := by rfl) :
    QE X W (.Call (.Name "list" p) [.Call (.Name "range" p2) [a, b] [] pos2] [] pos) (mLRg ma mb) := by
  refine qe_of (pe_listRg hc hg hm (prg_2 hg2 hm2 ha hb nb nc hp) na) fun σ φ env lh H Q h1 h2 q => ?_
  refine rd_of h1 h2 (wp_step q fun x lh1 φ1 v H1 p1 r1 q1 => ?_)
  refine rd_of p1.hr (h2.up p1) (wp_step q1 fun y lh2 φ2 w H2 p2 r2 q2 => ?_)
  have r1' := r1.up p2
  split at q2
  · cases r1'
    cases r2
    split at q2
    · rename_i i j c
      exact ⟨i, j, rfl, rfl, c, fun z hz => wp_newL q2 p2.hr hz (rgD_rel i j)⟩
    · exact q2.elim
  · exact q2.elim
theorem qe_globI {x : PySem.Str} {i : Int} {pos : Pos} (hg : Gl X x) (hm : ∃ t, X.mg x = some (.int i t)) (hdb : (x == ("__debug__" : PySem.Str)) = false := by decide) : QE X W (.Name x pos) (mC (.int i)) := by
  obtain ⟨t, h⟩ := hm
  exact qe_glob hg h (v := .int i) ⟨t, rfl⟩ (fun _ _ _ => .int _) hdb
theorem qe_globS {x : PySem.Str} {z : String} {pos : Pos} (hg : Gl X x) (hm : ∃ t, X.mg x = some (.str (Str.ofString z) t)) (hdb : (x == ("__debug__" : PySem.Str)) = false := by decide) : QE X W (.Name x pos) (mC (S z)) := by
  obtain ⟨t, h⟩ := hm
  exact qe_glob hg h (v := .str (Str.ofString z)) ⟨t, rfl⟩ (fun _ _ _ => rd_str _) hdb
end
end HM
set_option Elab.async false
set_option linter.all false
set_option maxRecDepth 100000
set_option maxHeartbeats 4000000
namespace HM
open PySem L2 PySem.Spec PyProof.Rows
/-! ### exceptions: raise of an own class, try with one or several clauses -/
def veB : List Value := [.type "ValueError", .type "Exception", .type "BaseException", .type "object"]
structure XC (K : PySem.W.Frag) (mg : Str → Option Value) (x : String) (C : Addr) : Prop where
  gC : mg (Str.ofString x) = some (.ref C)
  ex : PySem.W.excIn K C veB "ValueError.__new__" = true
  kC : PySem.W.keepIn K (.ref C) = true
  bC : PySem.W.subIn K (.ref C) (.type "BaseException") = some true
  tC : PySem.W.typeIn K (.ref C) = some (.type "type")
def XM (K : PySem.W.Frag) (mg : Str → Option Value) (x y : String) (b : Bool) : Prop := ∃ C D, mg (Str.ofString x) = some (.ref C) ∧ mg (Str.ofString y) = some (.ref D) ∧ PySem.W.exmOne K (.ref C) (.ref D) = some b
def sRaise (x : String) : MS := fun e h => .exc ⟨x, []⟩ e h
def W0 : WX := fun _ _ _ _ => False
section
variable {X : Cx} {W : WX}
def sTryGo (x : XO) (e : EN) (h : LH) : List ((String → Option Bool) × MS) → RSt
  | [] => .exc x e h
  | (mt, ms) :: r => match mt x.cls with
    | some true => match ms e h with
      | .exc _ _ _ => .bad
      | z => z
    | some false => sTryGo x e h r
    | none => .bad
def sTry (b : MS) (cl : List ((String → Option Bool) × MS)) : MS := fun e h => match b e h with
  | .exc x e1 h1 => sTryGo x e1 h1 cl
  | z => z
def MtOk (K : PySem.W.Frag) (mg : Str → Option Value) (y : String) (mt : String → Option Bool) : Prop := ∀ x b C, mg (Str.ofString x) = some (.ref C) → mt x = some b → XM K mg x y b
inductive QHs (X : Cx) : List ExceptHandler → List ((String → Option Bool) × MS) → List (Value × (Addr → Value → Option Addr → TS)) → Prop
  | nil : QHs X [] [] []
  | cons {y : String} {C : Addr} {mt : String → Option Bool} {ms : MS} {b₀ : Stmt} {suite : List Stmt} {np pos' : Pos} {hds : List ExceptHandler} {cl : List ((String → Option Bool) × MS)} {l : List (Value × (Addr → Value → Option Addr → TS))}
      (gC : X.mg (Str.ofString y) = some (.ref C)) (hg : Gl X (Str.ofString y)) (hm : MtOk X.K X.mg y mt) (hsu : ∀ (a : Addr) (oe : Obj) (pn : List (Addr × Obj)), QSs (X.suite a ((a, oe) :: pn)) W0 (b₀ :: suite) ms) (r : QHs X hds cl l)
      (hdb : (Str.ofString y == ("__debug__" : Str)) = false := by decide +kernel) :
      QHs X (.ExceptHandler (some (.Name (Str.ofString y) np)) none (b₀ :: suite) pos' :: hds) ((mt, ms) :: cl) ((.ref C, fun _ _ _ => rdS X.K X.mg W0 ms) :: l)
theorem QHs.ok {hds : List ExceptHandler} {cl : List ((String → Option Bool) × MS)} {l : List (Value × (Addr → Value → Option Addr → TS))} (q : QHs X hds cl l) : HdsOk X hds l := by
  induction q with
  | nil => exact .nil
  | cons gC hg hm hsu r hdb ih => exact .cons ⟨hg, hdb, .inl gC⟩ (fun a oe cls d pn _ _ => hsu a oe pn) ih
theorem go_ok {hds : List ExceptHandler} {cl : List ((String → Option Bool) × MS)} {l : List (Value × (Addr → Value → Option Addr → TS))} (q : QHs X hds cl l) {Wout : WX} {D : Ends} {φ φ1 : Nat → Addr} {lh lh1 : LH} {H H1 : Hp} {x : XO} {e1 : EN} {cls : Value} {dd : Option Addr} {σ1 : L2.St}
    (p : Po X.K X.mg φ lh H φ1 lh1 H1) (er : ER X.K X.mg φ1 lh1.length H1 x cls dd) (rs : RS X.K φ1 lh1.length H1 e1 σ1)
    (h : match sTryGo x e1 lh1 cl with
      | .next env' lh' => ∀ φ' σ' H', Po X.K X.mg φ lh H φ' lh' H' → RS X.K φ' lh'.length H' env' σ' → D.nx σ' H'
      | .ret d lh' => ∀ φ' v H', Po X.K X.mg φ lh H φ' lh' H' → RD X.K φ' lh'.length H' d v → D.rt v H'
      | .brk env' lh' => ∀ φ' σ' H', Po X.K X.mg φ lh H φ' lh' H' → RS X.K φ' lh'.length H' env' σ' → D.bk σ' H'
      | .cnt env' lh' => ∀ φ' σ' H', Po X.K X.mg φ lh H φ' lh' H' → RS X.K φ' lh'.length H' env' σ' → D.ct σ' H'
      | .exc e env' lh' => ∀ φ' cls dd σ' H', Po X.K X.mg φ lh H φ' lh' H' → ER X.K X.mg φ' lh'.length H' e cls dd → RS X.K φ' lh'.length H' env' σ' → Wout cls dd σ' H'
      | .bad => False) : wMany X.K Wout D l cls dd σ1 H1 := by
  induction q with
  | nil => exact h φ1 cls dd σ1 H1 p er rs
  | @cons y C mt ms b₀ suite np pos' hds cl l gC hg hm hsu r hdb ih =>
    unfold sTryGo at h
    cases em : mt x.cls with
    | none => rw [em] at h; exact h.elim
    | some b =>
      rw [em] at h
      obtain ⟨C1, hC1, hc1, _⟩ := er
      obtain ⟨C2, D2, hC2, hD2, hx⟩ := hm _ _ _ hC1 em
      rw [hC1] at hC2
      rw [gC] at hD2
      cases hC2
      cases hD2
      subst hc1
      refine ⟨b, hx, fun hb a _ => ?_, fun hb => ?_⟩
      · subst hb
        refine ⟨φ1, e1, lh1, p.hr, rs, ?_⟩
        dsimp only at h
        revert h
        cases ms e1 lh1 with
        | next e2 h2 => exact fun h φ' σ' H' p' r' => h φ' σ' H' (p.trans p') r'
        | ret d h2 => exact fun h φ' v H' p' r' => h φ' v H' (p.trans p') r'
        | brk e2 h2 => exact fun h φ' σ' H' p' r' => h φ' σ' H' (p.trans p') r'
        | cnt e2 h2 => exact fun h φ' σ' H' p' r' => h φ' σ' H' (p.trans p') r'
        | exc z e2 h2 => exact fun h => h.elim
        | bad => exact fun h => h.elim
      · subst hb
        exact ih h
theorem qs_try {body : List Stmt} {mb : MS} {h₀ : ExceptHandler} {hds : List ExceptHandler} {cl : List ((String → Option Bool) × MS)} {l : List (Value × (Addr → Value → Option Addr → TS))} {pos : Pos} (hs : X.stack = X.env :: X.outer) (hf : X.env.frame = some X.env.locals) (tk : Takes X W)
    (hb : ∀ (W' : WX) (pn : List (Addr × Obj)) (xe : Value → Shared → Prop), Takes (X.tr pn xe) W' → PassesOwn (model X.prog X.w) X.A X.env xe → QSs (X.tr pn xe) W' body mb)
    (hh : QHs X (h₀ :: hds) cl l) : QS X W (.Try body (h₀ :: hds) [] [] pos) (sTry mb cl) := by
  refine psI (ps_try_many hs hf tk (tb := fun W' => rdS X.K X.mg W' mb) hb hh.ok) fun D σ H ⟨φ, env, lh, h1, h2, q⟩ => ?_
  refine ⟨φ, env, lh, h1, h2, ?_⟩
  unfold sTry at q
  revert q
  cases mb env lh with
  | next e2 l2 => exact fun q => q
  | ret d l2 => exact fun q => q
  | brk e2 l2 => exact fun q => q
  | cnt e2 l2 => exact fun q => q
  | exc x e1 lh1 => exact fun q φ1 cls dd σ1 H1 p er rs => go_ok hh p er rs q
  | bad => exact fun q => q
end
end HM
set_option Elab.async false
set_option linter.all false
set_option maxRecDepth 100000
set_option maxHeartbeats 4000000
namespace HM
open PySem L2 PySem.Spec PyProof.Rows
/-! ### recursion; int of a text; more operators -/
theorem okBad {P : Program} {w : World} {K : PySem.W.Frag} {mg : Str → Option Value} {base : Heap} {x qual : Str} {st : Stmt} {f : Addr} {fd : FuncData} {N ps : List Str} {k : Nat} (F : Fun K x qual st f fd) (S : FnScope N ps (defScope st)) :
    FnOk P w K mg base (L2.CX P w) (k + 1) f fd ps (spM K mg fun _ _ => .bad) :=
  F.okX S (fun vs H Q E ⟨φ, lh, ds, h1, h2, q⟩ => q.elim) fun cdv A outer s H vs Q E hr hsp => by
    obtain ⟨φ, lh, ds, h1, h2, q⟩ := hsp
    exact q.elim
section
variable {X : Cx}
end
end HM
namespace HM
open PySem L2 PySem.Spec PyProof.Rows
theorem exm_of {K : PySem.W.Frag} {C D : Addr} {b : Bool} (h1 : PySem.W.subIn K (.ref D) (.type "BaseException") = some true) (h2 : PySem.W.isClsIn K D = true) (h3 : PySem.W.typeIn K (.ref D) = some (.type "type")) (h4 : PySem.W.subIn K (.ref C) (.ref D) = some b) :
    PySem.W.exmOne K (.ref C) (.ref D) = some b := by
  have e1 : (PySem.W.subIn K (.ref D) (.type "BaseException") == some true) = true := by rw [h1] <;> rfl
  have e2 : ((PySem.W.clsIn K D).isSome && PySem.W.typeIn K (.ref D) == some (.type "type")) = true := by
    have h2' : (PySem.W.clsIn K D).isSome = true := h2
    rw [h2', h3] <;> rfl
  show (if (PySem.W.subIn K (.ref D) (.type "BaseException") == some true) = true then (if ((PySem.W.clsIn K D).isSome && PySem.W.typeIn K (.ref D) == some (.type "type")) = true then PySem.W.subIn K (.ref C) (.ref D) else none) else none) = some b
  rw [if_pos e1, if_pos e2]
  exact h4
end HM
set_option Elab.async false
set_option linter.all false
set_option maxRecDepth 100000
set_option maxHeartbeats 4000000
namespace HM
open PySem L2 PySem.Spec PyProof.Rows
/-! ### a text times an int -/
def repD (k : Nat) (s : List Nat) : List Nat := (List.replicate k s).flatten
def dMulS : D → D → LH → Res D
  | .str a, .int k, h => if 0 ≤ k ∧ k < 2 ^ 62 ∧ a.length * k.toNat ≤ 16777216 then .ok (.str (repD k.toNat a)) h else .bad
  | _, _, _ => .bad
theorem fold_app : ∀ (k : Nat) (a : Array Nat) (acc : List Nat), (List.replicate k a).foldl (· ++ ·) acc.toArray = (acc ++ (List.replicate k a.toList).flatten).toArray
  | 0, a, acc => by simp
  | k + 1, a, acc => by
    rw [List.replicate_succ, List.foldl_cons, List.replicate_succ, List.flatten_cons]
    have : acc.toArray ++ a = (acc ++ a.toList).toArray := by simp
    rw [this, fold_app k a (acc ++ a.toList), List.append_assoc]
section
variable {X : Cx}
theorem op_repS : OpR X (binaryOp .Mult) (fun x y H Q => ∃ (z : Str) (k : Int), x = .str z ∧ y = .int k ∧ 0 ≤ k ∧ k < 2 ^ 62 ∧ z.length * k.toNat ≤ sizeLine ∧ Q (.str ⟨(repD k.toNat z.cps.toList).toArray⟩) H) := by
  intro pins s σ H x y v u Q I rx ry h
  obtain ⟨z, k, rfl, rfl, k0, k1, hz, q⟩ := h
  obtain ⟨t, rfl⟩ := rx
  obtain ⟨t', rfl⟩ := ry
  have hs : (repD k.toNat z.cps.toList).length = z.length * k.toNat := by
    unfold repD
    rw [List.length_flatten]
    simp [Str.length, Nat.mul_comm]
  refine PySem.P.mul_str ?_ (fun h1 h2 => ?_) (fun h1 h2 => ?_) ?_
  · have h1 : ¬ k < -(2 ^ 63 : Int) := by omega
    have h2 : ¬ k ≥ 2 ^ 63 := by omega
    rw [decide_eq_false h1, decide_eq_false h2]; rfl
  · intro hgt
    rw [sizeLine_eq] at hz
    have hk : (0 : Int) < k := by omega
    have h3 : (z.length : Int) * k ≤ 16777216 := by
      have : ((z.length * k.toNat : Nat) : Int) ≤ ((16777216 : Nat) : Int) := Int.ofNat_le.mpr hz
      rw [Int.natCast_mul, Int.toNat_of_nonneg k0] at this
      exact this
    have h4 := Int.lt_mul_of_ediv_lt hk hgt
    omega
  · show decide (z.length * k.toNat > sizeLine) = false
    exact decide_eq_false (by omega)
  · by_cases c : k < 1
    · rw [if_pos c]
      have k00 : k = 0 := by omega
      subst k00
      refine ⟨by decide, .str _, H, I.tok _, ⟨_, rfl⟩, q⟩
    · rw [if_neg c]
      by_cases c2 : (k == 1 || z.length == 0) = true
      · rw [if_pos c2]
        have e : (⟨(repD k.toNat z.cps.toList).toArray⟩ : Str) = z := by
          rw [Bool.or_eq_true, beq_iff_eq, beq_iff_eq] at c2
          rcases c2 with c2 | c2
          · subst c2
            unfold repD
            simp
          · have : z.cps = #[] := Array.eq_empty_of_size_eq_zero c2
            unfold repD
            cases z with
            | mk a =>
              have ha : a = #[] := this
              subst ha
              simp
        rw [e] at q
        exact ⟨.str z, H, I, ⟨t, rfl⟩, q⟩
      · rw [if_neg c2]
        have e := fold_app k.toNat z.cps []
        rw [List.nil_append] at e
        have e2 : (List.replicate k.toNat z.cps).foldl (· ++ ·) #[] = (repD k.toNat z.cps.toList).toArray := e
        rw [e2]
        refine ⟨by show (repD k.toNat z.cps.toList).toArray.size ≤ sizeLine; rw [List.size_toArray, hs]; exact hz, .str _, H, I.tok _, ⟨_, rfl⟩, q⟩
theorem opm_mulS : OpM X (binaryOp .Mult) dMulS := by
  refine ⟨_, op_repS, fun W σ φ lh H x y v w Q hr rx ry q => ?_⟩
  unfold dMulS at q
  split at q
  · rename_i a k
    cases rx; cases ry
    split at q
    · rename_i c
      exact ⟨_, k, rfl, rfl, c.1, c.2.1, by rw [sizeLine_eq, str_len]; exact c.2.2, wp_ok q (.refl hr) (by
        exact .str _)⟩
    · exact q.elim
  · exact q.elim
end
end HM
set_option Elab.async false
set_option linter.all false
set_option maxRecDepth 100000
set_option maxHeartbeats 4000000
namespace HM
open PySem L2 PySem.Spec PyProof.Rows
/-! ### upper, startswith, insert, sorted of texts -/
section
variable {X : Cx} {W : WX} {o e e2 : Expr} {ma mo mb : M D} {apos cpos : Pos}
end
def leS (a b : List Nat) : Bool := !decide (b < a)
def sortS (xs : List (List Nat)) : List (List Nat) := xs.mergeSort leS
theorem leS_trans (a b c : List Nat) (h1 : leS a b = true) (h2 : leS b c = true) : leS a c = true := by
  unfold leS at *
  simp only [Bool.not_eq_true', decide_eq_false_iff_not] at *
  exact List.le_trans h1 h2
theorem leS_total (a b : List Nat) : (leS a b || leS b a) = true := by
  unfold leS
  rcases List.le_total a b with h | h
  · have : ¬ b < a := h
    simp [this]
  · have : ¬ a < b := h
    simp [this]
theorem leS_anti {a b : List Nat} (h1 : leS a b = true) (h2 : leS b a = true) : a = b := by
  unfold leS at *
  simp only [Bool.not_eq_true', decide_eq_false_iff_not] at *
  exact List.le_antisymm h1 h2
theorem sortS_perm (xs : List (List Nat)) : (sortS xs).Perm xs := List.mergeSort_perm xs leS
theorem sortS_pw (xs : List (List Nat)) : (sortS xs).Pairwise (fun a b => leS a b = true) := List.pairwise_mergeSort leS_trans leS_total xs
theorem sort_unique {xs ys : List (List Nat)} (p : ys.Perm xs) (h : ys.Pairwise (fun a b => leS a b = true)) : ys = sortS xs :=
  List.Perm.eq_of_pairwise (fun a b _ _ h1 h2 => leS_anti h1 h2) h (sortS_pw xs) (p.trans (sortS_perm xs).symm)
theorem rising_pw : ∀ (p : Str) (ys : List Str), PyProof.Rows.risingS p ys = true → (p :: ys).Pairwise (fun a b => leS a.cps.toList b.cps.toList = true)
  | p, [], _ => by simp
  | p, x :: r, h => by
    unfold PyProof.Rows.risingS at h
    rw [Bool.and_eq_true] at h
    have h1 : leS p.cps.toList x.cps.toList = true := by
      have := h.1
      rw [ltCps_eq] at this
      exact this
    have ih := rising_pw x r h.2
    refine List.pairwise_cons.mpr ⟨fun y hy => ?_, ih⟩
    rcases List.mem_cons.mp hy with rfl | hy
    · exact h1
    · exact leS_trans _ _ _ h1 (List.rel_of_pairwise_cons ih hy)
theorem sorted_pw {ys : List Str} (h : PyProof.Rows.sortedS ys = true) : (ys.map fun s => s.cps.toList).Pairwise (fun a b => leS a b = true) := by
  rw [List.pairwise_map]
  cases ys with
  | nil => exact .nil
  | cons x r => exact rising_pw x r h
theorem cr_sortedSA {X : Cx} : CallR X (.builtin "sorted") (fun vs H Q => ∃ (a : Addr) (xs : List Str), vs = [V.ref a] ∧ SqL X.K H a (xs.map V.str) ∧
    ∀ (ys : List Str) (p : Addr), ys.Perm xs → PyProof.Rows.sortedS ys = true → H p = none → Q (.ref p) (upd H p (.lst (ys.map V.str)))) := by
  intro pins s σ H vs us Q I r h
  obtain ⟨a, xs, rfl, hs, q⟩ := h
  obtain ⟨its, rv, hl, hz⟩ := I.list hs
  rw [Vals.ref1 r]
  have hlen0 := rv.length
  rw [List.length_map] at hlen0 hz
  refine PyProof.Rows.sorted_strsAny hl.isList rv.strs (by rw [← hlen0]; exact hz) fun out ys h1 h2 h3 => ?_
  obtain ⟨ep, he'⟩ := PyProof.Rows.sortedAll_at s.heap its out
  have hlen : (ys.map V.str).length ≤ sizeLine := by rw [List.length_map, h2.length_eq]; exact hz
  exact ⟨.ref _, upd H (s.heap.objs.size + 1) (.lst (ys.map V.str)), I.laid (t' := s.toks) (fun _ _ => PyProof.Rows.sortedAll_old) (Nat.le_succ _) ⟨hlen, out.toList, ep, vals_of_strs h1, he'⟩, rfl, q ys _ h2 h3 (I.hok.fresh (Nat.le_succ _))⟩
theorem RDs.strs {K : PySem.W.Frag} {φ : Nat → Addr} {n : Nat} {H : Hp} : ∀ l : List (List Nat), RDs K φ n H (l.map D.str) ((l.map fun s => (⟨s.toArray⟩ : Str)).map V.str)
  | [] => .nil
  | y :: ys => .cons (.str y) (RDs.strs ys)
def dSorted : MF := fun xs h => match xs with
  | [d] => if isLst d h then (match seqD d h with
    | some ys => match strsD ys with
      | some ss => .ok (.ref h.length) (h ++ [.lst ((sortS ss).map D.str)])
      | none => .bad
    | none => .bad) else .bad
  | _ => .bad
theorem seqL_ok {K : PySem.W.Frag} {mg : Str → Option Value} {φ : Nat → Addr} {lh : LH} {H : Hp} {d : D} {v : V} {ys : List D} (hr : HR K mg φ lh H) (r : RD K φ lh.length H d v) (h : isLst d lh = true) (e : seqD d lh = some ys) :
    ∃ a ws, v = .ref a ∧ SqL K H a ws ∧ RDs K φ lh.length H ys ws := by
  unfold isLst at h
  cases d with
  | tup xs => simp only [seqD] at h; cases h
  | scr ns =>
    obtain ⟨a, rfl, hq⟩ := r.scr_inv
    simp only [seqD] at e
    cases e
    refine ⟨a, _, rfl, hq, ?_⟩
    clear hq h r
    induction ns with
    | nil => exact .nil
    | cons y ys ih => exact .cons (.int y) ih
  | ref i =>
    obtain ⟨rfl, _⟩ := r.ref_inv
    unfold seqD at e
    simp only at e
    split at e
    · rename_i zs el
      cases e
      obtain ⟨vs, hv, r2⟩ := hr.lst el
      exact ⟨_, _, rfl, SqL.of hv, r2⟩
    · cases e
  | _ => simp only [seqD] at h; cases h
theorem cm_sorted {X : Cx} : CallM X (.builtin "sorted") dSorted := by
  refine callm_of cr_sortedSA fun W σ φ lh H xs vs Q hr rs q => ?_
  unfold dSorted at q
  split at q
  · obtain ⟨v, rfl, r⟩ := rs.one
    split at q
    · rename_i d hd
      split at q
      · rename_i ys e
        split at q
        · rename_i ss es
          obtain ⟨a, ws, rfl, hq, r2⟩ := seqL_ok hr r hd e
          have ew := strsD_ok r2 es
          subst ew
          refine ⟨a, _, rfl, hq, fun ys' p hp hs hH => ?_⟩
          have e1 : (ys'.map fun s => s.cps.toList) = sortS ss := by
            refine sort_unique ?_ (sorted_pw hs)
            have := hp.map (fun s : Str => s.cps.toList)
            rw [List.map_map] at this
            have e3 : ss.map ((fun s : Str => s.cps.toList) ∘ fun s => (⟨s.toArray⟩ : Str)) = ss := by
              conv => rhs; rw [← List.map_id ss]
              exact List.map_congr_left fun s _ => by simp
            rw [e3] at this
            exact this
          have e2 : ys' = (sortS ss).map fun s => (⟨s.toArray⟩ : Str) := by
            rw [← e1, List.map_map]
            conv => lhs; rw [← List.map_id ys']
            exact List.map_congr_left fun s _ => (str_eta s).symm
          subst e2
          exact wp_newL q hr hH (RDs.strs _)
        · exact q.elim
      · exact q.elim
    · exact q.elim
  · exact q.elim
end HM
set_option Elab.async false
set_option linter.all false
set_option maxRecDepth 100000
set_option maxHeartbeats 4000000
namespace HT
open PySem PySem.Spec PyProof.Rows
section
variable {prog : Program} {w : World} {A : Around} {E : Value → Shared → Prop} {s : Shared}
end
end HT
namespace HM
open PySem L2 PySem.Spec PyProof.Rows HT
section
variable {X : Cx} {W : WX} {e : Expr} {ma : M D}
def dMulX : D → D → LH → Res D
  | .tup xs, .int k, h => if xs ≠ [] ∧ 2 ≤ k ∧ k ≤ 1000 ∧ xs.length ≤ 1000 then .ok (.tup (List.replicate k.toNat xs).flatten) h else .bad
  | .str a, .int k, h => dMulS (.str a) (.int k) h
  | x, y, h => dMul x y h
theorem RDs.rep {K : PySem.W.Frag} {φ : Nat → Addr} {n : Nat} {H : Hp} {xs : List D} {vs : List V} (r : RDs K φ n H xs vs) : ∀ k : Nat, RDs K φ n H (List.replicate k xs).flatten (List.replicate k vs).flatten
  | 0 => .nil
  | k + 1 => by
    rw [List.replicate_succ, List.replicate_succ, List.flatten_cons, List.flatten_cons]
    exact r.app (RDs.rep r k)
theorem opm_mulX : OpM X (binaryOp .Mult) dMulX := by
  obtain ⟨r1, o1, k1⟩ := opm_mul (X := X)
  obtain ⟨r2, o2, k2⟩ := opm_mulS (X := X)
  refine ⟨_, (o1.or o2).or op_repT, fun W σ φ lh H x y v w Q hr rx ry q => ?_⟩
  unfold dMulX at q
  split at q
  · rename_i xs k
    split at q
    · rename_i c
      obtain ⟨a, vs, rfl, hq, rs⟩ := rx.tup_inv
      cases ry
      refine .inr ⟨a, k, vs, rfl, rfl, hq, ?_, c.2.1, c.2.2.1, by rw [← rs.len]; exact c.2.2.2, fun p hp => wp_newT q hr hp (rs.rep _)⟩
      intro z
      subst z
      have := rs.len
      simp at this
      exact c.1 this
    · exact q.elim
  · exact .inl (.inr (k2 W σ φ lh H _ _ v w Q hr rx ry q))
  · exact .inl (.inl (k1 W σ φ lh H x y v w Q hr rx ry q))
end
end HM
set_option Elab.async false
set_option linter.all false
set_option maxRecDepth 100000
set_option maxHeartbeats 4000000
namespace HM
open PySem L2 PySem.Spec PyProof.Rows
/-! ### except X as e -/
section
variable {i : Nat}
end
section
variable {X : Cx} {W : WX}
end
end HM
set_option Elab.async false
set_option linter.all false
set_option maxRecDepth 100000
set_option maxHeartbeats 4000000
namespace HM
open PySem L2 PySem.Spec PyProof.Rows
/-! ### {}, tuple(range(n)) -/
def mDict0 : M D := fun _ h => .ok (.ref h.length) (h ++ [.dK []])
section
variable {X : Cx} {W : WX}
theorem qe_dict0 {pos : Pos} : QE X W (.Dict [] [] pos) mDict0 := by
  refine qe_of pe_dnewK fun σ φ env lh H Q h1 h2 q => ?_
  exact fun p hp => wp_new q h1 hp ⟨[], upd_same, .nil⟩
end
end HM
set_option Elab.async false
set_option linter.all false
set_option maxRecDepth 100000
set_option maxHeartbeats 4000000
namespace HM
open PySem L2 PySem.Spec PyProof.Rows
/-! ### tuple * 0, tuple * 1 -/
section
variable {X : Cx}
end
end HM
set_option Elab.async false
set_option linter.all false
set_option maxRecDepth 100000
set_option maxHeartbeats 4000000
namespace HM
open PySem L2 PySem.Spec PyProof.Rows
/-! ### defs whose errors have no context (they may be caught by a suite that raises) -/
structure CalMN (P : Program) (w : World) (K : PySem.W.Frag) (mg : Str → Option Value) (base : Heap) (k : Nat) (x : String) (f : MF) : Prop where
  ex : ∃ fa fd ps, mg (Str.ofString x) = some (.ref fa) ∧ PySem.W.keepIn K (.ref fa) = true ∧ Binds K fd ps [] ∧ FnOk P w K mg base (L2N.CX P w) k fa fd ps (spM K mg f)
theorem CalMN.mono {P : Program} {w : World} {K : PySem.W.Frag} {mg : Str → Option Value} {base : Heap} {k k' : Nat} {x : String} {f : MF} (c : CalMN P w K mg base k x f) (h : k ≤ k') : CalMN P w K mg base k' x f := by
  obtain ⟨fa, fd, ps, h1, h2, h3, h4⟩ := c.ex
  exact ⟨fa, fd, ps, h1, h2, h3, h4.mono h⟩
section
variable {X : Cx} {W : WX} {e a b c : Expr} {es : List Expr} {pos : Pos} {ma mb : M D} {mas : M (List D)}
end
end HM
set_option Elab.async false
set_option linter.all false
set_option maxRecDepth 100000
set_option maxHeartbeats 4000000
namespace HM
open PySem L2 PySem.Spec PyProof.Rows
/-! ### try: .. except Y: raise Z('..') from None -/
section
variable {X : Cx} {W : WX}
end
end HM
set_option Elab.async false
set_option linter.all false
set_option maxRecDepth 100000
set_option maxHeartbeats 4000000
namespace HM
open PySem L2 PySem.Spec PyProof.Rows
/-! ### classes: fields, methods, instances made -/
theorem ofS_inj {a b : String} (h : Str.ofString a = Str.ofString b) : a = b := by
  rw [Str.ofString_eq_toList, Str.ofString_eq_toList] at h
  injection h with h
  have h2 : a.toList.map Char.toNat = b.toList.map Char.toNat := by simpa using h
  have h3 : a.toList = b.toList := (List.map_inj_right (fun x y e => Char.ext (UInt32.toNat_inj.mp e))).mp h2
  exact String.toList_inj.mp h3
def getF (f : String) : List (String × D) → Option D
  | [] => none
  | (g, x) :: r => if g = f then some x else getF f r
def putFD (f : String) (d : D) : List (String × D) → List (String × D)
  | [] => [(f, d)]
  | (g, x) :: r => if g = f then (g, d) :: r else (g, x) :: putFD f d r
section
variable {K : PySem.W.Frag} {mg : Str → Option Value} {φ φ' : Nat → Addr} {n n' : Nat} {H : Hp} {lh : LH}
theorem RF.len {ds : List (String × D)} {vs : List (Str × V)} (r : RF K φ n H ds vs) : ds.length = vs.length := by
  induction r with
  | nil => rfl
  | cons _ _ ih => simp [ih]
theorem look_pos {f g : String} {v : V} {vs : List (Str × V)} (h : g = f) : List.lookup (Str.ofString f) ((Str.ofString g, v) :: vs) = some v := by
  subst h
  simp [List.lookup]
theorem look_neg {f g : String} {v : V} {vs : List (Str × V)} (h : ¬ g = f) : List.lookup (Str.ofString f) ((Str.ofString g, v) :: vs) = List.lookup (Str.ofString f) vs := by
  have : (Str.ofString f == Str.ofString g) = false := beq_eq_false_iff_ne.mpr fun e => h (ofS_inj e).symm
  simp [List.lookup, this]
theorem RF.get {f : String} {d : D} {ds : List (String × D)} {vs : List (Str × V)} (r : RF K φ n H ds vs) (h : getF f ds = some d) : ∃ v, vs.lookup (Str.ofString f) = some v ∧ RD K φ n H d v := by
  induction r with
  | nil => cases h
  | @cons g d' v ds vs h1 _ ih =>
    unfold getF at h
    by_cases c : g = f
    · rw [if_pos c] at h
      cases h
      exact ⟨v, look_pos c, h1⟩
    · rw [if_neg c] at h
      obtain ⟨v', e, q⟩ := ih h
      exact ⟨v', by rw [look_neg c]; exact e, q⟩
theorem RF.gone {f : String} {ds : List (String × D)} {vs : List (Str × V)} (r : RF K φ n H ds vs) (h : getF f ds = none) : vs.lookup (Str.ofString f) = none := by
  induction r with
  | nil => rfl
  | @cons g d' v ds vs h1 _ ih =>
    unfold getF at h
    by_cases c : g = f
    · rw [if_pos c] at h; cases h
    · rw [if_neg c] at h
      rw [look_neg c]; exact ih h
theorem RF.put {f : String} {d : D} {v : V} {ds : List (String × D)} {vs : List (Str × V)} (r : RF K φ n H ds vs) (q : RD K φ n H d v) : RF K φ n H (putFD f d ds) (putF (Str.ofString f) v vs) := by
  induction r with
  | nil => exact .cons q .nil
  | @cons g d' v' ds vs h1 h2 ih =>
    unfold putFD putF
    by_cases c : g = f
    · rw [if_pos c, if_pos (by rw [c])]
      exact .cons q h2
    · rw [if_neg c, if_neg fun e => c (ofS_inj e)]
      exact .cons h1 ih
end
structure FdK (K : PySem.W.Frag) (mg : Str → Option Value) (c f : String) : Prop where
  ex : ∃ C, mg (Str.ofString c) = some (.ref C) ∧ Cls K C ∧ NoAttr K C (Str.ofString f)
structure MeM (CX : CXT) (P : Program) (w : World) (K : PySem.W.Frag) (mg : Str → Option Value) (base : Heap) (k : Nat) (c m : String) (f : MF) : Prop where
  ex : ∃ C fa fd ps, mg (Str.ofString c) = some (.ref C) ∧ Cls K C ∧ Meth K C (Str.ofString m) fa ∧ Binds K fd ps [] ∧ FnOk P w K mg base CX k fa fd ps (spM K mg f)
structure MkM (CX : CXT) (P : Program) (w : World) (K : PySem.W.Frag) (mg : Str → Option Value) (base : Heap) (k : Nat) (c : String) (f : MF) : Prop where
  ex : ∃ C fa fd ps, mg (Str.ofString c) = some (.ref C) ∧ Mk K C fa ∧ Binds K fd ps [] ∧ FnOk P w K mg base CX k fa fd ps (spM K mg f)
def insD (c : String) (x : D) (h : LH) : Option (Nat × List (String × D)) := match x with
  | .ref i => match h[i]? with
    | some (.ins c' fs) => if c' = c then some (i, fs) else none
    | _ => none
  | _ => none
theorem insD_inv {c : String} {x : D} {h : LH} {i : Nat} {fs : List (String × D)} (e : insD c x h = some (i, fs)) : x = .ref i ∧ h[i]? = some (.ins c fs) := by
  unfold insD at e
  split at e
  · split at e
    · rename_i j c' fs' ej
      split at e
      · rename_i c0
        cases e
        subst c0
        exact ⟨rfl, ej⟩
      · cases e
    · cases e
  · cases e
def fldD (c f : String) (x : D) (h : LH) : Res D := match insD c x h with
  | some (_, fs) => match getF f fs with
    | some d => .ok d h
    | none => .bad
  | none => .bad
def sFldSet (c f : String) (o v : M D) : MS := fun e h => rsBind (v e h) e fun y h1 => rsBind (o e h1) e fun x h2 => match insD c x h2 with
  | some (i, fs) => if fs.length < 1000 then .next e (h2.set i (.ins c (putFD f y fs))) else .bad
  | none => .bad
def mMeth (c m : String) (f : MF) (o : M D) (a : M (List D)) : M D := fun e h => (o e h).bind fun x h1 => match insD c x h1 with
  | some (_, fs) => match getF m fs with
    | none => (a e h1).bind fun xs h2 => f (x :: xs) h2
    | some _ => .bad
  | none => .bad
def mMake (c : String) (f : MF) (a : M (List D)) : M D := fun e h => (a e h).bind fun xs h1 => (f (.ref h1.length :: xs) (h1 ++ [.ins c []])).bind fun d h2 => match d with
  | .non => .ok (.ref h1.length) h2
  | _ => .bad
section
variable {X : Cx} {W : WX} {a o value : Expr} {e : Expr} {es : List Expr} {ma mo mv : M D} {mas : M (List D)} {pos pos' apos p tpos : Pos}
theorem insD_ok {K : PySem.W.Frag} {mg : Str → Option Value} {φ : Nat → Addr} {lh : LH} {H : Hp} {c : String} {x : D} {v : V} {i : Nat} {fs : List (String × D)} (hr : HR K mg φ lh H) (r : RD K φ lh.length H x v) (h : insD c x lh = some (i, fs)) :
    ∃ C dx vs, v = .ref (φ i) ∧ i < lh.length ∧ lh[i]? = some (.ins c fs) ∧ mg (Str.ofString c) = some (.ref C) ∧ H (φ i) = some (.ins C dx vs) ∧ RF K φ lh.length H fs vs := by
  obtain ⟨rfl, e⟩ := insD_inv h
  obtain ⟨rfl, hi⟩ := r.ref_inv
  obtain ⟨C, dx, vs, h1, h2, h3⟩ := hr.obj _ _ e
  exact ⟨C, dx, vs, rfl, hi, e, h1, h2, h3⟩
theorem qe_fld {c f : String} (T : FdK X.K X.mg c f) (ha : QE X W a ma) (hb : attributeBase a (Str.ofString f) X.env (eval a X.env) = eval a X.env := by rfl) : QE X W (.Attribute a (Str.ofString f) pos) (mUn (fldD c f) ma) := by
  obtain ⟨C, gC, cl, na⟩ := T.ex
  refine qe_of (pe_fld ha hb) fun σ φ env lh H Q h1 h2 q => ?_
  refine rd_of h1 h2 (wp_step q fun x lh1 φ1 v H1 p1 r1 q1 => ?_)
  unfold fldD at q1
  cases ei : insD c x lh1 with
  | none => rw [ei] at q1; exact q1.elim
  | some z =>
    obtain ⟨i, fs⟩ := z
    rw [ei] at q1
    dsimp only at q1
    obtain ⟨C', dx, vs, rfl, hi, _, gC', hH, rf⟩ := insD_ok p1.hr r1 ei
    rw [gC] at gC'
    cases gC'
    cases eg : getF f fs with
    | none => rw [eg] at q1; exact q1.elim
    | some d =>
      rw [eg] at q1
      obtain ⟨u, eu, ru⟩ := rf.get eg
      exact ⟨_, C, dx, vs, u, rfl, hH, cl, na, eu, wp_ok q1 (.refl p1.hr) ru⟩
theorem ins_put {K : PySem.W.Frag} {mg : Str → Option Value} {φ : Nat → Addr} {lh : LH} {H : Hp} {c f : String} {C dx : Addr} {i : Nat} {fs : List (String × D)} {vs : List (Str × V)} {d : D} {v : V} (hr : HR K mg φ lh H) (hi : i < lh.length) (hH : H (φ i) = some (.ins C dx vs)) (gC : mg (Str.ofString c) = some (.ref C))
    (rf : RF K φ lh.length H fs vs) (q : RD K φ lh.length H d v) : Po K mg φ lh H φ (lh.set i (.ins c (putFD f d fs))) (upd H (φ i) (.ins C dx (putF (Str.ofString f) v vs))) :=
  Po.put hr hi (Wr.ins hH) ⟨C, dx, _, gC, upd_same, (rf.put q).mono (Nat.le_refl _) (fun _ _ => rfl) (by
    obtain ⟨u, hu, u1, u2⟩ := Wr.ins hH
    exact Ext.put hu u1 u2)⟩
theorem qs_fld {c f : String} (T : FdK X.K X.mg c f) (ho : QE X W o mo) (hv : QE X W value mv) (hs : swapsWith value (some (.Attribute o (Str.ofString f) pos')) pos.line X.env = pure false := by rfl) :
    QS X W (.Assign [.Attribute o (Str.ofString f) pos'] value pos) (sFldSet c f mo mv) := by
  obtain ⟨C, gC, cl, na⟩ := T.ex
  refine psI (ps_fld ho hv hs) fun D σ H ⟨φ, env, lh, h1, h2, q⟩ => ?_
  have q' : wps X.K X.mg W (sFldSet c f mo mv env lh) φ lh H D := q
  refine rd_of h1 h2 (wps_step h2 q' fun y lh1 φ1 u H1 p1 r1 q1 => ?_)
  refine rd_of p1.hr (h2.up p1) (wps_step (h2.up p1) q1 fun x lh2 φ2 v H2 p2 r2 q2 => ?_)
  cases ei : insD c x lh2 with
  | none => rw [ei] at q2; exact q2.elim
  | some z =>
    obtain ⟨i, fs⟩ := z
    rw [ei] at q2
    dsimp only at q2
    obtain ⟨C', dx, vs, rfl, hi, _, gC', hH, rf⟩ := insD_ok p2.hr r2 ei
    rw [gC] at gC'
    cases gC'
    split at q2
    · rename_i hl
      have P := ins_put (f := f) (dx := dx) p2.hr hi hH gC rf (r1.up p2)
      exact ⟨_, C, dx, vs, rfl, hH, cl, na, by rw [← rf.len]; exact hl, q2 _ _ _ P (((h2.up p1).up p2).up P)⟩
    · exact q2.elim
end
/-! ### calls of methods, instances made -/
section
variable {X : Cx} {CX : CXT} {k : Nat} {f C : Addr} {fd : FuncData} {ps : List Str} {sp : Sp} {E : L2.St → XK} {x m : Str} {p pos apos : Pos} {e o : Expr} {es : List Expr} {ta : TE} {t : TA}
def tMethS (C : Addr) (m : Str) (sp : Sp) (E : L2.St → XK) (ta : TE) (t : TA) : TE := fun σ H Q => ta σ H fun x H1 => ∃ a dx fs, x = .ref a ∧ H1 a = some (.ins C dx fs) ∧ fs.lookup m = none ∧
  t σ H1 fun vs H2 => sp (x :: vs) H2 Q (E σ)
theorem pe_methS {pl : Sem Bool} (he : PE X o ta) (c : Cls X.K C) (hm : Meth X.K C m f) (F : FnOk X.prog X.w X.K X.mg X.base CX k f fd ps sp) (hr : Room k X.A) (hb : Binds X.K fd ps []) (hx : ∀ σ, PassesAt CX X σ (E σ)) (ha : PA X (e :: es) t)
    (hst : starEach (e :: es) X.env = (false, eval e X.env) :: starEach es X.env := by rfl) (hpl : (backTo pos (starEach es X.env)).any (·.1) = false := by rfl)
    (ht : eval (.Call (.Attribute o m apos) (e :: es) [] pos) X.env = (do
      let ov ← eval o X.env
      standAt apos.atName
      let (f, first) ← holding [ov] (getMethod ov m pl)
      callWith pos f first (backTo pos (starEach (e :: es) X.env)) (backToKw pos (keywordEach [] X.env))) := by rfl) :
    PE X (.Call (.Attribute o m apos) (e :: es) [] pos) (tMethS C m sp E ta t) := by
  refine ⟨fun pins s σ H Q I h => ?_⟩
  refine PySem.W.methodCall_KW (pl := pl) (thn (he.run pins s σ H _ I h) fun u s1 ⟨x, H1, I1, rx, a, dx, fs, ex, ea, l, q⟩ => ?_) ht
  subst ex
  obtain rfl : u = Value.ref a := rx
  refine getmeth_ok I1 ea c hm l ?_
  refine PySem.W.callWith_K (first := [.ref a]) (h₀ := X.base) I.ok.mod.kin hm.kp (thn (ha.run pos pins s1 σ H1 _ I1 q) fun us s2 ⟨vs, H2, I2, r, q2⟩ => ⟨I2.kIn, ?_⟩) hst hpl
  exact run_fnS (us := .ref a :: us) (vs := .ref a :: vs) F hr hb (hx σ) I2 (.cons rfl r) q2
theorem pe_methS0 {pl : Sem Bool} (he : PE X o ta) (c : Cls X.K C) (hm : Meth X.K C m f) (F : FnOk X.prog X.w X.K X.mg X.base CX k f fd ps sp) (hr : Room k X.A) (hb : Binds X.K fd ps []) (hx : ∀ σ, PassesAt CX X σ (E σ))
    (ht : eval (.Call (.Attribute o m apos) [] [] pos) X.env = (do
      let ov ← eval o X.env
      standAt apos.atName
      let (f, first) ← holding [ov] (getMethod ov m pl)
      callWith pos f first (backTo pos (starEach [] X.env)) (backToKw pos (keywordEach [] X.env))) := by rfl) :
    PE X (.Call (.Attribute o m apos) [] [] pos) (tMethS C m sp E ta tNil) := by
  refine ⟨fun pins s σ H Q I h => ?_⟩
  refine PySem.W.methodCall_KW (pl := pl) (thn (he.run pins s σ H _ I h) fun u s1 ⟨x, H1, I1, rx, a, dx, fs, ex, ea, l, q⟩ => ?_) ht
  subst ex
  obtain rfl : u = Value.ref a := rx
  refine getmeth_ok I1 ea c hm l ?_
  exact PySem.W.callWith_K0 (first := [.ref a]) I1.kIn hm.kp (run_fnS (us := [.ref a]) (vs := [.ref a]) F hr hb (hx σ) I1 (.cons rfl .nil) q)
def tMakeS (C : Addr) (sp : Sp) (E : L2.St → XK) (t : TA) : TE := fun σ H Q => t σ H fun vs H1 => ∀ x dx, H1 x = none → H1 dx = none → dx ≠ x →
  sp (.ref x :: vs) (upd (upd H1 dx (.own x)) x (.ins C dx [])) (fun v H2 => v = .non ∧ Q (.ref x) H2) (E σ)
theorem run_makeS {pins : List (Addr × Obj)} {σ : L2.St} {H : Hp} {s : Shared} {Q : VK} {us : List Value} {vs : List V} (M : Mk X.K C f) (F : FnOk X.prog X.w X.K X.mg X.base CX k f fd ps sp) (hr : Room (k + 1) X.A) (hb : Binds X.K fd ps [])
    (hx : PassesAt CX X σ (E σ)) (I : Inv X pins σ H s) (r : Vals vs us)
    (h : ∀ x dx, H x = none → H dx = none → dx ≠ x → sp (.ref x :: vs) (upd (upd H dx (.own x)) x (.ins C dx [])) (fun v H2 => v = .non ∧ Q (.ref x) H2) (E σ)) :
    wpAny (model X.prog X.w) X.A (call (.ref C) us) (EP X pins σ Q) X.xe s := by
  have hq := h (s.heap.objs.size + 1) s.heap.objs.size (I.hok.fresh (Nat.le_succ _)) (I.hok.fresh (Nat.le_refl _)) (Nat.ne_of_lt (Nat.lt_succ_self _))
  have I2 := Inv.made (C := C) I
  have r2 : Vals (V.ref (s.heap.objs.size + 1) :: vs) (Value.ref (s.heap.objs.size + 1) :: us) := .cons rfl r
  have hl : (Value.ref (s.heap.objs.size + 1) :: us).length = ps.length := by
    have e := r2.length
    rw [F.len _ _ _ _ hq] at e
    exact e.symm
  have b := hb _ (Value.ref (s.heap.objs.size + 1) :: us) I2.kIn (by rw [List.append_nil]; exact hl)
  rw [List.append_nil] at b
  refine wpAny_call (make_map (f := f) I.kIn M.makes M.init (beq_iff_eq.mp M.fn) (codeAny_mono (F.run _ X.stack _ _ ⟨Value.ref (s.heap.objs.size + 1) :: us, []⟩ (Value.ref (s.heap.objs.size + 1) :: us) _ _ (E σ) (hr.make C us [])
    (I2.env0.make C us []) b r2 hq) fun r s' hq' => ?_))
  cases r with
  | error e => exact hx pins _ _ e s' I2 hq'
  | ok fl =>
    cases fl with
    | ret u =>
      obtain ⟨v, H', I3, rv, ev, q3⟩ := I2.after hq'
      subst ev
      exact ⟨rv, ⟨V.ref (s.heap.objs.size + 1), H', I3, rfl, q3⟩⟩
    | next => exact False.elim hq'
    | brk => exact False.elim hq'
    | cont => exact False.elim hq'
theorem pe_makeS (M : Mk X.K C f) (F : FnOk X.prog X.w X.K X.mg X.base CX k f fd ps sp) (hr : Room (k + 1) X.A) (hg : Gl X x) (hm : X.mg x = some (.ref C)) (hb : Binds X.K fd ps []) (hx : ∀ σ, PassesAt CX X σ (E σ))
    (ha : PA X (e :: es) t) (hdb : (x == ("__debug__" : Str)) = false := by decide) (he : starEach (e :: es) X.env = (false, eval e X.env) :: starEach es X.env := by rfl) (hpl : (backTo pos (starEach es X.env)).any (·.1) = false := by rfl) :
    PE X (.Call (.Name x p) (e :: es) [] pos) (tMakeS C sp E t) := by
  refine ⟨fun pins s σ H Q I h => ?_⟩
  refine wpAny_Call_Name_kw (ld_glob I hg hm ?_ hdb)
  refine PySem.W.callWith_K (h₀ := X.base) I.ok.mod.kin M.kp (thn (ha.run pos pins s σ H _ I h) fun us s1 ⟨vs, H1, I1, r, q⟩ => ⟨I1.kIn, ?_⟩) he hpl
  exact run_makeS M F hr hb (hx σ) I1 r q
end
section
variable {X : Cx} {W : WX} {CX : CXT} {k : Nat} {e o : Expr} {es : List Expr} {ma mo : M D} {mas : M (List D)} {pos apos p : Pos}
theorem meth_ok {K : PySem.W.Frag} {mg : Str → Option Value} {c m : String} {f : MF} {C : Addr} {t : TA} {σ : L2.St} {φ : Nat → Addr} {env : EN} {lh : LH} {H : Hp} {Q : VK} (ht : ∀ σ H Q, rdA K mg W mas σ H Q → t σ H Q) (gC : mg (Str.ofString c) = some (.ref C)) (h1 : HR K mg φ lh H) (h2 : RS K φ lh.length H env σ) (q : wp K mg W σ (RD K) (mMeth c m f mo mas env lh) φ lh H Q) :
    tMethS C (Str.ofString m) (spM K mg f) (fun σ => WE W σ) (rdE K mg W mo) t σ H Q := by
  refine rd_of h1 h2 (wp_step q fun x lh1 φ1 v H1 p1 r1 q1 => ?_)
  cases ei : insD c x lh1 with
  | none => rw [ei] at q1; exact q1.elim
  | some z =>
    obtain ⟨i, fs⟩ := z
    rw [ei] at q1
    dsimp only at q1
    obtain ⟨C', dx, vs, rfl, hi, _, gC', hH, rf⟩ := insD_ok p1.hr r1 ei
    rw [gC] at gC'
    cases gC'
    cases eg : getF m fs with
    | some d => rw [eg] at q1; exact q1.elim
    | none =>
      rw [eg] at q1
      dsimp only at q1
      refine ⟨_, dx, vs, rfl, hH, rf.gone eg, ht _ _ _ ?_⟩
      refine rd_of p1.hr (h2.up p1) (wp_step q1 fun xs lh2 φ2 ws H2 p2 r2 q2 => ?_)
      exact ⟨φ2, lh2, x :: xs, p2.hr, .cons (r1.up p2) r2, q2⟩
theorem qe_meth {pl : Sem Bool} {c m : String} {f : MF} (M : MeM CX X.prog X.w X.K X.mg X.base k c m f) (hr : Room k X.A) (hx : ∀ σ, PassesAt CX X σ (WE W σ)) (ho : QE X W o mo) (ha : QA X W (e :: es) mas)
    (hst : starEach (e :: es) X.env = (false, eval e X.env) :: starEach es X.env := by rfl) (hpl : (backTo pos (starEach es X.env)).any (·.1) = false := by rfl)
    (ht : eval (.Call (.Attribute o (Str.ofString m) apos) (e :: es) [] pos) X.env = (do
      let ov ← eval o X.env
      standAt apos.atName
      let (f, first) ← holding [ov] (getMethod ov (Str.ofString m) pl)
      callWith pos f first (backTo pos (starEach (e :: es) X.env)) (backToKw pos (keywordEach [] X.env))) := by rfl) :
    QE X W (.Call (.Attribute o (Str.ofString m) apos) (e :: es) [] pos) (mMeth c m f mo mas) := by
  obtain ⟨C, fa, fd, ps, gC, cl, hm, hb, F⟩ := M.ex
  exact qe_of (pe_methS (pl := pl) ho cl hm F hr hb hx ha hst hpl ht) fun σ φ env lh H Q h1 h2 q => meth_ok (fun _ _ _ h => h) gC h1 h2 q
theorem tNil_eq {K : PySem.W.Frag} {mg : Str → Option Value} {σ : L2.St} {H : Hp} {Q : List V → Hp → Prop} (h : rdA K mg W mNil σ H Q) : tNil σ H Q := by
  obtain ⟨φ, env, lh, h1, h2, q⟩ := h
  exact wp_ok (lh' := lh) q (.refl h1) .nil
theorem qe_meth0 {pl : Sem Bool} {c m : String} {f : MF} (M : MeM CX X.prog X.w X.K X.mg X.base k c m f) (hr : Room k X.A) (hx : ∀ σ, PassesAt CX X σ (WE W σ)) (ho : QE X W o mo)
    (ht : eval (.Call (.Attribute o (Str.ofString m) apos) [] [] pos) X.env = (do
      let ov ← eval o X.env
      standAt apos.atName
      let (f, first) ← holding [ov] (getMethod ov (Str.ofString m) pl)
      callWith pos f first (backTo pos (starEach [] X.env)) (backToKw pos (keywordEach [] X.env))) := by rfl) :
    QE X W (.Call (.Attribute o (Str.ofString m) apos) [] [] pos) (mMeth c m f mo mNil) := by
  obtain ⟨C, fa, fd, ps, gC, cl, hm, hb, F⟩ := M.ex
  exact qe_of (pe_methS0 (pl := pl) ho cl hm F hr hb hx ht) fun σ φ env lh H Q h1 h2 q => meth_ok (mas := mNil) (fun _ _ _ h => tNil_eq h) gC h1 h2 q
theorem make_ok {K : PySem.W.Frag} {mg : Str → Option Value} {c : String} {f : MF} {C : Addr} {σ : L2.St} {φ : Nat → Addr} {env : EN} {lh : LH} {H : Hp} {Q : VK} (gC : mg (Str.ofString c) = some (.ref C)) (h1 : HR K mg φ lh H) (h2 : RS K φ lh.length H env σ) (q : wp K mg W σ (RD K) (mMake c f mas env lh) φ lh H Q) :
    tMakeS C (spM K mg f) (fun σ => WE W σ) (rdA K mg W mas) σ H Q := by
  refine rd_of h1 h2 (wp_step q fun xs lh1 φ1 vs H1 p1 r1 q1 => ?_)
  intro x dx hx hdx ne
  have P1 : Po K mg φ1 lh1 H1 φ1 lh1 (upd H1 dx (.own x)) := Po.side p1.hr hdx
  have hx2 : upd H1 dx (.own x) x = none := by rw [upd_ne (Ne.symm ne)]; exact hx
  have P2 : Po K mg φ1 lh1 (upd H1 dx (.own x)) (ext1 φ1 lh1.length x) (lh1 ++ [.ins c []]) (upd (upd H1 dx (.own x)) x (.ins C dx [])) := Po.new P1.hr hx2 ⟨C, dx, [], gC, upd_same, .nil⟩
  have P := P1.trans P2
  have hl : lh1.length < (lh1 ++ [LO.ins c []]).length := by simp
  refine ⟨_, _, .ref lh1.length :: xs, P.hr, .cons ?_ (r1.up P), ?_⟩
  · have r : RD K (ext1 φ1 lh1.length x) (lh1 ++ [LO.ins c []]).length (upd (upd H1 dx (.own x)) x (.ins C dx [])) (.ref lh1.length) (.ref (ext1 φ1 lh1.length x lh1.length)) := .ref hl
    rw [ext1_at] at r
    exact r
  · revert q1
    cases f (.ref lh1.length :: xs) (lh1 ++ [.ins c []]) with
    | ok d lh2 =>
      intro q1 φ2 v H2 p2 r2
      cases d with
      | non =>
        cases r2
        refine ⟨rfl, ?_⟩
        have r : RD K φ2 lh2.length H2 (.ref lh1.length) (.ref (φ2 lh1.length)) := .ref (Nat.lt_of_lt_of_le hl p2.le)
        have e : φ2 lh1.length = x := (p2.ag _ hl).trans ext1_at
        rw [e] at r
        exact wp_ok (lh' := lh2) q1 (P.trans p2) r
      | _ => exact q1.elim
    | exc e lh2 => exact fun q1 φ2 cls dd H2 p2 er => q1 φ2 cls dd H2 (P.trans p2) er
    | bad => exact fun q1 => q1
theorem qe_make {c : String} {f : MF} (M : MkM CX X.prog X.w X.K X.mg X.base k c f) (hr : Room (k + 1) X.A) (hx : ∀ σ, PassesAt CX X σ (WE W σ)) (hg : Gl X (Str.ofString c)) (ha : QA X W (e :: es) mas)
    (hdb : (Str.ofString c == ("__debug__" : Str)) = false := by decide +kernel) (he : starEach (e :: es) X.env = (false, eval e X.env) :: starEach es X.env := by rfl) (hpl : (backTo pos (starEach es X.env)).any (·.1) = false := by rfl) :
    QE X W (.Call (.Name (Str.ofString c) p) (e :: es) [] pos) (mMake c f mas) := by
  obtain ⟨C, fa, fd, ps, gC, mk, hb, F⟩ := M.ex
  exact qe_of (pe_makeS mk F hr hg gC hb hx ha hdb he hpl) fun σ φ env lh H Q h1 h2 q => make_ok gC h1 h2 q
end
end HM
set_option Elab.async false
set_option linter.all false
set_option maxRecDepth 100000
set_option maxHeartbeats 4000000
namespace HM
open PySem L2 PySem.Spec PyProof.Rows
/-! ### dicts -/
abbrev KD := Sum Int (List Nat)
theorem kc_inj {a b : KD} (h : kc a = kc b) : a = b := by
  cases a with
  | inl i => cases b with
    | inl j => cases h; rfl
    | inr s => cases h
  | inr s => cases b with
    | inl j => cases h
    | inr t =>
      have h2 : (⟨s.toArray⟩ : Str) = ⟨t.toArray⟩ := Sum.inr.inj h
      injection h2 with h3
      have := congrArg Array.toList h3
      simp at this
      rw [this]
def keyD : D → Option KD
  | .int i => some (.inl i)
  | .str s => some (.inr s)
  | _ => none
def keysD : List D → Option (List KD)
  | [] => some []
  | d :: r => match keyD d, keysD r with
    | some k, some ks => some (k :: ks)
    | _, _ => none
section
variable {κ : Type} [DecidableEq κ]
def getKD (k : κ) : List (κ × D) → Option D
  | [] => none
  | (j, x) :: r => if j = k then some x else getKD k r
def putKD (k : κ) (d : D) (kvs : List (κ × D)) : List (κ × D) := if (getKD k kvs).isSome = true then kvs.map (fun kv => if kv.1 = k then (kv.1, d) else kv) else kvs ++ [(k, d)]
def dropKD (k : κ) (kvs : List (κ × D)) : List (κ × D) := kvs.filter fun kv => decide (kv.1 ≠ k)
end
section
variable {K : PySem.W.Frag} {mg : Str → Option Value} {φ φ' : Nat → Addr} {n n' : Nat} {H : Hp} {lh : LH}
theorem keyD_ok {d : D} {v : V} {k : KD} (r : RD K φ n H d v) (h : keyD d = some k) : v = kV (kc k) := by
  cases d with
  | int i => cases h; cases r; rfl
  | str s => cases h; cases r; rfl
  | _ => cases h
inductive RG {α β : Type} (c : α → β) (K : PySem.W.Frag) (φ : Nat → Addr) (n : Nat) (H : Hp) : List (α × D) → List (β × V) → Prop
  | nil : RG c K φ n H [] []
  | cons {k : α} {d : D} {v : V} {ds : List (α × D)} {vs : List (β × V)} : RD K φ n H d v → RG c K φ n H ds vs → RG c K φ n H ((k, d) :: ds) ((c k, v) :: vs)
theorem RKs.rg {ds : List (KD × D)} {vs : List (Key × V)} (r : RKs K φ n H ds vs) : RG kc K φ n H ds vs := by
  induction r with
  | nil => exact .nil
  | cons h _ ih => exact .cons h ih
theorem RTs.rg {ds : List (List KD × D)} {vs : List (List Key × V)} (r : RTs K φ n H ds vs) : RG (List.map kc) K φ n H ds vs := by
  induction r with
  | nil => exact .nil
  | cons h _ ih => exact .cons h ih
theorem RG.k {ds : List (KD × D)} {vs : List (Key × V)} (r : RG kc K φ n H ds vs) : RKs K φ n H ds vs := by
  induction r with
  | nil => exact .nil
  | cons h _ ih => exact .cons h ih
theorem RG.t {ds : List (List KD × D)} {vs : List (List Key × V)} (r : RG (List.map kc) K φ n H ds vs) : RTs K φ n H ds vs := by
  induction r with
  | nil => exact .nil
  | cons h _ ih => exact .cons h ih
section
variable {α β : Type} [DecidableEq α] [DecidableEq β] {c : α → β} (ci : ∀ a b, c a = c b → a = b)
include ci
theorem RG.get {k : α} {ds : List (α × D)} {vs : List (β × V)} (r : RG c K φ n H ds vs) : (∀ d, getKD k ds = some d → ∃ v, valV vs (c k) = some v ∧ RD K φ n H d v) ∧ (getKD k ds = none → valV vs (c k) = none) := by
  induction r with
  | nil => exact ⟨fun d h => (by cases h), fun _ => rfl⟩
  | @cons j d v ds vs h1 _ ih =>
    unfold getKD
    by_cases q : j = k
    · rw [if_pos q, valV_pos (show ((c j, v) : β × V).1 = c k by rw [q])]
      exact ⟨fun e h => ⟨v, rfl, by cases h; exact h1⟩, fun h => (by cases h)⟩
    · rw [if_neg q, valV_neg (fun z => q (ci _ _ z))]
      exact ih
theorem RG.some_iff {k : α} {ds : List (α × D)} {vs : List (β × V)} (r : RG c K φ n H ds vs) : (valV vs (c k)).isSome = (getKD k ds).isSome := by
  obtain ⟨g1, g2⟩ := r.get ci (k := k)
  cases e : getKD k ds with
  | none => rw [g2 e]; rfl
  | some d =>
    obtain ⟨v, e2, _⟩ := g1 d e
    rw [e2]; rfl
theorem RG.put {k : α} {d : D} {v : V} {ds : List (α × D)} {vs : List (β × V)} (r : RG c K φ n H ds vs) (q : RD K φ n H d v) : RG c K φ n H (putKD k d ds) (putK vs (c k) v) := by
  unfold putKD putK
  rw [valV_any, r.some_iff ci]
  split
  · rename_i hz
    clear hz
    induction r with
    | nil => exact .nil
    | @cons j d' v' ds vs h1 _ ih =>
      simp only [List.map_cons]
      by_cases e : j = k
      · rw [if_pos e, if_pos (show c j = c k by rw [e])]
        exact .cons q ih
      · rw [if_neg e, if_neg (fun z => e (ci _ _ z))]
        exact .cons h1 ih
  · rename_i hz
    clear hz
    induction r with
    | nil => exact .cons q .nil
    | cons h1 _ ih => exact .cons h1 ih
theorem RG.drop {k : α} {ds : List (α × D)} {vs : List (β × V)} (r : RG c K φ n H ds vs) : RG c K φ n H (dropKD k ds) (dropK vs (c k)) := by
  unfold dropKD dropK
  induction r with
  | nil => exact .nil
  | @cons j d' v' ds vs h1 _ ih =>
    simp only [List.filter_cons]
    by_cases e : j = k
    · rw [if_neg (by simp [e]), if_neg (by simp [e])]
      exact ih
    · rw [if_pos (by simp [e]), if_pos (by simpa using fun z => e (ci _ _ z))]
      exact .cons h1 ih
omit ci in
theorem RG.len {ds : List (α × D)} {vs : List (β × V)} (r : RG c K φ n H ds vs) : ds.length = vs.length := by
  induction r with
  | nil => rfl
  | cons _ _ ih => simp [ih]
omit ci in
theorem RG.keys {ds : List (α × D)} {vs : List (β × V)} (r : RG c K φ n H ds vs) : vs.map (·.1) = (ds.map (·.1)).map c := by
  induction r with
  | nil => rfl
  | cons _ _ ih => simp [ih]
omit ci in
theorem RG.mono {H' : Hp} {ds : List (α × D)} {vs : List (β × V)} (hn : n ≤ n') (ag : ∀ i, i < n → φ' i = φ i) (e : Ext H H') (r : RG c K φ n H ds vs) : RG c K φ' n' H' ds vs := by
  induction r with
  | nil => exact .nil
  | cons h _ ih => exact .cons (h.mono hn ag e) ih
end
inductive DK where
  | k (kvs : List (KD × D))
  | t (kvs : List (List KD × D))
def dctD (x : D) (h : LH) : Option (Nat × DK) := match x with
  | .ref i => match h[i]? with
    | some (.dK kvs) => some (i, .k kvs)
    | some (.dT kvs) => some (i, .t kvs)
    | _ => none
  | _ => none
theorem dctK_ok {x : D} {v : V} {i : Nat} {kvs : List (KD × D)} (hr : HR K mg φ lh H) (r : RD K φ lh.length H x v) (h : dctD x lh = some (i, .k kvs)) : ∃ vs, v = .ref (φ i) ∧ i < lh.length ∧ x = .ref i ∧ lh[i]? = some (.dK kvs) ∧ H (φ i) = some (.dK vs) ∧ RG kc K φ lh.length H kvs vs := by
  unfold dctD at h
  split at h
  · rename_i j
    obtain ⟨rfl, hi⟩ := r.ref_inv
    split at h
    · rename_i kvs' e
      cases h
      obtain ⟨vs, hv, rv⟩ := hr.obj _ _ e
      exact ⟨vs, rfl, hi, rfl, e, hv, rv.rg⟩
    · cases h
    · cases h
  · cases h
def dctR (x : D) (h : LH) : Option (Nat × DK) := match x with
  | .ref i => match h[i]? with
    | some (.dK kvs) => some (i, .k kvs)
    | some (.dT kvs) => some (i, .t kvs)
    | some (.dL kvs) => some (i, .k kvs)
    | _ => none
  | _ => none
theorem dctRK_ok {x : D} {v : V} {i : Nat} {kvs : List (KD × D)} (hr : HR K mg φ lh H) (r : RD K φ lh.length H x v) (h : dctR x lh = some (i, .k kvs)) : ∃ vs, v = .ref (φ i) ∧ Rd H (φ i) (.dK vs) ∧ RG kc K φ lh.length H kvs vs := by
  unfold dctR at h
  split at h
  · rename_i j
    obtain ⟨rfl, hi⟩ := r.ref_inv
    split at h
    · rename_i kvs' e
      cases h
      obtain ⟨vs, hv, rv⟩ := hr.obj _ _ e
      exact ⟨vs, rfl, .inl hv, rv.rg⟩
    · cases h
    · rename_i kvs' e
      cases h
      obtain ⟨o, vs, hv, rv⟩ := hr.obj _ _ e
      exact ⟨vs, rfl, .inr ⟨o, hv⟩, rv.rg⟩
    · cases h
  · cases h
theorem kc_ij : ∀ a b : KD, kc a = kc b → a = b := fun _ _ h => kc_inj h
theorem dK_put {i : Nat} {kvs : List (KD × D)} {vs : List (Key × V)} (hr : HR K mg φ lh H) (hi : i < lh.length) {ws : List (Key × V)} (hH : H (φ i) = some (.dK ws)) (r : RG kc K φ lh.length H kvs vs) : Po K mg φ lh H φ (lh.set i (.dK kvs)) (upd H (φ i) (.dK vs)) :=
  Po.put hr hi (Wr.dK hH) ⟨vs, upd_same, (r.mono (Nat.le_refl _) (fun _ _ => rfl) (by
    obtain ⟨u, hu, u1, u2⟩ := Wr.dK hH
    exact Ext.put hu u1 u2)).k⟩
end
/-! ### rules by either of two -/
section
variable {X : Cx} {W : WX} {e : Expr} {st : Stmt}
theorem qe_two {m1 m2 m : M D} (h1 : QE X W e m1) (h2 : QE X W e m2) (h : ∀ env lh, m env lh = m1 env lh ∨ m env lh = m2 env lh) : QE X W e m :=
  ⟨fun pins s σ H Q I ⟨φ, env, lh, a, b, q⟩ => by
    rcases h env lh with z | z
    · exact h1.run pins s σ H Q I ⟨φ, env, lh, a, b, by rw [← z]; exact q⟩
    · exact h2.run pins s σ H Q I ⟨φ, env, lh, a, b, by rw [← z]; exact q⟩⟩
theorem mOp_or {f g k : D → D → LH → Res D} {ma mb : M D} (h : ∀ x y lh, k x y lh = f x y lh ∨ k x y lh = g x y lh) (env : EN) (lh : LH) : mOp k ma mb env lh = mOp f ma mb env lh ∨ mOp k ma mb env lh = mOp g ma mb env lh := by
  unfold mOp
  cases ma env lh with
  | ok x h1 =>
    show ((mb env h1).bind fun y h2 => k x y h2) = _ ∨ ((mb env h1).bind fun y h2 => k x y h2) = _
    cases eb : mb env h1 with
    | ok y h2 =>
      rcases h x y h2 with z | z
      · left; simp only [Res.bind, eb, z]
      · right; simp only [Res.bind, eb, z]
    | exc y h2 => left; simp only [Res.bind, eb]
    | bad => left; simp only [Res.bind, eb]
  | exc x h1 => left; rfl
  | bad => left; rfl
end
/-! ### d[k], k in d -/
def dGetK : D → D → LH → Res D := fun x y h => match dctR x h, keyD y with
  | some (_, .k kvs), some k => match getKD k kvs with
    | some d => .ok d h
    | none => .bad
  | _, _ => .bad
def dIxA : D → D → LH → Res D := fun x y h => match dctR x h with
  | some _ => dGetK x y h
  | none => dIx x y h
def inKD (y x : D) (h : LH) : Option Bool := match dctR x h, keyD y with
  | some (_, .k kvs), some k => some (getKD k kvs).isSome
  | _, _ => none
def dNotInA : D → D → LH → Res D := fun y x h => match dctR x h with
  | some _ => (match inKD y x h with
    | some b => .ok (.bl (!b)) h
    | none => .bad)
  | none => dNotIn y x h
section
variable {X : Cx} {W : WX} {a b : Expr} {ma mb mv : M D} {pos : Pos}
theorem qe_dget (hu : X.A.units + 1 < cLine) (ha : QE X W a ma) (hb : QE X W b mb) (hs : NoSl b) : QE X W (.Subscript a b pos) (mOp dGetK ma mb) := by
  refine qe_of (pe_dget hu ha hb hs) fun σ φ env lh H Q h1 h2 q => ?_
  refine rd_of h1 h2 (wp_step q fun x lh1 φ1 v H1 p1 r1 q1 => ?_)
  refine rd_of p1.hr (h2.up p1) (wp_step q1 fun y lh2 φ2 w H2 p2 r2 q2 => ?_)
  have r1' := r1.up p2
  unfold dGetK at q2
  split at q2
  · rename_i i kvs k e1 e2
    split at q2
    · rename_i d e3
      obtain ⟨vs, rfl, hH, rg⟩ := dctRK_ok p2.hr r1' e1
      obtain ⟨u, eu, ru⟩ := (rg.get kc_ij).1 d e3
      rw [keyD_ok r2 e2]
      exact ⟨_, u, rfl, by rw [← eu]; exact .inl ⟨_, _, hH, rfl, rfl⟩, wp_ok q2 (.refl p2.hr) ru⟩
    · exact q2.elim
  · exact q2.elim
theorem qe_ixA (hu : X.A.units + 1 < cLine) (ha : QE X W a ma) (hb : QE X W b mb) (hs : NoSl b) (hs' : PlainIx b) : QE X W (.Subscript a b pos) (mOp dIxA ma mb) :=
  qe_two (qe_ix ha hb hs') (qe_dget hu ha hb hs) (mOp_or fun x y lh => by
    unfold dIxA
    split
    · exact .inr rfl
    · exact .inl rfl)
def rDNotIn : R2 := fun y x H Q => ∃ a o, x = V.ref a ∧ DGet H a y o ∧ Q (.bl (!o.isSome)) H
theorem op_dnotin (hu : X.A.units + 1 < cLine) : OpR X (compareOp .NotIn) rDNotIn := by
  intro pins s σ H x y v u Q I rx ry ⟨a, o, ex, g, q⟩
  subst ex
  obtain rfl : u = Value.ref a := ry
  exact d_notIn hu I g rx fun s3 I3 => ⟨.bl (!o.isSome), H, I3, rfl, q⟩
theorem inKD_ok {K : PySem.W.Frag} {mg : Str → Option Value} {φ : Nat → Addr} {lh : LH} {H : Hp} {x y : D} {v w : V} {b : Bool} (hr : HR K mg φ lh H) (rx : RD K φ lh.length H x v) (ry : RD K φ lh.length H y w) (h : inKD y x lh = some b) :
    ∃ a o, v = V.ref a ∧ DGet H a w o ∧ o.isSome = b := by
  unfold inKD at h
  split at h
  · rename_i i kvs k e1 e2
    cases h
    obtain ⟨vs, rfl, hH, rg⟩ := dctRK_ok hr rx e1
    rw [keyD_ok ry e2]
    exact ⟨_, _, rfl, .inl ⟨_, _, hH, rfl, rfl⟩, rg.some_iff kc_ij⟩
  · cases h
theorem opm_notInA (hu : X.A.units + 1 < cLine) : OpM X (compareOp .NotIn) dNotInA := by
  obtain ⟨r, h, k⟩ := opm_notIn (X := X)
  refine ⟨_, h.or (op_dnotin hu), fun W σ φ lh H x y v w Q hr rx ry q => ?_⟩
  unfold dNotInA at q
  split at q
  · split at q
    · rename_i b e
      obtain ⟨a, o, rfl, g, rfl⟩ := inKD_ok hr ry rx e
      exact .inr ⟨a, o, rfl, g, wp_ok q (.refl hr) (.bl _)⟩
    · exact q.elim
  · exact .inl (k W σ φ lh H x y v w Q hr rx ry q)
end
/-! ### tuple keys, written where they are used -/
def inTD (ys : List D) (x : D) (h : LH) : Option (Option D) := match dctD x h, keysD ys with
  | some (_, .t kvs), some k => some (getKD k kvs)
  | _, _ => none
def mInT (neg : Bool) (mk : M (List D)) (ma : M D) : M D := fun e h => (mk e h).bind fun ys h1 => if ys.length ≤ 16777216 then (ma e h1).bind fun x h2 => match inTD ys x h2 with
  | some o => .ok (.bl (o.isSome != neg)) h2
  | none => .bad else .bad
def mGetT (ma : M D) (mk : M (List D)) : M D := fun e h => (ma e h).bind fun x h1 => (mk e h1).bind fun ys h2 => if ys.length ≤ 16777216 then (match inTD ys x h2 with
  | some (some d) => .ok d h2
  | _ => .bad) else .bad
def sPutT (ma : M D) (mk : M (List D)) (mv : M D) : MS := fun e h => rsBind (mv e h) e fun v h1 => rsBind (ma e h1) e fun x h2 => rsBind (mk e h2) e fun ys h3 => if ys.length ≤ 16777216 then (match dctD x h3, keysD ys with
  | some (i, .t kvs), some k => if kvs.length < 16777216 then .next e (h3.set i (.dT (putKD k v kvs))) else .bad
  | _, _ => .bad) else .bad
section
variable {X : Cx} {W : WX} {a value : Expr} {ks : List Expr} {ma mv : M D} {mk : M (List D)} {pos p1 pos' : Pos}
end
/-! ### d[k] = v -/
def sPutK (ma mb mv : M D) : MS := fun e h => rsBind (mv e h) e fun v h1 => rsBind (ma e h1) e fun x h2 => rsBind (mb e h2) e fun y h3 => match dctD x h3, keyD y with
  | some (i, .k kvs), some k => if kvs.length < 16777216 then .next e (h3.set i (.dK (putKD k v kvs))) else .bad
  | _, _ => .bad
def sDelK (ma mb : M D) : MS := fun e h => rsBind (ma e h) e fun x h1 => rsBind (mb e h1) e fun y h2 => match dctD x h2, keyD y with
  | some (i, .k kvs), some k => if (getKD k kvs).isSome = true then .next e (h2.set i (.dK (dropKD k kvs))) else .bad
  | _, _ => .bad
section
variable {X : Cx} {W : WX} {a b value : Expr} {ma mb mv : M D} {pos p1 pos' tpos : Pos}
theorem qs_putK (hu : X.A.units + 1 < cLine) (ha : QE X W a ma) (hb : QE X W b mb) (hv : QE X W value mv) (hs : swapsWith value (some (.Subscript a b pos')) pos.line X.env = pure false := by rfl) :
    QS X W (.Assign [.Subscript a b pos'] value pos) (sPutK ma mb mv) := by
  refine psI (ps_dput hu ha hb hv hs) fun D σ H ⟨φ, env, lh, h1, h2, q⟩ => ?_
  have q' : wps X.K X.mg W (sPutK ma mb mv env lh) φ lh H D := q
  refine rd_of h1 h2 (wps_step h2 q' fun y lh1 φ1 u H1 p1 r1 q1 => ?_)
  refine rd_of p1.hr (h2.up p1) (wps_step (h2.up p1) q1 fun x lh2 φ2 v H2 p2 r2 q2 => ?_)
  refine rd_of p2.hr ((h2.up p1).up p2) (wps_step ((h2.up p1).up p2) q2 fun z lh3 φ3 w H3 p3 r3 q3 => ?_)
  split at q3
  · rename_i i kvs k e1 e2
    split at q3
    · rename_i hl2
      obtain ⟨vs, rfl, hi, _, _, hH, rg⟩ := dctK_ok p3.hr (r2.up p3) e1
      rw [keyD_ok r3 e2]
      have P2 := dK_put p3.hr hi hH (rg.put kc_ij (k := k) ((r1.up p2).up p3))
      exact ⟨_, _, rfl, DPut.k hH (by rw [← rg.len, sizeLine_eq]; exact hl2), q3 _ _ _ P2 ((((h2.up p1).up p2).up p3).up P2)⟩
    · exact q3.elim
  · exact q3.elim
end
/-! ### len, get, pop, dict(d) -/
def mDGet1 (o k : M D) : M D := fun e h => (o e h).bind fun x h1 => match dctD x h1 with
  | some _ => (k e h1).bind fun y h2 => (match dctD x h2, keyD y with
    | some (_, .k kvs), some k => .ok ((getKD k kvs).getD .non) h2
    | _, _ => .bad)
  | none => .bad
section
variable {X : Cx} {W : WX} {o e f : Expr} {mo me mf : M D} {apos cpos : Pos}
end
end HM
set_option Elab.async false
set_option linter.all false
set_option maxRecDepth 100000
set_option maxHeartbeats 4000000
/-! ### clauses with and without a name -/
namespace L2
open PySem PySem.Spec PyProof.Rows
structure ClX where
  c : Value
  i : Option Nat
  ts : Addr → Value → Option Addr → TS
inductive HdsM (X : Cx) : List ExceptHandler → List ClX → Prop
  | nil : HdsM X [] []
  | pl {x : Str} {c : Value} {ts : Addr → Value → Option Addr → TS} {b₀ : Stmt} {suite : List Stmt} {np pos' : Pos} {hds : List ExceptHandler} {l : List ClX} (hc : Names X x c)
      (hsu : ∀ (a : Addr) (oe : Obj) (cls : Value) (d : Option Addr) (pn : List (Addr × Obj)), Zc cls d oe → (∃ vs, oe.data = .fields vs) → PSs (X.suite a ((a, oe) :: pn)) (b₀ :: suite) (ts a cls d)) (r : HdsM X hds l) :
      HdsM X (.ExceptHandler (some (.Name x np)) none (b₀ :: suite) pos' :: hds) (⟨c, none, ts⟩ :: l)
  | nm {x n : Str} {i : Nat} {c : Value} {ts : Addr → Value → Option Addr → TS} {b₀ : Stmt} {suite : List Stmt} {np pos' : Pos} {hds : List ExceptHandler} {l : List ClX} (hN : X.N.Nodup) (hi : X.N[i]? = some n) (hln : X.env.kindOf n = some .local) (hc : Names X x c)
      (hsu : ∀ (a : Addr) (oe : Obj) (cls : Value) (d : Option Addr) (pn : List (Addr × Obj)), Zc cls d oe → (∃ vs, oe.data = .fields vs) → PSs (X.suite a ((a, oe) :: pn)) (b₀ :: suite) (ts a cls d)) (r : HdsM X hds l) :
      HdsM X (.ExceptHandler (some (.Name x np)) (some n) (b₀ :: suite) pos' :: hds) (⟨c, some i, ts⟩ :: l)
section
variable {X : Cx} {body : List Stmt} {h₀ : ExceptHandler} {hds : List ExceptHandler} {l : List ClX} {pos : Pos} {tb : WX → TS} {Wout : WX}
end
end L2
namespace HM
open PySem L2 PySem.Spec PyProof.Rows
/-! ### an error's reason -/
def redOf (x : XO) : Option (Option D) := match x.flds with
  | [] => some none
  | [(f, d)] => if f = "reason" then some (some d) else none
  | _ => none
def exD (p : Addr × Addr) (z : Option D) : D := match z with
  | none => .exn p.1
  | some d => .exr p.1 p.2 d
inductive Cla where
  | pl (mt : String → Option Bool) (ms : MS)
  | nm (mt : String → Option Bool) (i : Nat) (ms : XO → Addr × Addr → MS)
/-! the error's addresses are not seen -/
def UqS (i : Nat) (m : Addr × Addr → MS) : Prop := ∀ (p p' : Addr × Addr) (z : Option D) (e : EN) (h : LH), match m p (e.set i (some (exD p z))) h with
  | .ret d h2 => m p' (e.set i (some (exD p' z))) h = .ret d h2
  | .next e2 h2 => ∃ e0, e2 = List.set e0 i (some (exD p z)) ∧ m p' (e.set i (some (exD p' z))) h = .next (e0.set i (some (exD p' z))) h2
  | .cnt e2 h2 => ∃ e0, e2 = List.set e0 i (some (exD p z)) ∧ m p' (e.set i (some (exD p' z))) h = .cnt (e0.set i (some (exD p' z))) h2
  | _ => True
section
variable {i : Nat}
end
section
variable {X : Cx} {W : WX}
structure InSu (mg : Str → Option Value) (x : XO) (C0 : Addr) (d : Option Addr) (oe : Obj) : Prop where
  gC : mg (Str.ofString x.cls) = some (.ref C0)
  z : Zc (.ref C0) d oe
  f : ∃ vs, oe.data = .fields vs
  d0 : redOf x = some none → d = none
  d1 : ∀ r, redOf x = some (some r) → ∃ dx, d = some dx
inductive QHm (X : Cx) : List ExceptHandler → List Cla → List ClX → Prop
  | nil : QHm X [] [] []
  | pl {y : String} {C : Addr} {mt : String → Option Bool} {ms : MS} {b₀ : Stmt} {suite : List Stmt} {np pos' : Pos} {hds : List ExceptHandler} {cl : List Cla} {l : List ClX}
      (gC : X.mg (Str.ofString y) = some (.ref C)) (hg : Gl X (Str.ofString y)) (hm : MtOk X.K X.mg y mt) (hsu : ∀ (a : Addr) (oe : Obj) (pn : List (Addr × Obj)), QSs (X.suite a ((a, oe) :: pn)) W0 (b₀ :: suite) ms) (r : QHm X hds cl l)
      (hdb : (Str.ofString y == ("__debug__" : Str)) = false := by decide +kernel) :
      QHm X (.ExceptHandler (some (.Name (Str.ofString y) np)) none (b₀ :: suite) pos' :: hds) (.pl mt ms :: cl) (⟨.ref C, none, fun _ _ _ => rdS X.K X.mg W0 ms⟩ :: l)
  | nm {y : String} {C : Addr} {mt : String → Option Bool} {n : Str} {i : Nat} {ms : XO → Addr × Addr → MS} {b₀ : Stmt} {suite : List Stmt} {np pos' : Pos} {hds : List ExceptHandler} {cl : List Cla} {l : List ClX}
      (hN : X.N.Nodup) (hi : X.N[i]? = some n) (hln : X.env.kindOf n = some .local)
      (gC : X.mg (Str.ofString y) = some (.ref C)) (hg : Gl X (Str.ofString y)) (hm : MtOk X.K X.mg y mt)
      (hsu : ∀ (a : Addr) (oe : Obj) (pn : List (Addr × Obj)) (x : XO) (C0 : Addr) (d : Option Addr), InSu X.mg x C0 d oe → QSs (X.suite a ((a, oe) :: pn)) W0 (b₀ :: suite) (ms x (a, d.getD 0)))
      (un : ∀ x, UqS i (ms x)) (r : QHm X hds cl l) (hdb : (Str.ofString y == ("__debug__" : Str)) = false := by decide +kernel) :
      QHm X (.ExceptHandler (some (.Name (Str.ofString y) np)) (some n) (b₀ :: suite) pos' :: hds) (.nm mt i ms :: cl)
        (⟨.ref C, some i, fun a cls d D σ H => ∃ x C0, X.mg (Str.ofString x.cls) = some (.ref C0) ∧ cls = .ref C0 ∧ (redOf x = some none → d = none) ∧ (∀ r, redOf x = some (some r) → ∃ dx, d = some dx) ∧ rdS X.K X.mg W0 (ms x (a, d.getD 0)) D σ H⟩ :: l)
theorem QHm.ok {hds : List ExceptHandler} {cl : List Cla} {l : List ClX} (q : QHm X hds cl l) : HdsM X hds l := by
  induction q with
  | nil => exact .nil
  | pl gC hg hm hsu r hdb ih => exact .pl ⟨hg, hdb, .inl gC⟩ (fun a oe cls d pn _ _ => hsu a oe pn) ih
  | nm hN hi hln gC hg hm hsu un r hdb ih =>
    refine .nm hN hi hln ⟨hg, hdb, .inl gC⟩ (fun a oe cls d pn hz hfl => ⟨fun pins s σ H D I ⟨x, C0, h1, h2, h3, h4, h5⟩ => ?_⟩) ih
    subst h2
    exact (hsu a oe pn x C0 d ⟨h1, hz, hfl, h3, h4⟩).run pins s σ H D I h5
structure XfK (K : PySem.W.Frag) (mg : Str → Option Value) (rt : String → Bool) : Prop where
  ex : ∀ x C, mg (Str.ofString x) = some (.ref C) → rt x = true → XfC K C ∧ PySem.W.findIn K (.ref C) (Str.ofString "reason") = some none
end
end HM
set_option Elab.async false
set_option linter.all false
set_option maxRecDepth 100000
set_option maxHeartbeats 4000000
namespace HM
open PySem L2 PySem.Spec PyProof.Rows
/-! ### raise X(e), X's __init__ stores a reason -/
def spLow (C : Addr) : Sp := fun vs H Q E => ∃ a v, vs = [.ref a, v] ∧ H a = some (exo a C none) ∧ ∀ dx, H dx = none → dx ≠ a → Q .non (upd (upd H dx (exd dx [(Str.ofString "reason", v)])) a (exo a C (some dx)))
structure LowC (K : PySem.W.Frag) (C : Addr) : Prop where
  T : OexC K C
  no : PySem.W.findIn K (.ref C) (Str.ofString "reason") = some none
structure XCR (P : Program) (w : World) (K : PySem.W.Frag) (mg : Str → Option Value) (base : Heap) (x : String) : Prop where
  ex : ∃ C fI fd, mg (Str.ofString x) = some (.ref C) ∧ LowC K C ∧ PySem.W.findIn K (.ref C) "__init__" = some (some (.ref fI)) ∧ PySem.W.typeIn K (.ref fI) = some (.type "function") ∧ Binds K fd [Str.ofString "self", Str.ofString "reason"] [] ∧
    FnOk P w K mg base CX0 1 fI fd [Str.ofString "self", Str.ofString "reason"] (spLow C)
def sRaiseI (x : String) (m : M D) : MS := fun e h => rsBind (m e h) e fun d h1 => .exc ⟨x, [("reason", d)]⟩ e h1
section
variable {X : Cx} {W : WX}
end
/-! ### isinstance(e, C) of a caught error that may have a reason -/
end HM
namespace PySem.W
open PySem PySem.Spec PySem.Calls PyProof.Rows
section
variable {prog : Program} {w : World} {A : Around} {E : Value → Shared → Prop} {s : Shared} {K : Frag} {x D : Addr} {ox : Obj} {od : Option Obj}
end
end PySem.W
namespace HM
open PySem L2 PySem.Spec PyProof.Rows
section
variable {X : Cx} {W : WX}
end
end HM
set_option Elab.async false
set_option linter.all false
set_option maxRecDepth 100000
set_option maxHeartbeats 4000000
namespace HM
open PySem L2 PySem.Spec PyProof.Rows
/-! ### displays of dicts -/
inductive RPs (K : PySem.W.Frag) (φ : Nat → Addr) (n : Nat) (H : Hp) : List (D × D) → List (V × V) → Prop
  | nil : RPs K φ n H [] []
  | cons {x y : D} {u v : V} {ds vs} : RD K φ n H x u → RD K φ n H y v → RPs K φ n H ds vs → RPs K φ n H ((x, y) :: ds) ((u, v) :: vs)
section
variable {K : PySem.W.Frag} {mg : Str → Option Value} {φ φ' : Nat → Addr} {lh lh' : LH} {H H' : Hp}
theorem RPs.up (p : Po K mg φ lh H φ' lh' H') {ds vs} (r : RPs K φ lh.length H ds vs) : RPs K φ' lh'.length H' ds vs := by
  induction r with
  | nil => exact .nil
  | cons a b _ ih => exact .cons (a.up p) (b.up p) ih
end
section
variable {X : Cx} {W : WX}
end
/-! ### sorted of a dict with texts as keys -/
def strKs : List KD → Option (List (List Nat))
  | [] => some []
  | .inr s :: r => (strKs r).map fun l => s :: l
  | .inl _ :: _ => none
def dSortedA : MF := fun xs h => match xs with
  | [x] => (match dctD x h with
    | some (_, .k kvs) => (match strKs (kvs.map (·.1)) with
      | some ss => if ss.length ≤ 1000000 then .ok (.ref h.length) (h ++ [.lst ((sortS ss).map D.str)]) else .bad
      | none => .bad)
    | some _ => .bad
    | none => dSorted [x] h)
  | _ => .bad
theorem strKs_ok : ∀ {ks : List KD} {ss : List (List Nat)}, strKs ks = some ss → ks.map kc = (ss.map fun s => (⟨s.toArray⟩ : Str)).map Sum.inr
  | [], _, h => by cases h; rfl
  | .inr s :: r, ss, h => by
    unfold strKs at h
    cases e : strKs r with
    | none => rw [e] at h; cases h
    | some l =>
      rw [e] at h
      cases h
      simp only [List.map_cons, strKs_ok e]
      rfl
  | .inl _ :: _, _, h => by cases h
theorem sortS_of {ss : List (List Nat)} {ys : List Str} (hp : ys.Perm (ss.map fun s => (⟨s.toArray⟩ : Str))) (hs : PyProof.Rows.sortedS ys = true) : ys = (sortS ss).map fun s => (⟨s.toArray⟩ : Str) := by
  have e1 : (ys.map fun s => s.cps.toList) = sortS ss := by
    refine sort_unique ?_ (sorted_pw hs)
    have := hp.map (fun s : Str => s.cps.toList)
    rw [List.map_map] at this
    have e3 : ss.map ((fun s : Str => s.cps.toList) ∘ fun s => (⟨s.toArray⟩ : Str)) = ss := by
      conv => rhs; rw [← List.map_id ss]
      exact List.map_congr_left fun s _ => by simp
    rw [e3] at this
    exact this
  rw [← e1, List.map_map]
  conv => lhs; rw [← List.map_id ys]
  exact List.map_congr_left fun s _ => (str_eta s).symm
theorem sortedD_any {X : Cx} (hc : X.calm = true) : CallR X (.builtin "sorted") fun xs H Q => ∃ (a : Addr) (kvs : List (Key × V)) (ks : List Str), xs = [.ref a] ∧ Rd H a (.dK kvs) ∧ kvs.map (·.1) = ks.map Sum.inr ∧ ks.length ≤ 1000000 ∧
    ∀ ys p, ys.Perm ks → PyProof.Rows.sortedS ys = true → H p = none → Q (.ref p) (upd H p (.lst (ys.map V.str))) := by
  rintro pins s σ H xs us Q I r ⟨a, kvs, ks, rfl, hd, hks, hn, q⟩
  obtain ⟨u, rfl, rx⟩ := vals1 r
  cases rx
  obtain ⟨-, lo, vs, rel, dd⟩ := dk_rd I.hok hd
  obtain ⟨ep, hat⟩ := dd.dictAt
  have ek : vs.map (·.1) = ks.map Sum.inr := by rw [← rel.keys]; exact hks
  have el : vs.length = ks.length := by simpa using congrArg List.length ek
  have zl : ∀ n : Nat, n = ks.length → n ≤ sizeLine := fun n e => by rw [sizeLine_eq]; omega
  refine Calls.call_function_entry PyProof.Rows.kind_sorted PyProof.Rows.plain_sorted PyProof.Rows.entry_sorted (PyProof.Rows.args_sorted1 _) ?_
  unfold Builtin.«sorted»
  refine wpAny_bind (m := checkCount "sorted" 1 1 _) (wpAny_pure (wpAny_bind (PySem.W.kdu_collect (A := X.A.in1) (PySem.W.kdl_dict (knd := mixKind X.prog X.w) (kvs := vs) (ep := ep) lo) (I.ok.hd hc) hat (zl _ el) fun g tk acc hk ⟨ha, hi⟩ => ?_)))
  have al : acc.toList.length = ks.length := by rw [Array.length_toList, ha, el]
  have hS : StrsAre acc.toList ks := strs_at al fun j v ev => by
    obtain ⟨k, x, e1, e2⟩ := hi j v (by rw [← Array.getElem?_toList]; exact ev)
    have e3 : (ks.map Sum.inr : List Key)[j]? = some k := by rw [← ek, List.getElem?_map, e1]; all_goals rfl
    rw [List.getElem?_map] at e3
    obtain ⟨y, ey, rfl⟩ := Option.map_eq_some_iff.mp e3
    obtain ⟨t, et⟩ := Value.isStrOf_shape (x := y) (v := v) e2
    exact ⟨y, t, ey, et⟩
  refine wpAny_bind (wpAny_newList ?_ (zl _ al))
  have at0 : (g.push (seqObj "list" acc.toList.toArray 0)).get? g.objs.size = some (seqObj "list" acc.toList.toArray 0) := Heap.get?_push_size _ rfl
  show wpAny _ _ _ _ _ { s with heap := g.push (seqObj "list" acc.toList.toArray 0), toks := tk }
  refine wpAny_bind (wpAny_holding (wpAny_call_entry PyProof.Rows.slot_list_sort ⟨_, at0, rfl⟩ PyProof.Rows.entry_list_sort
    (PyProof.Rows.list_sort_treeKAny strKind_oneLt (s := { s with heap := g.push (seqObj "list" acc.toList.toArray 0), toks := tk }) at0 hS.keysOf (fun _ _ _ e => keyKind_strs (by rw [← e]; exact hS)) (zl _ al) fun st hp hs => ⟨_, rfl, ?_⟩) (PyProof.Rows.args_list_sort _)))
  obtain ⟨ys, y1, y2, y3⟩ := sorted_out_str hS hp hs
  obtain ⟨n', at1⟩ := PyProof.Rows.sortedHeap_at (vs := acc.toList) (out := (arrOf st).map (·.2)) at0
  have I1 : Inv X pins σ H { s with heap := g, toks := tk } := I.kept hk
  have lay : ObjOk X.prog X.w (upd H g.objs.size (.lst (ys.map V.str))) (PyProof.Rows.sortedHeap (g.push (seqObj "list" acc.toList.toArray 0)) g.objs.size acc.toList ((arrOf st).map (·.2))) g.objs.size (.lst (ys.map V.str)) :=
    ⟨zl _ (by rw [List.length_map, y2.length_eq]), _, n', vals_of_strs y1, by rw [Array.toArray_toList]; exact at1⟩
  refine wpAny_pure ⟨_, rfl, .ref g.objs.size, _, I1.laid (t' := tk) (fun b o e => ?_) (Nat.le_refl _) lay, rfl, q ys _ y2 y3 (I1.hok.fresh (Nat.le_refl _))⟩
  have lb := Heap.lt_size e
  rw [PyProof.Rows.sortedHeap_old (Nat.ne_of_lt lb) (by rw [size_push']; exact Nat.lt_succ_of_lt lb)]
  exact Heap.get?_push_of_some _ e
theorem cm_sortedA {X : Cx} (hc : X.calm = true) : CallM X (.builtin "sorted") dSortedA := by
  obtain ⟨r, h, k⟩ := cm_sorted (X := X)
  refine ⟨_, h.or (sortedD_any hc), fun W σ φ lh H xs vs Q hr rs q => ?_⟩
  unfold dSortedA at q
  split at q
  · rename_i x
    obtain ⟨v, rfl, rx⟩ := rs.one
    split at q
    · rename_i i kvs e1
      obtain ⟨ws, rfl, hi, _, _, hH, rg⟩ := dctK_ok hr rx e1
      split at q
      · rename_i ss es
        split at q
        · rename_i hl
          refine .inr ⟨_, ws, _, rfl, .inl hH, (rg.keys).trans (strKs_ok es), by simpa using hl, fun ys p hp hs hn => ?_⟩
          rw [sortS_of hp hs]
          exact wp_newL q hr hn (RDs.strs _)
        · exact q.elim
      · exact q.elim
    · exact q.elim
    · exact .inl (k W σ φ lh H [x] [v] Q hr rs q)
  · exact q.elim
end HM
set_option Elab.async false
set_option linter.all false
set_option maxRecDepth 100000
set_option maxHeartbeats 4000000
namespace HM
open PySem L2 PySem.Spec PyProof.Rows
/-! ### raise X() -/
theorem pmk_own0 {X : Cx} {C : Addr} {bmB : List Value} {B newId initId : String} {x : Str} {p pos : Pos} (F : ExcBaseFacts B newId initId bmB) (q : PySem.W.excIn X.K C bmB newId = true) (gC : X.mg x = some (.ref C)) (kC : PySem.W.keepIn X.K (.ref C) = true) (r : Raises X (.ref C)) (hg : Gl X x)
    (hdb : (x == ("__debug__" : Str)) = false := by decide) : PMk X (.Call (.Name x p) [] [] pos) (fun _ H Q => Q (.ref C) none H) := by
  intro pins s σ H Q I h
  refine wpAny_Call_Name_kw (ld_glob I hg gC ?_ hdb)
  refine PySem.W.callWith_K0 I.kIn kC ?_
  obtain ⟨bm, N, nm, qn, bs, hdct, sn, sub, ab, col, dd, k0, k1, k2, k3, k5, mN, hC, hN, hni, T⟩ := exc_obj I.kIn q
  refine wpAny_call_exc_subT F T hC hN hni (fun h' e hm => ?_) (by show 0 ≤ sizeLine; omega)
  exact mk_of I hm r h (I.hok.gone hm.new)
section
variable {X : Cx} {W : WX}
theorem qs_raise0 {x : String} {C : Addr} {p pos pos' : Pos} (hc : X.calm = true) (tk : Takes X W) (T : XC X.K X.mg x C) (hg : Gl X (Str.ofString x)) (hdb : (Str.ofString x == ("__debug__" : Str)) = false := by decide +kernel) :
    QS X W (.Raise (some (.Call (.Name (Str.ofString x) p) [] [] pos)) none pos') (sRaise x) :=
  psI (ps_raise hc tk (pmk_own0 PySem.F.excBase_ValueError T.ex T.gC T.kC (raises_own T.bC T.tC) hg hdb)) fun D σ H ⟨φ, env, lh, h1, h2, q⟩ =>
    q φ (.ref C) none σ H (.refl h1) ⟨C, T.gC, rfl, fun _ => rfl, fun z => absurd rfl z⟩ h2
/-! ### calls without arguments that may raise -/
end
/-! ### an empty dict for tuple keys -/
def mDictT : M D := fun _ h => .ok (.ref h.length) (h ++ [.dT []])
end HM
set_option Elab.async false
set_option linter.all false
set_option maxRecDepth 100000
set_option maxHeartbeats 4000000
namespace HM
open PySem L2 PySem.Spec PyProof.Rows
/-! ### x in a list of data of any depth -/
section
variable {X : Cx}
end
end HM
set_option Elab.async false
set_option linter.all false
set_option maxRecDepth 100000
set_option maxHeartbeats 4000000
namespace HM
open PySem L2 PySem.Spec PyProof.Rows
/-! ### a set of texts, and its texts in order -/
def tx (e : Int × Value) : Str := match e.2 with
  | .str k _ => k
  | _ => Str.empty
def TE1 (P : Program) (w : World) (e : Int × Value) : Prop := ∃ k tk, e.2 = Value.str k tk ∧ e.1 = (strKind P w).hash k
structure SetU (P : Program) (w : World) (h : Heap) (a : Addr) (L : List Str) (o : Obj) (es : Array (Int × Value)) (ep : Nat) (t : SetTable) : Prop where
  fo : h.get? a = some o
  fx : o.ExactSet
  fd : o.data = Data.set es ep t
  fe : ∀ e ∈ es.toList, TE1 P w e
  fp : (es.toList.map tx).Perm L
  fn : L.Nodup
  ff : t.fits es.size = true
  fr : Ris t.place.toList
  fl : w.params.followText "set-order" = true ∨ t.led = true
section
variable {P : Program} {w : World} {A : Around} {E : Value → Shared → Prop} {s : Shared} {a : Addr} {L : List Str} {o : Obj} {es : Array (Int × Value)} {ep : Nat} {t : SetTable}
theorem SetU.mem {h : Heap} (u : SetU P w h a L o es ep t) (k : Str) : k ∈ L ↔ ∃ e ∈ es.toList, (strKind P w).is k e.2 = true := by
  rw [← u.fp.mem_iff, List.mem_map]
  constructor
  · rintro ⟨e, he, rfl⟩
    obtain ⟨k, tk, h1, _⟩ := u.fe e he
    refine ⟨e, he, ?_⟩
    unfold tx
    rw [h1]
    exact strKind_is P w k tk
  · rintro ⟨e, he, q⟩
    obtain ⟨k', tk, h1, _⟩ := u.fe e he
    refine ⟨e, he, ?_⟩
    rw [h1] at q
    unfold tx
    rw [h1]
    simpa [PySem.strKind, Value.isStrOf] using q
end
section
variable {P : Program} {w : World} {A : Around} {E : Value → Shared → Prop} {s : Shared}
end
end HM
set_option Elab.async false
set_option linter.all false
set_option maxRecDepth 100000
set_option maxHeartbeats 4000000
namespace HM
open PySem L2 PySem.Spec PyProof.Rows
section
variable {P : Program} {w : World} {A : Around} {E : Value → Shared → Prop} {s : Shared}
set_option maxRecDepth 100000 in
set_option maxHeartbeats 3200000 in
set_option maxRecDepth 100000 in
set_option maxHeartbeats 3200000 in
end
end HM
set_option Elab.async false
set_option linter.all false
set_option maxRecDepth 100000
set_option maxHeartbeats 4000000
namespace HM
open PySem L2 PySem.Spec PyProof.Rows
/-! ### sorted(set(texts)) -/
end HM
set_option Elab.async false
set_option linter.all false
set_option maxRecDepth 100000
set_option maxHeartbeats 4000000
namespace HM
open PySem L2 PySem.Spec PyProof.Rows
/-! ### t.index(x): the first place of a text in a tuple of texts -/
def dTIndex : MM := fun x xs h => match x, xs with
  | .tup ys, [.str z] => (match strsD ys with
    | some ss => (match ss.findIdx? (fun s => s == z) with
      | some j => .ok (.int (j : Nat)) h
      | none => .bad)
    | none => .bad)
  | _, _ => .bad
section
variable {X : Cx} {W : WX} {o e : Expr} {mo : M D} {mas : M (List D)} {apos cpos : Pos}
theorem mm_tindex : MetM X "tuple.index" dTIndex := by
  refine ⟨_, L2.mt_tup_index, fun W σ φ lh H x xs v vs Q hr rx rs q => ?_⟩
  unfold dTIndex at q
  split at q
  · rename_i ys z
    split at q
    · rename_i ss es
      split at q
      · rename_i j ej
        obtain ⟨a, ws, rfl, hq, r2⟩ := rx.tup_inv
        obtain ⟨u, rfl, r1⟩ := rs.one
        cases r1
        have ew := strsD_ok r2 es
        subst ew
        obtain ⟨hj, pj, nj⟩ := List.findIdx?_eq_some_iff_getElem.mp ej
        refine ⟨a, ss.map fun s => (⟨s.toArray⟩ : Str), _, j, rfl, rfl, hq, ?_, fun m hm => ?_, wp_ok q (.refl hr) (.int _)⟩
        · rw [List.getElem?_map, List.getElem?_eq_getElem hj]
          have : ss[j] = z := by simpa using pj
          rw [this]
          rfl
        · rw [List.getElem?_map, List.getElem?_eq_getElem (by omega)]
          intro h
          have h' : ss[m] = z := by simpa using h
          exact nj m hm (by simpa using h')
      · exact q.elim
    · exact q.elim
  · exact q.elim
end
end HM
set_option Elab.async false
set_option linter.all false
set_option maxRecDepth 100000
set_option maxHeartbeats 4000000
namespace HM
open PySem L2 PySem.Spec PyProof.Rows
/-! ### sorted of a list of pairs of texts -/
/-! ### a tuple of texts as a name of the module -/
def GT (K : PySem.W.Frag) (mg : Str → Option Value) (x : Str) (ss : List String) : Prop :=
  ∃ (a : Addr) (o : Obj) (its : Array Value) (n : Nat), mg x = some (.ref a) ∧ K.lookup a = some o ∧ o.cls = .type "tuple" ∧ o.dict = none ∧ o.data = .seq its n ∧ its.size ≤ sizeLine ∧ Vals (ss.map fun s => V.str (Str.ofString s)) its.toList
theorem RDs.Ss {K : PySem.W.Frag} {φ : Nat → Addr} {n : Nat} {H : Hp} : ∀ ss : List String, RDs K φ n H (ss.map S) (ss.map fun s => V.str (Str.ofString s))
  | [] => .nil
  | s :: ss => .cons (rd_str _) (RDs.Ss ss)
section
variable {X : Cx} {W : WX} {o e : Expr} {ma : M D} {apos cpos : Pos}
def mTIx (ds : List D) (ma : M D) : M D := fun e h => (mCons ma mNil e h).bind fun xs h1 => dTIndex (.tup ds) xs h1
theorem qe_gindex {x : Str} {ss : List String} {pos : Pos} (hg : Gl X x) (hm : GT X.K X.mg x ss) (ha : QE X W e ma) (hdb : (x == ("__debug__" : Str)) = false := by decide)
    (hbase : attributeBase (.Name x pos) "index" X.env (eval (.Name x pos) X.env) = eval (.Name x pos) X.env := by rfl)
    (hfew : ((backTo cpos (starEach (e :: []) X.env)).all (fun x => !x.1) && (backToKw cpos (keywordEach [] X.env)).all (fun x => x.1.isSome)
      && decide ((e :: []).length + ([] : List Keyword).length + (if ([] : List Keyword).isEmpty then 0 else 1) < 30)) = true := by rfl)
    (hline : (apos.endLine == cpos.line) = true := by rfl) (hs : starEach (e :: []) X.env = (false, eval e X.env) :: starEach [] X.env := by rfl) (hplain : (backTo cpos (starEach [] X.env)).any (·.1) = false := by rfl) :
    QE X W (.Call (.Attribute (.Name x pos) "index" apos) [e] [] cpos) (mTIx (ss.map S) ma) := by
  obtain ⟨a, ob, its, n, h1, h2, h3, h4, h5, h6, h7⟩ := hm
  obtain ⟨r, h, k⟩ := mm_tindex (X := X)
  have hq : ∀ H, SqT X.K H a (ss.map fun s => V.str (Str.ofString s)) := fun H => .inr ⟨ob, its, n, h2, h3, h5, h6, h7⟩
  refine qe_of (pe_bm PySem.F.plainAttrs_tuple PySem.F.slot_tuple_index PySem.F.type_tuple_index h (pe_glob hg h1 (v := .ref a) rfl hdb) (qa_cons ha qa_nil hs) hbase hfew hline hs hplain) fun σ φ env lh H Q g1 g2 q => ?_
  refine ⟨.inr (.inl ⟨rfl, ob, h2, h3, h4⟩), ?_⟩
  refine rd_of g1 g2 (wp_step q fun xs lh1 φ1 vs H1 p1 r1 q1 => ?_)
  exact k W σ φ1 lh1 H1 (.tup (ss.map S)) xs (.ref a) vs Q p1.hr (.tup (hq H1) (RDs.Ss ss)) r1 q1
end
end HM
set_option Elab.async false
set_option linter.all false
set_option maxRecDepth 100000
set_option maxHeartbeats 4000000
/-! the head by one kernel run, its facts as tests by names -/
namespace HM
open PySem L2 PySem.Spec PyProof.Rows HE
theorem walk_ME {l : PySem.W.OpenLaw} {k : Nat} {q : Program} {loose : List Str} {XP : (Str → Option Value) → Heap → Prop} {YP : World → Heap → Prop} {d : DefRec} {f : MF} {x : Str} (L : LawOk f) (hn : l.most = some 63) (hdf : d.params.defaults = []) (hr : Room k callerA)
    (F : ∀ (w : World) (mg : Str → Option Value) (fa : Addr) (h : Heap), YP w h → h.Ns mainGlobals mg → mg d.name = some (.ref fa) → ∃ K : PySem.W.Frag, K.In h ∧
      ∃ fd : FuncData, (∀ (s : Shared) (u : Value), BindsTo s fd ⟨[u], []⟩ [(x, u)]) ∧ ∀ base : Heap, K.In base → base.Ns mainGlobals mg → FnOk l.prog w K mg base (L2.CX l.prog w) k fa fd [x] (spM K mg f)) :
    PySem.W.WalkO q loose XP YP l.row.toRowW d [] (fun f vs => PySem.call f vs) := by
  refine Att.attach_callB hn hdf fun w s₀ s₁ mg mb fa o pm cd doc a vs ns G Y ho hd hcd hmg hobj hints hlen hbits hg => ?_
  obtain ⟨K, KX, fd, hb, hF⟩ := F w mg fa _ Y G.T.g hmg
  exact law_call KX G.T.g G.T.b G.T.builtins G.T.nolimit hg hobj hints (Nat.le_trans hlen (by decide)) hr hF hb (fun H hO hS => law_end L hlen hbits hO hS) fun H e s' h => cx_false h
theorem intT_ok {K : PySem.W.Frag} {x : Str} {i : Int} (c : intT K x i = true) : ∃ t, PySem.W.nsIn K mainGlobals x = some (some (.int i t)) := by
  unfold intT at c
  split at c
  · rename_i j t e
    have ej : j = i := of_decide_eq_true c
    rw [ej] at e
    exact ⟨t, e⟩
  · cases c
theorem strT_ok {K : PySem.W.Frag} {x z : Str} (c : strT K x z = true) : ∃ t, PySem.W.nsIn K mainGlobals x = some (some (.str z t)) := by
  unfold strT at c
  split at c
  · rename_i j t e
    have ej : j = z := of_decide_eq_true c
    rw [ej] at e
    exact ⟨t, e⟩
  · cases c
theorem tupT_ok {K : PySem.W.Frag} {x : Str} {ss : List String} {h : Heap} {mg : Str → Option Value} (X : K.In h) (G : h.Ns mainGlobals mg) (c : tupT K x ss = true) : GT K mg x ss := by
  obtain ⟨h, g⟩ := Bool.and_eq_true_iff.mp c
  have g := of_decide_eq_true g
  split at h
  · rename_i c its n sl e
    obtain ⟨h1, h2⟩ := Bool.and_eq_true_iff.mp h
    obtain ⟨h3, h4⟩ := Bool.and_eq_true_iff.mp h2
    exact ⟨_, _, its, n, PySem.W.mg_of X G g, e, congrArg Value.type (of_decide_eq_true h1), rfl, rfl, of_decide_eq_true h3, He.relAll_ok h4⟩
  · cases h
end HM
set_option Elab.async false
set_option linter.all false
set_option maxRecDepth 100000
set_option maxHeartbeats 4000000

namespace L
open PySem L2 HM
def fuel : Nat := 100000000
abbrev FUEL : Nat := 24
def b_is_printable : MS := (sSeq (sIf (mTNot (mTru (mIsI .str (mVar 0)))) (sRet (mC (.bl false))) sNil)
    (sSeq (sFor (iAny (mVar 0)) (.nm 1) (sSeq (sSet 2 (mApp dOrd (mCons (mVar 1) mNil)))
    (sIf (mTOr (mTst (mOp dLt (mVar 2) (mC (.int 32)))) (mTOr (mTst (mOp dGt (mVar 2) (mC (.int 126)))) (mTst (mOp dEq (mVar 2) (mC (.int 37)))))) (sRet (mC (.bl false))) sNil)))
    (sRet (mC (.bl true)))))
def f_is_printable : MF := mkF 1 3 b_is_printable
def b_is_integer : MS := (sSeq (sIf (mTOr (mTNot (mTru (mIsI .int (mVar 0)))) (mTru (mIsI .bool (mVar 0)))) (sRet (mC (.bl false))) sNil)
    (sRet (mChain dLe dLe (mVar 1) (mVar 0) (mVar 2))))
def f_is_integer : MF := mkF 3 3 b_is_integer
def b_digest : MS := (sSeq (sSet 1 (mOp dAdd (mApp dLen (mCons (mVar 0) mNil)) (mC (.int 1))))
    (sSeq (sFor (iAny (mVar 0)) (.nm 2) (sSet 1 (mOp dMod (mOp dAdd (mOp dMul (mVar 1) (mC (.int 65599))) (mApp dOrd (mCons (mVar 2) mNil))) (mC (.int 2361183241434822606617)))))
    (sRet (mUn dHex (mVar 1)))))
def f_digest : MF := mkF 1 3 b_digest
def b_made_of : MS := (sSeq (sFor (iAny (mVar 0)) (.nm 2) (sIf (mTst (mOp dNotIn (mVar 2) (mVar 1))) (sRet (mC (.bl false))) sNil))
    (sRet (mC (.bl true))))
def f_made_of : MF := mkF 2 3 b_made_of
def b_is_list_name : MS := (sRet (mAnd (mIsI .str (mVar 0)) (mAnd (mChain dLe dLe (mC (.int 1)) (mApp dLen (mCons (mVar 0) mNil)) (mC (.int 12))) (mApp f_made_of (mCons (mVar 0) (mCons (mC (S "abcdefghijklmnopqrstuvwxyz")) mNil))))))
def f_is_list_name : MF := mkF 1 1 b_is_list_name
def b_is_key : MS := (sSeq (sIf (mTOr (mTNot (mTru (mIsI .str (mVar 0)))) (mTNot (mTst (mChain dLe dLe (mC (.int 2)) (mApp dLen (mCons (mVar 0) mNil)) (mC (.int 12)))))) (sRet (mC (.bl false))) sNil)
    (sRet (mAnd (mOp dEq (mOp dIx (mVar 0) (mC (.int 0))) (mC (S "k"))) (mApp f_made_of (mCons (mSl (mVar 0) (mPart (mC (.int 1))) mNoP) (mCons (mC (S "0123456789")) mNil))))))
def f_is_key : MF := mkF 1 1 b_is_key
def b_has_parts : MS := (sSeq (sIf (mTOr (mTNot (mTru (mIsI .str (mVar 0)))) (mTst (mOp dGt (mApp dLen (mCons (mVar 0) mNil)) (mC (.int 60))))) (sRet (mC (.bl false))) sNil)
    (sSeq (sSet 2 (mMet isStr dSplit (mVar 0) (mCons (mC (S "/")) mNil)))
    (sSeq (sIf (mTst (mOp dGt (mApp dLen (mCons (mVar 2) mNil)) (mC (.int 6)))) (sRet (mC (.bl false))) sNil)
    (sSeq (sFor (iAny (mVar 2)) (.nm 3) (sIf (mTOr (mTst (mOp dEq (mVar 3) (mC (S "")))) (mTNot (mTru (mApp f_made_of (mCons (mVar 3) (mCons (mVar 1) mNil)))))) (sRet (mC (.bl false))) sNil))
    (sRet (mC (.bl true)))))))
def f_has_parts : MF := mkF 2 4 b_has_parts
def b_is_path : MS := (sRet (mApp f_has_parts (mCons (mVar 0) (mCons (mC (S "abcdefghijklmnopqrstuvwxyz0123456789.-_")) mNil))))
def f_is_path : MF := mkF 1 1 b_is_path
def b_is_pattern : MS := (sRet (mApp f_has_parts (mCons (mVar 0) (mCons (mC (S "abcdefghijklmnopqrstuvwxyz0123456789.-_*")) mNil))))
def f_is_pattern : MF := mkF 1 1 b_is_pattern
def b_ends_behind : MS := (sSeq (sIf (mTst (mOp dNe (mVar 1) (mC (S "*")))) (sRet (mLc (iAny (mVar 0)) (.nm 3) (mTst (mOp dEq (mSl (mVar 2) (mPart (mVar 3)) (mPart (mOp dAdd (mVar 3) (mC (.int 1))))) (mVar 1))) (mOp dAdd (mVar 3) (mC (.int 1))) [3])) sNil)
    (sSeq (sIf (mTst (mOp dEq (mVar 0) (mLst mNil))) (sRet (mLst mNil)) sNil)
    (sRet (mLRg (mOp dIx (mVar 0) (mC (.int 0))) (mOp dAdd (mApp dLen (mCons (mVar 2) mNil)) (mC (.int 1)))))))
def f_ends_behind : MF := mkF 3 4 b_ends_behind
def b_part_matches : MS := (sSeq (sSet 2 (mLst (mCons (mC (.int 0)) mNil)))
    (sSeq (sFor (iAny (mVar 0)) (.nm 3) (sSet 2 (mApp f_ends_behind (mCons (mVar 2) (mCons (mVar 3) (mCons (mVar 1) mNil))))))
    (sRet (mOp dIn (mApp dLen (mCons (mVar 1) mNil)) (mVar 2)))))
def f_part_matches : MF := mkF 2 4 b_part_matches
def b_matches : MS := (sSeq (sSet 2 (mMet isStr dSplit (mVar 0) (mCons (mC (S "/")) mNil)))
    (sSeq (sSet 3 (mMet isStr dSplit (mVar 1) (mCons (mC (S "/")) mNil)))
    (sSeq (sIf (mTst (mOp dNe (mApp dLen (mCons (mVar 2) mNil)) (mApp dLen (mCons (mVar 3) mNil)))) (sRet (mC (.bl false))) sNil)
    (sSeq (sFor (iRng1M (mCons (mApp dLen (mCons (mVar 3) mNil)) mNil)) (.nm 4) (sIf (mTNot (mTru (mApp f_part_matches (mCons (mOp dIx (mVar 2) (mVar 4)) (mCons (mOp dIx (mVar 3) (mVar 4)) mNil))))) (sRet (mC (.bl false))) sNil))
    (sRet (mC (.bl true)))))))
def f_matches : MF := mkF 2 5 b_matches
def b__law_same (R : Nat → MF) : MS := (sSeq (sIf (mTru (mIsI .tuple (mVar 1))) (sSeq (sIf (mTOr (mTNot (mTru (mIsI .tuple (mVar 0)))) (mTst (mOp dNe (mApp dLen (mCons (mVar 0) mNil)) (mApp dLen (mCons (mVar 1) mNil))))) (sRet (mC (.bl false))) sNil)
    (sSeq (sFor (iRng1M (mCons (mApp dLen (mCons (mVar 1) mNil)) mNil)) (.nm 2) (sIf (mTNot (mTru (mApp (R 0) (mCons (mOp dIx (mVar 0) (mVar 2)) (mCons (mOp dIx (mVar 1) (mVar 2)) mNil))))) (sRet (mC (.bl false))) sNil))
    (sRet (mC (.bl true))))) sNil)
    (sSeq (sIf (mTst (mOp dIs (mVar 1) (mC .non))) (sRet (mOp dIs (mVar 0) (mC .non))) sNil)
    (sSeq (sIf (mTru (mIsI .str (mVar 1))) (sRet (mAnd (mIsI .str (mVar 0)) (mOp dEq (mVar 0) (mVar 1)))) sNil)
    (sRet (mAnd (mIsI .int (mVar 0)) (mAnd (mNot (mIsI .bool (mVar 0))) (mOp dEq (mVar 0) (mVar 1))))))))
def F__law_same : Nat → Nat → MF
  | 0, _ => fun _ _ => .bad
  | n + 1, _ => mkF 2 3 (b__law_same (F__law_same n))
def f__law_same : MF := F__law_same FUEL 0
def b_is_row : MS := (sRet (mAnd (mIsI .tuple (mVar 0)) (mOp dEq (mApp dLen (mCons (mVar 0) mNil)) (mVar 1))))
def f_is_row : MF := mkF 2 2 b_is_row
def b_is_table : MS := (sRet (mAnd (mIsI .tuple (mVar 0)) (mOp dLe (mApp dLen (mCons (mVar 0) mNil)) (mVar 1))))
def f_is_table : MF := mkF 2 2 b_is_table
def b_is_ascending : MS := (sSeq (sFor (iRng2M (mCons (mC (.int 1)) (mCons (mApp dLen (mCons (mVar 0) mNil)) mNil))) (.nm 1) (sIf (mTst (mOp dGe (mOp dIx (mVar 0) (mOp dSub (mVar 1) (mC (.int 1)))) (mOp dIx (mVar 0) (mVar 1)))) (sRet (mC (.bl false))) sNil))
    (sRet (mC (.bl true))))
def f_is_ascending : MF := mkF 1 2 b_is_ascending
def b_is_role : MS := (sSeq (sIf (mTOr (mTNot (mTru (mApp f_is_row (mCons (mVar 0) (mCons (mC (.int 2)) mNil))))) (mTNot (mTru (mApp f_is_table (mCons (mOp dIx (mVar 0) (mC (.int 1))) (mCons (mC (.int 16)) mNil)))))) (sRet (mC (.bl false))) sNil)
    (sSeq (sFor (iAny (mOp dIx (mVar 0) (mC (.int 1)))) (.nm 1) (sIf (mTNot (mTru (mApp f_is_key (mCons (mVar 1) mNil)))) (sRet (mC (.bl false))) sNil))
    (sRet (mAnd (mApp f_is_ascending (mCons (mOp dIx (mVar 0) (mC (.int 1))) mNil)) (mApp f_is_integer (mCons (mOp dIx (mVar 0) (mC (.int 0))) (mCons (mC (.int 1)) (mCons (mApp dLen (mCons (mOp dIx (mVar 0) (mC (.int 1))) mNil)) mNil))))))))
def f_is_role : MF := mkF 1 2 b_is_role
def b_is_digest : MS := (sSeq (sIf (mTOr (mTNot (mTru (mIsI .str (mVar 0)))) (mTst (mOp dNe (mApp dLen (mCons (mVar 0) mNil)) (mC (.int 18))))) (sRet (mC (.bl false))) sNil)
    (sSeq (sFor (iAny (mVar 0)) (.nm 1) (sIf (mTst (mOp dNotIn (mVar 1) (mC (S "0123456789abcdef")))) (sRet (mC (.bl false))) sNil))
    (sRet (mC (.bl true)))))
def f_is_digest : MF := mkF 1 2 b_is_digest
def b_is_grant : MS := (sSeq (sIf (mTOr (mTNot (mTru (mApp f_is_row (mCons (mVar 0) (mCons (mC (.int 4)) mNil))))) (mTOr (mTNot (mTru (mApp f_is_list_name (mCons (mOp dIx (mVar 0) (mC (.int 0))) mNil)))) (mTst (mOp dEq (mOp dIx (mVar 0) (mC (.int 0))) (mC (S "list")))))) (sRet (mC (.bl false))) sNil)
    (sSeq (sIf (mTOr (mTNot (mTru (mApp f_is_role (mCons (mOp dIx (mVar 0) (mC (.int 1))) mNil)))) (mTOr (mTNot (mTru (mApp f_is_table (mCons (mOp dIx (mVar 0) (mC (.int 2))) (mCons (mC (.int 8)) mNil))))) (mTst (mOp dEq (mOp dIx (mVar 0) (mC (.int 2))) (mTup mNil))))) (sRet (mC (.bl false))) sNil)
    (sSeq (sFor (iAny (mOp dIx (mVar 0) (mC (.int 2)))) (.nm 1) (sIf (mTNot (mTru (mApp f_is_pattern (mCons (mVar 1) mNil)))) (sRet (mC (.bl false))) sNil))
    (sRet (mApp f_is_integer (mCons (mOp dIx (mVar 0) (mC (.int 3))) (mCons (mC (.int 0)) (mCons (mC (.int 1)) mNil))))))))
def f_is_grant : MF := mkF 1 2 b_is_grant
def b_is_version : MS := (sRet (mApp f_is_integer (mCons (mVar 0) (mCons (mC (.int 1)) (mCons (mC (.int 1000000000000)) mNil)))))
def f_is_version : MF := mkF 1 1 b_is_version
def b_is_amount : MS := (sRet (mApp f_is_integer (mCons (mVar 0) (mCons (mC (.int 0)) (mCons (mC (.int 1000000000000)) mNil)))))
def f_is_amount : MF := mkF 1 1 b_is_amount
def b_has_head : MS := (sRet (mAnd (mOp dEq (mOp dIx (mVar 0) (mC (.int 0))) (mVar 1)) (mAnd (mApp f_is_version (mCons (mOp dIx (mVar 0) (mVar 2)) mNil)) (mApp f_is_amount (mCons (mOp dIx (mVar 0) (mOp dAdd (mVar 2) (mC (.int 1)))) mNil)))))
def f_has_head : MF := mkF 3 3 b_has_head
def b_are_goods : MS := (sSeq (sIf (mTNot (mTru (mApp f_is_table (mCons (mVar 0) (mCons (mC (.int 64)) mNil))))) (sRet (mC (.bl false))) sNil)
    (sSeq (sFor (iAny (mVar 0)) (.nm 1) (sIf (mTOr (mTNot (mTru (mApp f_is_row (mCons (mVar 1) (mCons (mC (.int 3)) mNil))))) (mTOr (mTNot (mTru (mApp f_is_path (mCons (mOp dIx (mVar 1) (mC (.int 0))) mNil)))) (mTOr (mTNot (mTru (mApp f_is_amount (mCons (mOp dIx (mVar 1) (mC (.int 1))) mNil)))) (mTNot (mTru (mApp f_is_digest (mCons (mOp dIx (mVar 1) (mC (.int 2))) mNil))))))) (sRet (mC (.bl false))) sNil))
    (sRet (mApp f_is_ascending (mCons (mLc (iAny (mVar 0)) (.nm 1) mYes (mOp dIx (mVar 1) (mC (.int 0))) [1]) mNil)))))
def f_are_goods : MF := mkF 1 2 b_are_goods
def b_are_grants : MS := (sSeq (sIf (mTNot (mTru (mApp f_is_table (mCons (mVar 0) (mCons (mC (.int 32)) mNil))))) (sRet (mC (.bl false))) sNil)
    (sSeq (sSet 2 (mLst (mCons (mVar 1) mNil)))
    (sSeq (sFor (iAny (mVar 0)) (.nm 3) (sSeq (sIf (mTOr (mTNot (mTru (mApp f_is_grant (mCons (mVar 3) mNil)))) (mTst (mOp dIn (mOp dIx (mVar 3) (mC (.int 0))) (mVar 2)))) (sRet (mC (.bl false))) sNil)
    (sExpr (mMet isLst dAppend (mVar 2) (mCons (mOp dIx (mVar 3) (mC (.int 0))) mNil)))))
    (sRet (mC (.bl true))))))
def f_are_grants : MF := mkF 2 4 b_are_grants
def b_is_list : MS := (sSeq (sIf (mTOr (mTNot (mTru (mApp f_is_row (mCons (mVar 0) (mCons (mC (.int 6)) mNil))))) (mTOr (mTNot (mTru (mApp f_has_head (mCons (mVar 0) (mCons (mC (S "list")) (mCons (mC (.int 2)) mNil)))))) (mTNot (mTru (mApp f_is_list_name (mCons (mOp dIx (mVar 0) (mC (.int 1))) mNil)))))) (sRet (mC (.bl false))) sNil)
    (sRet (mAnd (mApp f_are_goods (mCons (mOp dIx (mVar 0) (mC (.int 4))) mNil)) (mApp f_are_grants (mCons (mOp dIx (mVar 0) (mC (.int 5))) (mCons (mOp dIx (mVar 0) (mC (.int 1))) mNil))))))
def f_is_list : MF := mkF 1 1 b_is_list
def b_covers : MS := (sSeq (sFor (iAny (mOp dIx (mVar 0) (mC (.int 2)))) (.nm 2) (sIf (mTru (mApp f_matches (mCons (mVar 2) (mCons (mVar 1) mNil)))) (sRet (mC (.bl true))) sNil))
    (sRet (mC (.bl false))))
def f_covers : MF := mkF 2 3 b_covers
def b_good_of : MS := (sSeq (sFor (iAny (mOp dIx (mVar 0) (mC (.int 4)))) (.nm 2) (sIf (mTst (mOp dEq (mOp dIx (mVar 2) (mC (.int 0))) (mVar 1))) (sRet (mTup (mCons (mOp dIx (mVar 2) (mC (.int 1))) (mCons (mOp dIx (mVar 2) (mC (.int 2))) mNil)))) sNil))
    (sRet (mC .non)))
def f_good_of : MF := mkF 2 3 b_good_of
def b_entry_of : MS := (sSeq (sFor (iAny (mOp dIx (mVar 0) (mC (.int 3)))) (.nm 2) (sIf (mTst (mOp dEq (mOp dIx (mVar 2) (mC (.int 0))) (mVar 1))) (sRet (mTup (mCons (mOp dIx (mVar 2) (mC (.int 1))) (mCons (mOp dIx (mVar 2) (mC (.int 2))) (mCons (mOp dIx (mVar 2) (mC (.int 3))) mNil))))) sNil))
    (sRet (mC .non)))
def f_entry_of : MF := mkF 2 3 b_entry_of
def b_mark_of : MS := (sRet (mApp f_digest (mCons (mOp dAdd (mOp dAdd (mVar 0) (mC (S " "))) (mVar 1)) mNil)))
def f_mark_of : MF := mkF 2 2 b_mark_of
def b_Seals_make : MS := (sSeq (sIf (mTNot (mTru (mApp f_is_key (mCons (mVar 1) mNil)))) (sRaise "BadKey") sNil)
    (sSeq (sIf (mTNot (mTru (mApp f_is_printable (mCons (mVar 2) mNil)))) (sRaise "BadText") sNil)
    (sSeq (sSet 3 (mApp f_mark_of (mCons (mVar 1) (mCons (mVar 2) mNil))))
    (sSeq (sPutT (mUn (fldD "Seals" "_marks") (mVar 0)) (mCons (mVar 1) (mCons (mVar 2) mNil)) (mVar 3))
    (sRet (mVar 3))))))
def f_Seals_make : MF := mkF 3 4 b_Seals_make
def b_Seals_holds : MS := (sSeq (sIf (mTOr (mTNot (mTru (mIsI .str (mVar 1)))) (mTOr (mTNot (mTru (mIsI .str (mVar 2)))) (mTNot (mTru (mIsI .str (mVar 3)))))) (sRet (mC (.bl false))) sNil)
    (sSeq (sIf (mTst (mInT true (mCons (mVar 1) (mCons (mVar 2) mNil)) (mUn (fldD "Seals" "_marks") (mVar 0)))) (sRet (mC (.bl false))) sNil)
    (sRet (mOp dEq (mGetT (mUn (fldD "Seals" "_marks") (mVar 0)) (mCons (mVar 1) (mCons (mVar 2) mNil))) (mVar 3)))))
def f_Seals_holds : MF := mkF 4 4 b_Seals_holds
end L
set_option Elab.async false
set_option linter.all false
set_option maxRecDepth 100000
set_option maxHeartbeats 4000000
namespace HM
open PySem L2
/-! ### any, all of a list of truth values -/
def blsD : List D → Option (List Bool)
  | [] => some []
  | .bl b :: r => match blsD r with
    | some bs => some (b :: bs)
    | none => none
  | _ :: _ => none
def dAny : List D → LH → Res D
  | [.ref i], h => match h[i]? with
    | some (.lst xs) => match blsD xs with
      | some bs => .ok (.bl (bs.any id)) h
      | none => .bad
    | _ => .bad
  | _, _ => .bad
def dAll : List D → LH → Res D
  | [.ref i], h => match h[i]? with
    | some (.lst xs) => match blsD xs with
      | some bs => .ok (.bl (bs.all id)) h
      | none => .bad
    | _ => .bad
  | _, _ => .bad
theorem rds_bls {K : PySem.W.Frag} {φ : Nat → Addr} {n : Nat} {H : Hp} : ∀ {xs : List D} {ws : List V} {bs : List Bool}, blsD xs = some bs → RDs K φ n H xs ws → ws = bs.map V.bl := by
  intro xs
  induction xs with
  | nil =>
    intro ws bs e r
    cases e
    cases r
    rfl
  | cons x xs ih =>
    intro ws bs e r
    cases x with
    | bl b =>
      unfold blsD at e
      split at e
      · rename_i bs' e2
        cases e
        cases r with
        | cons r1 r2 =>
          cases r1
          rw [ih e2 r2]
          rfl
      · cases e
    | _ => cases e
/-! ### what is never reached -/
section
variable {X : Cx}
theorem cm_any (hc : X.calm = true) : CallM X (.builtin "any") dAny := by
  refine callm_of (cr_any hc) fun W σ φ lh H xs vs Q hr rs q => ?_
  unfold dAny at q
  split at q
  · obtain ⟨v, rfl, r⟩ := rs.one
    obtain ⟨rfl, hi⟩ := r.ref_inv
    split at q
    · rename_i ys ey
      obtain ⟨ws, hw, r2⟩ := hr.lst ey
      split at q
      · rename_i bs eb
        have := rds_bls eb r2
        subst this
        exact ⟨_, bs, rfl, SqL.of hw, wp_ok q (.refl hr) (.bl _)⟩
      · exact q.elim
    · exact q.elim
  · exact q.elim
theorem cm_all (hc : X.calm = true) : CallM X (.builtin "all") dAll := by
  refine callm_of (cr_all hc) fun W σ φ lh H xs vs Q hr rs q => ?_
  unfold dAll at q
  split at q
  · obtain ⟨v, rfl, r⟩ := rs.one
    obtain ⟨rfl, hi⟩ := r.ref_inv
    split at q
    · rename_i ys ey
      obtain ⟨ws, hw, r2⟩ := hr.lst ey
      split at q
      · rename_i bs eb
        have := rds_bls eb r2
        subst this
        exact ⟨_, bs, rfl, SqL.of hw, wp_ok q (.refl hr) (.bl _)⟩
      · exact q.elim
    · exact q.elim
  · exact q.elim
end
end HM
set_option Elab.async false
set_option linter.all false
set_option maxRecDepth 100000
set_option maxHeartbeats 4000000

namespace L
open PySem L2 HM
def mt_BadState : String → Option Bool := fun x => if x = "ChartError" then some false else if x = "BadText" then some false else if x = "BadDocument" then some false else if x = "BadKey" then some false else if x = "BadState" then some true else if x = "DiskError" then some false else if x = "DiskCrashed" then some false else if x = "Refused" then some false else if x = "BadAct" then some false else none
def rt : String → Bool := fun x => if x = "Refused" then true else if x = "BadAct" then true else false
def b_role_of : MS := (sRet (mOp dIx (mOp dIx (mVar 0) (mC (.int 3))) (mTIx (List.map S ["charter", "stamp", "shelf", "list"]) (mVar 1))))
def f_role_of : MF := mkF 2 2 b_role_of
def s_Search___init___1 : MS := (sFldSet "Search" "shelf" (mVar 0) (mVar 2))
def s_Search___init___2 : MS := (sFldSet "Search" "path" (mVar 0) (mVar 3))
def s_Search___init___3 : MS := (sFldSet "Search" "waiting" (mVar 0) (mLst (mCons (mTup (mCons (mC (S "list")) (mCons (mApp f_role_of (mCons (mVar 1) (mCons (mC (S "list")) mNil))) mNil))) mNil)))
def s_Search___init___4 : MS := (sFldSet "Search" "visited" (mVar 0) (mLst mNil))
def s_Search___init___5 : MS := (sFldSet "Search" "outcome" (mVar 0) (mC .non))
def b_Search___init__ : MS := (sSeq s_Search___init___1 (sSeq s_Search___init___2 (sSeq s_Search___init___3 (sSeq s_Search___init___4 s_Search___init___5))))
def f_Search___init__ : MF := mkF 4 4 b_Search___init__
def s_Search_wanted_1 : MS := (sIf (mTOr (mTst (mOp dIsNot (mUn (fldD "Search" "outcome") (mVar 0)) (mC .non))) (mTst (mOp dGe (mApp dLen (mCons (mUn (fldD "Search" "visited") (mVar 0)) mNil)) (mC (.int 32))))) (sRet (mC .non)) sNil)
def s_Search_wanted_2b : MS := (sIf (mTst (mOp dNotIn (mVar 1) (mUn (fldD "Search" "visited") (mVar 0)))) (sRet (mTup (mCons (mVar 1) (mCons (mVar 2) mNil)))) sNil)
def s_Search_wanted_2 : MS := (sFor (iAny (mUn (fldD "Search" "waiting") (mVar 0))) (.tp [1, 2]) s_Search_wanted_2b)
def s_Search_wanted_3 : MS := (sRet (mC .non))
def b_Search_wanted : MS := (sSeq s_Search_wanted_1 (sSeq s_Search_wanted_2 s_Search_wanted_3))
def f_Search_wanted : MF := mkF 1 3 b_Search_wanted
def s_Search_give_1 : MS := (sSet 2 (mMeth "Search" "wanted" f_Search_wanted (mVar 0) mNil))
def s_Search_give_2 : MS := (sIf (mTOr (mTst (mOp dIs (mVar 2) (mC .non))) (mTOr (mTNot (mTru (mApp f_is_list (mCons (mVar 1) mNil)))) (mTst (mOp dNe (mOp dIx (mVar 1) (mC (.int 1))) (mOp dIx (mVar 2) (mC (.int 0))))))) (sRaise "BadState") sNil)
def s_Search_give_3 : MS := (sExpr (mMet isLst dAppend (mUn (fldD "Search" "visited") (mVar 0)) (mCons (mOp dIx (mVar 2) (mC (.int 0))) mNil)))
def s_Search_give_4 : MS := (sSet 3 (mApp f_good_of (mCons (mVar 1) (mCons (mUn (fldD "Search" "path") (mVar 0)) mNil))))
def s_Search_give_5t_1 : MS := (sFldSet "Search" "outcome" (mVar 0) (mTup (mCons (mC (S "found")) (mCons (mOp dIx (mVar 2) (mC (.int 0))) (mCons (mOp dIx (mVar 3) (mC (.int 0))) (mCons (mOp dIx (mVar 3) (mC (.int 1))) mNil))))))
def s_Search_give_5t_2 : MS := sRetN
def s_Search_give_5t : MS := (sSeq s_Search_give_5t_1 s_Search_give_5t_2)
def s_Search_give_5 : MS := (sIf (mTst (mOp dIsNot (mVar 3) (mC .non))) s_Search_give_5t sNil)
def s_Search_give_6 : MS := (sSet 4 (mLst mNil))
def s_Search_give_7b_1 : MS := (sIf (mTNot (mTru (mApp f_covers (mCons (mTup (mCons (mVar 5) (mCons (mVar 6) (mCons (mVar 7) (mCons (mVar 8) mNil))))) (mCons (mUn (fldD "Search" "path") (mVar 0)) mNil))))) sCnt sNil)
def s_Search_give_7b_2 : MS := (sIf (mTOr (mTst (mOp dIn (mVar 5) (mUn (fldD "Search" "visited") (mVar 0)))) (mTst (mOp dIs (mApp f_entry_of (mCons (mUn (fldD "Search" "shelf") (mVar 0)) (mCons (mVar 5) mNil))) (mC .non)))) sCnt sNil)
def s_Search_give_7b_3 : MS := (sExpr (mMet isLst dAppend (mVar 4) (mCons (mTup (mCons (mVar 5) (mCons (mVar 6) mNil))) mNil)))
def s_Search_give_7b_4t_1 : MS := (sFldSet "Search" "waiting" (mVar 0) (mLst mNil))
def s_Search_give_7b_4t_2 : MS := sBrk
def s_Search_give_7b_4t : MS := (sSeq s_Search_give_7b_4t_1 s_Search_give_7b_4t_2)
def s_Search_give_7b_4 : MS := (sIf (mTst (mOp dEq (mVar 8) (mC (.int 1)))) s_Search_give_7b_4t sNil)
def s_Search_give_7b : MS := (sSeq s_Search_give_7b_1 (sSeq s_Search_give_7b_2 (sSeq s_Search_give_7b_3 s_Search_give_7b_4)))
def s_Search_give_7 : MS := (sFor (iAny (mOp dIx (mVar 1) (mC (.int 5)))) (.tp [5, 6, 7, 8]) s_Search_give_7b)
def s_Search_give_8y : M D := (mVar 9)
def s_Search_give_8c : M Bool := (mTst (mOp dNotIn (mOp dIx (mVar 9) (mC (.int 0))) (mUn (fldD "Search" "visited") (mVar 0))))
def s_Search_give_8 : MS := (sFldSet "Search" "waiting" (mVar 0) (mOp dAdd (mVar 4) (mLc (iAny (mUn (fldD "Search" "waiting") (mVar 0))) (.nm 9) s_Search_give_8c s_Search_give_8y [9])))
def b_Search_give : MS := (sSeq s_Search_give_1 (sSeq s_Search_give_2 (sSeq s_Search_give_3 (sSeq s_Search_give_4 (sSeq s_Search_give_5 (sSeq s_Search_give_6 (sSeq s_Search_give_7 s_Search_give_8)))))))
def f_Search_give : MF := mkF 2 10 b_Search_give
def s_Search_result_1 : MS := (sIf (mTAnd (mTst (mOp dIs (mUn (fldD "Search" "outcome") (mVar 0)) (mC .non))) (mTst (mOp dIs (mMeth "Search" "wanted" f_Search_wanted (mVar 0) mNil) (mC .non)))) (sRet (mTup (mCons (mC (S "none")) mNil))) sNil)
def s_Search_result_2 : MS := (sRet (mUn (fldD "Search" "outcome") (mVar 0)))
def b_Search_result : MS := (sSeq s_Search_result_1 s_Search_result_2)
def f_Search_result : MF := mkF 1 1 b_Search_result
def s_lookup_1 : MS := (sSet 4 (mMake "Search" f_Search___init__ (mCons (mVar 0) (mCons (mVar 1) (mCons (mVar 3) mNil)))))
def s_lookup_2b_1 : MS := (sSet 5 (mOp dIx (mMeth "Search" "wanted" f_Search_wanted (mVar 4) mNil) (mC (.int 0))))
def s_lookup_2b_2 : MS := (sIf (mTst (mOp dNotInA (mVar 5) (mVar 2))) (sRet (mTup (mCons (mC (S "missing")) (mCons (mVar 5) mNil)))) sNil)
def s_lookup_2b_3 : MS := (sExpr (mMeth "Search" "give" f_Search_give (mVar 4) (mCons (mOp dIxA (mVar 2) (mVar 5)) mNil)))
def s_lookup_2b : MS := (sSeq s_lookup_2b_1 (sSeq s_lookup_2b_2 s_lookup_2b_3))
def s_lookup_2 : MS := (sWhile fuel (mTst (mOp dIs (mMeth "Search" "result" f_Search_result (mVar 4) mNil) (mC .non))) s_lookup_2b)
def s_lookup_3 : MS := (sRet (mMeth "Search" "result" f_Search_result (mVar 4) mNil))
def b_lookup : MS := (sSeq s_lookup_1 (sSeq s_lookup_2 s_lookup_3))
def f_lookup : MF := mkF 4 6 b_lookup
def s__law_refused_1 : MS := (sTry (sExpr (mMeth "Search" "give" f_Search_give (mVar 0) (mCons (mVar 1) mNil))) [(mt_BadState, (sRet (mC (.bl true))))])
def s__law_refused_2 : MS := (sRet (mC (.bl false)))
def b__law_refused : MS := (sSeq s__law_refused_1 s__law_refused_2)
def f__law_refused : MF := mkF 2 2 b__law_refused
def b_Workshop_text : MS := (sRet (mDGet1 (mUn (fldD "Workshop" "published") (mVar 0)) (mVar 1)))
def f_Workshop_text : MF := mkF 2 2 b_Workshop_text
def b_Workshop_names : MS := (sRet (mApp dSortedA (mCons (mUn (fldD "Workshop" "published") (mVar 0)) mNil)))
def f_Workshop_names : MF := mkF 1 1 b_Workshop_names
def b_Workshop_first : MS := (sRet (mOp dIxA (mUn (fldD "Workshop" "published") (mVar 0)) (mC (S "1.charter"))))
def f_Workshop_first : MF := mkF 1 1 b_Workshop_first
def b_Workshop_charters : MS := (sRet (mApp dList (mCons (mUn (fldD "Workshop" "known_charters") (mVar 0)) mNil)))
def f_Workshop_charters : MF := mkF 1 1 b_Workshop_charters
end L
set_option Elab.async false
set_option linter.all false
set_option maxRecDepth 100000
set_option maxHeartbeats 4000000

namespace L
open PySem L2 HM
def s__law_holds_1 : MS := (sSet 3 (mMeth "Workshop" "charters" f_Workshop_charters (mVar 0) mNil))
def s__law_holds_2 : MS := (sIf (mTOr (mTNot (mTru (mIsI .list (mVar 3)))) (mTst (mOp dNe (mApp dLen (mCons (mVar 3) mNil)) (mApp dLen (mCons (mVar 1) mNil))))) (sRet (mC (.bl false))) sNil)
def s__law_holds_3b : MS := (sIf (mTOr (mTNot (mTru (mApp f__law_same (mCons (mOp dIx (mVar 3) (mVar 4)) (mCons (mOp dIx (mVar 1) (mVar 4)) mNil))))) (mTNot (mTru (mApp f__law_same (mCons (mMeth "Workshop" "text" f_Workshop_text (mVar 0) (mCons (mOp dAdd (mApp dStr (mCons (mOp dAdd (mVar 4) (mC (.int 1))) mNil)) (mC (S ".charter"))) mNil)) (mCons (mOp dIx (mVar 2) (mVar 4)) mNil)))))) (sRet (mC (.bl false))) sNil)
def s__law_holds_3 : MS := (sFor (iRng1M (mCons (mApp dLen (mCons (mVar 1) mNil)) mNil)) (.nm 4) s__law_holds_3b)
def s__law_holds_4 : MS := (sIf (mTst (mOp dIsNot (mMeth "Workshop" "text" f_Workshop_text (mVar 0) (mCons (mOp dAdd (mApp dStr (mCons (mOp dAdd (mApp dLen (mCons (mVar 1) mNil)) (mC (.int 1))) mNil)) (mC (S ".charter"))) mNil)) (mC .non))) (sRet (mC (.bl false))) sNil)
def s__law_holds_5 : MS := (sRet (mAnd (mApp f__law_same (mCons (mMeth "Workshop" "first" f_Workshop_first (mVar 0) mNil) (mCons (mOp dIx (mVar 2) (mC (.int 0))) mNil))) (mOp dEq (mApp dLen (mCons (mMeth "Workshop" "names" f_Workshop_names (mVar 0) mNil) mNil)) (mApp dLen (mCons (mVar 1) mNil)))))
def b__law_holds : MS := (sSeq s__law_holds_1 (sSeq s__law_holds_2 (sSeq s__law_holds_3 (sSeq s__law_holds_4 s__law_holds_5))))
def f__law_holds : MF := mkF 3 5 b__law_holds
end L
set_option Elab.async false
set_option linter.all false
set_option maxRecDepth 100000
set_option maxHeartbeats 4000000
/-! errors with a chain of contexts: raised in a suite, caught, raised again -/
namespace L2C
open PySem PySem.Spec PyProof.Rows L2 HotX
/-! ### the chain -/
def Lk (h : Heap) (H : Hp) : Value → List Addr → Prop
  | v, [] => v = .none
  | v, b :: r => v = .ref b ∧ H b = none ∧ ∃ o vs v', h.get? b = some o ∧ o.data = .fields vs ∧ vs[2]? = some v' ∧ Lk h H v' r
theorem Lk.keep {h h' : Heap} {H H' : Hp} : ∀ {l : List Addr} {v : Value}, (∀ b ∈ l, ∀ o vs, h.get? b = some o → o.data = .fields vs → H b = none → h'.get? b = some o ∧ H' b = none) → Lk h H v l → Lk h' H' v l
  | [], _, _, q => q
  | b :: r, _, k, ⟨e, n, o, vs, v', g, d, f, t⟩ =>
    have z := k b List.mem_cons_self o vs g d n
    ⟨e, z.2, o, vs, v', z.1, d, f, Lk.keep (fun c hc => k c (List.mem_cons_of_mem _ hc)) t⟩
theorem Lk.get {h : Heap} {H : Hp} : ∀ {l : List Addr} {v : Value}, Lk h H v l → ∀ b ∈ l, ∃ o vs, h.get? b = some o ∧ o.data = .fields vs ∧ H b = none
  | [], _, _, _, hb => nomatch hb
  | c :: r, _, ⟨_, n, o, vs, _, g, d, _, t⟩, b, hb => by
    rcases List.mem_cons.mp hb with e | hb
    · subst e; exact ⟨o, vs, g, d, n⟩
    · exact t.get b hb
section
variable {prog : Program} {w : World} {A : Around} {E : Value → Shared → Prop} {s : Shared}
end
end L2C
set_option Elab.async false
set_option linter.all false
set_option maxRecDepth 100000
set_option maxHeartbeats 4000000
namespace L2C
open PySem PySem.Spec PyProof.Rows L2 HotX
abbrev St := L2.St
def Zk (cls : Value) (d : Option Addr) (c : Value) : Obj → Prop := fun o => o.cls = cls ∧ o.dict = d ∧ ∀ vs : Array Value, o.data = .fields vs → vs[2]? = some c
theorem Zk.zc {cls : Value} {d : Option Addr} {c : Value} {o : Obj} (h : Zk cls d c o) : Zc cls d o := ⟨h.1, h.2.1⟩
theorem Zk.steady {cls : Value} {d : Option Addr} {c : Value} : PXN.Steady1 (Zk cls d c) := fun o v h => by
  refine ⟨PXN.steady_cls o v h.1, PXN.steady_dict o v h.2.1, fun vs e => ?_⟩
  have h3 := h.2.2
  revert e h3
  cases o with
  | mk oc od dt sl =>
    cases dt with
    | fields us =>
      intro e h3
      have e2 : us.setIfInBounds 1 v = vs := Data.fields.inj e
      rw [← e2]
      exact set_other (by decide) (h3 us rfl)
    | _ =>
      intro e _
      first
        | exact Data.noConfusion e
        | cases e
def XE (X : Cx) (W : WX) (u : Value) (s' : Shared) : Prop :=
  ∃ (a : Addr) (B : Heap) (sI : Shared) (pins : List (Addr × Obj)) (σ : St) (H : Hp) (cls : Value) (d : Option Addr) (c : Value) (l : List Addr),
    (u = .ref a ∧ Inv X pins σ H sI ∧ (∀ b o, sI.heap.get? b = some o → b ∉ frs X.stack → B.get? b = some o) ∧ sI.heap.UpToSlots s'.heap) ∧
      (Sky B X.stack a (Zk cls d c) X.env.locals s'.heap ∧ Lk sI.heap H c l) ∧ H a = none ∧ s'.os = sI.os ∧ AllBare s'.gens ∧ W cls d σ H
def Takes (X : Cx) (W : WX) : Prop := ∀ u s', XE X W u s' → X.xe u s'
def CX (P : Program) (w : World) (outer : List Env) (H : Hp) (s : Shared) (E : XK) (u : Value) (s' : Shared) : Prop :=
  ∃ (a : Addr) (B : Heap) (H' : Hp) (cls : Value) (d : Option Addr) (c : Value) (l : List Addr), (u = .ref a ∧ HandSPX.FlyingZ B outer a (Zk cls d c) s'.heap ∧ Lk B H' c l) ∧ HOk P w H' B ∧ UB (frs outer) H H' s.heap B s'.heap ∧
    H' a = none ∧ s'.os = s.os ∧ AllBare s'.gens ∧ E cls d H'
theorem Takes.imp {X : Cx} {W W' : WX} (t : Takes X W) (h : ∀ c d σ H, W' c d σ H → W c d σ H) : Takes X W' := fun u s' ⟨a, B, sI, pins, σ, H, cls, d, c, l, e, sky, na, os, ag, w⟩ =>
  t u s' ⟨a, B, sI, pins, σ, H, cls, d, c, l, e, sky, na, os, ag, h _ _ _ _ w⟩
section
variable {X : Cx} {pins : List (Addr × Obj)} {σ : St} {H : Hp} {sI s s' : Shared} {B : Heap} {W : WX} {E : XK}
theorem XE.of_call (I : Inv X pins σ H s) (hW : ∀ cls d H', E cls d H' → W cls d σ H') {u : Value} (x : CX X.prog X.w X.stack H s E u s') : XE X W u s' := by
  obtain ⟨a, B, H', cls, d, c, l, ⟨e0, fly, ck⟩, okB, ub, na, os, ag, hE⟩ := x
  obtain ⟨G, in1, out1⟩ := restrict s'.heap fun b => (B.get? b).isSome || decide (b ∈ frs X.stack)
  have st : B.StaysIn s'.heap := fly.1
  have gB : ∀ b o, B.get? b = some o → G.get? b = some o := fun b o e => (in1 b (by rw [e]; rfl)).trans (st b o e)
  have gF : ∀ b, b ∈ frs X.stack → G.get? b = s'.heap.get? b := fun b hb => in1 b (by rw [decide_eq_true hb]; exact Bool.or_true _)
  have back : ∀ b o, G.get? b = some o → s'.heap.get? b = some o ∧ (B.get? b = some o ∨ b ∈ frs X.stack) := fun b o e => by
    by_cases hb : b ∈ frs X.stack
    · exact ⟨(gF b hb).symm.trans e, .inr hb⟩
    · cases z : B.get? b with
      | none =>
        rw [out1 b (by rw [z, decide_eq_false hb]; rfl)] at e
        cases e
      | some o2 =>
        have y := gB b o2 z
        rw [e] at y
        cases y
        exact ⟨st b o z, .inl rfl⟩
  have J : Inv X pins σ H' { s with heap := G, gens := s'.gens, drawn := s'.drawn, toks := s'.toks } := by
    refine I.call (ch := []) ⟨fun b o e n hb _ => gB b o (ub.keep b o e n hb), fun b o e n hb _ => ?_, fun b o e n _ => ub.free b o e n, fun b o e _ => ?_, ub.tups, ub.frzs, ub.tbls⟩ (okB.kept gB) ag (fun _ z => nomatch z)
    · obtain ⟨sl, y⟩ := ub.slot b o e hb
      exact ⟨sl, (gF b hb).trans y⟩
    · by_cases hb : b ∈ frs X.stack
      · obtain ⟨sl, y⟩ := ub.slot b o e hb
        exact ⟨_, (gF b hb).trans y⟩
      · obtain ⟨o2, y⟩ := ub.there b o e hb
        exact ⟨o2, gB b o2 y⟩
  refine ⟨a, B, _, pins, σ, H', cls, d, c, l, ⟨e0, J, fun b o e hb => (back b o e).2.resolve_right hb, Heap.UpToSlots.of_keeps fun b o e => (back b o e).1⟩, ⟨.inr (.inl fly), ck.keep fun b _ o vs g _ n => ⟨gB b o g, n⟩⟩, na, os, ag, hW _ _ _ hE⟩
theorem Lk.ground {l : List Addr} {c : Value} (I : Inv X pins σ H sI) (nb : ∀ b o, sI.heap.get? b = some o → b ∉ frs X.stack → B.get? b = some o) (k : Lk sI.heap H c l) : Lk B H c l :=
  k.keep fun b _ o vs g d n => ⟨nb b o g fun hb => by
    obtain ⟨_, o2, g2, hd⟩ := I.stack.mem hb
    rw [g] at g2
    cases g2
    exact hd vs d, n⟩
theorem XE.leave (hs : X.stack = X.env :: X.outer) (hf : X.env.frame = some X.env.locals) (hex : X.ex = []) {E₁ : Value → Shared → Prop} (hW : ∀ cls d σ H, W cls d σ H → E cls d H) {u : Value} (x : XE X W u s') :
    wpAny (model X.prog X.w) X.A (leaving X.env u) (fun _ s'' => CX X.prog X.w X.outer X.H_0 X.s_0 E u s'') E₁ s' := by
  obtain ⟨a, B, sI, pins, σ, H, cls, d, c, l, ⟨e0, I, nb, up⟩, ⟨sky, ck⟩, na, os, ag, w⟩ := x
  subst e0
  have frm : X.A.frames = some (X.env :: X.outer) := I.ok.frames.trans (congrArg some hs)
  have no : ∀ b, b ∉ X.ex := fun b hb => by rw [hex] at hb; exact nomatch hb
  have old : ∀ b o, X.s_0.heap.get? b = some o → b ∉ X.fs → b ∉ frs X.stack := fun b o e hb hm => by
    have z := List.mem_cons.mp (I.stkSub b hm)
    cases z with
    | inr z => exact hb z
    | inl z =>
      have lt := Heap.lt_size e
      have le := I.ok.above
      rw [z] at lt
      exact absurd (Nat.lt_of_lt_of_le lt le) (Nat.lt_irrefl _)
  have ground := I.inGround nb
  have done : ∀ h', HandSPX.FlyingZ B X.outer a (Zk cls d c) h' → s'.heap.UpToSlots h' → CX X.prog X.w X.outer X.H_0 X.s_0 E (.ref a) { s' with heap := h' } := fun h' fly up2 => by
    have ub : UB (frs X.outer) X.H_0 H X.s_0.heap B h' := by
      refine ⟨fun b o e n hb => nb b o (I.base.keep b o e n hb (no b)) (old b o e hb), fun b o e hb => ?_, fun b o e n => I.base.free b o e n (no b), fun b o e hb => ?_, I.base.tups, I.base.frzs, I.base.tbls⟩
      · obtain ⟨_, o0, g0, nf⟩ := I.ok.funs.mem hb
        rw [e] at g0
        cases g0
        obtain ⟨sl, e1⟩ := I.base.slot b o e (I.ok.frf b hb) hb (no b)
        obtain ⟨sl2, e2⟩ := up b _ e1 nf
        obtain ⟨sl3, e3⟩ := up2 b _ e2 nf
        exact ⟨sl3, e3⟩
      · obtain ⟨o2, e1⟩ := I.base.there b o e (no b)
        exact ⟨o2, nb b o2 e1 (old b o e hb)⟩
    exact ⟨a, B, H, cls, d, c, l, ⟨rfl, fly, Lk.ground I nb ck⟩, ground, ub, na, os.trans I.os, ag, hW _ _ _ _ w⟩
  rw [hs] at sky
  rcases sky with ⟨hB, hn, hl, oe, vs, he, hz, hd, h1⟩ | fly | hd
  · exact PXN.leaving_firstZ Zk.steady frm hl hf he hB hn hd h1 hz done
  · exact PXN.leaves_onZ Zk.steady frm hf fly done
  · exact HandSPX.leaves_heldZ hf hd done
theorem takes_of (hs : X.stack = X.env :: X.outer) (hf : X.env.frame = some X.env.locals) (hex : X.ex = []) {E₁ : Value → Shared → Prop}
    (hx : X.xe = fun e s' => wpAny (model X.prog X.w) X.A (leaving X.env e) (fun _ s'' => CX X.prog X.w X.outer X.H_0 X.s_0 E e s'') E₁ s') : Takes X (fun cls d _ H => E cls d H) := fun u s' x => by
  rw [hx]
  exact x.leave (E := E) hs hf hex fun _ _ _ _ h => h
theorem passAt (tk : Takes X W) (σ : St) : PassesAt (CX X.prog X.w) X σ (WE W σ) := fun _ _ _ e s' I c => tk e s' (XE.of_call I (fun _ _ _ h => h) c)
end
end L2C
set_option Elab.async false
set_option linter.all false
set_option maxRecDepth 100000
set_option maxHeartbeats 4000000
namespace L2C
open PySem PySem.Spec PyProof.Rows L2 HotX
/-! ### raising while an error with a chain is handled -/
section
variable {prog : Program} {w : World} {A : Around} {E : Value → Shared → Prop} {s : Shared}
end
/-! ### the context of such a suite -/
end L2C
set_option Elab.async false
set_option linter.all false
set_option maxRecDepth 100000
set_option maxHeartbeats 4000000
namespace L2C
open PySem PySem.Spec PyProof.Rows L2 HotX
/-! ### a clause's test -/
/-! ### a suite with the chain among its pins -/
section
variable {X : Cx} {pins : List (Addr × Obj)} {σ : L2.St} {H : Hp} {s : Shared}
end
section
variable {X : Cx} {test : Expr} {cm : Value → Option Bool} {body suite : List Stmt} {b₀ : Stmt} {pos pos' : Pos} {tb : WX → TS} {ts : Addr → Value → Option Addr → TS} {Wout : WX}
end
end L2C
set_option Elab.async false
set_option linter.all false
set_option maxRecDepth 100000
set_option maxHeartbeats 4000000
namespace L2C
open PySem PySem.Spec PyProof.Rows L2 HotX
/-! ### errors made in such a suite -/
structure FnZ (P : Program) (w : World) (K : PySem.W.Frag) (mg : Str → Option Value) (base : Heap) (CX : CXT) (k : Nat) (f : Addr) (fd : FuncData) (ps : List Str) (sp : Sp) : Prop where
  len : ∀ vs H Q E, sp vs H Q E → vs.length = ps.length
  run : ∀ (A : Around) (outer : List Env) (s : Shared) (H : Hp) (args : Args) (us : List Value) (vs : List V) (Q : VK) (E : XK) (p : Addr × Obj), L2H.RoomH k A → L2H.PinOk outer H s p → Env0 P w K mg base A outer s H → BindsTo s fd args (ps.zip us) → Vals vs us → sp vs H Q E →
    codeAny (model P w) A (.call (.ref f) args) (CR CX outer P w H s Q E) s
end L2C
set_option Elab.async false
set_option linter.all false
set_option maxRecDepth 100000
set_option maxHeartbeats 4000000
namespace HM
open PySem L2 PySem.Spec PyProof.Rows
/-! ### defs whose errors bear a chain of contexts (they may be caught by a suite that raises) -/
structure CalMC (P : Program) (w : World) (K : PySem.W.Frag) (mg : Str → Option Value) (base : Heap) (k : Nat) (x : String) (f : MF) : Prop where
  ex : ∃ fa fd ps, mg (Str.ofString x) = some (.ref fa) ∧ PySem.W.keepIn K (.ref fa) = true ∧ Binds K fd ps [] ∧ FnOk P w K mg base (L2C.CX P w) k fa fd ps (spM K mg f)
structure XCZ (P : Program) (w : World) (K : PySem.W.Frag) (mg : Str → Option Value) (base : Heap) (x : String) : Prop where
  ex : ∃ C fI fd, mg (Str.ofString x) = some (.ref C) ∧ LowC K C ∧ PySem.W.findIn K (.ref C) "__init__" = some (some (.ref fI)) ∧ PySem.W.typeIn K (.ref fI) = some (.type "function") ∧ Binds K fd [Str.ofString "self", Str.ofString "reason"] [] ∧
    L2C.FnZ P w K mg base CX0 1 fI fd [Str.ofString "self", Str.ofString "reason"] (spLow C)
section
variable {X : Cx} {W : WX} {e a b c : Expr} {es : List Expr} {pos : Pos} {ma mb : M D} {mas : M (List D)}
/-! ### in a suite that raises -/
/-! ### try: .. except: raise .. from None -/
end
end HM
namespace HM
end HM
set_option Elab.async false
set_option linter.all false
set_option maxRecDepth 100000
set_option maxHeartbeats 4000000

namespace L
open PySem L2 HM
end L
set_option Elab.async false
set_option linter.all false
set_option maxRecDepth 100000
set_option maxHeartbeats 4000000
namespace HM
open PySem L2 PySem.Spec PyProof.Rows
/-! ### {k: v for t in it if c} -/
section
variable {X : Cx} {W : WX} {kx elt tg iter : Expr} {ifs : List Expr} {scope : Scope} {own : List (Str × Nat)} {pos : Pos} {mi : M (IT × Nat)} {t : TN} {mc : M Bool} {mx my : M D}
end
end HM
set_option Elab.async false
set_option linter.all false
set_option maxRecDepth 100000
set_option maxHeartbeats 4000000
namespace HM
open PySem L2 PySem.Spec PyProof.Rows
/-! ### a dict locked and unlocked -/
section
variable {K : PySem.W.Frag} {mg : Str → Option Value} {φ : Nat → Addr} {n : Nat} {H : Hp} {d : Addr} {od : Obj} {vs : List (Key × V)}
theorem sqT_unl (hd : H d = some (.frz od (.dK vs))) {a : Addr} {ws : List V} (h : SqT K H a ws) : SqT K (upd H d (.dK vs)) a ws := by
  rcases h with (h | ⟨o, h⟩) | h
  · exact .inl (.inl (by rw [upd_ne (fun z => by rw [z, hd] at h; cases h)]; exact h))
  · exact .inl (.inr ⟨o, by rw [upd_ne (fun z => by rw [z, hd] at h; cases h)]; exact h⟩)
  · exact .inr h
mutual
theorem RD.unl (hd : H d = some (.frz od (.dK vs))) : ∀ {x : D} {v : V}, RD K φ n H x v → RD K φ n (upd H d (.dK vs)) x v
  | _, _, .non => .non
  | _, _, .bl b => .bl b
  | _, _, .int i => .int i
  | _, _, .str s => .str s
  | _, _, .tup h r => .tup (sqT_unl hd h) (RDs.unl hd r)
  | _, _, .ref h => .ref h
  | _, _, .scr h => .scr (h.imp (fun ⟨o, h⟩ => ⟨o, by rw [upd_ne (fun z => by rw [z, hd] at h; cases h)]; exact h⟩) id)
  | _, _, .exn a => .exn a
  | _, _, .exr a dx h r => .exr a dx (by rw [upd_ne (fun z => by rw [z, hd] at h; cases h)]; exact h) (RD.unl hd r)
theorem RDs.unl (hd : H d = some (.frz od (.dK vs))) : ∀ {x : List D} {v : List V}, RDs K φ n H x v → RDs K φ n (upd H d (.dK vs)) x v
  | _, _, .nil => .nil
  | _, _, .cons h r => .cons (RD.unl hd h) (RDs.unl hd r)
end
theorem RF.unl (hd : H d = some (.frz od (.dK vs))) {x v} (r : RF K φ n H x v) : RF K φ n (upd H d (.dK vs)) x v := by
  induction r with
  | nil => exact .nil
  | cons h _ ih => exact .cons (h.unl hd) ih
theorem RKs.unl (hd : H d = some (.frz od (.dK vs))) {x v} (r : RKs K φ n H x v) : RKs K φ n (upd H d (.dK vs)) x v := by
  induction r with
  | nil => exact .nil
  | cons h _ ih => exact .cons (h.unl hd) ih
theorem RTs.unl (hd : H d = some (.frz od (.dK vs))) {x v} (r : RTs K φ n H x v) : RTs K φ n (upd H d (.dK vs)) x v := by
  induction r with
  | nil => exact .nil
  | cons h _ ih => exact .cons (h.unl hd) ih
theorem OA.unl (hd : H d = Option.some (.frz od (.dK vs))) {a : Addr} (ne : a ≠ d) : ∀ {o : LO}, OA K mg φ n H a o → OA K mg φ n (upd H d (.dK vs)) a o
  | .lst _, ⟨ws, h, r⟩ => ⟨ws, (upd_ne ne).trans h, r.unl hd⟩
  | .ins _ _, ⟨C, dx, ws, m, h, r⟩ => ⟨C, dx, ws, m, (upd_ne ne).trans h, r.unl hd⟩
  | .dK _, ⟨ws, h, r⟩ => ⟨ws, (upd_ne ne).trans h, r.unl hd⟩
  | .dT _, ⟨ws, h, r⟩ => ⟨ws, (upd_ne ne).trans h, r.unl hd⟩
  | .dL _, ⟨o, ws, h, r⟩ => ⟨o, ws, (upd_ne ne).trans h, r.unl hd⟩
variable {lh : LH} {i : Nat} {kvs : List (KD × D)}
theorem Po.lock (hr : HR K mg φ lh H) (hi : lh[i]? = some (.dK kvs)) (hH : H (φ i) = some (.dK vs)) (rg : RKs K φ lh.length H kvs vs) : Po K mg φ lh H φ (lh.set i (.dL kvs)) (upd H (φ i) (.frz od (.dK vs))) := by
  obtain ⟨u, hu, u1, u2⟩ := Wr.dK hH
  exact Po.put hr (lt_of_get hi) (Wr.dK hH) ⟨od, vs, upd_same, rg.mono (Nat.le_refl _) (fun _ _ => rfl) (Ext.put hu u1 u2)⟩
theorem Po.unlock {φ2 : Nat → Addr} {lh2 : LH} {H2 : Hp} {kvs2 : List (KD × D)} (hi : i < lh.length) (hH : H (φ i) = some (.dK vs)) (p : Po K mg φ (lh.set i (.dL kvs)) (upd H (φ i) (.frz od (.dK vs))) φ2 lh2 H2) (h2 : lh2[i]? = some (.dL kvs2)) :
    H2 (φ i) = some (.frz od (.dK vs)) ∧ Po K mg φ lh H φ2 (lh2.set i (.dK kvs2)) (upd H2 (φ i) (.dK vs)) := by
  have hd : H2 (φ i) = some (.frz od (.dK vs)) := p.ext.frz _ _ _ upd_same
  have li : i < (lh.set i (.dL kvs)).length := by simpa using hi
  have ag : φ2 i = φ i := p.ag i li
  have l2 : i < lh2.length := lt_of_get h2
  have ne : ∀ a u, H a = some u → (∀ ws, u ≠ .dK ws) → a ≠ φ i := fun a u e hn z => by
    rw [z, hH] at e
    cases e
    exact hn _ rfl
  have le := p.le
  rw [List.length_set] at le
  refine ⟨hd, ⟨by rw [List.length_set]; exact le, fun j hj => p.ag j (by simpa using hj), ⟨fun a xs e => ?_, fun a o u e => ?_, fun a ws e => ?_⟩, ⟨fun a b ha hb => ?_, fun j x hj => ?_⟩⟩⟩
  · have n := ne a _ e fun _ z => by cases z
    rw [upd_ne n]
    exact p.ext.tup a xs (by rw [upd_ne n]; exact e)
  · have n := ne a _ e fun _ z => by cases z
    rw [upd_ne n]
    exact p.ext.frz a o u (by rw [upd_ne n]; exact e)
  · have n := ne a _ e fun _ z => by cases z
    rw [upd_ne n]
    exact p.ext.xd a ws (by rw [upd_ne n]; exact e)
  · rw [List.length_set] at ha hb
    exact p.hr.inj a b ha hb
  · rw [List.length_set]
    by_cases c : j = i
    · subst c
      rw [List.getElem?_set_self l2] at hj
      cases hj
      obtain ⟨o, ws, e, r⟩ := p.hr.obj _ _ h2
      rw [ag, hd] at e
      cases e
      rw [ag]
      exact ⟨vs, upd_same, r.unl hd⟩
    · rw [List.getElem?_set_ne (Ne.symm c)] at hj
      have lj : j < lh2.length := lt_of_get hj
      exact (p.hr.obj j x hj).unl hd fun z => c (p.hr.inj j i lj l2 (z.trans ag.symm))
end
def mLock (jm m : M D) : M D := fun e h => match jm e h with
  | .ok (.ref i) _ => match h[i]? with
    | some (.dK kvs) => (match m e (h.set i (.dL kvs)) with
      | .ok r h2 => (match h2[i]? with
        | some (.dL kvs2) => .ok r (h2.set i (.dK kvs2))
        | _ => .bad)
      | .exc x h2 => .exc x h2
      | .bad => .bad)
    | _ => .bad
  | _ => .bad
def unlS (i : Nat) : RSt → RSt
  | .next e2 h2 => (match h2[i]? with
    | some (.dL kvs2) => .next e2 (h2.set i (.dK kvs2))
    | _ => .bad)
  | .ret r h2 => (match h2[i]? with
    | some (.dL kvs2) => .ret r (h2.set i (.dK kvs2))
    | _ => .bad)
  | .brk e2 h2 => (match h2[i]? with
    | some (.dL kvs2) => .brk e2 (h2.set i (.dK kvs2))
    | _ => .bad)
  | .cnt e2 h2 => (match h2[i]? with
    | some (.dL kvs2) => .cnt e2 (h2.set i (.dK kvs2))
    | _ => .bad)
  | .exc x e2 h2 => .exc x e2 h2
  | .bad => .bad
def sLock (jm : M D) (m : MS) : MS := fun e h => match jm e h with
  | .ok (.ref i) _ => match h[i]? with
    | some (.dK kvs) => unlS i (m e (h.set i (.dL kvs)))
    | _ => .bad
  | _ => .bad
def kD : KD → D
  | .inl i => .int i
  | .inr s => .str s
def itK (j : Nat) : IT := fun h i => match h[j]? with
  | some (.dL kvs) => some ((kvs[i]?).map fun kv => kD kv.1)
  | _ => none
def iKeyM (mo : M D) : M (IT × Nat) := fun e h => (mo e h).bind fun x h1 => match x with
  | .ref j => match h1[j]? with
    | some (.dL kvs) => .ok (itK j, kvs.length) h1
    | _ => .bad
  | _ => .bad
section
variable {X : Cx} {W : WX} {e o : Expr} {st : Stmt} {jm m mo : M D} {ms : MS} {tg : Expr}
theorem qe_lock (h : QE X W e m) : QE X W e (mLock jm m) := by
  refine qe_of (pe_lock h) fun σ φ env lh H Q h1 h2 q => ?_
  unfold mLock at q
  split at q
  · rename_i i h0 ej
    split at q
    · rename_i kvs ei
      have hi := lt_of_get ei
      obtain ⟨vs, hH, rk⟩ := h1.obj _ _ ei
      refine ⟨φ i, .dK vs, hH, trivial, fun od => ?_⟩
      have P0 := Po.lock (od := od) h1 ei hH rk
      refine ⟨φ, env, _, P0.hr, h2.up P0, ?_⟩
      cases em : m env (lh.set i (.dL kvs)) with
      | bad => rw [em] at q; exact q.elim
      | exc x h3 =>
        rw [em] at q
        exact fun φ' cls dd H' p' r => q φ' cls dd H' (P0.trans p') r
      | ok r h3 =>
        rw [em] at q
        dsimp only at q
        intro φ' v H' p' rv
        split at q
        · rename_i kvs2 e3
          obtain ⟨hd, P⟩ := Po.unlock hi hH p' e3
          exact ⟨hd, q φ' v _ P (by rw [List.length_set]; exact rv.unl hd)⟩
        · exact q.elim
    · exact q.elim
  · exact q.elim
theorem RS.unl {K : PySem.W.Frag} {φ : Nat → Addr} {n : Nat} {H : Hp} {d : Addr} {od : Obj} {vs : List (Key × V)} (hd : H d = some (.frz od (.dK vs))) {e : EN} {σ : L2.St} (r : RS K φ n H e σ) : RS K φ n (upd H d (.dK vs)) e σ :=
  ⟨r.1, fun i x hi => let ⟨v, ev, rv⟩ := r.2 i x hi; ⟨v, ev, rv.unl hd⟩⟩
theorem qs_lock (h : QS X W st ms) : QS X W st (sLock jm ms) := by
  refine psI (ps_lock h) fun D σ H ⟨φ, env, lh, h1, h2, q⟩ => ?_
  have q : wps X.K X.mg W (sLock jm ms env lh) φ lh H D := q
  unfold sLock at q
  cases ej : jm env lh with
  | bad => rw [ej] at q; exact q.elim
  | exc x h0 => rw [ej] at q; exact q.elim
  | ok x h0 =>
    rw [ej] at q
    cases x with
    | ref i =>
      dsimp only at q
      cases eo : lh[i]? with
      | none => rw [eo] at q; exact q.elim
      | some lo =>
        rw [eo] at q
        cases lo with
        | dK kvs =>
          have ei := eo
          have hi := lt_of_get ei
          obtain ⟨vs, hH, rk⟩ := h1.obj _ _ ei
          refine ⟨φ i, .dK vs, hH, trivial, fun od => ?_⟩
          have P0 := Po.lock (od := od) h1 ei hH rk
          refine ⟨φ, env, _, P0.hr, h2.up P0, ?_⟩
          dsimp only at q
          cases em : ms env (lh.set i (.dL kvs)) with
          | bad => rw [em] at q; exact q.elim
          | exc x e3 h3 =>
            rw [em] at q
            exact fun φ' cls dd σ' H' p' r rs => q φ' cls dd σ' H' (P0.trans p') r rs
          | ret r h3 =>
            rw [em] at q
            intro φ' v H' p' rv
            unfold unlS at q
            dsimp only at q
            cases e3 : h3[i]? with
            | none => rw [e3] at q; exact q.elim
            | some l3 =>
              rw [e3] at q
              cases l3 with
              | dL kvs2 =>
                obtain ⟨hd, P⟩ := Po.unlock hi hH p' e3
                exact ⟨hd, q φ' v _ P (by rw [List.length_set]; exact rv.unl hd)⟩
              | _ => exact q.elim
          | next e4 h3 =>
            rw [em] at q
            intro φ' v H' p' rv
            unfold unlS at q
            dsimp only at q
            cases e3 : h3[i]? with
            | none => rw [e3] at q; exact q.elim
            | some l3 =>
              rw [e3] at q
              cases l3 with
              | dL kvs2 =>
                obtain ⟨hd, P⟩ := Po.unlock hi hH p' e3
                exact ⟨hd, q φ' v _ P (by rw [List.length_set]; exact rv.unl hd)⟩
              | _ => exact q.elim
          | brk e4 h3 =>
            rw [em] at q
            intro φ' v H' p' rv
            unfold unlS at q
            dsimp only at q
            cases e3 : h3[i]? with
            | none => rw [e3] at q; exact q.elim
            | some l3 =>
              rw [e3] at q
              cases l3 with
              | dL kvs2 =>
                obtain ⟨hd, P⟩ := Po.unlock hi hH p' e3
                exact ⟨hd, q φ' v _ P (by rw [List.length_set]; exact rv.unl hd)⟩
              | _ => exact q.elim
          | cnt e4 h3 =>
            rw [em] at q
            intro φ' v H' p' rv
            unfold unlS at q
            dsimp only at q
            cases e3 : h3[i]? with
            | none => rw [e3] at q; exact q.elim
            | some l3 =>
              rw [e3] at q
              cases l3 with
              | dL kvs2 =>
                obtain ⟨hd, P⟩ := Po.unlock hi hH p' e3
                exact ⟨hd, q φ' v _ P (by rw [List.length_set]; exact rv.unl hd)⟩
              | _ => exact q.elim
        | _ => exact q.elim
    | _ => exact q.elim
/-! ### its keys -/
theorem kD_ok {K : PySem.W.Frag} {φ : Nat → Addr} {n : Nat} {H : Hp} (k : KD) : RD K φ n H (kD k) (kV (kc k)) := by
  cases k with
  | inl i => exact .int i
  | inr s => exact .str s
theorem rks_len {K : PySem.W.Frag} {φ : Nat → Addr} {n : Nat} {H : Hp} {kvs vs} (r : RKs K φ n H kvs vs) : kvs.length = vs.length := by
  induction r with
  | nil => rfl
  | cons _ _ ih => simp [ih]
theorem rks_get {K : PySem.W.Frag} {φ : Nat → Addr} {n : Nat} {H : Hp} {kvs vs} (r : RKs K φ n H kvs vs) : ∀ {i : Nat} {kv}, kvs[i]? = some kv → ∃ v, vs[i]? = some (kc kv.1, v) := by
  induction r with
  | nil => intro i kv h; simp at h
  | cons h _ ih =>
    intro i kv hi
    cases i with
    | zero =>
      simp at hi
      subst hi
      exact ⟨_, rfl⟩
    | succ i => exact ih (by simpa using hi)
theorem itok_key {K : PySem.W.Frag} {mg : Str → Option Value} {φ : Nat → Addr} {n m : Nat} {H : Hp} {j : Nat} {o : Obj} {vs : List (Key × V)} (hj : j < n) (hH : H (φ j) = some (.frz o (.dK vs))) : ItOk K mg φ n H (itK j, m) (Itk (φ j) o vs) := by
  have key : ∀ φ' lh' H', (∀ i, i < n → φ' i = φ i) → Ext H H' → HR K mg φ' lh' H' → ∀ kvs, lh'[j]? = some (.dL kvs) → H' (φ j) = some (.frz o (.dK vs)) ∧ RKs K φ' lh'.length H' kvs vs := by
    intro φ' lh' H' ag ex hr kvs el
    have h1 := ex.frz _ _ _ hH
    obtain ⟨o2, vs2, h2, r⟩ := hr.obj _ _ el
    rw [ag j hj, h1] at h2
    cases h2
    exact ⟨h1, r⟩
  refine ⟨fun φ' lh' H' hn ag ex hr i hi => ?_, fun φ' lh' H' hn ag ex hr i d hi => ?_⟩
  · simp only [itK] at hi
    cases el : lh'[j]? with
    | none => rw [el] at hi; cases hi
    | some lo =>
      cases lo with
      | dL kvs =>
        rw [el] at hi
        obtain ⟨h1, r⟩ := key φ' lh' H' ag ex hr kvs el
        have e := Option.some.inj hi
        refine ⟨h1, ?_⟩
        cases eg : kvs[i]? with
        | none => rw [← rks_len r]; exact List.getElem?_eq_none_iff.mp eg
        | some kv => rw [eg] at e; cases e
      | _ => rw [el] at hi; cases hi
  · simp only [itK] at hi
    cases el : lh'[j]? with
    | none => rw [el] at hi; cases hi
    | some lo =>
      cases lo with
      | dL kvs =>
        rw [el] at hi
        obtain ⟨h1, r⟩ := key φ' lh' H' ag ex hr kvs el
        have e := Option.some.inj hi
        cases eg : kvs[i]? with
        | none => rw [eg] at e; cases e
        | some kv =>
          rw [eg] at e
          cases e
          obtain ⟨v, ev⟩ := rks_get r eg
          refine ⟨⟨h1, by rw [← rks_len r]; exact (List.getElem?_eq_some_iff.mp eg).1⟩, fun x H'' ⟨e1, k, v2, e2, e3⟩ => ⟨e1, ?_⟩⟩
          rw [ev] at e2
          cases e2
          subst e3
          exact kD_ok kv.1
      | _ => rw [el] at hi; cases hi
theorem qi_keys (he : QE X W o mo) : QI X W tg o (iKeyM mo) := by
  refine ⟨fun pins s σ H R I ⟨φ, env, lh, h1, h2, q⟩ => (pi_keys he).run pins s σ H R I ?_⟩
  refine rd_of h1 h2 (wp_step q fun x lh1 φ1 v H1 p1 r1 q1 => ?_)
  cases x with
  | ref j =>
    obtain ⟨rfl, hj⟩ := r1.ref_inv
    dsimp only at q1
    cases el : lh1[j]? with
    | none => rw [el] at q1; exact q1.elim
    | some lo =>
      rw [el] at q1
      cases lo with
      | dL kvs =>
        obtain ⟨ob, vs, hH, rk⟩ := p1.hr.obj _ _ el
        exact ⟨φ1 j, ob, rfl, .inl ⟨vs, hH, wp_ok q1 (.refl p1.hr) (itok_key hj hH)⟩⟩
      | _ => exact q1.elim
  | _ => exact q1.elim
end
end HM
set_option Elab.async false
set_option linter.all false
set_option maxRecDepth 100000
set_option maxHeartbeats 4000000

namespace L
open PySem L2 HM
def s__law_cell_v2_1 : MS := (sIf (mTst (mOp dLt (mVar 1) (mApp dLen (mCons (mVar 0) mNil)))) (sRet (mApp dAbs (mCons (mApp dInt (mCons (mOp dIx (mVar 0) (mVar 1)) mNil)) mNil))) sNil)
def s__law_cell_v2_2 : MS := (sRet (mC (.int 0)))
def b__law_cell_v2 : MS := (sSeq s__law_cell_v2_1 s__law_cell_v2_2)
def f__law_cell_v2 : MF := mkF 2 2 b__law_cell_v2
def s__law_draws_1 : MS := (sSet 3 (mLst mNil))
def s__law_draws_2b_1 : MS := (sSet 5 (mApp dAbs (mCons (mApp dInt (mCons (mVar 4) mNil)) mNil)))
def s__law_draws_2b_2t_1 : MS := (sSet 6 (mOp dMod (mApp dInt (mCons (mOp dAdd (mOp dMul (mVar 5) (mC (.int 39373))) (mC (.int 23))) mNil)) (mC (.int 2147483647))))
def s__law_draws_2b_2t_2 : MS := (sExpr (mMet isLst dAppend (mVar 3) (mCons (mVar 5) mNil)))
def s__law_draws_2b_2t_3 : MS := (sExpr (mMet isLst dAppend (mVar 3) (mCons (mOp dDiv (mOp dMod (mApp dInt (mCons (mOp dAdd (mOp dAdd (mOp dMul (mVar 6) (mC (.int 16807))) (mOp dDiv (mVar 5) (mC (.int 6)))) (mC (.int 3))) mNil)) (mC (.int 2147483399))) (mC (.int 3))) mNil)))
def s__law_draws_2b_2t_4 : MS := (sExpr (mMet isLst dAppend (mVar 3) (mCons (mOp dDiv (mOp dMod (mApp dInt (mCons (mOp dAdd (mOp dAdd (mOp dMul (mVar 6) (mC (.int 69621))) (mOp dDiv (mVar 5) (mC (.int 11)))) (mC (.int 8))) mNil)) (mC (.int 2147483629))) (mC (.int 7))) mNil)))
def s__law_draws_2b_2t : MS := (sSeq s__law_draws_2b_2t_1 (sSeq s__law_draws_2b_2t_2 (sSeq s__law_draws_2b_2t_3 s__law_draws_2b_2t_4)))
def s__law_draws_2b_2e_b_1 : MS := (sIf (mTst (mOp dGt (mVar 5) (mC (.int 0)))) (sExpr (mMet isLst dAppend (mVar 3) (mCons (mOp dMod (mApp dInt (mCons (mVar 5) mNil)) (mC (.int 1000000))) mNil))) sNil)
def s__law_draws_2b_2e_b_2 : MS := (sSet 5 (mOp dDiv (mVar 5) (mC (.int 1000000))))
def s__law_draws_2b_2e_b : MS := (sSeq s__law_draws_2b_2e_b_1 s__law_draws_2b_2e_b_2)
def s__law_draws_2b_2e : MS := (sFor (iRng1M (mCons (mC (.int 24)) mNil)) (.nm 7) s__law_draws_2b_2e_b)
def s__law_draws_2b_2 : MS := (sIf (mTst (mOp dLt (mVar 5) (mOp dPow (mC (.int 10)) (mC (.int 18))))) s__law_draws_2b_2t s__law_draws_2b_2e)
def s__law_draws_2b : MS := (sSeq s__law_draws_2b_1 s__law_draws_2b_2)
def s__law_draws_2 : MS := (sFor (iAny (mSl (mVar 0) (mPart (mVar 1)) mNoP)) (.nm 4) s__law_draws_2b)
def s__law_draws_3 : MS := (sRet (mSl (mVar 3) mNoP (mPart (mVar 2))))
def b__law_draws : MS := (sSeq s__law_draws_1 (sSeq s__law_draws_2 s__law_draws_3))
def f__law_draws : MF := mkF 3 8 b__law_draws
end L
set_option Elab.async false
set_option linter.all false
set_option maxRecDepth 100000
set_option maxHeartbeats 4000000
namespace HM
open PySem L2 PySem.Spec PyProof.Rows
/-! ### f'..' of texts and ints -/
section
variable {X : Cx} {W : WX} {e : Expr} {ma : M D}
inductive QJ (X : Cx) (W : WX) : List Expr → List (M D) → Prop where
  | nil : QJ X W [] []
  | cons {e : Expr} {m : M D} {es : List Expr} {ms : List (M D)} (h : QE X W e m) (r : QJ X W es ms) : QJ X W (e :: es) (m :: ms)
/-! ### d.pop(k, x) -/
variable {o f : Expr} {mo me mf : M D} {apos cpos : Pos}
end
end HM
set_option Elab.async false
set_option linter.all false
set_option maxRecDepth 100000
set_option maxHeartbeats 4000000

namespace L
open PySem L2 HM
end L
set_option Elab.async false
set_option linter.all false
set_option maxRecDepth 100000
set_option maxHeartbeats 4000000
namespace HM
open PySem L2 PySem.Spec PyProof.Rows
/-! ### list(d.keys()) -/
section
variable {X : Cx} {e : Expr} {te : TE} {p apos cpos pos : Pos}
end
end HM
set_option Elab.async false
set_option linter.all false
set_option maxRecDepth 100000
set_option maxHeartbeats 4000000
namespace HM
open PySem L2 PySem.Spec PyProof.Rows
/-! ### dict(d): a copy -/
end HM
set_option Elab.async false
set_option linter.all false
set_option maxRecDepth 100000
set_option maxHeartbeats 4000000
namespace HM
open PySem L2
/-! ### [y for t in it if c for t1 in it1 if c1] -/
section
variable {X : Cx} {W : WX} {mi mi1 : M (IT × Nat)} {t t1 : TN} {mc mc1 : M Bool} {my : M D}
end
end HM
set_option Elab.async false
set_option linter.all false
set_option maxRecDepth 100000
set_option maxHeartbeats 4000000

namespace L
open PySem L2 HM
end L
set_option Elab.async false
set_option linter.all false
set_option maxRecDepth 100000
set_option maxHeartbeats 4000000
namespace G
open PySem L2 HM L
def b__law_names_v2 : MS := (sRet (mLst (mCons (mC (S "list")) (mCons (mC (S "a")) (mCons (mC (S "b")) (mCons (mC (S "c")) (mCons (mC (S "d")) (mCons (mC (S "e")) (mCons (mC (S "f")) (mCons (mC (S "g")) mNil))))))))))
def f__law_names_v2 : MF := mkF 0 0 b__law_names_v2
def b__law_path_v3 : MS := (sRet (mOp dIx (mLst (mCons (mC (S "bin/x")) (mCons (mC (S "bin/y.tar")) (mCons (mC (S "doc/x")) (mCons (mC (S "x")) (mCons (mC (S "lib/a/x")) (mCons (mC (S "bin/b/y")) mNil))))))) (mOp dMod (mVar 0) (mC (.int 6)))))
def f__law_path_v3 : MF := mkF 1 1 b__law_path_v3
def s__law_patterns_1 : MS := (sSet 1 (mLst (mCons (mC (S "*/*")) (mCons (mC (S "bin/*")) (mCons (mC (S "*")) (mCons (mC (S "*/x")) (mCons (mC (S "doc/*x*")) (mCons (mC (S "lib/*/*")) (mCons (mC (S "bin/*.tar")) (mCons (mC (S "b*n/*/y")) mNil))))))))))
def s__law_patterns_2y : M D := (mOp dIx (mVar 1) (mOp dMod (mOp dDiv (mVar 0) (mOp dAdd (mOp dMul (mC (.int 8)) (mVar 2)) (mC (.int 1)))) (mC (.int 8))))
def s__law_patterns_2 : MS := (sRet (mApp dTuple (mCons (mLc (iRng1M (mCons (mOp dAdd (mC (.int 1)) (mOp dMod (mVar 0) (mC (.int 3)))) mNil)) (.nm 2) mYes s__law_patterns_2y [2]) mNil)))
def b__law_patterns : MS := (sSeq s__law_patterns_1 s__law_patterns_2)
def f__law_patterns : MF := mkF 1 3 b__law_patterns
def s__law_fits_v2_1 (R : Nat → MF) : MS := (sIf (mTst (mOp dEq (mVar 0) (mC (S "")))) (sRet (mOp dEq (mVar 1) (mC (S "")))) sNil)
def s__law_fits_v2_2y (R : Nat → MF) : M D := (mApp (R 0) (mCons (mSl (mVar 0) (mPart (mC (.int 1))) mNoP) (mCons (mSl (mVar 1) (mPart (mVar 2)) mNoP) mNil)))
def s__law_fits_v2_2 (R : Nat → MF) : MS := (sIf (mTst (mOp dEq (mOp dIx (mVar 0) (mC (.int 0))) (mC (S "*")))) (sRet (mApp dAny (mCons (mLc (iRng1M (mCons (mOp dAdd (mApp dLen (mCons (mVar 1) mNil)) (mC (.int 1))) mNil)) (.nm 2) mYes (s__law_fits_v2_2y R) [2]) mNil))) sNil)
def s__law_fits_v2_3 (R : Nat → MF) : MS := (sRet (mAnd (mOp dNe (mVar 1) (mC (S ""))) (mAnd (mOp dEq (mOp dIx (mVar 0) (mC (.int 0))) (mOp dIx (mVar 1) (mC (.int 0)))) (mApp (R 0) (mCons (mSl (mVar 0) (mPart (mC (.int 1))) mNoP) (mCons (mSl (mVar 1) (mPart (mC (.int 1))) mNoP) mNil))))))
def b__law_fits_v2 (R : Nat → MF) : MS := (sSeq (s__law_fits_v2_1 R) (sSeq (s__law_fits_v2_2 R) (s__law_fits_v2_3 R)))
def F__law_fits_v2 : Nat → Nat → MF
  | 0, _ => fun _ _ => .bad
  | n + 1, _ => mkF 2 3 (b__law_fits_v2 (F__law_fits_v2 n))
def f__law_fits_v2 : MF := F__law_fits_v2 FUEL 0
def s__law_covers_v2_1 : MS := (sSet 2 (mMet isStr dSplit (mVar 1) (mCons (mC (S "/")) mNil)))
def s__law_covers_v2_2b_1 : MS := (sSet 4 (mMet isStr dSplit (mVar 3) (mCons (mC (S "/")) mNil)))
def s__law_covers_v2_2b_2y : M D := (mApp f__law_fits_v2 (mCons (mOp dIx (mVar 4) (mVar 5)) (mCons (mOp dIx (mVar 2) (mVar 5)) mNil)))
def s__law_covers_v2_2b_2 : MS := (sIf (mTAnd (mTst (mOp dEq (mApp dLen (mCons (mVar 4) mNil)) (mApp dLen (mCons (mVar 2) mNil)))) (mTru (mApp dAll (mCons (mLc (iRng1M (mCons (mApp dLen (mCons (mVar 2) mNil)) mNil)) (.nm 5) mYes s__law_covers_v2_2b_2y [5]) mNil)))) (sRet (mC (.bl true))) sNil)
def s__law_covers_v2_2b : MS := (sSeq s__law_covers_v2_2b_1 s__law_covers_v2_2b_2)
def s__law_covers_v2_2 : MS := (sFor (iAny (mVar 0)) (.nm 3) s__law_covers_v2_2b)
def s__law_covers_v2_3 : MS := (sRet (mC (.bl false)))
def b__law_covers_v2 : MS := (sSeq s__law_covers_v2_1 (sSeq s__law_covers_v2_2 s__law_covers_v2_3))
def f__law_covers_v2 : MF := mkF 2 6 b__law_covers_v2
def s__law_list_v5_1 : MS := (sSet 3 mDict0)
def s__law_list_v5_2b : MS := (sPutK (mVar 3) (mApp f__law_path_v3 (mCons (mOp dDiv (mVar 1) (mOp dAdd (mC (.int 5)) (mOp dMul (mC (.int 3)) (mVar 4)))) mNil)) (mTup (mCons (mOp dAdd (mOp dMod (mOp dDiv (mVar 1) (mC (.int 7))) (mC (.int 9))) (mVar 4)) (mCons (mOp dAdd (mC (S "00000000000000000")) (mApp dStr (mCons (mVar 4) mNil))) mNil))))
def s__law_list_v5_2 : MS := (sFor (iRng1M (mCons (mOp dMod (mVar 1) (mC (.int 3))) mNil)) (.nm 4) s__law_list_v5_2b)
def s__law_list_v5_3 : MS := (sSet 5 mDict0)
def s__law_list_v5_4b_1 : MS := (sSet 6 (mOp dIx (mApp0 f__law_names_v2) (mOp dAdd (mC (.int 1)) (mOp dMod (mOp dDiv (mVar 1) (mOp dAdd (mOp dMul (mC (.int 11)) (mVar 4)) (mC (.int 13)))) (mC (.int 7))))))
def s__law_list_v5_4b_2t_1 : MS := (sSet 7 (mTup (mCons (mC (.int 1)) (mCons (mTup (mCons (mOp dAdd (mC (S "k")) (mApp dStr (mCons (mOp dAdd (mOp dAdd (mOp dMulX (mVar 2) (mC (.int 10))) (mVar 4)) (mC (.int 1))) mNil))) mNil)) mNil))))
def s__law_list_v5_4b_2t_2 : MS := (sPutK (mVar 5) (mVar 6) (mTup (mCons (mVar 6) (mCons (mVar 7) (mCons (mApp f__law_patterns (mCons (mOp dDiv (mVar 1) (mOp dAdd (mC (.int 17)) (mVar 4))) mNil)) (mCons (mApp dInt (mCons (mOp dEq (mOp dMod (mOp dDiv (mVar 1) (mOp dAdd (mC (.int 19)) (mOp dMul (mC (.int 5)) (mVar 4)))) (mC (.int 6))) (mC (.int 0))) mNil)) mNil))))))
def s__law_list_v5_4b_2t : MS := (sSeq s__law_list_v5_4b_2t_1 s__law_list_v5_4b_2t_2)
def s__law_list_v5_4b_2 : MS := (sIf (mTst (mOp dNe (mVar 6) (mVar 0))) s__law_list_v5_4b_2t sNil)
def s__law_list_v5_4b : MS := (sSeq s__law_list_v5_4b_1 s__law_list_v5_4b_2)
def s__law_list_v5_4 : MS := (sFor (iRng1M (mCons (mOp dMod (mOp dDiv (mVar 1) (mC (.int 3))) (mC (.int 5))) mNil)) (.nm 4) s__law_list_v5_4b)
def s__law_list_v5_5y : M D := (mOp dAdd (mTup (mCons (mVar 9) mNil)) (mOp dIxA (mVar 3) (mVar 9)))
def s__law_list_v5_5 : MS := (sSet 8 (mApp dTuple (mCons (mLc (iAny (mApp dSortedA (mCons (mVar 3) mNil))) (.nm 9) mYes s__law_list_v5_5y [9]) mNil)))
def s__law_list_v5_6y : M D := (mOp dIxA (mVar 5) (mVar 6))
def s__law_list_v5_6 : MS := (sRet (mTup (mCons (mC (S "list")) (mCons (mVar 0) (mCons (mC (.int 1)) (mCons (mC (.int 9)) (mCons (mVar 8) (mCons (mApp dTuple (mCons (mLock (mVar 5) (mLc (iKeyM (mVar 5)) (.nm 6) mYes s__law_list_v5_6y [6])) mNil)) mNil))))))))
def b__law_list_v5 : MS := (sSeq s__law_list_v5_1 (sSeq s__law_list_v5_2 (sSeq s__law_list_v5_3 (sSeq s__law_list_v5_4 (sSeq s__law_list_v5_5 s__law_list_v5_6)))))
def f__law_list_v5 : MF := mkF 3 10 b__law_list_v5
def s__law_walk_v2_1 : MS := (sSet 4 (mLst (mCons (mTup (mCons (mC (S "list")) (mCons (mVar 0) mNil))) mNil)))
def s__law_walk_v2_2 : MS := (sSet 5 (mLst mNil))
def s__law_walk_v2_3b_1 : MS := (sSet 6 (mOp dIx (mOp dIx (mVar 4) (mC (.int 0))) (mC (.int 0))))
def s__law_walk_v2_3b_2 : MS := (sSet 7 (mOp dIx (mVar 4) (mC (.int 0))))
def s__law_walk_v2_3b_3 : MS := (sSet 4 (mSl (mVar 4) (mPart (mC (.int 1))) mNoP))
def s__law_walk_v2_3b_4y : M D := (mOp dIx (mVar 11) (mC (.int 0)))
def s__law_walk_v2_3b_4 : MS := (sIf (mTst (mOp dIn (mVar 6) (mLc (iAny (mVar 5)) (.nm 11) mYes s__law_walk_v2_3b_4y [11]))) sCnt sNil)
def s__law_walk_v2_3b_5 : MS := (sExpr (mMet isLst dAppend (mVar 5) (mCons (mVar 7) mNil)))
def s__law_walk_v2_3b_6b : MS := (sIf (mTst (mOp dEq (mOp dIx (mVar 8) (mC (.int 0))) (mVar 3))) (sRet (mTup (mCons (mVar 5) (mCons (mTup (mCons (mC (S "found")) (mCons (mVar 6) (mCons (mOp dIx (mVar 8) (mC (.int 1))) (mCons (mOp dIx (mVar 8) (mC (.int 2))) mNil))))) mNil)))) sNil)
def s__law_walk_v2_3b_6 : MS := (sFor (iAny (mOp dIx (mOp dIxA (mVar 1) (mVar 6)) (mC (.int 4)))) (.nm 8) s__law_walk_v2_3b_6b)
def s__law_walk_v2_3b_7 : MS := (sSet 9 (mLst mNil))
def s__law_walk_v2_3b_8b_t_1 : MS := (sExpr (mMet isLst dAppend (mVar 9) (mCons (mTup (mCons (mOp dIx (mVar 10) (mC (.int 0))) (mCons (mOp dIx (mVar 10) (mC (.int 1))) mNil))) mNil)))
def s__law_walk_v2_3b_8b_t_2t_1 : MS := (sSet 4 (mLst mNil))
def s__law_walk_v2_3b_8b_t_2t_2 : MS := sBrk
def s__law_walk_v2_3b_8b_t_2t : MS := (sSeq s__law_walk_v2_3b_8b_t_2t_1 s__law_walk_v2_3b_8b_t_2t_2)
def s__law_walk_v2_3b_8b_t_2 : MS := (sIf (mTst (mOp dEq (mOp dIx (mVar 10) (mC (.int 3))) (mC (.int 1)))) s__law_walk_v2_3b_8b_t_2t sNil)
def s__law_walk_v2_3b_8b_t : MS := (sSeq s__law_walk_v2_3b_8b_t_1 s__law_walk_v2_3b_8b_t_2)
def s__law_walk_v2_3b_8by : M D := (mOp dIx (mVar 11) (mC (.int 0)))
def s__law_walk_v2_3b_8b : MS := (sIf (mTAnd (mTru (mApp f__law_covers_v2 (mCons (mOp dIx (mVar 10) (mC (.int 2))) (mCons (mVar 3) mNil)))) (mTAnd (mTst (mOp dIn (mOp dIx (mVar 10) (mC (.int 0))) (mVar 2))) (mTst (mOp dNotIn (mOp dIx (mVar 10) (mC (.int 0))) (mLc (iAny (mVar 5)) (.nm 11) mYes s__law_walk_v2_3b_8by [11]))))) s__law_walk_v2_3b_8b_t sNil)
def s__law_walk_v2_3b_8 : MS := (sFor (iAny (mOp dIx (mOp dIxA (mVar 1) (mVar 6)) (mC (.int 5)))) (.nm 10) s__law_walk_v2_3b_8b)
def s__law_walk_v2_3b_9 : MS := (sSet 4 (mOp dAdd (mVar 9) (mVar 4)))
def s__law_walk_v2_3b : MS := (sSeq s__law_walk_v2_3b_1 (sSeq s__law_walk_v2_3b_2 (sSeq s__law_walk_v2_3b_3 (sSeq s__law_walk_v2_3b_4 (sSeq s__law_walk_v2_3b_5 (sSeq s__law_walk_v2_3b_6 (sSeq s__law_walk_v2_3b_7 (sSeq s__law_walk_v2_3b_8 s__law_walk_v2_3b_9))))))))
def s__law_walk_v2_3 : MS := (sWhile fuel (mTst (mOp dGt (mApp dLen (mCons (mVar 4) mNil)) (mC (.int 0)))) s__law_walk_v2_3b)
def s__law_walk_v2_4 : MS := (sRet (mTup (mCons (mVar 5) (mCons (mTup (mCons (mC (S "none")) mNil)) mNil))))
def b__law_walk_v2 : MS := (sSeq s__law_walk_v2_1 (sSeq s__law_walk_v2_2 (sSeq s__law_walk_v2_3 s__law_walk_v2_4)))
def f__law_walk_v2 : MF := mkF 4 12 b__law_walk_v2
def s_law_1 : MS := (sSet 1 (mApp f__law_cell_v2 (mCons (mVar 0) (mCons (mC (.int 0)) mNil))))
def s_law_2 : MS := (sSet 2 (mApp f__law_draws (mCons (mVar 0) (mCons (mC (.int 1)) (mCons (mC (.int 8)) mNil)))))
def s_law_3 : MS := (sSet 3 mDict0)
def s_law_4 : MS := (sSet 4 (mLst (mCons (mC (S "list")) mNil)))
def s_law_5b_1 : MS := (sSet 6 (mOp dIx (mApp0 f__law_names_v2) (mVar 5)))
def s_law_5b_2 : MS := (sSet 7 (mOp dDiv (mVar 1) (mOp dAdd (mVar 5) (mC (.int 2)))))
def s_law_5b_3 : MS := (sIf (mTst (mOp dLt (mVar 5) (mApp dLen (mCons (mVar 2) mNil)))) (sSet 7 (mOp dIx (mVar 2) (mVar 5))) sNil)
def s_law_5b_4 : MS := (sPutK (mVar 3) (mVar 6) (mApp f__law_list_v5 (mCons (mVar 6) (mCons (mVar 7) (mCons (mVar 5) mNil)))))
def s_law_5b_5 : MS := (sIf (mTAnd (mTst (mOp dNotIn (mVar 6) (mVar 4))) (mTst (mOp dGt (mOp dMod (mOp dDiv (mVar 7) (mC (.int 23))) (mC (.int 5))) (mC (.int 0))))) (sExpr (mMet isLst dAppend (mVar 4) (mCons (mVar 6) mNil))) sNil)
def s_law_5b : MS := (sSeq s_law_5b_1 (sSeq s_law_5b_2 (sSeq s_law_5b_3 (sSeq s_law_5b_4 s_law_5b_5))))
def s_law_5 : MS := (sFor (iRng1M (mCons (mC (.int 8)) mNil)) (.nm 5) s_law_5b)
def s_law_6y : M D := (mTup (mCons (mVar 6) (mCons (mC (.int 1)) (mCons (mC (.int 0)) (mCons (mC (S "000000000000000000")) mNil)))))
def s_law_6 : MS := (sSet 8 (mApp dTuple (mCons (mLc (iAny (mApp dSorted (mCons (mVar 4) mNil))) (.nm 6) mYes s_law_6y [6]) mNil)))
def s_law_7 : MS := (sSet 9 (mTup (mCons (mTup (mCons (mC (.int 1)) (mCons (mTup (mCons (mC (S "k1")) mNil)) mNil))) (mCons (mTup (mCons (mC (.int 1)) (mCons (mTup (mCons (mC (S "k2")) mNil)) mNil))) (mCons (mTup (mCons (mC (.int 1)) (mCons (mTup (mCons (mC (S "k3")) mNil)) mNil))) (mCons (mTup (mCons (mC (.int 1)) (mCons (mTup (mCons (mC (S "k4")) mNil)) mNil))) mNil))))))
def s_law_8 : MS := (sSet 10 (mTup (mCons (mC (S "charter")) (mCons (mC (.int 1)) (mCons (mC (.int 9)) (mCons (mVar 9) mNil))))))
def s_law_9 : MS := (sSet 11 (mTup (mCons (mC (S "shelf")) (mCons (mC (.int 1)) (mCons (mC (.int 9)) (mCons (mVar 8) mNil))))))
def s_law_10 : MS := (sSet 12 (mApp f__law_path_v3 (mCons (mVar 1) mNil)))
def s_law_11 : MS := (sTup [13, 14] (mApp f__law_walk_v2 (mCons (mOp dIx (mVar 9) (mC (.int 3))) (mCons (mVar 3) (mCons (mVar 4) (mCons (mVar 12) mNil))))))
def s_law_12 : MS := (sSet 15 (mMake "Search" f_Search___init__ (mCons (mVar 10) (mCons (mVar 11) (mCons (mVar 12) mNil)))))
def s_law_13b_1 : MS := (sIf (mTOr (mTst (mOp dNe (mMeth "Search" "wanted" f_Search_wanted (mVar 15) mNil) (mVar 16))) (mTst (mOp dIsNot (mMeth "Search" "result" f_Search_result (mVar 15) mNil) (mC .non)))) (sRet (mC (.bl false))) sNil)
def s_law_13b_2 : MS := (sSet 17 (mLst (mCons (mC .non) (mCons (mOp dIxA (mVar 3) (mC (S "a"))) (mCons (mOp dIxA (mVar 3) (mC (S "b"))) (mCons (mTup (mCons (mC (S "list")) mNil)) (mCons (mVar 10) mNil)))))))
def s_law_13b_3b : MS := (sIf (mTOr (mTNot (mTru (mIsI .tuple (mVar 18)))) (mTOr (mTst (mOp dLt (mApp dLen (mCons (mVar 18) mNil)) (mC (.int 6)))) (mTst (mOp dNe (mOp dIx (mVar 18) (mC (.int 1))) (mOp dIx (mVar 16) (mC (.int 0))))))) (sIf (mTOr (mTNot (mTru (mApp f__law_refused (mCons (mVar 15) (mCons (mVar 18) mNil))))) (mTst (mOp dNe (mMeth "Search" "wanted" f_Search_wanted (mVar 15) mNil) (mVar 16)))) (sRet (mC (.bl false))) sNil) sNil)
def s_law_13b_3 : MS := (sFor (iAny (mVar 17)) (.nm 18) s_law_13b_3b)
def s_law_13b_4 : MS := (sIf (mTst (mOp dIsNot (mMeth "Search" "give" f_Search_give (mVar 15) (mCons (mOp dIxA (mVar 3) (mOp dIx (mVar 16) (mC (.int 0)))) mNil)) (mC .non))) (sRet (mC (.bl false))) sNil)
def s_law_13b : MS := (sSeq s_law_13b_1 (sSeq s_law_13b_2 (sSeq s_law_13b_3 s_law_13b_4)))
def s_law_13 : MS := (sFor (iAny (mVar 13)) (.nm 16) s_law_13b)
def s_law_14 : MS := (sIf (mTOr (mTst (mOp dIsNot (mMeth "Search" "wanted" f_Search_wanted (mVar 15) mNil) (mC .non))) (mTOr (mTst (mOp dNe (mMeth "Search" "result" f_Search_result (mVar 15) mNil) (mVar 14))) (mTNot (mTru (mApp f__law_refused (mCons (mVar 15) (mCons (mOp dIxA (mVar 3) (mC (S "list"))) mNil))))))) (sRet (mC (.bl false))) sNil)
def s_law_15 : MS := (sIf (mTOr (mTst (mOp dNe (mMeth "Search" "result" f_Search_result (mVar 15) mNil) (mVar 14))) (mTst (mOp dNe (mApp f_lookup (mCons (mVar 10) (mCons (mVar 11) (mCons (mVar 3) (mCons (mVar 12) mNil))))) (mVar 14)))) (sRet (mC (.bl false))) sNil)
def s_law_16 : MS := (sSet 19 (mOp dIx (mOp dIx (mVar 13) (mOp dMod (mOp dDiv (mVar 1) (mC (.int 6))) (mApp dLen (mCons (mVar 13) mNil)))) (mC (.int 0))))
def s_law_17 : MS := (sSet 20 mDict0)
def s_law_18 : MS := (sLock (mVar 3) (sFor (iKeyM (mVar 3)) (.nm 6) (sIf (mTst (mOp dNe (mVar 6) (mVar 19))) (sPutK (mVar 20) (mVar 6) (mOp dIxA (mVar 3) (mVar 6))) sNil)))
def s_law_19 : MS := (sRet (mOp dEq (mApp f_lookup (mCons (mVar 10) (mCons (mVar 11) (mCons (mVar 20) (mCons (mVar 12) mNil))))) (mTup (mCons (mC (S "missing")) (mCons (mVar 19) mNil)))))
def b_law : MS := (sSeq s_law_1 (sSeq s_law_2 (sSeq s_law_3 (sSeq s_law_4 (sSeq s_law_5 (sSeq s_law_6 (sSeq s_law_7 (sSeq s_law_8 (sSeq s_law_9 (sSeq s_law_10 (sSeq s_law_11 (sSeq s_law_12 (sSeq s_law_13 (sSeq s_law_14 (sSeq s_law_15 (sSeq s_law_16 (sSeq s_law_17 (sSeq s_law_18 s_law_19))))))))))))))))))
def f_law : MF := mkF 1 21 b_law
end G
set_option Elab.async false
set_option linter.all false
set_option maxRecDepth 100000
set_option maxHeartbeats 4000000
namespace G
open PySem L2 PySem.Spec PyProof.Rows HM L
def top (i : Nat) : Stmt := PySem.Challenge.pw_sealchart_k33_search_by_the_rules.main.body.getD i (.Pass ⟨0, 0, 0, 0⟩)
structure Tx (K : PySem.W.Frag) (mg : Str → Option Value) : Prop where
  z_abs : mg "abs" = none
  z_all : mg "all" = none
  z_any : mg "any" = none
  z_bool : mg "bool" = none
  z_int : mg "int" = none
  z_isinstance : mg "isinstance" = none
  z_len : mg "len" = none
  z_list : mg "list" = none
  z_range : mg "range" = none
  z_sorted : mg "sorted" = none
  z_str : mg "str" = none
  z_tuple : mg "tuple" = none
  x_ChartError : ∃ C, XC K mg "ChartError" C
  x_BadState : ∃ C, XC K mg "BadState" C
  m_BadState : MtOk K mg "BadState" mt_BadState
  g_DIGEST_SIZE : ∃ t, mg "DIGEST_SIZE" = some (.int 18 t)
  g_DIGITS : ∃ t, mg "DIGITS" = some (.str "0123456789" t)
  g_HEX_DIGITS : ∃ t, mg "HEX_DIGITS" = some (.str "0123456789abcdef" t)
  g_LETTERS : ∃ t, mg "LETTERS" = some (.str "abcdefghijklmnopqrstuvwxyz" t)
  g_MOST_GOODS : ∃ t, mg "MOST_GOODS" = some (.int 64 t)
  g_MOST_KEYS : ∃ t, mg "MOST_KEYS" = some (.int 16 t)
  g_MOST_LISTS : ∃ t, mg "MOST_LISTS" = some (.int 32 t)
  g_MOST_NAME : ∃ t, mg "MOST_NAME" = some (.int 12 t)
  g_MOST_NUMBER : ∃ t, mg "MOST_NUMBER" = some (.int 1000000000000 t)
  g_MOST_PARTS : ∃ t, mg "MOST_PARTS" = some (.int 6 t)
  g_MOST_PATH : ∃ t, mg "MOST_PATH" = some (.int 60 t)
  g_MOST_PATTERNS : ∃ t, mg "MOST_PATTERNS" = some (.int 8 t)
  g_NAMES : GT K mg "NAMES" ["charter", "stamp", "shelf", "list"]
  g_PATH_CHARS : ∃ t, mg "PATH_CHARS" = some (.str "abcdefghijklmnopqrstuvwxyz0123456789.-_" t)
  g_PATTERN_CHARS : ∃ t, mg "PATTERN_CHARS" = some (.str "abcdefghijklmnopqrstuvwxyz0123456789.-_*" t)
  f_Search_outcome : FdK K mg "Search" "outcome"
  f_Search_path : FdK K mg "Search" "path"
  f_Search_shelf : FdK K mg "Search" "shelf"
  f_Search_visited : FdK K mg "Search" "visited"
  f_Search_waiting : FdK K mg "Search" "waiting"
  gc_BadState : ∃ C, mg "BadState" = some (.ref C)
  dummy : True
/-! ### made_of -/
abbrev st_made_of : Stmt := top 15
def N_made_of : List Str := ["text", "chars", "char"]
/-! ### is_list_name -/
abbrev st_is_list_name : Stmt := top 16
def N_is_list_name : List Str := ["value"]
/-! ### is_key -/
abbrev st_is_key : Stmt := top 17
def N_is_key : List Str := ["value"]
/-! ### has_parts -/
abbrev st_has_parts : Stmt := top 20
def N_has_parts : List Str := ["value", "chars", "parts", "part"]
/-! ### is_path -/
abbrev st_is_path : Stmt := top 18
def N_is_path : List Str := ["value"]
/-! ### is_pattern -/
abbrev st_is_pattern : Stmt := top 19
def N_is_pattern : List Str := ["value"]
/-! ### ends_behind -/
abbrev st_ends_behind : Stmt := top 23
def N_ends_behind : List Str := ["ends", "char", "part", "end"]
/-! ### part_matches -/
abbrev st_part_matches : Stmt := top 22
def N_part_matches : List Str := ["wanted", "part", "ends", "char"]
/-! ### matches -/
abbrev st_matches : Stmt := top 21
def N_matches : List Str := ["pattern", "path", "wanted", "parts", "k"]
/-! ### is_integer -/
abbrev st_is_integer : Stmt := top 25
def N_is_integer : List Str := ["value", "least", "greatest"]
/-! ### is_row -/
abbrev st_is_row : Stmt := top 30
def N_is_row : List Str := ["value", "size"]
/-! ### is_table -/
abbrev st_is_table : Stmt := top 31
def N_is_table : List Str := ["value", "most"]
/-! ### is_version -/
abbrev st_is_version : Stmt := top 32
def N_is_version : List Str := ["value"]
/-! ### is_amount -/
abbrev st_is_amount : Stmt := top 33
def N_is_amount : List Str := ["value"]
/-! ### is_digest -/
abbrev st_is_digest : Stmt := top 34
def N_is_digest : List Str := ["value", "char"]
/-! ### is_ascending -/
abbrev st_is_ascending : Stmt := top 35
def N_is_ascending : List Str := ["texts", "k"]
/-! ### is_role -/
abbrev st_is_role : Stmt := top 36
def N_is_role : List Str := ["value", "key"]
/-! ### is_grant -/
abbrev st_is_grant : Stmt := top 37
def N_is_grant : List Str := ["value", "pattern"]
/-! ### has_head -/
abbrev st_has_head : Stmt := top 38
def N_has_head : List Str := ["value", "kind", "at"]
/-! ### are_goods -/
abbrev st_are_goods : Stmt := top 40
def N_are_goods : List Str := ["value", "row"]
/-! ### are_grants -/
abbrev st_are_grants : Stmt := top 41
def N_are_grants : List Str := ["value", "name", "names", "grant"]
/-! ### is_list -/
abbrev st_is_list : Stmt := top 39
def N_is_list : List Str := ["value"]
/-! ### covers -/
abbrev st_covers : Stmt := top 42
def N_covers : List Str := ["grant", "path", "pattern"]
/-! ### good_of -/
abbrev st_good_of : Stmt := top 43
def N_good_of : List Str := ["document", "path", "row"]
/-! ### entry_of -/
abbrev st_entry_of : Stmt := top 44
def N_entry_of : List Str := ["document", "name", "row"]
/-! ### role_of -/
abbrev st_role_of : Stmt := top 47
def N_role_of : List Str := ["charter", "name"]
/-! ### Search___init__ -/
abbrev st_Search___init__ : Stmt := inClass (top 49) 0
def N_Search___init__ : List Str := ["self", "charter", "shelf", "path"]
/-! ### Search_wanted -/
abbrev st_Search_wanted : Stmt := inClass (top 49) 1
def N_Search_wanted : List Str := ["self", "name", "role"]
/-! ### Search_give -/
abbrev st_Search_give : Stmt := inClass (top 49) 2
def N_Search_give : List Str := ["self", "document", "wanted", "good", "added", "name", "role", "patterns", "last", "row"]
/-! ### Search_result -/
abbrev st_Search_result : Stmt := inClass (top 49) 3
def N_Search_result : List Str := ["self"]
/-! ### lookup -/
abbrev st_lookup : Stmt := top 50
def N_lookup : List Str := ["charter", "shelf", "lists", "path", "search", "name"]
/-! ### _law_cell_v2 -/
abbrev st__law_cell_v2 : Stmt := top 52
def N__law_cell_v2 : List Str := ["_law_script", "_law_k"]
/-! ### _law_draws -/
abbrev st__law_draws : Stmt := top 53
def N__law_draws : List Str := ["_law_script", "_law_start", "_law_most", "_law_draws_here", "_law_cell_here", "_law_number", "_law_mixed", "_law_k"]
/-! ### _law_names_v2 -/
abbrev st__law_names_v2 : Stmt := top 54
def N__law_names_v2 : List Str := []
/-! ### _law_path_v3 -/
abbrev st__law_path_v3 : Stmt := top 55
def N__law_path_v3 : List Str := ["_law_number"]
/-! ### _law_patterns -/
abbrev st__law_patterns : Stmt := top 56
def N__law_patterns : List Str := ["_law_number", "_law_menu", "_law_k"]
/-! ### _law_fits_v2 -/
abbrev st__law_fits_v2 : Stmt := top 58
def N__law_fits_v2 : List Str := ["_law_mark", "_law_part", "_law_k"]
/-! ### _law_covers_v2 -/
abbrev st__law_covers_v2 : Stmt := top 57
def N__law_covers_v2 : List Str := ["_law_patterns_here", "_law_path_here", "_law_parts", "_law_pattern", "_law_marks", "_law_k"]
/-! ### _law_list_v5 -/
abbrev st__law_list_v5 : Stmt := top 59
def N__law_list_v5 : List Str := ["_law_name", "_law_number", "_law_key", "_law_goods", "_law_k", "_law_grants", "_law_other", "_law_role", "_law_rows", "_law_path_here"]
/-! ### _law_walk_v2 -/
abbrev st__law_walk_v2 : Stmt := top 60
def N__law_walk_v2 : List Str := ["_law_role", "_law_lists", "_law_named", "_law_path_here", "_law_waiting", "_law_read", "_law_name", "_law_wanted", "_law_row", "_law_added", "_law_grant", "_law_one"]
/-! ### _law_refused -/
abbrev st__law_refused : Stmt := top 61
def N__law_refused : List Str := ["_law_search", "_law_document"]
/-! ### law -/
abbrev st_law : Stmt := top 62
def N_law : List Str := ["_law_script", "_law_cell_here", "_law_draws_here", "_law_lists", "_law_named", "_law_k", "_law_name", "_law_number", "_law_rows", "_law_roles", "_law_charter", "_law_shelf", "_law_path_here", "_law_read", "_law_due", "_law_search", "_law_wanted", "_law_strange", "_law_document", "_law_out", "_law_fewer"]
section
variable {P : Program} {w : World} {K : PySem.W.Frag} {mg : Str → Option Value} {base : Heap} {fa : Addr} {fd : FuncData}
theorem sc_made_of : FnScope N_made_of ["text", "chars"] (defScope st_made_of) := ⟨rfl, rfl, rfl, by decide +kernel, rfl, by decide +kernel, by decide +kernel⟩
theorem ok_made_of (T : Tx K mg) (F : Fun K "made_of" "made_of" st_made_of fa fd) : FnOk P w K mg base (L2.CX P w) 1 fa fd ["text", "chars"] (spM K mg f_made_of) :=
  okM (N := N_made_of) (m := b_made_of) F sc_made_of fun cdv A outer s H E hr =>
    (qss_cons (qs_for (t := (.nm 2)) (by exact passes_of rfl) rfl (qi_any (qe_var 0)) (pg_name (i := 2) sc_made_of.nd rfl (Or.inl rfl)) (qss_one (qs_if (qt_cmp opm_notIn (qe_var 2) (qe_var 1) (by rfl)) (qss_one (qs_ret qe_bl)) qss_nil)))
      (qss_one (qs_ret qe_bl)))
theorem sc_is_list_name : FnScope N_is_list_name ["value"] (defScope st_is_list_name) := ⟨rfl, rfl, rfl, by decide +kernel, rfl, by decide +kernel, by decide +kernel⟩
theorem ok_is_list_name (T : Tx K mg) (F : Fun K "is_list_name" "is_list_name" st_is_list_name fa fd) (c_made_of : CalM P w K mg base 1 "made_of" f_made_of) : FnOk P w K mg base (L2.CX P w) 2 fa fd ["value"] (spM K mg f_is_list_name) :=
  okM (N := N_is_list_name) (m := b_is_list_name) F sc_is_list_name fun cdv A outer s H E hr =>
    (qss_one (qs_ret (qe_and (qe_isi .str (by decide) (qe_var 0) (by rfl) T.z_isinstance (by rfl) T.z_str (by decide +kernel)) (qe_and (qe_chain opm_le opm_le qe_int (qe_callB cm_len (by rfl) T.z_len (by decide +kernel) (qa_cons (qe_var 0) qa_nil)) (qe_globI (by rfl) T.g_MOST_NAME) (by with_unfolding_all rfl)) (qe_one (qe_call c_made_of (hr.mono (by decide)) (by exact takes_of rfl rfl rfl rfl) (by rfl) (qa_cons (qe_var 0) (qa_cons (qe_globS (by rfl) T.g_LETTERS) qa_nil))))))))
theorem sc_is_key : FnScope N_is_key ["value"] (defScope st_is_key) := ⟨rfl, rfl, rfl, by decide +kernel, rfl, by decide +kernel, by decide +kernel⟩
theorem ok_is_key (T : Tx K mg) (F : Fun K "is_key" "is_key" st_is_key fa fd) (c_made_of : CalM P w K mg base 1 "made_of" f_made_of) : FnOk P w K mg base (L2.CX P w) 2 fa fd ["value"] (spM K mg f_is_key) :=
  okM (N := N_is_key) (m := b_is_key) F sc_is_key fun cdv A outer s H E hr =>
    (qss_cons (qs_if (qt_w (qw_or (qt_not (qt_tru (qe_isi .str (by decide) (qe_var 0) (by rfl) T.z_isinstance (by rfl) T.z_str (by decide +kernel)))) (qw_or1 (qt_not (qt_chain opm_le opm_le qe_int (qe_callB cm_len (by rfl) T.z_len (by decide +kernel) (qa_cons (qe_var 0) qa_nil)) (qe_globI (by rfl) T.g_MOST_NAME) (by with_unfolding_all rfl)))))) (qss_one (qs_ret qe_bl)) qss_nil)
      (qss_one (qs_ret (qe_and (qe_cmp (opm_eq hr.units) (qe_ix (qe_var 0) qe_int (fun _ _ => rfl)) (qe_str (x := "k")) (nomark _)) (qe_one (qe_call c_made_of (hr.mono (by decide)) (by exact takes_of rfl rfl rfl rfl) (by rfl) (qa_cons (qe_sl (qe_var 0) (qo_some qe_int) qo_none) (qa_cons (qe_globS (by rfl) T.g_DIGITS) qa_nil))))))))
theorem sc_has_parts : FnScope N_has_parts ["value", "chars"] (defScope st_has_parts) := ⟨rfl, rfl, rfl, by decide +kernel, rfl, by decide +kernel, by decide +kernel⟩
theorem ok_has_parts (T : Tx K mg) (F : Fun K "has_parts" "has_parts" st_has_parts fa fd) (c_made_of : CalM P w K mg base 1 "made_of" f_made_of) : FnOk P w K mg base (L2.CX P w) 2 fa fd ["value", "chars"] (spM K mg f_has_parts) :=
  okM (N := N_has_parts) (m := b_has_parts) F sc_has_parts fun cdv A outer s H E hr =>
    (qss_cons (qs_if (qt_w (qw_or (qt_not (qt_tru (qe_isi .str (by decide) (qe_var 0) (by rfl) T.z_isinstance (by rfl) T.z_str (by decide +kernel)))) (qw_or1 (qt_cmp opm_gt (qe_callB cm_len (by rfl) T.z_len (by decide +kernel) (qa_cons (qe_var 0) qa_nil)) (qe_globI (by rfl) T.g_MOST_PATH) (nomark _))))) (qss_one (qs_ret qe_bl)) qss_nil)
      (qss_cons (qs_set (i := 2) (qe_split (qe_var 0) (qe_str (x := "/"))) sc_has_parts.nd rfl (Or.inl rfl))
      (qss_cons (qs_if (qt_cmp opm_gt (qe_callB cm_len (by rfl) T.z_len (by decide +kernel) (qa_cons (qe_var 2) qa_nil)) (qe_globI (by rfl) T.g_MOST_PARTS) (nomark _)) (qss_one (qs_ret qe_bl)) qss_nil)
      (qss_cons (qs_for (t := (.nm 3)) (by exact passes_of rfl) rfl (qi_any (qe_var 2)) (pg_name (i := 3) sc_has_parts.nd rfl (Or.inl rfl)) (qss_one (qs_if (qt_w (qw_or (qt_cmp (opm_eq hr.units) (qe_var 3) (qe_str (x := "")) (nomark _)) (qw_or1 (qt_not (qt_tru (qe_call c_made_of (hr.mono (by decide)) (by exact takes_of rfl rfl rfl rfl) (by rfl) (qa_cons (qe_var 3) (qa_cons (qe_var 1) qa_nil)))))))) (qss_one (qs_ret qe_bl)) qss_nil)))
      (qss_one (qs_ret qe_bl))))))
theorem sc_is_path : FnScope N_is_path ["value"] (defScope st_is_path) := ⟨rfl, rfl, rfl, by decide +kernel, rfl, by decide +kernel, by decide +kernel⟩
theorem ok_is_path (T : Tx K mg) (F : Fun K "is_path" "is_path" st_is_path fa fd) (c_has_parts : CalM P w K mg base 2 "has_parts" f_has_parts) : FnOk P w K mg base (L2.CX P w) 3 fa fd ["value"] (spM K mg f_is_path) :=
  okM (N := N_is_path) (m := b_is_path) F sc_is_path fun cdv A outer s H E hr =>
    (qss_one (qs_ret (qe_call c_has_parts (hr.mono (by decide)) (by exact takes_of rfl rfl rfl rfl) (by rfl) (qa_cons (qe_var 0) (qa_cons (qe_globS (by rfl) T.g_PATH_CHARS) qa_nil)))))
theorem sc_is_pattern : FnScope N_is_pattern ["value"] (defScope st_is_pattern) := ⟨rfl, rfl, rfl, by decide +kernel, rfl, by decide +kernel, by decide +kernel⟩
theorem ok_is_pattern (T : Tx K mg) (F : Fun K "is_pattern" "is_pattern" st_is_pattern fa fd) (c_has_parts : CalM P w K mg base 2 "has_parts" f_has_parts) : FnOk P w K mg base (L2.CX P w) 3 fa fd ["value"] (spM K mg f_is_pattern) :=
  okM (N := N_is_pattern) (m := b_is_pattern) F sc_is_pattern fun cdv A outer s H E hr =>
    (qss_one (qs_ret (qe_call c_has_parts (hr.mono (by decide)) (by exact takes_of rfl rfl rfl rfl) (by rfl) (qa_cons (qe_var 0) (qa_cons (qe_globS (by rfl) T.g_PATTERN_CHARS) qa_nil)))))
theorem sc_ends_behind : FnScope N_ends_behind ["ends", "char", "part"] (defScope st_ends_behind) := ⟨rfl, rfl, rfl, by decide +kernel, rfl, by decide +kernel, by decide +kernel⟩
theorem ok_ends_behind (T : Tx K mg) (F : Fun K "ends_behind" "ends_behind" st_ends_behind fa fd) : FnOk P w K mg base (L2.CX P w) 1 fa fd ["ends", "char", "part"] (spM K mg f_ends_behind) :=
  okM (N := N_ends_behind) (m := b_ends_behind) F sc_ends_behind fun cdv A outer s H E hr =>
    (qss_cons (qs_if (qt_cmp (opm_ne hr.units) (qe_var 1) (qe_str (x := "*")) (nomark _)) (qss_one (qs_ret (qe_lc (t := (.nm 3)) (own := [("end", 3)]) (by decide) rfl sc_ends_behind.nd (qi_any (qe_var 0)) (blkOk_by (own := [("end", 3)]) (N := N_ends_behind) (sc := defScope st_ends_behind) (by decide +kernel)) (fun _ _ _ _ _ => (pg_name (i := 3) sc_ends_behind.nd rfl (Or.inl rfl))) (fun _ _ _ _ _ => (qts_one (qt_cmp (opm_eq hr.units) (qe_sl (qe_var 2) (qo_some (qe_var 3)) (qo_some (qe_bin opm_add (qe_var 3) qe_int))) (qe_var 1) (nomark _)))) (fun _ _ _ _ _ => (qe_bin opm_add (qe_var 3) qe_int))))) qss_nil)
      (qss_cons (qs_if (qt_cmp (opm_eq hr.units) (qe_var 0) (qe_lst qa_nil) (nomark _)) (qss_one (qs_ret (qe_lst qa_nil))) qss_nil)
      (qss_one (qs_ret (qe_listRg rfl (by rfl) T.z_list (by rfl) T.z_range (qe_ix (qe_var 0) qe_int (fun _ _ => rfl)) (qe_bin opm_add (qe_callB cm_len (by rfl) T.z_len (by decide +kernel) (qa_cons (qe_var 2) qa_nil)) qe_int))))))
theorem sc_part_matches : FnScope N_part_matches ["wanted", "part"] (defScope st_part_matches) := ⟨rfl, rfl, rfl, by decide +kernel, rfl, by decide +kernel, by decide +kernel⟩
theorem ok_part_matches (T : Tx K mg) (F : Fun K "part_matches" "part_matches" st_part_matches fa fd) (c_ends_behind : CalM P w K mg base 1 "ends_behind" f_ends_behind) : FnOk P w K mg base (L2.CX P w) 2 fa fd ["wanted", "part"] (spM K mg f_part_matches) :=
  okM (N := N_part_matches) (m := b_part_matches) F sc_part_matches fun cdv A outer s H E hr =>
    (qss_cons (qs_set (i := 2) (qe_lst (qa_cons qe_int qa_nil)) sc_part_matches.nd rfl (Or.inl rfl))
      (qss_cons (qs_for (t := (.nm 3)) (by exact passes_of rfl) rfl (qi_any (qe_var 0)) (pg_name (i := 3) sc_part_matches.nd rfl (Or.inl rfl)) (qss_one (qs_set (i := 2) (qe_call c_ends_behind (hr.mono (by decide)) (by exact takes_of rfl rfl rfl rfl) (by rfl) (qa_cons (qe_var 2) (qa_cons (qe_var 3) (qa_cons (qe_var 1) qa_nil)))) sc_part_matches.nd rfl (Or.inl rfl))))
      (qss_one (qs_ret (qe_cmp opm_in (qe_callB cm_len (by rfl) T.z_len (by decide +kernel) (qa_cons (qe_var 1) qa_nil)) (qe_var 2) (by rfl))))))
theorem sc_matches : FnScope N_matches ["pattern", "path"] (defScope st_matches) := ⟨rfl, rfl, rfl, by decide +kernel, rfl, by decide +kernel, by decide +kernel⟩
theorem ok_matches (T : Tx K mg) (F : Fun K "matches" "matches" st_matches fa fd) (c_part_matches : CalM P w K mg base 2 "part_matches" f_part_matches) : FnOk P w K mg base (L2.CX P w) 3 fa fd ["pattern", "path"] (spM K mg f_matches) :=
  okM (N := N_matches) (m := b_matches) F sc_matches fun cdv A outer s H E hr =>
    (qss_cons (qs_set (i := 2) (qe_split (qe_var 0) (qe_str (x := "/"))) sc_matches.nd rfl (Or.inl rfl))
      (qss_cons (qs_set (i := 3) (qe_split (qe_var 1) (qe_str (x := "/"))) sc_matches.nd rfl (Or.inl rfl))
      (qss_cons (qs_if (qt_cmp (opm_ne hr.units) (qe_callB cm_len (by rfl) T.z_len (by decide +kernel) (qa_cons (qe_var 2) qa_nil)) (qe_callB cm_len (by rfl) T.z_len (by decide +kernel) (qa_cons (qe_var 3) qa_nil)) (nomark _)) (qss_one (qs_ret qe_bl)) qss_nil)
      (qss_cons (qs_for (t := (.nm 4)) (by exact passes_of rfl) rfl (qi_range1 (by rfl) T.z_range (qa_cons (qe_callB cm_len (by rfl) T.z_len (by decide +kernel) (qa_cons (qe_var 3) qa_nil)) qa_nil)) (pg_name (i := 4) sc_matches.nd rfl (Or.inl rfl)) (qss_one (qs_if (qt_not (qt_tru (qe_call c_part_matches (hr.mono (by decide)) (by exact takes_of rfl rfl rfl rfl) (by rfl) (qa_cons (qe_ix (qe_var 2) (qe_var 4) (fun _ _ => rfl)) (qa_cons (qe_ix (qe_var 3) (qe_var 4) (fun _ _ => rfl)) qa_nil))))) (qss_one (qs_ret qe_bl)) qss_nil)))
      (qss_one (qs_ret qe_bl))))))
theorem sc_is_integer : FnScope N_is_integer ["value", "least", "greatest"] (defScope st_is_integer) := ⟨rfl, rfl, rfl, by decide +kernel, rfl, by decide +kernel, by decide +kernel⟩
theorem ok_is_integer (T : Tx K mg) (F : Fun K "is_integer" "is_integer" st_is_integer fa fd) : FnOk P w K mg base (L2.CX P w) 1 fa fd ["value", "least", "greatest"] (spM K mg f_is_integer) :=
  okM (N := N_is_integer) (m := b_is_integer) F sc_is_integer fun cdv A outer s H E hr =>
    (qss_cons (qs_if (qt_w (qw_or (qt_not (qt_tru (qe_isi .int (by decide) (qe_var 0) (by rfl) T.z_isinstance (by rfl) T.z_int (by decide +kernel)))) (qw_or1 (qt_tru (qe_isi .bool (by decide) (qe_var 0) (by rfl) T.z_isinstance (by rfl) T.z_bool (by decide +kernel)))))) (qss_one (qs_ret qe_bl)) qss_nil)
      (qss_one (qs_ret (qe_chain opm_le opm_le (qe_var 1) (qe_var 0) (qe_var 2) (by with_unfolding_all rfl)))))
theorem sc_is_row : FnScope N_is_row ["value", "size"] (defScope st_is_row) := ⟨rfl, rfl, rfl, by decide +kernel, rfl, by decide +kernel, by decide +kernel⟩
theorem ok_is_row (T : Tx K mg) (F : Fun K "is_row" "is_row" st_is_row fa fd) : FnOk P w K mg base (L2.CX P w) 1 fa fd ["value", "size"] (spM K mg f_is_row) :=
  okM (N := N_is_row) (m := b_is_row) F sc_is_row fun cdv A outer s H E hr =>
    (qss_one (qs_ret (qe_and (qe_isi .tuple (by decide) (qe_var 0) (by rfl) T.z_isinstance (by rfl) T.z_tuple (by decide +kernel)) (qe_one (qe_cmp (opm_eq hr.units) (qe_callB cm_len (by rfl) T.z_len (by decide +kernel) (qa_cons (qe_var 0) qa_nil)) (qe_var 1) (nomark _))))))
theorem sc_is_table : FnScope N_is_table ["value", "most"] (defScope st_is_table) := ⟨rfl, rfl, rfl, by decide +kernel, rfl, by decide +kernel, by decide +kernel⟩
theorem ok_is_table (T : Tx K mg) (F : Fun K "is_table" "is_table" st_is_table fa fd) : FnOk P w K mg base (L2.CX P w) 1 fa fd ["value", "most"] (spM K mg f_is_table) :=
  okM (N := N_is_table) (m := b_is_table) F sc_is_table fun cdv A outer s H E hr =>
    (qss_one (qs_ret (qe_and (qe_isi .tuple (by decide) (qe_var 0) (by rfl) T.z_isinstance (by rfl) T.z_tuple (by decide +kernel)) (qe_one (qe_cmp opm_le (qe_callB cm_len (by rfl) T.z_len (by decide +kernel) (qa_cons (qe_var 0) qa_nil)) (qe_var 1) (nomark _))))))
theorem sc_is_version : FnScope N_is_version ["value"] (defScope st_is_version) := ⟨rfl, rfl, rfl, by decide +kernel, rfl, by decide +kernel, by decide +kernel⟩
theorem ok_is_version (T : Tx K mg) (F : Fun K "is_version" "is_version" st_is_version fa fd) (c_is_integer : CalM P w K mg base 1 "is_integer" f_is_integer) : FnOk P w K mg base (L2.CX P w) 2 fa fd ["value"] (spM K mg f_is_version) :=
  okM (N := N_is_version) (m := b_is_version) F sc_is_version fun cdv A outer s H E hr =>
    (qss_one (qs_ret (qe_call c_is_integer (hr.mono (by decide)) (by exact takes_of rfl rfl rfl rfl) (by rfl) (qa_cons (qe_var 0) (qa_cons qe_int (qa_cons (qe_globI (by rfl) T.g_MOST_NUMBER) qa_nil))))))
theorem sc_is_amount : FnScope N_is_amount ["value"] (defScope st_is_amount) := ⟨rfl, rfl, rfl, by decide +kernel, rfl, by decide +kernel, by decide +kernel⟩
theorem ok_is_amount (T : Tx K mg) (F : Fun K "is_amount" "is_amount" st_is_amount fa fd) (c_is_integer : CalM P w K mg base 1 "is_integer" f_is_integer) : FnOk P w K mg base (L2.CX P w) 2 fa fd ["value"] (spM K mg f_is_amount) :=
  okM (N := N_is_amount) (m := b_is_amount) F sc_is_amount fun cdv A outer s H E hr =>
    (qss_one (qs_ret (qe_call c_is_integer (hr.mono (by decide)) (by exact takes_of rfl rfl rfl rfl) (by rfl) (qa_cons (qe_var 0) (qa_cons qe_int (qa_cons (qe_globI (by rfl) T.g_MOST_NUMBER) qa_nil))))))
theorem sc_is_digest : FnScope N_is_digest ["value"] (defScope st_is_digest) := ⟨rfl, rfl, rfl, by decide +kernel, rfl, by decide +kernel, by decide +kernel⟩
theorem ok_is_digest (T : Tx K mg) (F : Fun K "is_digest" "is_digest" st_is_digest fa fd) : FnOk P w K mg base (L2.CX P w) 1 fa fd ["value"] (spM K mg f_is_digest) :=
  okM (N := N_is_digest) (m := b_is_digest) F sc_is_digest fun cdv A outer s H E hr =>
    (qss_cons (qs_if (qt_w (qw_or (qt_not (qt_tru (qe_isi .str (by decide) (qe_var 0) (by rfl) T.z_isinstance (by rfl) T.z_str (by decide +kernel)))) (qw_or1 (qt_cmp (opm_ne hr.units) (qe_callB cm_len (by rfl) T.z_len (by decide +kernel) (qa_cons (qe_var 0) qa_nil)) (qe_globI (by rfl) T.g_DIGEST_SIZE) (nomark _))))) (qss_one (qs_ret qe_bl)) qss_nil)
      (qss_cons (qs_for (t := (.nm 1)) (by exact passes_of rfl) rfl (qi_any (qe_var 0)) (pg_name (i := 1) sc_is_digest.nd rfl (Or.inl rfl)) (qss_one (qs_if (qt_cmp opm_notIn (qe_var 1) (qe_globS (by rfl) T.g_HEX_DIGITS) (by rfl)) (qss_one (qs_ret qe_bl)) qss_nil)))
      (qss_one (qs_ret qe_bl))))
theorem sc_is_ascending : FnScope N_is_ascending ["texts"] (defScope st_is_ascending) := ⟨rfl, rfl, rfl, by decide +kernel, rfl, by decide +kernel, by decide +kernel⟩
theorem ok_is_ascending (T : Tx K mg) (F : Fun K "is_ascending" "is_ascending" st_is_ascending fa fd) : FnOk P w K mg base (L2.CX P w) 1 fa fd ["texts"] (spM K mg f_is_ascending) :=
  okM (N := N_is_ascending) (m := b_is_ascending) F sc_is_ascending fun cdv A outer s H E hr =>
    (qss_cons (qs_for (t := (.nm 1)) (by exact passes_of rfl) rfl (qi_range2 (by rfl) T.z_range (qa_cons qe_int (qa_cons (qe_callB cm_len (by rfl) T.z_len (by decide +kernel) (qa_cons (qe_var 0) qa_nil)) qa_nil))) (pg_name (i := 1) sc_is_ascending.nd rfl (Or.inl rfl)) (qss_one (qs_if (qt_cmp opm_ge (qe_ix (qe_var 0) (qe_bin opm_sub (qe_var 1) qe_int) (fun _ _ => rfl)) (qe_ix (qe_var 0) (qe_var 1) (fun _ _ => rfl)) (nomark _)) (qss_one (qs_ret qe_bl)) qss_nil)))
      (qss_one (qs_ret qe_bl)))
theorem sc_is_role : FnScope N_is_role ["value"] (defScope st_is_role) := ⟨rfl, rfl, rfl, by decide +kernel, rfl, by decide +kernel, by decide +kernel⟩
theorem ok_is_role (T : Tx K mg) (F : Fun K "is_role" "is_role" st_is_role fa fd) (c_is_ascending : CalM P w K mg base 1 "is_ascending" f_is_ascending) (c_is_integer : CalM P w K mg base 1 "is_integer" f_is_integer) (c_is_key : CalM P w K mg base 2 "is_key" f_is_key) (c_is_row : CalM P w K mg base 1 "is_row" f_is_row) (c_is_table : CalM P w K mg base 1 "is_table" f_is_table) : FnOk P w K mg base (L2.CX P w) 3 fa fd ["value"] (spM K mg f_is_role) :=
  okM (N := N_is_role) (m := b_is_role) F sc_is_role fun cdv A outer s H E hr =>
    (qss_cons (qs_if (qt_w (qw_or (qt_not (qt_tru (qe_call c_is_row (hr.mono (by decide)) (by exact takes_of rfl rfl rfl rfl) (by rfl) (qa_cons (qe_var 0) (qa_cons qe_int qa_nil))))) (qw_or1 (qt_not (qt_tru (qe_call c_is_table (hr.mono (by decide)) (by exact takes_of rfl rfl rfl rfl) (by rfl) (qa_cons (qe_ix (qe_var 0) qe_int (fun _ _ => rfl)) (qa_cons (qe_globI (by rfl) T.g_MOST_KEYS) qa_nil)))))))) (qss_one (qs_ret qe_bl)) qss_nil)
      (qss_cons (qs_for (t := (.nm 1)) (by exact passes_of rfl) rfl (qi_any (qe_ix (qe_var 0) qe_int (fun _ _ => rfl))) (pg_name (i := 1) sc_is_role.nd rfl (Or.inl rfl)) (qss_one (qs_if (qt_not (qt_tru (qe_call c_is_key (hr.mono (by decide)) (by exact takes_of rfl rfl rfl rfl) (by rfl) (qa_cons (qe_var 1) qa_nil)))) (qss_one (qs_ret qe_bl)) qss_nil)))
      (qss_one (qs_ret (qe_and (qe_call c_is_ascending (hr.mono (by decide)) (by exact takes_of rfl rfl rfl rfl) (by rfl) (qa_cons (qe_ix (qe_var 0) qe_int (fun _ _ => rfl)) qa_nil)) (qe_one (qe_call c_is_integer (hr.mono (by decide)) (by exact takes_of rfl rfl rfl rfl) (by rfl) (qa_cons (qe_ix (qe_var 0) qe_int (fun _ _ => rfl)) (qa_cons qe_int (qa_cons (qe_callB cm_len (by rfl) T.z_len (by decide +kernel) (qa_cons (qe_ix (qe_var 0) qe_int (fun _ _ => rfl)) qa_nil)) qa_nil))))))))))
theorem sc_is_grant : FnScope N_is_grant ["value"] (defScope st_is_grant) := ⟨rfl, rfl, rfl, by decide +kernel, rfl, by decide +kernel, by decide +kernel⟩
theorem ok_is_grant (T : Tx K mg) (F : Fun K "is_grant" "is_grant" st_is_grant fa fd) (c_is_integer : CalM P w K mg base 1 "is_integer" f_is_integer) (c_is_list_name : CalM P w K mg base 2 "is_list_name" f_is_list_name) (c_is_pattern : CalM P w K mg base 3 "is_pattern" f_is_pattern) (c_is_role : CalM P w K mg base 3 "is_role" f_is_role) (c_is_row : CalM P w K mg base 1 "is_row" f_is_row) (c_is_table : CalM P w K mg base 1 "is_table" f_is_table) : FnOk P w K mg base (L2.CX P w) 4 fa fd ["value"] (spM K mg f_is_grant) :=
  okM (N := N_is_grant) (m := b_is_grant) F sc_is_grant fun cdv A outer s H E hr =>
    (qss_cons (qs_if (qt_w (qw_or (qt_not (qt_tru (qe_call c_is_row (hr.mono (by decide)) (by exact takes_of rfl rfl rfl rfl) (by rfl) (qa_cons (qe_var 0) (qa_cons qe_int qa_nil))))) (qw_or (qt_not (qt_tru (qe_call c_is_list_name (hr.mono (by decide)) (by exact takes_of rfl rfl rfl rfl) (by rfl) (qa_cons (qe_ix (qe_var 0) qe_int (fun _ _ => rfl)) qa_nil)))) (qw_or1 (qt_cmp (opm_eq hr.units) (qe_ix (qe_var 0) qe_int (fun _ _ => rfl)) (qe_str (x := "list")) (nomark _)))))) (qss_one (qs_ret qe_bl)) qss_nil)
      (qss_cons (qs_if (qt_w (qw_or (qt_not (qt_tru (qe_call c_is_role (hr.mono (by decide)) (by exact takes_of rfl rfl rfl rfl) (by rfl) (qa_cons (qe_ix (qe_var 0) qe_int (fun _ _ => rfl)) qa_nil)))) (qw_or (qt_not (qt_tru (qe_call c_is_table (hr.mono (by decide)) (by exact takes_of rfl rfl rfl rfl) (by rfl) (qa_cons (qe_ix (qe_var 0) qe_int (fun _ _ => rfl)) (qa_cons (qe_globI (by rfl) T.g_MOST_PATTERNS) qa_nil))))) (qw_or1 (qt_cmp (opm_eq hr.units) (qe_ix (qe_var 0) qe_int (fun _ _ => rfl)) (qe_tup qa_nil) (nomark _)))))) (qss_one (qs_ret qe_bl)) qss_nil)
      (qss_cons (qs_for (t := (.nm 1)) (by exact passes_of rfl) rfl (qi_any (qe_ix (qe_var 0) qe_int (fun _ _ => rfl))) (pg_name (i := 1) sc_is_grant.nd rfl (Or.inl rfl)) (qss_one (qs_if (qt_not (qt_tru (qe_call c_is_pattern (hr.mono (by decide)) (by exact takes_of rfl rfl rfl rfl) (by rfl) (qa_cons (qe_var 1) qa_nil)))) (qss_one (qs_ret qe_bl)) qss_nil)))
      (qss_one (qs_ret (qe_call c_is_integer (hr.mono (by decide)) (by exact takes_of rfl rfl rfl rfl) (by rfl) (qa_cons (qe_ix (qe_var 0) qe_int (fun _ _ => rfl)) (qa_cons qe_int (qa_cons qe_int qa_nil)))))))))
theorem sc_has_head : FnScope N_has_head ["value", "kind", "at"] (defScope st_has_head) := ⟨rfl, rfl, rfl, by decide +kernel, rfl, by decide +kernel, by decide +kernel⟩
theorem ok_has_head (T : Tx K mg) (F : Fun K "has_head" "has_head" st_has_head fa fd) (c_is_amount : CalM P w K mg base 2 "is_amount" f_is_amount) (c_is_version : CalM P w K mg base 2 "is_version" f_is_version) : FnOk P w K mg base (L2.CX P w) 3 fa fd ["value", "kind", "at"] (spM K mg f_has_head) :=
  okM (N := N_has_head) (m := b_has_head) F sc_has_head fun cdv A outer s H E hr =>
    (qss_one (qs_ret (qe_and (qe_cmp (opm_eq hr.units) (qe_ix (qe_var 0) qe_int (fun _ _ => rfl)) (qe_var 1) (nomark _)) (qe_and (qe_call c_is_version (hr.mono (by decide)) (by exact takes_of rfl rfl rfl rfl) (by rfl) (qa_cons (qe_ix (qe_var 0) (qe_var 2) (fun _ _ => rfl)) qa_nil)) (qe_one (qe_call c_is_amount (hr.mono (by decide)) (by exact takes_of rfl rfl rfl rfl) (by rfl) (qa_cons (qe_ix (qe_var 0) (qe_bin opm_add (qe_var 2) qe_int) (fun _ _ => rfl)) qa_nil)))))))
theorem sc_are_goods : FnScope N_are_goods ["value"] (defScope st_are_goods) := ⟨rfl, rfl, rfl, by decide +kernel, rfl, by decide +kernel, by decide +kernel⟩
theorem ok_are_goods (T : Tx K mg) (F : Fun K "are_goods" "are_goods" st_are_goods fa fd) (c_is_amount : CalM P w K mg base 2 "is_amount" f_is_amount) (c_is_ascending : CalM P w K mg base 1 "is_ascending" f_is_ascending) (c_is_digest : CalM P w K mg base 1 "is_digest" f_is_digest) (c_is_path : CalM P w K mg base 3 "is_path" f_is_path) (c_is_row : CalM P w K mg base 1 "is_row" f_is_row) (c_is_table : CalM P w K mg base 1 "is_table" f_is_table) : FnOk P w K mg base (L2.CX P w) 4 fa fd ["value"] (spM K mg f_are_goods) :=
  okM (N := N_are_goods) (m := b_are_goods) F sc_are_goods fun cdv A outer s H E hr =>
    (qss_cons (qs_if (qt_not (qt_tru (qe_call c_is_table (hr.mono (by decide)) (by exact takes_of rfl rfl rfl rfl) (by rfl) (qa_cons (qe_var 0) (qa_cons (qe_globI (by rfl) T.g_MOST_GOODS) qa_nil))))) (qss_one (qs_ret qe_bl)) qss_nil)
      (qss_cons (qs_for (t := (.nm 1)) (by exact passes_of rfl) rfl (qi_any (qe_var 0)) (pg_name (i := 1) sc_are_goods.nd rfl (Or.inl rfl)) (qss_one (qs_if (qt_w (qw_or (qt_not (qt_tru (qe_call c_is_row (hr.mono (by decide)) (by exact takes_of rfl rfl rfl rfl) (by rfl) (qa_cons (qe_var 1) (qa_cons qe_int qa_nil))))) (qw_or (qt_not (qt_tru (qe_call c_is_path (hr.mono (by decide)) (by exact takes_of rfl rfl rfl rfl) (by rfl) (qa_cons (qe_ix (qe_var 1) qe_int (fun _ _ => rfl)) qa_nil)))) (qw_or (qt_not (qt_tru (qe_call c_is_amount (hr.mono (by decide)) (by exact takes_of rfl rfl rfl rfl) (by rfl) (qa_cons (qe_ix (qe_var 1) qe_int (fun _ _ => rfl)) qa_nil)))) (qw_or1 (qt_not (qt_tru (qe_call c_is_digest (hr.mono (by decide)) (by exact takes_of rfl rfl rfl rfl) (by rfl) (qa_cons (qe_ix (qe_var 1) qe_int (fun _ _ => rfl)) qa_nil))))))))) (qss_one (qs_ret qe_bl)) qss_nil)))
      (qss_one (qs_ret (qe_call c_is_ascending (hr.mono (by decide)) (by exact takes_of rfl rfl rfl rfl) (by rfl) (qa_cons (qe_lc (t := (.nm 1)) (own := [("row", 1)]) (by decide) rfl sc_are_goods.nd (qi_any (qe_var 0)) (blkOk_by (own := [("row", 1)]) (N := N_are_goods) (sc := defScope st_are_goods) (by decide +kernel)) (fun _ _ _ _ _ => (pg_name (i := 1) sc_are_goods.nd rfl (Or.inl rfl))) (fun _ _ _ _ _ => qts_nil) (fun _ _ _ _ _ => (qe_ix (qe_var 1) qe_int (fun _ _ => rfl)))) qa_nil))))))
theorem sc_are_grants : FnScope N_are_grants ["value", "name"] (defScope st_are_grants) := ⟨rfl, rfl, rfl, by decide +kernel, rfl, by decide +kernel, by decide +kernel⟩
theorem ok_are_grants (T : Tx K mg) (F : Fun K "are_grants" "are_grants" st_are_grants fa fd) (c_is_grant : CalM P w K mg base 4 "is_grant" f_is_grant) (c_is_table : CalM P w K mg base 1 "is_table" f_is_table) : FnOk P w K mg base (L2.CX P w) 5 fa fd ["value", "name"] (spM K mg f_are_grants) :=
  okM (N := N_are_grants) (m := b_are_grants) F sc_are_grants fun cdv A outer s H E hr =>
    (qss_cons (qs_if (qt_not (qt_tru (qe_call c_is_table (hr.mono (by decide)) (by exact takes_of rfl rfl rfl rfl) (by rfl) (qa_cons (qe_var 0) (qa_cons (qe_globI (by rfl) T.g_MOST_LISTS) qa_nil))))) (qss_one (qs_ret qe_bl)) qss_nil)
      (qss_cons (qs_set (i := 2) (qe_lst (qa_cons (qe_var 1) qa_nil)) sc_are_grants.nd rfl (Or.inl rfl))
      (qss_cons (qs_for (t := (.nm 3)) (by exact passes_of rfl) rfl (qi_any (qe_var 0)) (pg_name (i := 3) sc_are_grants.nd rfl (Or.inl rfl)) (qss_cons (qs_if (qt_w (qw_or (qt_not (qt_tru (qe_call c_is_grant (hr.mono (by decide)) (by exact takes_of rfl rfl rfl rfl) (by rfl) (qa_cons (qe_var 3) qa_nil)))) (qw_or1 (qt_cmp opm_in (qe_ix (qe_var 3) qe_int (fun _ _ => rfl)) (qe_var 2) (by rfl))))) (qss_one (qs_ret qe_bl)) qss_nil)
      (qss_one (qs_expr (qe_append (qe_var 2) (qe_ix (qe_var 3) qe_int (fun _ _ => rfl)))))))
      (qss_one (qs_ret qe_bl)))))
theorem sc_is_list : FnScope N_is_list ["value"] (defScope st_is_list) := ⟨rfl, rfl, rfl, by decide +kernel, rfl, by decide +kernel, by decide +kernel⟩
theorem ok_is_list (T : Tx K mg) (F : Fun K "is_list" "is_list" st_is_list fa fd) (c_are_goods : CalM P w K mg base 4 "are_goods" f_are_goods) (c_are_grants : CalM P w K mg base 5 "are_grants" f_are_grants) (c_has_head : CalM P w K mg base 3 "has_head" f_has_head) (c_is_list_name : CalM P w K mg base 2 "is_list_name" f_is_list_name) (c_is_row : CalM P w K mg base 1 "is_row" f_is_row) : FnOk P w K mg base (L2.CX P w) 6 fa fd ["value"] (spM K mg f_is_list) :=
  okM (N := N_is_list) (m := b_is_list) F sc_is_list fun cdv A outer s H E hr =>
    (qss_cons (qs_if (qt_w (qw_or (qt_not (qt_tru (qe_call c_is_row (hr.mono (by decide)) (by exact takes_of rfl rfl rfl rfl) (by rfl) (qa_cons (qe_var 0) (qa_cons qe_int qa_nil))))) (qw_or (qt_not (qt_tru (qe_call c_has_head (hr.mono (by decide)) (by exact takes_of rfl rfl rfl rfl) (by rfl) (qa_cons (qe_var 0) (qa_cons (qe_str (x := "list")) (qa_cons qe_int qa_nil)))))) (qw_or1 (qt_not (qt_tru (qe_call c_is_list_name (hr.mono (by decide)) (by exact takes_of rfl rfl rfl rfl) (by rfl) (qa_cons (qe_ix (qe_var 0) qe_int (fun _ _ => rfl)) qa_nil)))))))) (qss_one (qs_ret qe_bl)) qss_nil)
      (qss_one (qs_ret (qe_and (qe_call c_are_goods (hr.mono (by decide)) (by exact takes_of rfl rfl rfl rfl) (by rfl) (qa_cons (qe_ix (qe_var 0) qe_int (fun _ _ => rfl)) qa_nil)) (qe_one (qe_call c_are_grants (hr.mono (by decide)) (by exact takes_of rfl rfl rfl rfl) (by rfl) (qa_cons (qe_ix (qe_var 0) qe_int (fun _ _ => rfl)) (qa_cons (qe_ix (qe_var 0) qe_int (fun _ _ => rfl)) qa_nil))))))))
theorem sc_covers : FnScope N_covers ["grant", "path"] (defScope st_covers) := ⟨rfl, rfl, rfl, by decide +kernel, rfl, by decide +kernel, by decide +kernel⟩
theorem ok_covers (T : Tx K mg) (F : Fun K "covers" "covers" st_covers fa fd) (c_matches : CalM P w K mg base 3 "matches" f_matches) : FnOk P w K mg base (L2.CX P w) 4 fa fd ["grant", "path"] (spM K mg f_covers) :=
  okM (N := N_covers) (m := b_covers) F sc_covers fun cdv A outer s H E hr =>
    (qss_cons (qs_for (t := (.nm 2)) (by exact passes_of rfl) rfl (qi_any (qe_ix (qe_var 0) qe_int (fun _ _ => rfl))) (pg_name (i := 2) sc_covers.nd rfl (Or.inl rfl)) (qss_one (qs_if (qt_tru (qe_call c_matches (hr.mono (by decide)) (by exact takes_of rfl rfl rfl rfl) (by rfl) (qa_cons (qe_var 2) (qa_cons (qe_var 1) qa_nil)))) (qss_one (qs_ret qe_bl)) qss_nil)))
      (qss_one (qs_ret qe_bl)))
theorem sc_good_of : FnScope N_good_of ["document", "path"] (defScope st_good_of) := ⟨rfl, rfl, rfl, by decide +kernel, rfl, by decide +kernel, by decide +kernel⟩
theorem ok_good_of (T : Tx K mg) (F : Fun K "good_of" "good_of" st_good_of fa fd) : FnOk P w K mg base (L2.CX P w) 1 fa fd ["document", "path"] (spM K mg f_good_of) :=
  okM (N := N_good_of) (m := b_good_of) F sc_good_of fun cdv A outer s H E hr =>
    (qss_cons (qs_for (t := (.nm 2)) (by exact passes_of rfl) rfl (qi_any (qe_ix (qe_var 0) qe_int (fun _ _ => rfl))) (pg_name (i := 2) sc_good_of.nd rfl (Or.inl rfl)) (qss_one (qs_if (qt_cmp (opm_eq hr.units) (qe_ix (qe_var 2) qe_int (fun _ _ => rfl)) (qe_var 1) (nomark _)) (qss_one (qs_ret (qe_tup (qa_cons (qe_ix (qe_var 2) qe_int (fun _ _ => rfl)) (qa_cons (qe_ix (qe_var 2) qe_int (fun _ _ => rfl)) qa_nil))))) qss_nil)))
      (qss_one (qs_ret qe_non)))
theorem sc_entry_of : FnScope N_entry_of ["document", "name"] (defScope st_entry_of) := ⟨rfl, rfl, rfl, by decide +kernel, rfl, by decide +kernel, by decide +kernel⟩
theorem ok_entry_of (T : Tx K mg) (F : Fun K "entry_of" "entry_of" st_entry_of fa fd) : FnOk P w K mg base (L2.CX P w) 1 fa fd ["document", "name"] (spM K mg f_entry_of) :=
  okM (N := N_entry_of) (m := b_entry_of) F sc_entry_of fun cdv A outer s H E hr =>
    (qss_cons (qs_for (t := (.nm 2)) (by exact passes_of rfl) rfl (qi_any (qe_ix (qe_var 0) qe_int (fun _ _ => rfl))) (pg_name (i := 2) sc_entry_of.nd rfl (Or.inl rfl)) (qss_one (qs_if (qt_cmp (opm_eq hr.units) (qe_ix (qe_var 2) qe_int (fun _ _ => rfl)) (qe_var 1) (nomark _)) (qss_one (qs_ret (qe_tup (qa_cons (qe_ix (qe_var 2) qe_int (fun _ _ => rfl)) (qa_cons (qe_ix (qe_var 2) qe_int (fun _ _ => rfl)) (qa_cons (qe_ix (qe_var 2) qe_int (fun _ _ => rfl)) qa_nil)))))) qss_nil)))
      (qss_one (qs_ret qe_non)))
theorem sc_role_of : FnScope N_role_of ["charter", "name"] (defScope st_role_of) := ⟨rfl, rfl, rfl, by decide +kernel, rfl, by decide +kernel, by decide +kernel⟩
theorem ok_role_of (T : Tx K mg) (F : Fun K "role_of" "role_of" st_role_of fa fd) : FnOk P w K mg base (L2.CX P w) 1 fa fd ["charter", "name"] (spM K mg f_role_of) :=
  okM (N := N_role_of) (m := b_role_of) F sc_role_of fun cdv A outer s H E hr =>
    (qss_one (qs_ret (qe_ix (qe_ix (qe_var 0) qe_int (fun _ _ => rfl)) (qe_gindex (by rfl) T.g_NAMES (qe_var 1)) (fun _ _ => rfl))))
theorem sc_Search___init__ : FnScope N_Search___init__ ["self", "charter", "shelf", "path"] (defScope st_Search___init__) := ⟨rfl, rfl, rfl, by decide +kernel, rfl, by decide +kernel, by decide +kernel⟩
theorem ok_Search___init__ (T : Tx K mg) (F : Fun K "__init__" "Search.__init__" st_Search___init__ fa fd) (c_role_of : CalM P w K mg base 1 "role_of" f_role_of) : FnOk P w K mg base (L2.CX P w) 2 fa fd ["self", "charter", "shelf", "path"] (spM K mg f_Search___init__) :=
  okM (N := N_Search___init__) (m := b_Search___init__) F sc_Search___init__ fun cdv A outer s H E hr =>
    (qss_cons (qs_fld T.f_Search_shelf (qe_var 0) (qe_var 2))
      (qss_cons (qs_fld T.f_Search_path (qe_var 0) (qe_var 3))
      (qss_cons (qs_fld T.f_Search_waiting (qe_var 0) (qe_lst (qa_cons (qe_tup (qa_cons (qe_str (x := "list")) (qa_cons (qe_call c_role_of (hr.mono (by decide)) (by exact takes_of rfl rfl rfl rfl) (by rfl) (qa_cons (qe_var 1) (qa_cons (qe_str (x := "list")) qa_nil))) qa_nil))) qa_nil)))
      (qss_cons (qs_fld T.f_Search_visited (qe_var 0) (qe_lst qa_nil))
      (qss_one (qs_fld T.f_Search_outcome (qe_var 0) qe_non))))))
theorem sc_Search_wanted : FnScope N_Search_wanted ["self"] (defScope st_Search_wanted) := ⟨rfl, rfl, rfl, by decide +kernel, rfl, by decide +kernel, by decide +kernel⟩
theorem ok_Search_wanted (T : Tx K mg) (F : Fun K "wanted" "Search.wanted" st_Search_wanted fa fd) : FnOk P w K mg base (L2.CX P w) 1 fa fd ["self"] (spM K mg f_Search_wanted) :=
  okM (N := N_Search_wanted) (m := b_Search_wanted) F sc_Search_wanted fun cdv A outer s H E hr =>
    (qss_cons (qs_if (qt_w (qw_or (qt_cmp opm_isNot (qe_fld T.f_Search_outcome (qe_var 0)) qe_non (nomark _)) (qw_or1 (qt_cmp opm_ge (qe_callB cm_len (by rfl) T.z_len (by decide +kernel) (qa_cons (qe_fld T.f_Search_visited (qe_var 0)) qa_nil)) (qe_globI (by rfl) T.g_MOST_LISTS) (nomark _))))) (qss_one (qs_ret qe_non)) qss_nil)
      (qss_cons (qs_for (t := (.tp [1, 2])) (by exact passes_of rfl) rfl (qi_any (qe_fld T.f_Search_waiting (qe_var 0))) (pg_tup rfl (pgs_cons (pg_name (i := 1) sc_Search_wanted.nd rfl (Or.inl rfl)) (pgs_cons (pg_name (i := 2) sc_Search_wanted.nd rfl (Or.inl rfl)) pgs_nil))) (qss_one (qs_if (qt_cmp opm_notIn (qe_var 1) (qe_fld T.f_Search_visited (qe_var 0)) (by rfl)) (qss_one (qs_ret (qe_tup (qa_cons (qe_var 1) (qa_cons (qe_var 2) qa_nil))))) qss_nil)))
      (qss_one (qs_ret qe_non))))
theorem sc_Search_give : FnScope N_Search_give ["self", "document"] (defScope st_Search_give) := ⟨rfl, rfl, rfl, by decide +kernel, rfl, by decide +kernel, by decide +kernel⟩
theorem ok_Search_give (T : Tx K mg) (F : Fun K "give" "Search.give" st_Search_give fa fd) (c_Search_wanted : MeM (L2.CX P w) P w K mg base 1 "Search" "wanted" f_Search_wanted) (c_covers : CalM P w K mg base 4 "covers" f_covers) (c_entry_of : CalM P w K mg base 1 "entry_of" f_entry_of) (c_good_of : CalM P w K mg base 1 "good_of" f_good_of) (c_is_list : CalM P w K mg base 6 "is_list" f_is_list) : FnOk P w K mg base (L2.CX P w) 7 fa fd ["self", "document"] (spM K mg f_Search_give) :=
  okM (N := N_Search_give) (m := b_Search_give) F sc_Search_give fun cdv A outer s H E hr =>
    (qss_cons (qs_set (i := 2) (qe_meth0 c_Search_wanted (hr.mono (by decide)) (fun σ => passAt (by exact takes_of rfl rfl rfl rfl) σ) (qe_var 0)) sc_Search_give.nd rfl (Or.inl rfl))
      (qss_cons (qs_if (qt_w (qw_or (qt_cmp opm_is (qe_var 2) qe_non (nomark _)) (qw_or (qt_not (qt_tru (qe_call c_is_list (hr.mono (by decide)) (by exact takes_of rfl rfl rfl rfl) (by rfl) (qa_cons (qe_var 1) qa_nil)))) (qw_or1 (qt_cmp (opm_ne hr.units) (qe_ix (qe_var 1) qe_int (fun _ _ => rfl)) (qe_ix (qe_var 2) qe_int (fun _ _ => rfl)) (nomark _)))))) (qss_one (qs_raise0 rfl (by exact takes_of rfl rfl rfl rfl) T.x_BadState.choose_spec (by rfl))) qss_nil)
      (qss_cons (qs_expr (qe_append (qe_fld T.f_Search_visited (qe_var 0)) (qe_ix (qe_var 2) qe_int (fun _ _ => rfl))))
      (qss_cons (qs_set (i := 3) (qe_call c_good_of (hr.mono (by decide)) (by exact takes_of rfl rfl rfl rfl) (by rfl) (qa_cons (qe_var 1) (qa_cons (qe_fld T.f_Search_path (qe_var 0)) qa_nil))) sc_Search_give.nd rfl (Or.inl rfl))
      (qss_cons (qs_if (qt_cmp opm_isNot (qe_var 3) qe_non (nomark _)) (qss_cons (qs_fld T.f_Search_outcome (qe_var 0) (qe_tup (qa_cons (qe_str (x := "found")) (qa_cons (qe_ix (qe_var 2) qe_int (fun _ _ => rfl)) (qa_cons (qe_ix (qe_var 3) qe_int (fun _ _ => rfl)) (qa_cons (qe_ix (qe_var 3) qe_int (fun _ _ => rfl)) qa_nil))))))
      (qss_one qs_retN)) qss_nil)
      (qss_cons (qs_set (i := 4) (qe_lst qa_nil) sc_Search_give.nd rfl (Or.inl rfl))
      (qss_cons (qs_for (t := (.tp [5, 6, 7, 8])) (by exact passes_of rfl) rfl (qi_any (qe_ix (qe_var 1) qe_int (fun _ _ => rfl))) (pg_tup rfl (pgs_cons (pg_name (i := 5) sc_Search_give.nd rfl (Or.inl rfl)) (pgs_cons (pg_name (i := 6) sc_Search_give.nd rfl (Or.inl rfl)) (pgs_cons (pg_name (i := 7) sc_Search_give.nd rfl (Or.inl rfl)) (pgs_cons (pg_name (i := 8) sc_Search_give.nd rfl (Or.inl rfl)) pgs_nil))))) (qss_cons (qs_if (qt_not (qt_tru (qe_call c_covers (hr.mono (by decide)) (by exact takes_of rfl rfl rfl rfl) (by rfl) (qa_cons (qe_tup (qa_cons (qe_var 5) (qa_cons (qe_var 6) (qa_cons (qe_var 7) (qa_cons (qe_var 8) qa_nil))))) (qa_cons (qe_fld T.f_Search_path (qe_var 0)) qa_nil))))) (qss_one qs_cnt) qss_nil)
      (qss_cons (qs_if (qt_w (qw_or (qt_cmp opm_in (qe_var 5) (qe_fld T.f_Search_visited (qe_var 0)) (by rfl)) (qw_or1 (qt_cmp opm_is (qe_call c_entry_of (hr.mono (by decide)) (by exact takes_of rfl rfl rfl rfl) (by rfl) (qa_cons (qe_fld T.f_Search_shelf (qe_var 0)) (qa_cons (qe_var 5) qa_nil))) qe_non (nomark _))))) (qss_one qs_cnt) qss_nil)
      (qss_cons (qs_expr (qe_append (qe_var 4) (qe_tup (qa_cons (qe_var 5) (qa_cons (qe_var 6) qa_nil)))))
      (qss_one (qs_if (qt_cmp (opm_eq hr.units) (qe_var 8) qe_int (nomark _)) (qss_cons (qs_fld T.f_Search_waiting (qe_var 0) (qe_lst qa_nil))
      (qss_one qs_brk)) qss_nil))))))
      (qss_one (qs_fld T.f_Search_waiting (qe_var 0) (qe_bin opm_add (qe_var 4) (qe_lc (t := (.nm 9)) (own := [("row", 9)]) (by decide) rfl sc_Search_give.nd (qi_any (qe_fld T.f_Search_waiting (qe_var 0))) (blkOk_by (own := [("row", 9)]) (N := N_Search_give) (sc := defScope st_Search_give) (by decide +kernel)) (fun _ _ _ _ _ => (pg_name (i := 9) sc_Search_give.nd rfl (Or.inl rfl))) (fun _ _ _ _ _ => (qts_one (qt_cmp opm_notIn (qe_ix (qe_var 9) qe_int (fun _ _ => rfl)) (qe_fld T.f_Search_visited (qe_var 0)) (by rfl)))) (fun _ _ _ _ _ => (qe_var 9)))))))))))))
theorem sc_Search_result : FnScope N_Search_result ["self"] (defScope st_Search_result) := ⟨rfl, rfl, rfl, by decide +kernel, rfl, by decide +kernel, by decide +kernel⟩
theorem ok_Search_result (T : Tx K mg) (F : Fun K "result" "Search.result" st_Search_result fa fd) (c_Search_wanted : MeM (L2.CX P w) P w K mg base 1 "Search" "wanted" f_Search_wanted) : FnOk P w K mg base (L2.CX P w) 2 fa fd ["self"] (spM K mg f_Search_result) :=
  okM (N := N_Search_result) (m := b_Search_result) F sc_Search_result fun cdv A outer s H E hr =>
    (qss_cons (qs_if (qt_w (qw_and (qt_cmp opm_is (qe_fld T.f_Search_outcome (qe_var 0)) qe_non (nomark _)) (qw_and1 (qt_cmp opm_is (qe_meth0 c_Search_wanted (hr.mono (by decide)) (fun σ => passAt (by exact takes_of rfl rfl rfl rfl) σ) (qe_var 0)) qe_non (nomark _))))) (qss_one (qs_ret (qe_tup (qa_cons (qe_str (x := "none")) qa_nil)))) qss_nil)
      (qss_one (qs_ret (qe_fld T.f_Search_outcome (qe_var 0)))))
theorem sc_lookup : FnScope N_lookup ["charter", "shelf", "lists", "path"] (defScope st_lookup) := ⟨rfl, rfl, rfl, by decide +kernel, rfl, by decide +kernel, by decide +kernel⟩
theorem ok_lookup (T : Tx K mg) (F : Fun K "lookup" "lookup" st_lookup fa fd) (c_Search___init__ : MkM (L2.CX P w) P w K mg base 2 "Search" f_Search___init__) (c_Search_give : MeM (L2.CX P w) P w K mg base 7 "Search" "give" f_Search_give) (c_Search_result : MeM (L2.CX P w) P w K mg base 2 "Search" "result" f_Search_result) (c_Search_wanted : MeM (L2.CX P w) P w K mg base 1 "Search" "wanted" f_Search_wanted) : FnOk P w K mg base (L2.CX P w) 8 fa fd ["charter", "shelf", "lists", "path"] (spM K mg f_lookup) :=
  okM (N := N_lookup) (m := b_lookup) F sc_lookup fun cdv A outer s H E hr =>
    (qss_cons (qs_set (i := 4) (qe_make c_Search___init__ (hr.mono (by decide)) (fun σ => passAt (by exact takes_of rfl rfl rfl rfl) σ) (by rfl) (qa_cons (qe_var 0) (qa_cons (qe_var 1) (qa_cons (qe_var 3) qa_nil)))) sc_lookup.nd rfl (Or.inl rfl))
      (qss_cons (qs_while fuel (by exact passes_of rfl) (qt_cmp opm_is (qe_meth0 c_Search_result (hr.mono (by decide)) (fun σ => passAt (by exact takes_of rfl rfl rfl rfl) σ) (qe_var 4)) qe_non (nomark _)) (qss_cons (qs_set (i := 5) (qe_ix (qe_meth0 c_Search_wanted (hr.mono (by decide)) (fun σ => passAt (by exact takes_of rfl rfl rfl rfl) σ) (qe_var 4)) qe_int (fun _ _ => rfl)) sc_lookup.nd rfl (Or.inl rfl))
      (qss_cons (qs_if (qt_cmp (opm_notInA (hu_of hr)) (qe_var 5) (qe_var 2) (by rfl)) (qss_one (qs_ret (qe_tup (qa_cons (qe_str (x := "missing")) (qa_cons (qe_var 5) qa_nil))))) qss_nil)
      (qss_one (qs_expr (qe_meth c_Search_give (hr.mono (by decide)) (fun σ => passAt (by exact takes_of rfl rfl rfl rfl) σ) (qe_var 4) (qa_cons (qe_ixA (hu_of hr) (qe_var 2) (qe_var 5) (fun _ _ => rfl) (fun _ _ => rfl)) qa_nil)))))))
      (qss_one (qs_ret (qe_meth0 c_Search_result (hr.mono (by decide)) (fun σ => passAt (by exact takes_of rfl rfl rfl rfl) σ) (qe_var 4))))))
theorem sc__law_cell_v2 : FnScope N__law_cell_v2 ["_law_script", "_law_k"] (defScope st__law_cell_v2) := ⟨rfl, rfl, rfl, by decide +kernel, rfl, by decide +kernel, by decide +kernel⟩
theorem ok__law_cell_v2 (T : Tx K mg) (F : Fun K "_law_cell" "_law_cell" st__law_cell_v2 fa fd) : FnOk P w K mg base (L2.CX P w) 1 fa fd ["_law_script", "_law_k"] (spM K mg f__law_cell_v2) :=
  okM (N := N__law_cell_v2) (m := b__law_cell_v2) F sc__law_cell_v2 fun cdv A outer s H E hr =>
    (qss_cons (qs_if (qt_cmp opm_lt (qe_var 1) (qe_callB cm_len (by rfl) T.z_len (by decide +kernel) (qa_cons (qe_var 0) qa_nil)) (nomark _)) (qss_one (qs_ret (qe_callB cm_abs (by rfl) T.z_abs (by decide +kernel) (qa_cons (qe_callTy cm_int (by rfl) T.z_int (by decide +kernel) (qa_cons (qe_ix (qe_var 0) (qe_var 1) (fun _ _ => rfl)) qa_nil)) qa_nil)))) qss_nil)
      (qss_one (qs_ret qe_int)))
theorem sc__law_draws : FnScope N__law_draws ["_law_script", "_law_start", "_law_most"] (defScope st__law_draws) := ⟨rfl, rfl, rfl, by decide +kernel, rfl, by decide +kernel, by decide +kernel⟩
theorem ok__law_draws (T : Tx K mg) (F : Fun K "_law_draws" "_law_draws" st__law_draws fa fd) : FnOk P w K mg base (L2.CX P w) 1 fa fd ["_law_script", "_law_start", "_law_most"] (spM K mg f__law_draws) :=
  okM (N := N__law_draws) (m := b__law_draws) F sc__law_draws fun cdv A outer s H E hr =>
    (qss_cons (qs_set (i := 3) (qe_lst qa_nil) sc__law_draws.nd rfl (Or.inl rfl))
      (qss_cons (qs_for (t := (.nm 4)) (by exact passes_of rfl) rfl (qi_any (qe_sl (qe_var 0) (qo_some (qe_var 1)) qo_none)) (pg_name (i := 4) sc__law_draws.nd rfl (Or.inl rfl)) (qss_cons (qs_set (i := 5) (qe_callB cm_abs (by rfl) T.z_abs (by decide +kernel) (qa_cons (qe_callTy cm_int (by rfl) T.z_int (by decide +kernel) (qa_cons (qe_var 4) qa_nil)) qa_nil)) sc__law_draws.nd rfl (Or.inl rfl))
      (qss_one (qs_if (qt_cmp opm_lt (qe_var 5) (qe_bin opm_pow qe_int qe_int) (nomark _)) (qss_cons (qs_set (i := 6) (qe_bin opm_mod (qe_callTy cm_int (by rfl) T.z_int (by decide +kernel) (qa_cons (qe_bin opm_add (qe_bin opm_mul (qe_var 5) qe_int) qe_int) qa_nil)) qe_int) sc__law_draws.nd rfl (Or.inl rfl))
      (qss_cons (qs_expr (qe_append (qe_var 3) (qe_var 5)))
      (qss_cons (qs_expr (qe_append (qe_var 3) (qe_bin opm_div (qe_bin opm_mod (qe_callTy cm_int (by rfl) T.z_int (by decide +kernel) (qa_cons (qe_bin opm_add (qe_bin opm_add (qe_bin opm_mul (qe_var 6) qe_int) (qe_bin opm_div (qe_var 5) qe_int)) qe_int) qa_nil)) qe_int) qe_int)))
      (qss_one (qs_expr (qe_append (qe_var 3) (qe_bin opm_div (qe_bin opm_mod (qe_callTy cm_int (by rfl) T.z_int (by decide +kernel) (qa_cons (qe_bin opm_add (qe_bin opm_add (qe_bin opm_mul (qe_var 6) qe_int) (qe_bin opm_div (qe_var 5) qe_int)) qe_int) qa_nil)) qe_int) qe_int))))))) (qss_one (qs_for (t := (.nm 7)) (by exact passes_of rfl) rfl (qi_range1 (by rfl) T.z_range (qa_cons qe_int qa_nil)) (pg_name (i := 7) sc__law_draws.nd rfl (Or.inl rfl)) (qss_cons (qs_if (qt_cmp opm_gt (qe_var 5) qe_int (nomark _)) (qss_one (qs_expr (qe_append (qe_var 3) (qe_bin opm_mod (qe_callTy cm_int (by rfl) T.z_int (by decide +kernel) (qa_cons (qe_var 5) qa_nil)) qe_int)))) qss_nil)
      (qss_one (qs_set (i := 5) (qe_bin opm_div (qe_var 5) qe_int) sc__law_draws.nd rfl (Or.inl rfl))))))))))
      (qss_one (qs_ret (qe_sl (qe_var 3) qo_none (qo_some (qe_var 2)))))))
theorem sc__law_names_v2 : FnScope N__law_names_v2 [] (defScope st__law_names_v2) := ⟨rfl, rfl, rfl, by decide +kernel, rfl, by decide +kernel, by decide +kernel⟩
theorem ok__law_names_v2 (T : Tx K mg) (F : Fun K "_law_names" "_law_names" st__law_names_v2 fa fd) : FnOk P w K mg base (L2.CX P w) 1 fa fd [] (spM K mg f__law_names_v2) :=
  okM (N := N__law_names_v2) (m := b__law_names_v2) F sc__law_names_v2 fun cdv A outer s H E hr =>
    (qss_one (qs_ret (qe_lst (qa_cons (qe_str (x := "list")) (qa_cons (qe_str (x := "a")) (qa_cons (qe_str (x := "b")) (qa_cons (qe_str (x := "c")) (qa_cons (qe_str (x := "d")) (qa_cons (qe_str (x := "e")) (qa_cons (qe_str (x := "f")) (qa_cons (qe_str (x := "g")) qa_nil)))))))))))
theorem sc__law_path_v3 : FnScope N__law_path_v3 ["_law_number"] (defScope st__law_path_v3) := ⟨rfl, rfl, rfl, by decide +kernel, rfl, by decide +kernel, by decide +kernel⟩
theorem ok__law_path_v3 (T : Tx K mg) (F : Fun K "_law_path" "_law_path" st__law_path_v3 fa fd) : FnOk P w K mg base (L2.CX P w) 1 fa fd ["_law_number"] (spM K mg f__law_path_v3) :=
  okM (N := N__law_path_v3) (m := b__law_path_v3) F sc__law_path_v3 fun cdv A outer s H E hr =>
    (qss_one (qs_ret (qe_ix (qe_lst (qa_cons (qe_str (x := "bin/x")) (qa_cons (qe_str (x := "bin/y.tar")) (qa_cons (qe_str (x := "doc/x")) (qa_cons (qe_str (x := "x")) (qa_cons (qe_str (x := "lib/a/x")) (qa_cons (qe_str (x := "bin/b/y")) qa_nil))))))) (qe_bin opm_mod (qe_var 0) qe_int) (fun _ _ => rfl))))
theorem sc__law_patterns : FnScope N__law_patterns ["_law_number"] (defScope st__law_patterns) := ⟨rfl, rfl, rfl, by decide +kernel, rfl, by decide +kernel, by decide +kernel⟩
theorem ok__law_patterns (T : Tx K mg) (F : Fun K "_law_patterns" "_law_patterns" st__law_patterns fa fd) : FnOk P w K mg base (L2.CX P w) 1 fa fd ["_law_number"] (spM K mg f__law_patterns) :=
  okM (N := N__law_patterns) (m := b__law_patterns) F sc__law_patterns fun cdv A outer s H E hr =>
    (qss_cons (qs_set (i := 1) (qe_lst (qa_cons (qe_str (x := "*/*")) (qa_cons (qe_str (x := "bin/*")) (qa_cons (qe_str (x := "*")) (qa_cons (qe_str (x := "*/x")) (qa_cons (qe_str (x := "doc/*x*")) (qa_cons (qe_str (x := "lib/*/*")) (qa_cons (qe_str (x := "bin/*.tar")) (qa_cons (qe_str (x := "b*n/*/y")) qa_nil))))))))) sc__law_patterns.nd rfl (Or.inr rfl))
      (qss_one (qs_ret (qe_callTy cm_tuple (by rfl) T.z_tuple (by decide +kernel) (qa_cons (qe_lc (t := (.nm 2)) (own := [("_law_k", 2)]) (by decide) rfl sc__law_patterns.nd (qi_range1 (by rfl) T.z_range (qa_cons (qe_bin opm_add qe_int (qe_bin opm_mod (qe_var 0) qe_int)) qa_nil)) (blkOk_by (own := [("_law_k", 2)]) (N := N__law_patterns) (sc := defScope st__law_patterns) (by decide +kernel)) (fun _ _ _ _ _ => (pg_name (i := 2) sc__law_patterns.nd rfl (Or.inl rfl))) (fun _ _ _ _ _ => qts_nil) (fun _ _ _ _ _ => (qe_ix (qe_var 1) (qe_bin opm_mod (qe_bin opm_div (qe_var 0) (qe_bin opm_add (qe_bin opm_mul qe_int (qe_var 2)) qe_int)) qe_int) (fun _ _ => rfl)))) qa_nil)))))
theorem sc__law_fits_v2 : FnScope N__law_fits_v2 ["_law_mark", "_law_part"] (defScope st__law_fits_v2) := ⟨rfl, rfl, rfl, by decide +kernel, rfl, by decide +kernel, by decide +kernel⟩
theorem ok__law_fits_v2 (T : Tx K mg) (F : Fun K "_law_fits" "_law_fits" st__law_fits_v2 fa fd) {R : Nat → MF} {k : Nat} (hk : 0 ≤ k) (c__law_fits : CalM P w K mg base k "_law_fits" (R 0)) : FnOk P w K mg base (L2.CX P w) (k + 1) fa fd ["_law_mark", "_law_part"] (spM K mg (mkF 2 3 (b__law_fits_v2 R))) :=
  okM (N := N__law_fits_v2) (m := b__law_fits_v2 R) F sc__law_fits_v2 fun cdv A outer s H E hr =>
    (qss_cons (qs_if (qt_cmp (opm_eq hr.units) (qe_var 0) (qe_str (x := "")) (nomark _)) (qss_one (qs_ret (qe_cmp (opm_eq hr.units) (qe_var 1) (qe_str (x := "")) (nomark _)))) qss_nil)
      (qss_cons (qs_if (qt_cmp (opm_eq hr.units) (qe_ix (qe_var 0) qe_int (fun _ _ => rfl)) (qe_str (x := "*")) (nomark _)) (qss_one (qs_ret (qe_callB (cm_any rfl) (by rfl) T.z_any (by decide +kernel) (qa_cons (qe_lc (t := (.nm 2)) (own := [("_law_k", 2)]) (by decide) rfl sc__law_fits_v2.nd (qi_range1 (by rfl) T.z_range (qa_cons (qe_bin opm_add (qe_callB cm_len (by rfl) T.z_len (by decide +kernel) (qa_cons (qe_var 1) qa_nil)) qe_int) qa_nil)) (blkOk_by (own := [("_law_k", 2)]) (N := N__law_fits_v2) (sc := defScope st__law_fits_v2) (by decide +kernel)) (fun _ _ _ _ _ => (pg_name (i := 2) sc__law_fits_v2.nd rfl (Or.inl rfl))) (fun _ _ _ _ _ => qts_nil) (fun _ _ _ _ _ => (qe_call c__law_fits hr takes0 (by rfl) (qa_cons (qe_sl (qe_var 0) (qo_some qe_int) qo_none) (qa_cons (qe_sl (qe_var 1) (qo_some (qe_var 2)) qo_none) qa_nil))))) qa_nil)))) qss_nil)
      (qss_one (qs_ret (qe_and (qe_cmp (opm_ne hr.units) (qe_var 1) (qe_str (x := "")) (nomark _)) (qe_and (qe_cmp (opm_eq hr.units) (qe_ix (qe_var 0) qe_int (fun _ _ => rfl)) (qe_ix (qe_var 1) qe_int (fun _ _ => rfl)) (nomark _)) (qe_one (qe_call c__law_fits hr (by exact takes_of rfl rfl rfl rfl) (by rfl) (qa_cons (qe_sl (qe_var 0) (qo_some qe_int) qo_none) (qa_cons (qe_sl (qe_var 1) (qo_some qe_int) qo_none) qa_nil))))))))))
theorem sc__law_covers_v2 : FnScope N__law_covers_v2 ["_law_patterns_here", "_law_path_here"] (defScope st__law_covers_v2) := ⟨rfl, rfl, rfl, by decide +kernel, rfl, by decide +kernel, by decide +kernel⟩
theorem ok__law_covers_v2 (T : Tx K mg) (F : Fun K "_law_covers" "_law_covers" st__law_covers_v2 fa fd) (c__law_fits : CalM P w K mg base 25 "_law_fits" f__law_fits_v2) : FnOk P w K mg base (L2.CX P w) 26 fa fd ["_law_patterns_here", "_law_path_here"] (spM K mg f__law_covers_v2) :=
  okM (N := N__law_covers_v2) (m := b__law_covers_v2) F sc__law_covers_v2 fun cdv A outer s H E hr =>
    (qss_cons (qs_set (i := 2) (qe_split (qe_var 1) (qe_str (x := "/"))) sc__law_covers_v2.nd rfl (Or.inr rfl))
      (qss_cons (qs_for (t := (.nm 3)) (by exact passes_of rfl) rfl (qi_any (qe_var 0)) (pg_name (i := 3) sc__law_covers_v2.nd rfl (Or.inl rfl)) (qss_cons (qs_set (i := 4) (qe_split (qe_var 3) (qe_str (x := "/"))) sc__law_covers_v2.nd rfl (Or.inr rfl))
      (qss_one (qs_if (qt_w (qw_and (qt_cmp (opm_eq hr.units) (qe_callB cm_len (by rfl) T.z_len (by decide +kernel) (qa_cons (qe_var 4) qa_nil)) (qe_callB cm_len (by rfl) T.z_len (by decide +kernel) (qa_cons (qe_var 2) qa_nil)) (nomark _)) (qw_and1 (qt_tru (qe_callB (cm_all rfl) (by rfl) T.z_all (by decide +kernel) (qa_cons (qe_lc (t := (.nm 5)) (own := [("_law_k", 5)]) (by decide) rfl sc__law_covers_v2.nd (qi_range1 (by rfl) T.z_range (qa_cons (qe_callB cm_len (by rfl) T.z_len (by decide +kernel) (qa_cons (qe_var 2) qa_nil)) qa_nil)) (blkOk_by (own := [("_law_k", 5)]) (N := N__law_covers_v2) (sc := defScope st__law_covers_v2) (by decide +kernel)) (fun _ _ _ _ _ => (pg_name (i := 5) sc__law_covers_v2.nd rfl (Or.inl rfl))) (fun _ _ _ _ _ => qts_nil) (fun _ _ _ _ _ => (qe_call c__law_fits (hr.mono (by decide)) takes0 (by rfl) (qa_cons (qe_ix (qe_var 4) (qe_var 5) (fun _ _ => rfl)) (qa_cons (qe_ix (qe_var 2) (qe_var 5) (fun _ _ => rfl)) qa_nil))))) qa_nil)))))) (qss_one (qs_ret qe_bl)) qss_nil))))
      (qss_one (qs_ret qe_bl))))
theorem sc__law_list_v5 : FnScope N__law_list_v5 ["_law_name", "_law_number", "_law_key"] (defScope st__law_list_v5) := ⟨rfl, rfl, rfl, by decide +kernel, rfl, by decide +kernel, by decide +kernel⟩
theorem ok__law_list_v5 (T : Tx K mg) (F : Fun K "_law_list" "_law_list" st__law_list_v5 fa fd) (c__law_names : CalM P w K mg base 1 "_law_names" f__law_names_v2) (c__law_path : CalM P w K mg base 1 "_law_path" f__law_path_v3) (c__law_patterns : CalM P w K mg base 1 "_law_patterns" f__law_patterns) : FnOk P w K mg base (L2.CX P w) 2 fa fd ["_law_name", "_law_number", "_law_key"] (spM K mg f__law_list_v5) :=
  okM (N := N__law_list_v5) (m := b__law_list_v5) F sc__law_list_v5 fun cdv A outer s H E hr =>
    (qss_cons (qs_set (i := 3) qe_dict0 sc__law_list_v5.nd rfl (Or.inr rfl))
      (qss_cons (qs_for (t := (.nm 4)) (by exact passes_of rfl) rfl (qi_range1 (by rfl) T.z_range (qa_cons (qe_bin opm_mod (qe_var 1) qe_int) qa_nil)) (pg_name (i := 4) sc__law_list_v5.nd rfl (Or.inl rfl)) (qss_one (qs_putK (hu_of hr) (qe_var 3) (qe_call c__law_path (hr.mono (by decide)) (by exact takes_of rfl rfl rfl rfl) (by rfl) (qa_cons (qe_bin opm_div (qe_var 1) (qe_bin opm_add qe_int (qe_bin opm_mul qe_int (qe_var 4)))) qa_nil)) (qe_tup (qa_cons (qe_bin opm_add (qe_bin opm_mod (qe_bin opm_div (qe_var 1) qe_int) qe_int) (qe_var 4)) (qa_cons (qe_bin opm_add (qe_str (x := "00000000000000000")) (qe_callTy cm_str (by rfl) T.z_str (by decide +kernel) (qa_cons (qe_var 4) qa_nil))) qa_nil))))))
      (qss_cons (qs_set (i := 5) qe_dict0 sc__law_list_v5.nd rfl (Or.inr rfl))
      (qss_cons (qs_for (t := (.nm 4)) (by exact passes_of rfl) rfl (qi_range1 (by rfl) T.z_range (qa_cons (qe_bin opm_mod (qe_bin opm_div (qe_var 1) qe_int) qe_int) qa_nil)) (pg_name (i := 4) sc__law_list_v5.nd rfl (Or.inl rfl)) (qss_cons (qs_set (i := 6) (qe_ix (qe_call0 c__law_names (hr.mono (by decide)) (by rfl)) (qe_bin opm_add qe_int (qe_bin opm_mod (qe_bin opm_div (qe_var 1) (qe_bin opm_add (qe_bin opm_mul qe_int (qe_var 4)) qe_int)) qe_int)) (fun _ _ => rfl)) sc__law_list_v5.nd rfl (Or.inl rfl))
      (qss_one (qs_if (qt_cmp (opm_ne hr.units) (qe_var 6) (qe_var 0) (nomark _)) (qss_cons (qs_set (i := 7) (qe_tup (qa_cons qe_int (qa_cons (qe_tup (qa_cons (qe_bin opm_add (qe_str (x := "k")) (qe_callTy cm_str (by rfl) T.z_str (by decide +kernel) (qa_cons (qe_bin opm_add (qe_bin opm_add (qe_bin opm_mulX (qe_var 2) qe_int) (qe_var 4)) qe_int) qa_nil))) qa_nil)) qa_nil))) sc__law_list_v5.nd rfl (Or.inl rfl))
      (qss_one (qs_putK (hu_of hr) (qe_var 5) (qe_var 6) (qe_tup (qa_cons (qe_var 6) (qa_cons (qe_var 7) (qa_cons (qe_call c__law_patterns (hr.mono (by decide)) (by exact takes_of rfl rfl rfl rfl) (by rfl) (qa_cons (qe_bin opm_div (qe_var 1) (qe_bin opm_add qe_int (qe_var 4))) qa_nil)) (qa_cons (qe_callTy cm_int (by rfl) T.z_int (by decide +kernel) (qa_cons (qe_cmp (opm_eq hr.units) (qe_bin opm_mod (qe_bin opm_div (qe_var 1) (qe_bin opm_add qe_int (qe_bin opm_mul qe_int (qe_var 4)))) qe_int) qe_int (nomark _)) qa_nil)) qa_nil)))))))) qss_nil))))
      (qss_cons (qs_set (i := 8) (qe_callTy cm_tuple (by rfl) T.z_tuple (by decide +kernel) (qa_cons (qe_lc (t := (.nm 9)) (own := [("_law_path_here", 9)]) (by decide) rfl sc__law_list_v5.nd (qi_any (qe_callB (cm_sortedA rfl) (by rfl) T.z_sorted (by decide +kernel) (qa_cons (qe_var 3) qa_nil))) (blkOk_by (own := [("_law_path_here", 9)]) (N := N__law_list_v5) (sc := defScope st__law_list_v5) (by decide +kernel)) (fun _ _ _ _ _ => (pg_name (i := 9) sc__law_list_v5.nd rfl (Or.inl rfl))) (fun _ _ _ _ _ => qts_nil) (fun _ _ _ _ _ => (qe_bin opm_add (qe_tup (qa_cons (qe_var 9) qa_nil)) (qe_ixA (hu_of hr) (qe_var 3) (qe_var 9) (fun _ _ => rfl) (fun _ _ => rfl))))) qa_nil)) sc__law_list_v5.nd rfl (Or.inl rfl))
      (qss_one (qs_ret (qe_tup (qa_cons (qe_str (x := "list")) (qa_cons (qe_var 0) (qa_cons qe_int (qa_cons qe_int (qa_cons (qe_var 8) (qa_cons (qe_callTy cm_tuple (by rfl) T.z_tuple (by decide +kernel) (qa_cons (qe_lock (jm := (mVar 5)) (qe_lc (t := (.nm 6)) (own := [("_law_other", 6)]) (by decide) rfl sc__law_list_v5.nd (qi_keys (qe_var 5)) (blkOk_by (own := [("_law_other", 6)]) (N := N__law_list_v5) (sc := defScope st__law_list_v5) (by decide +kernel)) (fun _ _ _ _ _ => (pg_name (i := 6) sc__law_list_v5.nd rfl (Or.inl rfl))) (fun _ _ _ _ _ => qts_nil) (fun _ _ _ _ _ => (qe_ixA (hu_of hr) (qe_var 5) (qe_var 6) (fun _ _ => rfl) (fun _ _ => rfl))))) qa_nil)) qa_nil))))))))))))))
theorem sc__law_walk_v2 : FnScope N__law_walk_v2 ["_law_role", "_law_lists", "_law_named", "_law_path_here"] (defScope st__law_walk_v2) := ⟨rfl, rfl, rfl, by decide +kernel, rfl, by decide +kernel, by decide +kernel⟩
theorem ok__law_walk_v2 (T : Tx K mg) (F : Fun K "_law_walk" "_law_walk" st__law_walk_v2 fa fd) (c__law_covers : CalM P w K mg base 26 "_law_covers" f__law_covers_v2) : FnOk P w K mg base (L2.CX P w) 27 fa fd ["_law_role", "_law_lists", "_law_named", "_law_path_here"] (spM K mg f__law_walk_v2) :=
  okM (N := N__law_walk_v2) (m := b__law_walk_v2) F sc__law_walk_v2 fun cdv A outer s H E hr =>
    (qss_cons (qs_set (i := 4) (qe_lst (qa_cons (qe_tup (qa_cons (qe_str (x := "list")) (qa_cons (qe_var 0) qa_nil))) qa_nil)) sc__law_walk_v2.nd rfl (Or.inl rfl))
      (qss_cons (qs_set (i := 5) (qe_lst qa_nil) sc__law_walk_v2.nd rfl (Or.inl rfl))
      (qss_cons (qs_while fuel (by exact passes_of rfl) (qt_cmp opm_gt (qe_callB cm_len (by rfl) T.z_len (by decide +kernel) (qa_cons (qe_var 4) qa_nil)) qe_int (nomark _)) (qss_cons (qs_set (i := 6) (qe_ix (qe_ix (qe_var 4) qe_int (fun _ _ => rfl)) qe_int (fun _ _ => rfl)) sc__law_walk_v2.nd rfl (Or.inl rfl))
      (qss_cons (qs_set (i := 7) (qe_ix (qe_var 4) qe_int (fun _ _ => rfl)) sc__law_walk_v2.nd rfl (Or.inl rfl))
      (qss_cons (qs_set (i := 4) (qe_sl (qe_var 4) (qo_some qe_int) qo_none) sc__law_walk_v2.nd rfl (Or.inl rfl))
      (qss_cons (qs_if (qt_cmp opm_in (qe_var 6) (qe_lc (t := (.nm 11)) (own := [("_law_one", 11)]) (by decide) rfl sc__law_walk_v2.nd (qi_any (qe_var 5)) (blkOk_by (own := [("_law_one", 11)]) (N := N__law_walk_v2) (sc := defScope st__law_walk_v2) (by decide +kernel)) (fun _ _ _ _ _ => (pg_name (i := 11) sc__law_walk_v2.nd rfl (Or.inl rfl))) (fun _ _ _ _ _ => qts_nil) (fun _ _ _ _ _ => (qe_ix (qe_var 11) qe_int (fun _ _ => rfl)))) (by rfl)) (qss_one qs_cnt) qss_nil)
      (qss_cons (qs_expr (qe_append (qe_var 5) (qe_var 7)))
      (qss_cons (qs_for (t := (.nm 8)) (by exact passes_of rfl) rfl (qi_any (qe_ix (qe_ixA (hu_of hr) (qe_var 1) (qe_var 6) (fun _ _ => rfl) (fun _ _ => rfl)) qe_int (fun _ _ => rfl))) (pg_name (i := 8) sc__law_walk_v2.nd rfl (Or.inl rfl)) (qss_one (qs_if (qt_cmp (opm_eq hr.units) (qe_ix (qe_var 8) qe_int (fun _ _ => rfl)) (qe_var 3) (nomark _)) (qss_one (qs_ret (qe_tup (qa_cons (qe_var 5) (qa_cons (qe_tup (qa_cons (qe_str (x := "found")) (qa_cons (qe_var 6) (qa_cons (qe_ix (qe_var 8) qe_int (fun _ _ => rfl)) (qa_cons (qe_ix (qe_var 8) qe_int (fun _ _ => rfl)) qa_nil))))) qa_nil))))) qss_nil)))
      (qss_cons (qs_set (i := 9) (qe_lst qa_nil) sc__law_walk_v2.nd rfl (Or.inl rfl))
      (qss_cons (qs_for (t := (.nm 10)) (by exact passes_of rfl) rfl (qi_any (qe_ix (qe_ixA (hu_of hr) (qe_var 1) (qe_var 6) (fun _ _ => rfl) (fun _ _ => rfl)) qe_int (fun _ _ => rfl))) (pg_name (i := 10) sc__law_walk_v2.nd rfl (Or.inl rfl)) (qss_one (qs_if (qt_w (qw_and (qt_tru (qe_call c__law_covers (hr.mono (by decide)) (by exact takes_of rfl rfl rfl rfl) (by rfl) (qa_cons (qe_ix (qe_var 10) qe_int (fun _ _ => rfl)) (qa_cons (qe_var 3) qa_nil)))) (qw_and (qt_cmp opm_in (qe_ix (qe_var 10) qe_int (fun _ _ => rfl)) (qe_var 2) (by rfl)) (qw_and1 (qt_cmp opm_notIn (qe_ix (qe_var 10) qe_int (fun _ _ => rfl)) (qe_lc (t := (.nm 11)) (own := [("_law_one", 11)]) (by decide) rfl sc__law_walk_v2.nd (qi_any (qe_var 5)) (blkOk_by (own := [("_law_one", 11)]) (N := N__law_walk_v2) (sc := defScope st__law_walk_v2) (by decide +kernel)) (fun _ _ _ _ _ => (pg_name (i := 11) sc__law_walk_v2.nd rfl (Or.inl rfl))) (fun _ _ _ _ _ => qts_nil) (fun _ _ _ _ _ => (qe_ix (qe_var 11) qe_int (fun _ _ => rfl)))) (by rfl)))))) (qss_cons (qs_expr (qe_append (qe_var 9) (qe_tup (qa_cons (qe_ix (qe_var 10) qe_int (fun _ _ => rfl)) (qa_cons (qe_ix (qe_var 10) qe_int (fun _ _ => rfl)) qa_nil)))))
      (qss_one (qs_if (qt_cmp (opm_eq hr.units) (qe_ix (qe_var 10) qe_int (fun _ _ => rfl)) qe_int (nomark _)) (qss_cons (qs_set (i := 4) (qe_lst qa_nil) sc__law_walk_v2.nd rfl (Or.inl rfl))
      (qss_one qs_brk)) qss_nil))) qss_nil)))
      (qss_one (qs_set (i := 4) (qe_bin opm_add (qe_var 9) (qe_var 4)) sc__law_walk_v2.nd rfl (Or.inl rfl))))))))))))
      (qss_one (qs_ret (qe_tup (qa_cons (qe_var 5) (qa_cons (qe_tup (qa_cons (qe_str (x := "none")) qa_nil)) qa_nil))))))))
theorem sc__law_refused : FnScope N__law_refused ["_law_search", "_law_document"] (defScope st__law_refused) := ⟨rfl, rfl, rfl, by decide +kernel, rfl, by decide +kernel, by decide +kernel⟩
theorem ok__law_refused (T : Tx K mg) (F : Fun K "_law_refused" "_law_refused" st__law_refused fa fd) (c_Search_give : MeM (L2.CX P w) P w K mg base 7 "Search" "give" f_Search_give) : FnOk P w K mg base (L2.CX P w) 8 fa fd ["_law_search", "_law_document"] (spM K mg f__law_refused) :=
  okM (N := N__law_refused) (m := b__law_refused) F sc__law_refused fun cdv A outer s H E hr =>
    (qss_cons (qs_try rfl rfl (by exact takes_of rfl rfl rfl rfl) (fun W1 pn1 xe1 tk1 hp1 => (qss_one (qs_expr (qe_meth c_Search_give (hr.mono (by decide)) (fun σ => passAt tk1 σ) (qe_var 0) (qa_cons (qe_var 1) qa_nil))))) (QHs.cons T.gc_BadState.choose_spec (by rfl) T.m_BadState (fun _ _ _ => (qss_one (qs_ret qe_bl))) QHs.nil))
      (qss_one (qs_ret qe_bl)))
theorem sc_law : FnScope N_law ["_law_script"] (defScope st_law) := ⟨rfl, rfl, rfl, by decide +kernel, rfl, by decide +kernel, by decide +kernel⟩
theorem ok_law (T : Tx K mg) (F : Fun K "law" "law" st_law fa fd) (c_Search___init__ : MkM (L2.CX P w) P w K mg base 2 "Search" f_Search___init__) (c_Search_give : MeM (L2.CX P w) P w K mg base 7 "Search" "give" f_Search_give) (c_Search_result : MeM (L2.CX P w) P w K mg base 2 "Search" "result" f_Search_result) (c_Search_wanted : MeM (L2.CX P w) P w K mg base 1 "Search" "wanted" f_Search_wanted) (c__law_cell : CalM P w K mg base 1 "_law_cell" f__law_cell_v2) (c__law_draws : CalM P w K mg base 1 "_law_draws" f__law_draws) (c__law_list : CalM P w K mg base 2 "_law_list" f__law_list_v5) (c__law_names : CalM P w K mg base 1 "_law_names" f__law_names_v2) (c__law_path : CalM P w K mg base 1 "_law_path" f__law_path_v3) (c__law_refused : CalM P w K mg base 8 "_law_refused" f__law_refused) (c__law_walk : CalM P w K mg base 27 "_law_walk" f__law_walk_v2) (c_lookup : CalM P w K mg base 8 "lookup" f_lookup) : FnOk P w K mg base (L2.CX P w) 28 fa fd ["_law_script"] (spM K mg f_law) :=
  okM (N := N_law) (m := b_law) F sc_law fun cdv A outer s H E hr =>
    (qss_cons (qs_set (i := 1) (qe_call c__law_cell (hr.mono (by decide)) (by exact takes_of rfl rfl rfl rfl) (by rfl) (qa_cons (qe_var 0) (qa_cons qe_int qa_nil))) sc_law.nd rfl (Or.inl rfl))
      (qss_cons (qs_set (i := 2) (qe_call c__law_draws (hr.mono (by decide)) (by exact takes_of rfl rfl rfl rfl) (by rfl) (qa_cons (qe_var 0) (qa_cons qe_int (qa_cons qe_int qa_nil)))) sc_law.nd rfl (Or.inl rfl))
      (qss_cons (qs_set (i := 3) qe_dict0 sc_law.nd rfl (Or.inl rfl))
      (qss_cons (qs_set (i := 4) (qe_lst (qa_cons (qe_str (x := "list")) qa_nil)) sc_law.nd rfl (Or.inl rfl))
      (qss_cons (qs_for (t := (.nm 5)) (by exact passes_of rfl) rfl (qi_range1 (by rfl) T.z_range (qa_cons qe_int qa_nil)) (pg_name (i := 5) sc_law.nd rfl (Or.inl rfl)) (qss_cons (qs_set (i := 6) (qe_ix (qe_call0 c__law_names (hr.mono (by decide)) (by rfl)) (qe_var 5) (fun _ _ => rfl)) sc_law.nd rfl (Or.inl rfl))
      (qss_cons (qs_set (i := 7) (qe_bin opm_div (qe_var 1) (qe_bin opm_add (qe_var 5) qe_int)) sc_law.nd rfl (Or.inl rfl))
      (qss_cons (qs_if (qt_cmp opm_lt (qe_var 5) (qe_callB cm_len (by rfl) T.z_len (by decide +kernel) (qa_cons (qe_var 2) qa_nil)) (nomark _)) (qss_one (qs_set (i := 7) (qe_ix (qe_var 2) (qe_var 5) (fun _ _ => rfl)) sc_law.nd rfl (Or.inl rfl))) qss_nil)
      (qss_cons (qs_putK (hu_of hr) (qe_var 3) (qe_var 6) (qe_call c__law_list (hr.mono (by decide)) (by exact takes_of rfl rfl rfl rfl) (by rfl) (qa_cons (qe_var 6) (qa_cons (qe_var 7) (qa_cons (qe_var 5) qa_nil)))))
      (qss_one (qs_if (qt_w (qw_and (qt_cmp opm_notIn (qe_var 6) (qe_var 4) (by rfl)) (qw_and1 (qt_cmp opm_gt (qe_bin opm_mod (qe_bin opm_div (qe_var 7) qe_int) qe_int) qe_int (nomark _))))) (qss_one (qs_expr (qe_append (qe_var 4) (qe_var 6)))) qss_nil)))))))
      (qss_cons (qs_set (i := 8) (qe_callTy cm_tuple (by rfl) T.z_tuple (by decide +kernel) (qa_cons (qe_lc (t := (.nm 6)) (own := [("_law_name", 6)]) (by decide) rfl sc_law.nd (qi_any (qe_callB cm_sorted (by rfl) T.z_sorted (by decide +kernel) (qa_cons (qe_var 4) qa_nil))) (blkOk_by (own := [("_law_name", 6)]) (N := N_law) (sc := defScope st_law) (by decide +kernel)) (fun _ _ _ _ _ => (pg_name (i := 6) sc_law.nd rfl (Or.inl rfl))) (fun _ _ _ _ _ => qts_nil) (fun _ _ _ _ _ => (qe_tup (qa_cons (qe_var 6) (qa_cons qe_int (qa_cons qe_int (qa_cons (qe_str (x := "000000000000000000")) qa_nil))))))) qa_nil)) sc_law.nd rfl (Or.inl rfl))
      (qss_cons (qs_set (i := 9) (qe_tup (qa_cons (qe_tup (qa_cons qe_int (qa_cons (qe_tup (qa_cons (qe_str (x := "k1")) qa_nil)) qa_nil))) (qa_cons (qe_tup (qa_cons qe_int (qa_cons (qe_tup (qa_cons (qe_str (x := "k2")) qa_nil)) qa_nil))) (qa_cons (qe_tup (qa_cons qe_int (qa_cons (qe_tup (qa_cons (qe_str (x := "k3")) qa_nil)) qa_nil))) (qa_cons (qe_tup (qa_cons qe_int (qa_cons (qe_tup (qa_cons (qe_str (x := "k4")) qa_nil)) qa_nil))) qa_nil))))) sc_law.nd rfl (Or.inl rfl))
      (qss_cons (qs_set (i := 10) (qe_tup (qa_cons (qe_str (x := "charter")) (qa_cons qe_int (qa_cons qe_int (qa_cons (qe_var 9) qa_nil))))) sc_law.nd rfl (Or.inl rfl))
      (qss_cons (qs_set (i := 11) (qe_tup (qa_cons (qe_str (x := "shelf")) (qa_cons qe_int (qa_cons qe_int (qa_cons (qe_var 8) qa_nil))))) sc_law.nd rfl (Or.inl rfl))
      (qss_cons (qs_set (i := 12) (qe_call c__law_path (hr.mono (by decide)) (by exact takes_of rfl rfl rfl rfl) (by rfl) (qa_cons (qe_var 1) qa_nil)) sc_law.nd rfl (Or.inl rfl))
      (qss_cons (qs_tup (is := [13, 14]) (qe_call c__law_walk (hr.mono (by decide)) (by exact takes_of rfl rfl rfl rfl) (by rfl) (qa_cons (qe_ix (qe_var 9) qe_int (fun _ _ => rfl)) (qa_cons (qe_var 3) (qa_cons (qe_var 4) (qa_cons (qe_var 12) qa_nil))))) (pg_tup rfl (pgs_cons (pg_name (i := 13) sc_law.nd rfl (Or.inl rfl)) (pgs_cons (pg_name (i := 14) sc_law.nd rfl (Or.inl rfl)) pgs_nil))))
      (qss_cons (qs_set (i := 15) (qe_make c_Search___init__ (hr.mono (by decide)) (fun σ => passAt (by exact takes_of rfl rfl rfl rfl) σ) (by rfl) (qa_cons (qe_var 10) (qa_cons (qe_var 11) (qa_cons (qe_var 12) qa_nil)))) sc_law.nd rfl (Or.inl rfl))
      (qss_cons (qs_for (t := (.nm 16)) (by exact passes_of rfl) rfl (qi_any (qe_var 13)) (pg_name (i := 16) sc_law.nd rfl (Or.inl rfl)) (qss_cons (qs_if (qt_w (qw_or (qt_cmp (opm_ne hr.units) (qe_meth0 c_Search_wanted (hr.mono (by decide)) (fun σ => passAt (by exact takes_of rfl rfl rfl rfl) σ) (qe_var 15)) (qe_var 16) (nomark _)) (qw_or1 (qt_cmp opm_isNot (qe_meth0 c_Search_result (hr.mono (by decide)) (fun σ => passAt (by exact takes_of rfl rfl rfl rfl) σ) (qe_var 15)) qe_non (nomark _))))) (qss_one (qs_ret qe_bl)) qss_nil)
      (qss_cons (qs_set (i := 17) (qe_lst (qa_cons qe_non (qa_cons (qe_ixA (hu_of hr) (qe_var 3) (qe_str (x := "a")) (fun _ _ => rfl) (fun _ _ => rfl)) (qa_cons (qe_ixA (hu_of hr) (qe_var 3) (qe_str (x := "b")) (fun _ _ => rfl) (fun _ _ => rfl)) (qa_cons (qe_tup (qa_cons (qe_str (x := "list")) qa_nil)) (qa_cons (qe_var 10) qa_nil)))))) sc_law.nd rfl (Or.inl rfl))
      (qss_cons (qs_for (t := (.nm 18)) (by exact passes_of rfl) rfl (qi_any (qe_var 17)) (pg_name (i := 18) sc_law.nd rfl (Or.inl rfl)) (qss_one (qs_if (qt_w (qw_or (qt_not (qt_tru (qe_isi .tuple (by decide) (qe_var 18) (by rfl) T.z_isinstance (by rfl) T.z_tuple (by decide +kernel)))) (qw_or (qt_cmp opm_lt (qe_callB cm_len (by rfl) T.z_len (by decide +kernel) (qa_cons (qe_var 18) qa_nil)) qe_int (nomark _)) (qw_or1 (qt_cmp (opm_ne hr.units) (qe_ix (qe_var 18) qe_int (fun _ _ => rfl)) (qe_ix (qe_var 16) qe_int (fun _ _ => rfl)) (nomark _)))))) (qss_one (qs_if (qt_w (qw_or (qt_not (qt_tru (qe_call c__law_refused (hr.mono (by decide)) (by exact takes_of rfl rfl rfl rfl) (by rfl) (qa_cons (qe_var 15) (qa_cons (qe_var 18) qa_nil))))) (qw_or1 (qt_cmp (opm_ne hr.units) (qe_meth0 c_Search_wanted (hr.mono (by decide)) (fun σ => passAt (by exact takes_of rfl rfl rfl rfl) σ) (qe_var 15)) (qe_var 16) (nomark _))))) (qss_one (qs_ret qe_bl)) qss_nil)) qss_nil)))
      (qss_one (qs_if (qt_cmp opm_isNot (qe_meth c_Search_give (hr.mono (by decide)) (fun σ => passAt (by exact takes_of rfl rfl rfl rfl) σ) (qe_var 15) (qa_cons (qe_ixA (hu_of hr) (qe_var 3) (qe_ix (qe_var 16) qe_int (fun _ _ => rfl)) (fun _ _ => rfl) (fun _ _ => rfl)) qa_nil)) qe_non (nomark _)) (qss_one (qs_ret qe_bl)) qss_nil))))))
      (qss_cons (qs_if (qt_w (qw_or (qt_cmp opm_isNot (qe_meth0 c_Search_wanted (hr.mono (by decide)) (fun σ => passAt (by exact takes_of rfl rfl rfl rfl) σ) (qe_var 15)) qe_non (nomark _)) (qw_or (qt_cmp (opm_ne hr.units) (qe_meth0 c_Search_result (hr.mono (by decide)) (fun σ => passAt (by exact takes_of rfl rfl rfl rfl) σ) (qe_var 15)) (qe_var 14) (nomark _)) (qw_or1 (qt_not (qt_tru (qe_call c__law_refused (hr.mono (by decide)) (by exact takes_of rfl rfl rfl rfl) (by rfl) (qa_cons (qe_var 15) (qa_cons (qe_ixA (hu_of hr) (qe_var 3) (qe_str (x := "list")) (fun _ _ => rfl) (fun _ _ => rfl)) qa_nil))))))))) (qss_one (qs_ret qe_bl)) qss_nil)
      (qss_cons (qs_if (qt_w (qw_or (qt_cmp (opm_ne hr.units) (qe_meth0 c_Search_result (hr.mono (by decide)) (fun σ => passAt (by exact takes_of rfl rfl rfl rfl) σ) (qe_var 15)) (qe_var 14) (nomark _)) (qw_or1 (qt_cmp (opm_ne hr.units) (qe_call c_lookup (hr.mono (by decide)) (by exact takes_of rfl rfl rfl rfl) (by rfl) (qa_cons (qe_var 10) (qa_cons (qe_var 11) (qa_cons (qe_var 3) (qa_cons (qe_var 12) qa_nil))))) (qe_var 14) (nomark _))))) (qss_one (qs_ret qe_bl)) qss_nil)
      (qss_cons (qs_set (i := 19) (qe_ix (qe_ix (qe_var 13) (qe_bin opm_mod (qe_bin opm_div (qe_var 1) qe_int) (qe_callB cm_len (by rfl) T.z_len (by decide +kernel) (qa_cons (qe_var 13) qa_nil))) (fun _ _ => rfl)) qe_int (fun _ _ => rfl)) sc_law.nd rfl (Or.inl rfl))
      (qss_cons (qs_set (i := 20) qe_dict0 sc_law.nd rfl (Or.inl rfl))
      (qss_cons (qs_lock (jm := (mVar 3)) (qs_for (t := (.nm 6)) (by exact passes_of rfl) rfl (qi_keys (qe_var 3)) (pg_name (i := 6) sc_law.nd rfl (Or.inl rfl)) (qss_one (qs_if (qt_cmp (opm_ne hr.units) (qe_var 6) (qe_var 19) (nomark _)) (qss_one (qs_putK (hu_of hr) (qe_var 20) (qe_var 6) (qe_ixA (hu_of hr) (qe_var 3) (qe_var 6) (fun _ _ => rfl) (fun _ _ => rfl)))) qss_nil))))
      (qss_one (qs_ret (qe_cmp (opm_eq hr.units) (qe_call c_lookup (hr.mono (by decide)) (by exact takes_of rfl rfl rfl rfl) (by rfl) (qa_cons (qe_var 10) (qa_cons (qe_var 11) (qa_cons (qe_var 20) (qa_cons (qe_var 12) qa_nil))))) (qe_tup (qa_cons (qe_str (x := "missing")) (qa_cons (qe_var 19) qa_nil))) (nomark _))))))))))))))))))))))
end
/-! ### the end -/
set_option maxHeartbeats 0 in
theorem all_mk {P : Program} {w : World} {K : PySem.W.Frag} {h : Heap} {mg : Str → Option Value} {fa f0 f1 f2 f3 f4 f5 f6 f7 f8 f9 f10 f11 f12 f13 f14 f15 f16 f17 f18 f19 f20 f21 f22 f23 f24 f25 f26 f27 f28 f29 f30 f31 f32 f33 f34 f35 f36 f37 f38 f39 f40 f41 CChartError CBadState KSearch  : Addr} (X : K.In h) (G : h.Ns mainGlobals mg) (hfa : mg "law" = some (.ref fa))
    {od0 an0 od1 an1 od2 an2 od3 an3 od4 an4 od5 an5 od6 an6 od7 an7 od8 an8 od9 an9 od10 an10 od11 an11 od12 an12 od13 an13 od14 an14 od15 an15 od16 an16 od17 an17 od18 an18 od19 an19 od20 an20 od21 an21 od22 an22 od23 an23 od24 an24 od25 an25 od26 an26 od27 an27 od28 an28 od29 an29 od30 an30 od31 an31 od32 an32 od33 an33 od34 an34 od35 an35 od36 an36 od37 an37 od38 an38 od39 an39 od40 an40 od41 an41 : Option Addr} {sl0 sl1 sl2 sl3 sl4 sl5 sl6 sl7 sl8 sl9 sl10 sl11 sl12 sl13 sl14 sl15 sl16 sl17 sl18 sl19 sl20 sl21 sl22 sl23 sl24 sl25 sl26 sl27 sl28 sl29 sl30 sl31 sl32 sl33 sl34 sl35 sl36 sl37 sl38 sl39 sl40 sl41 : Array (Option Value)} {oc0 kV0 dc0 pm0 cd0 ct0 oc1 kV1 dc1 pm1 cd1 ct1 oc2 kV2 dc2 pm2 cd2 ct2 oc3 kV3 dc3 pm3 cd3 ct3 oc4 kV4 dc4 pm4 cd4 ct4 oc5 kV5 dc5 pm5 cd5 ct5 oc6 kV6 dc6 pm6 cd6 ct6 oc7 kV7 dc7 pm7 cd7 ct7 oc8 kV8 dc8 pm8 cd8 ct8 oc9 kV9 dc9 pm9 cd9 ct9 oc10 kV10 dc10 pm10 cd10 ct10 oc11 kV11 dc11 pm11 cd11 ct11 oc12 kV12 dc12 pm12 cd12 ct12 oc13 kV13 dc13 pm13 cd13 ct13 oc14 kV14 dc14 pm14 cd14 ct14 oc15 kV15 dc15 pm15 cd15 ct15 oc16 kV16 dc16 pm16 cd16 ct16 oc17 kV17 dc17 pm17 cd17 ct17 oc18 kV18 dc18 pm18 cd18 ct18 oc19 kV19 dc19 pm19 cd19 ct19 oc20 kV20 dc20 pm20 cd20 ct20 oc21 kV21 dc21 pm21 cd21 ct21 oc22 kV22 dc22 pm22 cd22 ct22 oc23 kV23 dc23 pm23 cd23 ct23 oc24 kV24 dc24 pm24 cd24 ct24 oc25 kV25 dc25 pm25 cd25 ct25 oc26 kV26 dc26 pm26 cd26 ct26 oc27 kV27 dc27 pm27 cd27 ct27 oc28 kV28 dc28 pm28 cd28 ct28 oc29 kV29 dc29 pm29 cd29 ct29 oc30 kV30 dc30 pm30 cd30 ct30 oc31 kV31 dc31 pm31 cd31 ct31 oc32 kV32 dc32 pm32 cd32 ct32 oc33 kV33 dc33 pm33 cd33 ct33 oc34 kV34 dc34 pm34 cd34 ct34 oc35 kV35 dc35 pm35 cd35 ct35 oc36 kV36 dc36 pm36 cd36 ct36 oc37 kV37 dc37 pm37 cd37 ct37 oc38 kV38 dc38 pm38 cd38 ct38 oc39 kV39 dc39 pm39 cd39 ct39 oc40 kV40 dc40 pm40 cd40 ct40 oc41 kV41 dc41 pm41 cd41 ct41 : Value}
    (aCSearch : PySem.W.nsIn K mainGlobals "Search" = some (some (.ref KSearch))) (pgSearch : PySem.W.plainGet K KSearch Str.empty = true) (hdSearch : PySem.W.hasDictIn K KSearch = true) (poSearch : PySem.W.plainOver K KSearch = true) (saSearch : PySem.W.findIn K (.ref KSearch) "__setattr__" = some (some (.builtin "object.__setattr__")))
    (mkSearch : PySem.W.makesIn K KSearch = true) (kcSearch : PySem.W.keepIn K (.ref KSearch) = true)
    (nSearch_outcome : PySem.W.findIn K (.ref KSearch) "outcome" = some none)
    (nSearch_path : PySem.W.findIn K (.ref KSearch) "path" = some none)
    (nSearch_shelf : PySem.W.findIn K (.ref KSearch) "shelf" = some none)
    (nSearch_visited : PySem.W.findIn K (.ref KSearch) "visited" = some none)
    (nSearch_waiting : PySem.W.findIn K (.ref KSearch) "waiting" = some none)
    (a0 : PySem.W.nsIn K mainGlobals "made_of" = some (some (.ref f0)))
    (l0 : K.lookup f0 = some ⟨oc0, od0, .func (PySem.W.fnOf "made_of" "made_of" (defArgs st_made_of) (defBody st_made_of) (defScope st_made_of) .none kV0 dc0 pm0 an0 cd0 ct0), sl0⟩) (c0 : PySem.W.codeIn K cd0 "made_of" = true) (k0 : PySem.W.keepIn K (.ref f0) = true)
    (a1 : PySem.W.nsIn K mainGlobals "is_list_name" = some (some (.ref f1)))
    (l1 : K.lookup f1 = some ⟨oc1, od1, .func (PySem.W.fnOf "is_list_name" "is_list_name" (defArgs st_is_list_name) (defBody st_is_list_name) (defScope st_is_list_name) .none kV1 dc1 pm1 an1 cd1 ct1), sl1⟩) (c1 : PySem.W.codeIn K cd1 "is_list_name" = true) (k1 : PySem.W.keepIn K (.ref f1) = true)
    (a2 : PySem.W.nsIn K mainGlobals "is_key" = some (some (.ref f2)))
    (l2 : K.lookup f2 = some ⟨oc2, od2, .func (PySem.W.fnOf "is_key" "is_key" (defArgs st_is_key) (defBody st_is_key) (defScope st_is_key) .none kV2 dc2 pm2 an2 cd2 ct2), sl2⟩) (c2 : PySem.W.codeIn K cd2 "is_key" = true) (k2 : PySem.W.keepIn K (.ref f2) = true)
    (a3 : PySem.W.nsIn K mainGlobals "has_parts" = some (some (.ref f3)))
    (l3 : K.lookup f3 = some ⟨oc3, od3, .func (PySem.W.fnOf "has_parts" "has_parts" (defArgs st_has_parts) (defBody st_has_parts) (defScope st_has_parts) .none kV3 dc3 pm3 an3 cd3 ct3), sl3⟩) (c3 : PySem.W.codeIn K cd3 "has_parts" = true) (k3 : PySem.W.keepIn K (.ref f3) = true)
    (a4 : PySem.W.nsIn K mainGlobals "is_path" = some (some (.ref f4)))
    (l4 : K.lookup f4 = some ⟨oc4, od4, .func (PySem.W.fnOf "is_path" "is_path" (defArgs st_is_path) (defBody st_is_path) (defScope st_is_path) .none kV4 dc4 pm4 an4 cd4 ct4), sl4⟩) (c4 : PySem.W.codeIn K cd4 "is_path" = true) (k4 : PySem.W.keepIn K (.ref f4) = true)
    (a5 : PySem.W.nsIn K mainGlobals "is_pattern" = some (some (.ref f5)))
    (l5 : K.lookup f5 = some ⟨oc5, od5, .func (PySem.W.fnOf "is_pattern" "is_pattern" (defArgs st_is_pattern) (defBody st_is_pattern) (defScope st_is_pattern) .none kV5 dc5 pm5 an5 cd5 ct5), sl5⟩) (c5 : PySem.W.codeIn K cd5 "is_pattern" = true) (k5 : PySem.W.keepIn K (.ref f5) = true)
    (a6 : PySem.W.nsIn K mainGlobals "ends_behind" = some (some (.ref f6)))
    (l6 : K.lookup f6 = some ⟨oc6, od6, .func (PySem.W.fnOf "ends_behind" "ends_behind" (defArgs st_ends_behind) (defBody st_ends_behind) (defScope st_ends_behind) .none kV6 dc6 pm6 an6 cd6 ct6), sl6⟩) (c6 : PySem.W.codeIn K cd6 "ends_behind" = true) (k6 : PySem.W.keepIn K (.ref f6) = true)
    (a7 : PySem.W.nsIn K mainGlobals "part_matches" = some (some (.ref f7)))
    (l7 : K.lookup f7 = some ⟨oc7, od7, .func (PySem.W.fnOf "part_matches" "part_matches" (defArgs st_part_matches) (defBody st_part_matches) (defScope st_part_matches) .none kV7 dc7 pm7 an7 cd7 ct7), sl7⟩) (c7 : PySem.W.codeIn K cd7 "part_matches" = true) (k7 : PySem.W.keepIn K (.ref f7) = true)
    (a8 : PySem.W.nsIn K mainGlobals "matches" = some (some (.ref f8)))
    (l8 : K.lookup f8 = some ⟨oc8, od8, .func (PySem.W.fnOf "matches" "matches" (defArgs st_matches) (defBody st_matches) (defScope st_matches) .none kV8 dc8 pm8 an8 cd8 ct8), sl8⟩) (c8 : PySem.W.codeIn K cd8 "matches" = true) (k8 : PySem.W.keepIn K (.ref f8) = true)
    (a9 : PySem.W.nsIn K mainGlobals "is_integer" = some (some (.ref f9)))
    (l9 : K.lookup f9 = some ⟨oc9, od9, .func (PySem.W.fnOf "is_integer" "is_integer" (defArgs st_is_integer) (defBody st_is_integer) (defScope st_is_integer) .none kV9 dc9 pm9 an9 cd9 ct9), sl9⟩) (c9 : PySem.W.codeIn K cd9 "is_integer" = true) (k9 : PySem.W.keepIn K (.ref f9) = true)
    (a10 : PySem.W.nsIn K mainGlobals "is_row" = some (some (.ref f10)))
    (l10 : K.lookup f10 = some ⟨oc10, od10, .func (PySem.W.fnOf "is_row" "is_row" (defArgs st_is_row) (defBody st_is_row) (defScope st_is_row) .none kV10 dc10 pm10 an10 cd10 ct10), sl10⟩) (c10 : PySem.W.codeIn K cd10 "is_row" = true) (k10 : PySem.W.keepIn K (.ref f10) = true)
    (a11 : PySem.W.nsIn K mainGlobals "is_table" = some (some (.ref f11)))
    (l11 : K.lookup f11 = some ⟨oc11, od11, .func (PySem.W.fnOf "is_table" "is_table" (defArgs st_is_table) (defBody st_is_table) (defScope st_is_table) .none kV11 dc11 pm11 an11 cd11 ct11), sl11⟩) (c11 : PySem.W.codeIn K cd11 "is_table" = true) (k11 : PySem.W.keepIn K (.ref f11) = true)
    (a12 : PySem.W.nsIn K mainGlobals "is_version" = some (some (.ref f12)))
    (l12 : K.lookup f12 = some ⟨oc12, od12, .func (PySem.W.fnOf "is_version" "is_version" (defArgs st_is_version) (defBody st_is_version) (defScope st_is_version) .none kV12 dc12 pm12 an12 cd12 ct12), sl12⟩) (c12 : PySem.W.codeIn K cd12 "is_version" = true) (k12 : PySem.W.keepIn K (.ref f12) = true)
    (a13 : PySem.W.nsIn K mainGlobals "is_amount" = some (some (.ref f13)))
    (l13 : K.lookup f13 = some ⟨oc13, od13, .func (PySem.W.fnOf "is_amount" "is_amount" (defArgs st_is_amount) (defBody st_is_amount) (defScope st_is_amount) .none kV13 dc13 pm13 an13 cd13 ct13), sl13⟩) (c13 : PySem.W.codeIn K cd13 "is_amount" = true) (k13 : PySem.W.keepIn K (.ref f13) = true)
    (a14 : PySem.W.nsIn K mainGlobals "is_digest" = some (some (.ref f14)))
    (l14 : K.lookup f14 = some ⟨oc14, od14, .func (PySem.W.fnOf "is_digest" "is_digest" (defArgs st_is_digest) (defBody st_is_digest) (defScope st_is_digest) .none kV14 dc14 pm14 an14 cd14 ct14), sl14⟩) (c14 : PySem.W.codeIn K cd14 "is_digest" = true) (k14 : PySem.W.keepIn K (.ref f14) = true)
    (a15 : PySem.W.nsIn K mainGlobals "is_ascending" = some (some (.ref f15)))
    (l15 : K.lookup f15 = some ⟨oc15, od15, .func (PySem.W.fnOf "is_ascending" "is_ascending" (defArgs st_is_ascending) (defBody st_is_ascending) (defScope st_is_ascending) .none kV15 dc15 pm15 an15 cd15 ct15), sl15⟩) (c15 : PySem.W.codeIn K cd15 "is_ascending" = true) (k15 : PySem.W.keepIn K (.ref f15) = true)
    (a16 : PySem.W.nsIn K mainGlobals "is_role" = some (some (.ref f16)))
    (l16 : K.lookup f16 = some ⟨oc16, od16, .func (PySem.W.fnOf "is_role" "is_role" (defArgs st_is_role) (defBody st_is_role) (defScope st_is_role) .none kV16 dc16 pm16 an16 cd16 ct16), sl16⟩) (c16 : PySem.W.codeIn K cd16 "is_role" = true) (k16 : PySem.W.keepIn K (.ref f16) = true)
    (a17 : PySem.W.nsIn K mainGlobals "is_grant" = some (some (.ref f17)))
    (l17 : K.lookup f17 = some ⟨oc17, od17, .func (PySem.W.fnOf "is_grant" "is_grant" (defArgs st_is_grant) (defBody st_is_grant) (defScope st_is_grant) .none kV17 dc17 pm17 an17 cd17 ct17), sl17⟩) (c17 : PySem.W.codeIn K cd17 "is_grant" = true) (k17 : PySem.W.keepIn K (.ref f17) = true)
    (a18 : PySem.W.nsIn K mainGlobals "has_head" = some (some (.ref f18)))
    (l18 : K.lookup f18 = some ⟨oc18, od18, .func (PySem.W.fnOf "has_head" "has_head" (defArgs st_has_head) (defBody st_has_head) (defScope st_has_head) .none kV18 dc18 pm18 an18 cd18 ct18), sl18⟩) (c18 : PySem.W.codeIn K cd18 "has_head" = true) (k18 : PySem.W.keepIn K (.ref f18) = true)
    (a19 : PySem.W.nsIn K mainGlobals "are_goods" = some (some (.ref f19)))
    (l19 : K.lookup f19 = some ⟨oc19, od19, .func (PySem.W.fnOf "are_goods" "are_goods" (defArgs st_are_goods) (defBody st_are_goods) (defScope st_are_goods) .none kV19 dc19 pm19 an19 cd19 ct19), sl19⟩) (c19 : PySem.W.codeIn K cd19 "are_goods" = true) (k19 : PySem.W.keepIn K (.ref f19) = true)
    (a20 : PySem.W.nsIn K mainGlobals "are_grants" = some (some (.ref f20)))
    (l20 : K.lookup f20 = some ⟨oc20, od20, .func (PySem.W.fnOf "are_grants" "are_grants" (defArgs st_are_grants) (defBody st_are_grants) (defScope st_are_grants) .none kV20 dc20 pm20 an20 cd20 ct20), sl20⟩) (c20 : PySem.W.codeIn K cd20 "are_grants" = true) (k20 : PySem.W.keepIn K (.ref f20) = true)
    (a21 : PySem.W.nsIn K mainGlobals "is_list" = some (some (.ref f21)))
    (l21 : K.lookup f21 = some ⟨oc21, od21, .func (PySem.W.fnOf "is_list" "is_list" (defArgs st_is_list) (defBody st_is_list) (defScope st_is_list) .none kV21 dc21 pm21 an21 cd21 ct21), sl21⟩) (c21 : PySem.W.codeIn K cd21 "is_list" = true) (k21 : PySem.W.keepIn K (.ref f21) = true)
    (a22 : PySem.W.nsIn K mainGlobals "covers" = some (some (.ref f22)))
    (l22 : K.lookup f22 = some ⟨oc22, od22, .func (PySem.W.fnOf "covers" "covers" (defArgs st_covers) (defBody st_covers) (defScope st_covers) .none kV22 dc22 pm22 an22 cd22 ct22), sl22⟩) (c22 : PySem.W.codeIn K cd22 "covers" = true) (k22 : PySem.W.keepIn K (.ref f22) = true)
    (a23 : PySem.W.nsIn K mainGlobals "good_of" = some (some (.ref f23)))
    (l23 : K.lookup f23 = some ⟨oc23, od23, .func (PySem.W.fnOf "good_of" "good_of" (defArgs st_good_of) (defBody st_good_of) (defScope st_good_of) .none kV23 dc23 pm23 an23 cd23 ct23), sl23⟩) (c23 : PySem.W.codeIn K cd23 "good_of" = true) (k23 : PySem.W.keepIn K (.ref f23) = true)
    (a24 : PySem.W.nsIn K mainGlobals "entry_of" = some (some (.ref f24)))
    (l24 : K.lookup f24 = some ⟨oc24, od24, .func (PySem.W.fnOf "entry_of" "entry_of" (defArgs st_entry_of) (defBody st_entry_of) (defScope st_entry_of) .none kV24 dc24 pm24 an24 cd24 ct24), sl24⟩) (c24 : PySem.W.codeIn K cd24 "entry_of" = true) (k24 : PySem.W.keepIn K (.ref f24) = true)
    (a25 : PySem.W.nsIn K mainGlobals "role_of" = some (some (.ref f25)))
    (l25 : K.lookup f25 = some ⟨oc25, od25, .func (PySem.W.fnOf "role_of" "role_of" (defArgs st_role_of) (defBody st_role_of) (defScope st_role_of) .none kV25 dc25 pm25 an25 cd25 ct25), sl25⟩) (c25 : PySem.W.codeIn K cd25 "role_of" = true) (k25 : PySem.W.keepIn K (.ref f25) = true)
    (a26 : PySem.W.findIn K (.ref KSearch) "__init__" = some (some (.ref f26))) (i26 : PySem.W.isFn K (.ref f26) = true)
    (l26 : K.lookup f26 = some ⟨oc26, od26, .func (PySem.W.fnOf "__init__" "Search.__init__" (defArgs st_Search___init__) (defBody st_Search___init__) (defScope st_Search___init__) .none kV26 dc26 pm26 an26 cd26 ct26), sl26⟩) (c26 : PySem.W.codeIn K cd26 "Search.__init__" = true) (k26 : PySem.W.keepIn K (.ref f26) = true)
    (a27 : PySem.W.findIn K (.ref KSearch) "wanted" = some (some (.ref f27))) (i27 : PySem.W.isFn K (.ref f27) = true)
    (l27 : K.lookup f27 = some ⟨oc27, od27, .func (PySem.W.fnOf "wanted" "Search.wanted" (defArgs st_Search_wanted) (defBody st_Search_wanted) (defScope st_Search_wanted) .none kV27 dc27 pm27 an27 cd27 ct27), sl27⟩) (c27 : PySem.W.codeIn K cd27 "Search.wanted" = true) (k27 : PySem.W.keepIn K (.ref f27) = true)
    (a28 : PySem.W.findIn K (.ref KSearch) "give" = some (some (.ref f28))) (i28 : PySem.W.isFn K (.ref f28) = true)
    (l28 : K.lookup f28 = some ⟨oc28, od28, .func (PySem.W.fnOf "give" "Search.give" (defArgs st_Search_give) (defBody st_Search_give) (defScope st_Search_give) .none kV28 dc28 pm28 an28 cd28 ct28), sl28⟩) (c28 : PySem.W.codeIn K cd28 "Search.give" = true) (k28 : PySem.W.keepIn K (.ref f28) = true)
    (a29 : PySem.W.findIn K (.ref KSearch) "result" = some (some (.ref f29))) (i29 : PySem.W.isFn K (.ref f29) = true)
    (l29 : K.lookup f29 = some ⟨oc29, od29, .func (PySem.W.fnOf "result" "Search.result" (defArgs st_Search_result) (defBody st_Search_result) (defScope st_Search_result) .none kV29 dc29 pm29 an29 cd29 ct29), sl29⟩) (c29 : PySem.W.codeIn K cd29 "Search.result" = true) (k29 : PySem.W.keepIn K (.ref f29) = true)
    (a30 : PySem.W.nsIn K mainGlobals "lookup" = some (some (.ref f30)))
    (l30 : K.lookup f30 = some ⟨oc30, od30, .func (PySem.W.fnOf "lookup" "lookup" (defArgs st_lookup) (defBody st_lookup) (defScope st_lookup) .none kV30 dc30 pm30 an30 cd30 ct30), sl30⟩) (c30 : PySem.W.codeIn K cd30 "lookup" = true) (k30 : PySem.W.keepIn K (.ref f30) = true)
    (a31 : PySem.W.nsIn K mainGlobals "_law_cell" = some (some (.ref f31)))
    (l31 : K.lookup f31 = some ⟨oc31, od31, .func (PySem.W.fnOf "_law_cell" "_law_cell" (defArgs st__law_cell_v2) (defBody st__law_cell_v2) (defScope st__law_cell_v2) .none kV31 dc31 pm31 an31 cd31 ct31), sl31⟩) (c31 : PySem.W.codeIn K cd31 "_law_cell" = true) (k31 : PySem.W.keepIn K (.ref f31) = true)
    (a32 : PySem.W.nsIn K mainGlobals "_law_draws" = some (some (.ref f32)))
    (l32 : K.lookup f32 = some ⟨oc32, od32, .func (PySem.W.fnOf "_law_draws" "_law_draws" (defArgs st__law_draws) (defBody st__law_draws) (defScope st__law_draws) .none kV32 dc32 pm32 an32 cd32 ct32), sl32⟩) (c32 : PySem.W.codeIn K cd32 "_law_draws" = true) (k32 : PySem.W.keepIn K (.ref f32) = true)
    (a33 : PySem.W.nsIn K mainGlobals "_law_names" = some (some (.ref f33)))
    (l33 : K.lookup f33 = some ⟨oc33, od33, .func (PySem.W.fnOf "_law_names" "_law_names" (defArgs st__law_names_v2) (defBody st__law_names_v2) (defScope st__law_names_v2) .none kV33 dc33 pm33 an33 cd33 ct33), sl33⟩) (c33 : PySem.W.codeIn K cd33 "_law_names" = true) (k33 : PySem.W.keepIn K (.ref f33) = true)
    (a34 : PySem.W.nsIn K mainGlobals "_law_path" = some (some (.ref f34)))
    (l34 : K.lookup f34 = some ⟨oc34, od34, .func (PySem.W.fnOf "_law_path" "_law_path" (defArgs st__law_path_v3) (defBody st__law_path_v3) (defScope st__law_path_v3) .none kV34 dc34 pm34 an34 cd34 ct34), sl34⟩) (c34 : PySem.W.codeIn K cd34 "_law_path" = true) (k34 : PySem.W.keepIn K (.ref f34) = true)
    (a35 : PySem.W.nsIn K mainGlobals "_law_patterns" = some (some (.ref f35)))
    (l35 : K.lookup f35 = some ⟨oc35, od35, .func (PySem.W.fnOf "_law_patterns" "_law_patterns" (defArgs st__law_patterns) (defBody st__law_patterns) (defScope st__law_patterns) .none kV35 dc35 pm35 an35 cd35 ct35), sl35⟩) (c35 : PySem.W.codeIn K cd35 "_law_patterns" = true) (k35 : PySem.W.keepIn K (.ref f35) = true)
    (a36 : PySem.W.nsIn K mainGlobals "_law_fits" = some (some (.ref f36)))
    (l36 : K.lookup f36 = some ⟨oc36, od36, .func (PySem.W.fnOf "_law_fits" "_law_fits" (defArgs st__law_fits_v2) (defBody st__law_fits_v2) (defScope st__law_fits_v2) .none kV36 dc36 pm36 an36 cd36 ct36), sl36⟩) (c36 : PySem.W.codeIn K cd36 "_law_fits" = true) (k36 : PySem.W.keepIn K (.ref f36) = true)
    (a37 : PySem.W.nsIn K mainGlobals "_law_covers" = some (some (.ref f37)))
    (l37 : K.lookup f37 = some ⟨oc37, od37, .func (PySem.W.fnOf "_law_covers" "_law_covers" (defArgs st__law_covers_v2) (defBody st__law_covers_v2) (defScope st__law_covers_v2) .none kV37 dc37 pm37 an37 cd37 ct37), sl37⟩) (c37 : PySem.W.codeIn K cd37 "_law_covers" = true) (k37 : PySem.W.keepIn K (.ref f37) = true)
    (a38 : PySem.W.nsIn K mainGlobals "_law_list" = some (some (.ref f38)))
    (l38 : K.lookup f38 = some ⟨oc38, od38, .func (PySem.W.fnOf "_law_list" "_law_list" (defArgs st__law_list_v5) (defBody st__law_list_v5) (defScope st__law_list_v5) .none kV38 dc38 pm38 an38 cd38 ct38), sl38⟩) (c38 : PySem.W.codeIn K cd38 "_law_list" = true) (k38 : PySem.W.keepIn K (.ref f38) = true)
    (a39 : PySem.W.nsIn K mainGlobals "_law_walk" = some (some (.ref f39)))
    (l39 : K.lookup f39 = some ⟨oc39, od39, .func (PySem.W.fnOf "_law_walk" "_law_walk" (defArgs st__law_walk_v2) (defBody st__law_walk_v2) (defScope st__law_walk_v2) .none kV39 dc39 pm39 an39 cd39 ct39), sl39⟩) (c39 : PySem.W.codeIn K cd39 "_law_walk" = true) (k39 : PySem.W.keepIn K (.ref f39) = true)
    (a40 : PySem.W.nsIn K mainGlobals "_law_refused" = some (some (.ref f40)))
    (l40 : K.lookup f40 = some ⟨oc40, od40, .func (PySem.W.fnOf "_law_refused" "_law_refused" (defArgs st__law_refused) (defBody st__law_refused) (defScope st__law_refused) .none kV40 dc40 pm40 an40 cd40 ct40), sl40⟩) (c40 : PySem.W.codeIn K cd40 "_law_refused" = true) (k40 : PySem.W.keepIn K (.ref f40) = true)
    (a41 : PySem.W.nsIn K mainGlobals "law" = some (some (.ref f41)))
    (l41 : K.lookup f41 = some ⟨oc41, od41, .func (PySem.W.fnOf "law" "law" (defArgs st_law) (defBody st_law) (defScope st_law) .none kV41 dc41 pm41 an41 cd41 ct41), sl41⟩) (c41 : PySem.W.codeIn K cd41 "law" = true) (k41 : PySem.W.keepIn K (.ref f41) = true)
    (e1ChartError : PySem.W.nsIn K mainGlobals "ChartError" = some (some (.ref CChartError))) (e3ChartError : PySem.W.keepIn K (.ref CChartError) = true) (e4ChartError : PySem.W.subIn K (.ref CChartError) (.type "BaseException") = some true) (e5ChartError : PySem.W.typeIn K (.ref CChartError) = some (.type "type"))
    (e1BadState : PySem.W.nsIn K mainGlobals "BadState" = some (some (.ref CBadState))) (e3BadState : PySem.W.keepIn K (.ref CBadState) = true) (e4BadState : PySem.W.subIn K (.ref CBadState) (.type "BaseException") = some true) (e5BadState : PySem.W.typeIn K (.ref CBadState) = some (.type "type"))
    (e2ChartError : PySem.W.excIn K CChartError veB "ValueError.__new__" = true)
    (e2BadState : PySem.W.excIn K CBadState veB "ValueError.__new__" = true)
    (e6BadState : PySem.W.isClsIn K CBadState = true)
    (e7ChartErrorBadState : PySem.W.subIn K (.ref CChartError) (.ref CBadState) = some false)
    (e7BadStateBadState : PySem.W.subIn K (.ref CBadState) (.ref CBadState) = some true)
    (z_abs : PySem.W.nsIn K mainGlobals "abs" = some none)
    (z_all : PySem.W.nsIn K mainGlobals "all" = some none)
    (z_any : PySem.W.nsIn K mainGlobals "any" = some none)
    (z_bool : PySem.W.nsIn K mainGlobals "bool" = some none)
    (z_int : PySem.W.nsIn K mainGlobals "int" = some none)
    (z_isinstance : PySem.W.nsIn K mainGlobals "isinstance" = some none)
    (z_len : PySem.W.nsIn K mainGlobals "len" = some none)
    (z_list : PySem.W.nsIn K mainGlobals "list" = some none)
    (z_range : PySem.W.nsIn K mainGlobals "range" = some none)
    (z_sorted : PySem.W.nsIn K mainGlobals "sorted" = some none)
    (z_str : PySem.W.nsIn K mainGlobals "str" = some none)
    (z_tuple : PySem.W.nsIn K mainGlobals "tuple" = some none)
    (n0BadText : PySem.W.nsIn K mainGlobals "BadText" = some none)
    (n0BadDocument : PySem.W.nsIn K mainGlobals "BadDocument" = some none)
    (n0BadKey : PySem.W.nsIn K mainGlobals "BadKey" = some none)
    (n0DiskError : PySem.W.nsIn K mainGlobals "DiskError" = some none)
    (n0DiskCrashed : PySem.W.nsIn K mainGlobals "DiskCrashed" = some none)
    (n0Refused : PySem.W.nsIn K mainGlobals "Refused" = some none)
    (n0BadAct : PySem.W.nsIn K mainGlobals "BadAct" = some none)
    {t_DIGEST_SIZE : Tok} (g_DIGEST_SIZE : PySem.W.nsIn K mainGlobals "DIGEST_SIZE" = some (some (.int 18 t_DIGEST_SIZE)))
    {t_DIGITS : Tok} (g_DIGITS : PySem.W.nsIn K mainGlobals "DIGITS" = some (some (.str "0123456789" t_DIGITS)))
    {t_HEX_DIGITS : Tok} (g_HEX_DIGITS : PySem.W.nsIn K mainGlobals "HEX_DIGITS" = some (some (.str "0123456789abcdef" t_HEX_DIGITS)))
    {t_LETTERS : Tok} (g_LETTERS : PySem.W.nsIn K mainGlobals "LETTERS" = some (some (.str "abcdefghijklmnopqrstuvwxyz" t_LETTERS)))
    {t_MOST_GOODS : Tok} (g_MOST_GOODS : PySem.W.nsIn K mainGlobals "MOST_GOODS" = some (some (.int 64 t_MOST_GOODS)))
    {t_MOST_KEYS : Tok} (g_MOST_KEYS : PySem.W.nsIn K mainGlobals "MOST_KEYS" = some (some (.int 16 t_MOST_KEYS)))
    {t_MOST_LISTS : Tok} (g_MOST_LISTS : PySem.W.nsIn K mainGlobals "MOST_LISTS" = some (some (.int 32 t_MOST_LISTS)))
    {t_MOST_NAME : Tok} (g_MOST_NAME : PySem.W.nsIn K mainGlobals "MOST_NAME" = some (some (.int 12 t_MOST_NAME)))
    {t_MOST_NUMBER : Tok} (g_MOST_NUMBER : PySem.W.nsIn K mainGlobals "MOST_NUMBER" = some (some (.int 1000000000000 t_MOST_NUMBER)))
    {t_MOST_PARTS : Tok} (g_MOST_PARTS : PySem.W.nsIn K mainGlobals "MOST_PARTS" = some (some (.int 6 t_MOST_PARTS)))
    {t_MOST_PATH : Tok} (g_MOST_PATH : PySem.W.nsIn K mainGlobals "MOST_PATH" = some (some (.int 60 t_MOST_PATH)))
    {t_MOST_PATTERNS : Tok} (g_MOST_PATTERNS : PySem.W.nsIn K mainGlobals "MOST_PATTERNS" = some (some (.int 8 t_MOST_PATTERNS)))
    (g_NAMES : GT K mg "NAMES" ["charter", "stamp", "shelf", "list"])
    {t_PATH_CHARS : Tok} (g_PATH_CHARS : PySem.W.nsIn K mainGlobals "PATH_CHARS" = some (some (.str "abcdefghijklmnopqrstuvwxyz0123456789.-_" t_PATH_CHARS)))
    {t_PATTERN_CHARS : Tok} (g_PATTERN_CHARS : PySem.W.nsIn K mainGlobals "PATTERN_CHARS" = some (some (.str "abcdefghijklmnopqrstuvwxyz0123456789.-_*" t_PATTERN_CHARS)))
    : ∃ fd : FuncData, (∀ (s : Shared) (v : Value), BindsTo s fd ⟨[v], []⟩ [("_law_script", v)]) ∧ ∀ base : Heap, K.In base → base.Ns mainGlobals mg → FnOk P w K mg base (L2.CX P w) 28 fa fd ["_law_script"] (spM K mg f_law) := by
  have e := hfa.symm.trans (PySem.W.mg_of X G a41)
  cases e
  have m_BadState : MtOk K mg "BadState" mt_BadState := by
    intro x b C hC hx
    unfold mt_BadState at hx
    split at hx
    · rename_i ex
      subst ex
      cases hx
      exact ⟨_, _, PySem.W.mg_of X G e1ChartError, PySem.W.mg_of X G e1BadState, exm_of e4BadState e6BadState e5BadState e7ChartErrorBadState⟩
    split at hx
    · rename_i ex
      subst ex
      rw [show mg (Str.ofString "BadText") = none from PySem.W.mg_none_of X G n0BadText] at hC
      cases hC
    split at hx
    · rename_i ex
      subst ex
      rw [show mg (Str.ofString "BadDocument") = none from PySem.W.mg_none_of X G n0BadDocument] at hC
      cases hC
    split at hx
    · rename_i ex
      subst ex
      rw [show mg (Str.ofString "BadKey") = none from PySem.W.mg_none_of X G n0BadKey] at hC
      cases hC
    split at hx
    · rename_i ex
      subst ex
      cases hx
      exact ⟨_, _, PySem.W.mg_of X G e1BadState, PySem.W.mg_of X G e1BadState, exm_of e4BadState e6BadState e5BadState e7BadStateBadState⟩
    split at hx
    · rename_i ex
      subst ex
      rw [show mg (Str.ofString "DiskError") = none from PySem.W.mg_none_of X G n0DiskError] at hC
      cases hC
    split at hx
    · rename_i ex
      subst ex
      rw [show mg (Str.ofString "DiskCrashed") = none from PySem.W.mg_none_of X G n0DiskCrashed] at hC
      cases hC
    split at hx
    · rename_i ex
      subst ex
      rw [show mg (Str.ofString "Refused") = none from PySem.W.mg_none_of X G n0Refused] at hC
      cases hC
    split at hx
    · rename_i ex
      subst ex
      rw [show mg (Str.ofString "BadAct") = none from PySem.W.mg_none_of X G n0BadAct] at hC
      cases hC
    cases hx
  have clSearch : Cls K KSearch := ⟨pgSearch, hdSearch, poSearch, saSearch⟩
  have T : Tx K mg := { z_abs := PySem.W.mg_none_of X G z_abs, z_all := PySem.W.mg_none_of X G z_all, z_any := PySem.W.mg_none_of X G z_any, z_bool := PySem.W.mg_none_of X G z_bool, z_int := PySem.W.mg_none_of X G z_int, z_isinstance := PySem.W.mg_none_of X G z_isinstance, z_len := PySem.W.mg_none_of X G z_len, z_list := PySem.W.mg_none_of X G z_list, z_range := PySem.W.mg_none_of X G z_range, z_sorted := PySem.W.mg_none_of X G z_sorted, z_str := PySem.W.mg_none_of X G z_str, z_tuple := PySem.W.mg_none_of X G z_tuple, x_ChartError := ⟨CChartError, PySem.W.mg_of X G e1ChartError, e2ChartError, e3ChartError, e4ChartError, e5ChartError⟩, x_BadState := ⟨CBadState, PySem.W.mg_of X G e1BadState, e2BadState, e3BadState, e4BadState, e5BadState⟩, m_BadState := m_BadState, g_DIGEST_SIZE := ⟨_, PySem.W.mg_of X G g_DIGEST_SIZE⟩, g_DIGITS := ⟨_, PySem.W.mg_of X G g_DIGITS⟩, g_HEX_DIGITS := ⟨_, PySem.W.mg_of X G g_HEX_DIGITS⟩, g_LETTERS := ⟨_, PySem.W.mg_of X G g_LETTERS⟩, g_MOST_GOODS := ⟨_, PySem.W.mg_of X G g_MOST_GOODS⟩, g_MOST_KEYS := ⟨_, PySem.W.mg_of X G g_MOST_KEYS⟩, g_MOST_LISTS := ⟨_, PySem.W.mg_of X G g_MOST_LISTS⟩, g_MOST_NAME := ⟨_, PySem.W.mg_of X G g_MOST_NAME⟩, g_MOST_NUMBER := ⟨_, PySem.W.mg_of X G g_MOST_NUMBER⟩, g_MOST_PARTS := ⟨_, PySem.W.mg_of X G g_MOST_PARTS⟩, g_MOST_PATH := ⟨_, PySem.W.mg_of X G g_MOST_PATH⟩, g_MOST_PATTERNS := ⟨_, PySem.W.mg_of X G g_MOST_PATTERNS⟩, g_NAMES := g_NAMES, g_PATH_CHARS := ⟨_, PySem.W.mg_of X G g_PATH_CHARS⟩, g_PATTERN_CHARS := ⟨_, PySem.W.mg_of X G g_PATTERN_CHARS⟩, f_Search_outcome := ⟨_, PySem.W.mg_of X G aCSearch, clSearch, nSearch_outcome⟩, f_Search_path := ⟨_, PySem.W.mg_of X G aCSearch, clSearch, nSearch_path⟩, f_Search_shelf := ⟨_, PySem.W.mg_of X G aCSearch, clSearch, nSearch_shelf⟩, f_Search_visited := ⟨_, PySem.W.mg_of X G aCSearch, clSearch, nSearch_visited⟩, f_Search_waiting := ⟨_, PySem.W.mg_of X G aCSearch, clSearch, nSearch_waiting⟩, gc_BadState := ⟨_, PySem.W.mg_of X G e1BadState⟩, dummy := trivial }
  have F0 := fun_mk (st := st_made_of) l0 c0 k0
  have F1 := fun_mk (st := st_is_list_name) l1 c1 k1
  have F2 := fun_mk (st := st_is_key) l2 c2 k2
  have F3 := fun_mk (st := st_has_parts) l3 c3 k3
  have F4 := fun_mk (st := st_is_path) l4 c4 k4
  have F5 := fun_mk (st := st_is_pattern) l5 c5 k5
  have F6 := fun_mk (st := st_ends_behind) l6 c6 k6
  have F7 := fun_mk (st := st_part_matches) l7 c7 k7
  have F8 := fun_mk (st := st_matches) l8 c8 k8
  have F9 := fun_mk (st := st_is_integer) l9 c9 k9
  have F10 := fun_mk (st := st_is_row) l10 c10 k10
  have F11 := fun_mk (st := st_is_table) l11 c11 k11
  have F12 := fun_mk (st := st_is_version) l12 c12 k12
  have F13 := fun_mk (st := st_is_amount) l13 c13 k13
  have F14 := fun_mk (st := st_is_digest) l14 c14 k14
  have F15 := fun_mk (st := st_is_ascending) l15 c15 k15
  have F16 := fun_mk (st := st_is_role) l16 c16 k16
  have F17 := fun_mk (st := st_is_grant) l17 c17 k17
  have F18 := fun_mk (st := st_has_head) l18 c18 k18
  have F19 := fun_mk (st := st_are_goods) l19 c19 k19
  have F20 := fun_mk (st := st_are_grants) l20 c20 k20
  have F21 := fun_mk (st := st_is_list) l21 c21 k21
  have F22 := fun_mk (st := st_covers) l22 c22 k22
  have F23 := fun_mk (st := st_good_of) l23 c23 k23
  have F24 := fun_mk (st := st_entry_of) l24 c24 k24
  have F25 := fun_mk (st := st_role_of) l25 c25 k25
  have F26 := fun_mk (st := st_Search___init__) l26 c26 k26
  have F27 := fun_mk (st := st_Search_wanted) l27 c27 k27
  have F28 := fun_mk (st := st_Search_give) l28 c28 k28
  have F29 := fun_mk (st := st_Search_result) l29 c29 k29
  have F30 := fun_mk (st := st_lookup) l30 c30 k30
  have F31 := fun_mk (st := st__law_cell_v2) l31 c31 k31
  have F32 := fun_mk (st := st__law_draws) l32 c32 k32
  have F33 := fun_mk (st := st__law_names_v2) l33 c33 k33
  have F34 := fun_mk (st := st__law_path_v3) l34 c34 k34
  have F35 := fun_mk (st := st__law_patterns) l35 c35 k35
  have F36 := fun_mk (st := st__law_fits_v2) l36 c36 k36
  have F37 := fun_mk (st := st__law_covers_v2) l37 c37 k37
  have F38 := fun_mk (st := st__law_list_v5) l38 c38 k38
  have F39 := fun_mk (st := st__law_walk_v2) l39 c39 k39
  have F40 := fun_mk (st := st__law_refused) l40 c40 k40
  have F41 := fun_mk (st := st_law) l41 c41 k41
  refine ⟨PySem.W.fnOf "law" "law" (defArgs st_law) (defBody st_law) (defScope st_law) .none kV41 dc41 pm41 an41 cd41 ct41, fun s v => .of_eq rfl, fun base hb1 hb2 => ?_⟩
  have c_made_of : CalM P w K mg base 1 "made_of" f_made_of := ⟨_, _, ["text", "chars"], PySem.W.mg_of X G a0, k0, F0.binds (ps := ["text", "chars"]) (fun _ _ _ _ _ _ us hl => match us, hl with | [_, _], _ => rfl), ok_made_of T F0 ⟩
  have c_is_list_name : CalM P w K mg base 2 "is_list_name" f_is_list_name := ⟨_, _, ["value"], PySem.W.mg_of X G a1, k1, F1.binds (ps := ["value"]) (fun _ _ _ _ _ _ us hl => match us, hl with | [_], _ => rfl), ok_is_list_name T F1 c_made_of⟩
  have c_is_key : CalM P w K mg base 2 "is_key" f_is_key := ⟨_, _, ["value"], PySem.W.mg_of X G a2, k2, F2.binds (ps := ["value"]) (fun _ _ _ _ _ _ us hl => match us, hl with | [_], _ => rfl), ok_is_key T F2 c_made_of⟩
  have c_has_parts : CalM P w K mg base 2 "has_parts" f_has_parts := ⟨_, _, ["value", "chars"], PySem.W.mg_of X G a3, k3, F3.binds (ps := ["value", "chars"]) (fun _ _ _ _ _ _ us hl => match us, hl with | [_, _], _ => rfl), ok_has_parts T F3 c_made_of⟩
  have c_is_path : CalM P w K mg base 3 "is_path" f_is_path := ⟨_, _, ["value"], PySem.W.mg_of X G a4, k4, F4.binds (ps := ["value"]) (fun _ _ _ _ _ _ us hl => match us, hl with | [_], _ => rfl), ok_is_path T F4 c_has_parts⟩
  have c_is_pattern : CalM P w K mg base 3 "is_pattern" f_is_pattern := ⟨_, _, ["value"], PySem.W.mg_of X G a5, k5, F5.binds (ps := ["value"]) (fun _ _ _ _ _ _ us hl => match us, hl with | [_], _ => rfl), ok_is_pattern T F5 c_has_parts⟩
  have c_ends_behind : CalM P w K mg base 1 "ends_behind" f_ends_behind := ⟨_, _, ["ends", "char", "part"], PySem.W.mg_of X G a6, k6, F6.binds (ps := ["ends", "char", "part"]) (fun _ _ _ _ _ _ us hl => match us, hl with | [_, _, _], _ => rfl), ok_ends_behind T F6 ⟩
  have c_part_matches : CalM P w K mg base 2 "part_matches" f_part_matches := ⟨_, _, ["wanted", "part"], PySem.W.mg_of X G a7, k7, F7.binds (ps := ["wanted", "part"]) (fun _ _ _ _ _ _ us hl => match us, hl with | [_, _], _ => rfl), ok_part_matches T F7 c_ends_behind⟩
  have c_matches : CalM P w K mg base 3 "matches" f_matches := ⟨_, _, ["pattern", "path"], PySem.W.mg_of X G a8, k8, F8.binds (ps := ["pattern", "path"]) (fun _ _ _ _ _ _ us hl => match us, hl with | [_, _], _ => rfl), ok_matches T F8 c_part_matches⟩
  have c_is_integer : CalM P w K mg base 1 "is_integer" f_is_integer := ⟨_, _, ["value", "least", "greatest"], PySem.W.mg_of X G a9, k9, F9.binds (ps := ["value", "least", "greatest"]) (fun _ _ _ _ _ _ us hl => match us, hl with | [_, _, _], _ => rfl), ok_is_integer T F9 ⟩
  have c_is_row : CalM P w K mg base 1 "is_row" f_is_row := ⟨_, _, ["value", "size"], PySem.W.mg_of X G a10, k10, F10.binds (ps := ["value", "size"]) (fun _ _ _ _ _ _ us hl => match us, hl with | [_, _], _ => rfl), ok_is_row T F10 ⟩
  have c_is_table : CalM P w K mg base 1 "is_table" f_is_table := ⟨_, _, ["value", "most"], PySem.W.mg_of X G a11, k11, F11.binds (ps := ["value", "most"]) (fun _ _ _ _ _ _ us hl => match us, hl with | [_, _], _ => rfl), ok_is_table T F11 ⟩
  have c_is_version : CalM P w K mg base 2 "is_version" f_is_version := ⟨_, _, ["value"], PySem.W.mg_of X G a12, k12, F12.binds (ps := ["value"]) (fun _ _ _ _ _ _ us hl => match us, hl with | [_], _ => rfl), ok_is_version T F12 c_is_integer⟩
  have c_is_amount : CalM P w K mg base 2 "is_amount" f_is_amount := ⟨_, _, ["value"], PySem.W.mg_of X G a13, k13, F13.binds (ps := ["value"]) (fun _ _ _ _ _ _ us hl => match us, hl with | [_], _ => rfl), ok_is_amount T F13 c_is_integer⟩
  have c_is_digest : CalM P w K mg base 1 "is_digest" f_is_digest := ⟨_, _, ["value"], PySem.W.mg_of X G a14, k14, F14.binds (ps := ["value"]) (fun _ _ _ _ _ _ us hl => match us, hl with | [_], _ => rfl), ok_is_digest T F14 ⟩
  have c_is_ascending : CalM P w K mg base 1 "is_ascending" f_is_ascending := ⟨_, _, ["texts"], PySem.W.mg_of X G a15, k15, F15.binds (ps := ["texts"]) (fun _ _ _ _ _ _ us hl => match us, hl with | [_], _ => rfl), ok_is_ascending T F15 ⟩
  have c_is_role : CalM P w K mg base 3 "is_role" f_is_role := ⟨_, _, ["value"], PySem.W.mg_of X G a16, k16, F16.binds (ps := ["value"]) (fun _ _ _ _ _ _ us hl => match us, hl with | [_], _ => rfl), ok_is_role T F16 c_is_ascending c_is_integer c_is_key c_is_row c_is_table⟩
  have c_is_grant : CalM P w K mg base 4 "is_grant" f_is_grant := ⟨_, _, ["value"], PySem.W.mg_of X G a17, k17, F17.binds (ps := ["value"]) (fun _ _ _ _ _ _ us hl => match us, hl with | [_], _ => rfl), ok_is_grant T F17 c_is_integer c_is_list_name c_is_pattern c_is_role c_is_row c_is_table⟩
  have c_has_head : CalM P w K mg base 3 "has_head" f_has_head := ⟨_, _, ["value", "kind", "at"], PySem.W.mg_of X G a18, k18, F18.binds (ps := ["value", "kind", "at"]) (fun _ _ _ _ _ _ us hl => match us, hl with | [_, _, _], _ => rfl), ok_has_head T F18 c_is_amount c_is_version⟩
  have c_are_goods : CalM P w K mg base 4 "are_goods" f_are_goods := ⟨_, _, ["value"], PySem.W.mg_of X G a19, k19, F19.binds (ps := ["value"]) (fun _ _ _ _ _ _ us hl => match us, hl with | [_], _ => rfl), ok_are_goods T F19 c_is_amount c_is_ascending c_is_digest c_is_path c_is_row c_is_table⟩
  have c_are_grants : CalM P w K mg base 5 "are_grants" f_are_grants := ⟨_, _, ["value", "name"], PySem.W.mg_of X G a20, k20, F20.binds (ps := ["value", "name"]) (fun _ _ _ _ _ _ us hl => match us, hl with | [_, _], _ => rfl), ok_are_grants T F20 c_is_grant c_is_table⟩
  have c_is_list : CalM P w K mg base 6 "is_list" f_is_list := ⟨_, _, ["value"], PySem.W.mg_of X G a21, k21, F21.binds (ps := ["value"]) (fun _ _ _ _ _ _ us hl => match us, hl with | [_], _ => rfl), ok_is_list T F21 c_are_goods c_are_grants c_has_head c_is_list_name c_is_row⟩
  have c_covers : CalM P w K mg base 4 "covers" f_covers := ⟨_, _, ["grant", "path"], PySem.W.mg_of X G a22, k22, F22.binds (ps := ["grant", "path"]) (fun _ _ _ _ _ _ us hl => match us, hl with | [_, _], _ => rfl), ok_covers T F22 c_matches⟩
  have c_good_of : CalM P w K mg base 1 "good_of" f_good_of := ⟨_, _, ["document", "path"], PySem.W.mg_of X G a23, k23, F23.binds (ps := ["document", "path"]) (fun _ _ _ _ _ _ us hl => match us, hl with | [_, _], _ => rfl), ok_good_of T F23 ⟩
  have c_entry_of : CalM P w K mg base 1 "entry_of" f_entry_of := ⟨_, _, ["document", "name"], PySem.W.mg_of X G a24, k24, F24.binds (ps := ["document", "name"]) (fun _ _ _ _ _ _ us hl => match us, hl with | [_, _], _ => rfl), ok_entry_of T F24 ⟩
  have c_role_of : CalM P w K mg base 1 "role_of" f_role_of := ⟨_, _, ["charter", "name"], PySem.W.mg_of X G a25, k25, F25.binds (ps := ["charter", "name"]) (fun _ _ _ _ _ _ us hl => match us, hl with | [_, _], _ => rfl), ok_role_of T F25 ⟩
  have c_Search___init__ : MkM (L2.CX P w) P w K mg base 2 "Search" f_Search___init__ := ⟨_, _, _, ["self", "charter", "shelf", "path"], PySem.W.mg_of X G aCSearch, ⟨mkSearch, a26, i26, kcSearch⟩, F26.binds (ps := ["self", "charter", "shelf", "path"]) (fun _ _ _ _ _ _ us hl => match us, hl with | [_, _, _, _], _ => rfl), ok_Search___init__ T F26 c_role_of⟩
  have c_Search_wanted : MeM (L2.CX P w) P w K mg base 1 "Search" "wanted" f_Search_wanted := ⟨_, _, _, ["self"], PySem.W.mg_of X G aCSearch, clSearch, ⟨a27, i27, k27⟩, F27.binds (ps := ["self"]) (fun _ _ _ _ _ _ us hl => match us, hl with | [_], _ => rfl), ok_Search_wanted T F27 ⟩
  have c_Search_give : MeM (L2.CX P w) P w K mg base 7 "Search" "give" f_Search_give := ⟨_, _, _, ["self", "document"], PySem.W.mg_of X G aCSearch, clSearch, ⟨a28, i28, k28⟩, F28.binds (ps := ["self", "document"]) (fun _ _ _ _ _ _ us hl => match us, hl with | [_, _], _ => rfl), ok_Search_give T F28 c_Search_wanted c_covers c_entry_of c_good_of c_is_list⟩
  have c_Search_result : MeM (L2.CX P w) P w K mg base 2 "Search" "result" f_Search_result := ⟨_, _, _, ["self"], PySem.W.mg_of X G aCSearch, clSearch, ⟨a29, i29, k29⟩, F29.binds (ps := ["self"]) (fun _ _ _ _ _ _ us hl => match us, hl with | [_], _ => rfl), ok_Search_result T F29 c_Search_wanted⟩
  have c_lookup : CalM P w K mg base 8 "lookup" f_lookup := ⟨_, _, ["charter", "shelf", "lists", "path"], PySem.W.mg_of X G a30, k30, F30.binds (ps := ["charter", "shelf", "lists", "path"]) (fun _ _ _ _ _ _ us hl => match us, hl with | [_, _, _, _], _ => rfl), ok_lookup T F30 c_Search___init__ c_Search_give c_Search_result c_Search_wanted⟩
  have c__law_cell : CalM P w K mg base 1 "_law_cell" f__law_cell_v2 := ⟨_, _, ["_law_script", "_law_k"], PySem.W.mg_of X G a31, k31, F31.binds (ps := ["_law_script", "_law_k"]) (fun _ _ _ _ _ _ us hl => match us, hl with | [_, _], _ => rfl), ok__law_cell_v2 T F31 ⟩
  have c__law_draws : CalM P w K mg base 1 "_law_draws" f__law_draws := ⟨_, _, ["_law_script", "_law_start", "_law_most"], PySem.W.mg_of X G a32, k32, F32.binds (ps := ["_law_script", "_law_start", "_law_most"]) (fun _ _ _ _ _ _ us hl => match us, hl with | [_, _, _], _ => rfl), ok__law_draws T F32 ⟩
  have c__law_names : CalM P w K mg base 1 "_law_names" f__law_names_v2 := ⟨_, _, [], PySem.W.mg_of X G a33, k33, F33.binds (ps := []) (fun _ _ _ _ _ _ us hl => match us, hl with | [], _ => rfl), ok__law_names_v2 T F33 ⟩
  have c__law_path : CalM P w K mg base 1 "_law_path" f__law_path_v3 := ⟨_, _, ["_law_number"], PySem.W.mg_of X G a34, k34, F34.binds (ps := ["_law_number"]) (fun _ _ _ _ _ _ us hl => match us, hl with | [_], _ => rfl), ok__law_path_v3 T F34 ⟩
  have c__law_patterns : CalM P w K mg base 1 "_law_patterns" f__law_patterns := ⟨_, _, ["_law_number"], PySem.W.mg_of X G a35, k35, F35.binds (ps := ["_law_number"]) (fun _ _ _ _ _ _ us hl => match us, hl with | [_], _ => rfl), ok__law_patterns T F35 ⟩
  have rec__law_fits_v2 : ∀ n, CalM P w K mg base (0 + n + 1) "_law_fits" (F__law_fits_v2 n 0) := by
    intro n
    induction n with
    | zero => exact ⟨_, _, ["_law_mark", "_law_part"], PySem.W.mg_of X G a36, k36, F36.binds (ps := ["_law_mark", "_law_part"]) (fun _ _ _ _ _ _ us hl => match us, hl with | [_, _], _ => rfl), okBad F36 sc__law_fits_v2⟩
    | succ n ih => exact ⟨_, _, ["_law_mark", "_law_part"], PySem.W.mg_of X G a36, k36, F36.binds (ps := ["_law_mark", "_law_part"]) (fun _ _ _ _ _ _ us hl => match us, hl with | [_, _], _ => rfl), ok__law_fits_v2 T F36  (by omega) ih⟩
  have c__law_fits : CalM P w K mg base 25 "_law_fits" f__law_fits_v2 := (rec__law_fits_v2 FUEL)
  have c__law_covers : CalM P w K mg base 26 "_law_covers" f__law_covers_v2 := ⟨_, _, ["_law_patterns_here", "_law_path_here"], PySem.W.mg_of X G a37, k37, F37.binds (ps := ["_law_patterns_here", "_law_path_here"]) (fun _ _ _ _ _ _ us hl => match us, hl with | [_, _], _ => rfl), ok__law_covers_v2 T F37 c__law_fits⟩
  have c__law_list : CalM P w K mg base 2 "_law_list" f__law_list_v5 := ⟨_, _, ["_law_name", "_law_number", "_law_key"], PySem.W.mg_of X G a38, k38, F38.binds (ps := ["_law_name", "_law_number", "_law_key"]) (fun _ _ _ _ _ _ us hl => match us, hl with | [_, _, _], _ => rfl), ok__law_list_v5 T F38 c__law_names c__law_path c__law_patterns⟩
  have c__law_walk : CalM P w K mg base 27 "_law_walk" f__law_walk_v2 := ⟨_, _, ["_law_role", "_law_lists", "_law_named", "_law_path_here"], PySem.W.mg_of X G a39, k39, F39.binds (ps := ["_law_role", "_law_lists", "_law_named", "_law_path_here"]) (fun _ _ _ _ _ _ us hl => match us, hl with | [_, _, _, _], _ => rfl), ok__law_walk_v2 T F39 c__law_covers⟩
  have c__law_refused : CalM P w K mg base 8 "_law_refused" f__law_refused := ⟨_, _, ["_law_search", "_law_document"], PySem.W.mg_of X G a40, k40, F40.binds (ps := ["_law_search", "_law_document"]) (fun _ _ _ _ _ _ us hl => match us, hl with | [_, _], _ => rfl), ok__law_refused T F40 c_Search_give⟩
  exact ok_law T F41 c_Search___init__ c_Search_give c_Search_result c_Search_wanted c__law_cell c__law_draws c__law_list c__law_names c__law_path c__law_refused c__law_walk c_lookup
theorem walk {l : PySem.W.OpenLaw} {q : Program} {loose : List Str} {XP : (Str → Option Value) → Heap → Prop} {YP : World → Heap → Prop} {d : DefRec} {K : Params → PySem.W.Frag} (L : LawOk f_law) (hn : l.most = some 63) (hdf : d.params.defaults = [])
    (hY : ∀ (w : World) (h : Heap), YP w h → (K w.params).In h)
    (F : ∀ (w : World) (mg : Str → Option Value) (fa : Addr) (h : Heap), (K w.params).In h → h.Ns mainGlobals mg → mg d.name = some (.ref fa) →
      ∃ fd : FuncData, (∀ (s : Shared) (u : Value), BindsTo s fd ⟨[u], []⟩ [("_law_script", u)]) ∧ ∀ base : Heap, (K w.params).In base → base.Ns mainGlobals mg → FnOk l.prog w (K w.params) mg base (L2.CX l.prog w) 28 fa fd ["_law_script"] (spM (K w.params) mg f_law)) :
    PySem.W.WalkO q loose XP YP l.row.toRowW d [] (fun f vs => PySem.call f vs) :=
  HM.walk_M (k := 28) (x := "_law_script") L hn hdf ⟨rfl, by decide, by decide⟩ hY F
end G
set_option Elab.async false
set_option linter.all false
set_option maxRecDepth 100000
set_option maxHeartbeats 4000000
namespace HM
open PySem L2
/-! ### the mirrors evaluated -/
section
variable {α β : Type} {e : EN} {h h1 : LH} {d : D}
@[simp] theorem bind_ok {a : α} {f : α → LH → Res β} : (Res.ok a h).bind f = f a h := rfl
@[simp] theorem bind_bad {f : α → LH → Res β} : (Res.bad : Res α).bind f = .bad := rfl
@[simp] theorem bind_exc {x : XO} {f : α → LH → Res β} : (Res.exc x h : Res α).bind f = .exc x h := rfl
@[simp] theorem rs_ok {a : α} {f : α → LH → RSt} : rsBind (Res.ok a h) e f = f a h := rfl
@[simp] theorem rs_bad {f : α → LH → RSt} : rsBind (Res.bad : Res α) e f = .bad := rfl
@[simp] theorem rs_exc {x : XO} {f : α → LH → RSt} : rsBind (Res.exc x h : Res α) e f = .exc x e h := rfl
@[simp] theorem ev_var {i : Nat} : mVar i e h = match e[i]? with | some (some d) => .ok d h | _ => .bad := rfl
@[simp] theorem ev_c : mC d e h = .ok d h := rfl
@[simp] theorem ev_op {f : D → D → LH → Res D} {a b : M D} : mOp f a b e h = (a e h).bind fun x h1 => (b e h1).bind fun y h2 => f x y h2 := rfl
@[simp] theorem ev_un {f : D → LH → Res D} {a : M D} : mUn f a e h = (a e h).bind fun x h1 => f x h1 := rfl
@[simp] theorem ev_nil : mNil e h = .ok [] h := rfl
@[simp] theorem ev_cons {a : M D} {r : M (List D)} : mCons a r e h = (a e h).bind fun x h1 => (r e h1).bind fun xs h2 => .ok (x :: xs) h2 := rfl
@[simp] theorem ev_app {f : MF} {a : M (List D)} : mApp f a e h = (a e h).bind fun xs h1 => f xs h1 := rfl
@[simp] theorem ev_app0 {f : MF} : mApp0 f e h = match f [] h with | .ok d h1 => .ok d h1 | .exc _ _ => .bad | .bad => .bad := rfl
@[simp] theorem ev_tst {a : M D} : mTst a e h = (a e h).bind fun x h1 => match x with | .bl b => .ok b h1 | _ => .bad := rfl
@[simp] theorem ev_tAnd {a b : M Bool} : mTAnd a b e h = (a e h).bind fun x h1 => if x then b e h1 else .ok false h1 := rfl
@[simp] theorem ev_tOr {a b : M Bool} : mTOr a b e h = (a e h).bind fun x h1 => if x then .ok true h1 else b e h1 := rfl
@[simp] theorem ev_tNot {a : M Bool} : mTNot a e h = (a e h).bind fun x h1 => .ok (!x) h1 := rfl
@[simp] theorem ev_tru {a : M D} : mTru a e h = (a e h).bind fun d h1 => match truD d h1 with | some b => .ok b h1 | none => .bad := rfl
def kAnd (x : D) (b : M D) (e : EN) (h : LH) : Res D := match x with
  | .bl true => b e h
  | .bl false => .ok (.bl false) h
  | _ => .bad
def kOr (x : D) (b : M D) (e : EN) (h : LH) : Res D := match x with
  | .bl true => .ok (.bl true) h
  | .bl false => b e h
  | _ => .bad
@[simp] theorem ev_and {a b : M D} : mAnd a b e h = (a e h).bind fun x h1 => kAnd x b e h1 := rfl
@[simp] theorem ev_or {a b : M D} : mOr a b e h = (a e h).bind fun x h1 => kOr x b e h1 := rfl
@[simp] theorem kAnd_bl {b : M D} {t : Bool} : kAnd (.bl t) b e h = if t then b e h else .ok (.bl false) h := by cases t <;> rfl
@[simp] theorem kOr_bl {b : M D} {t : Bool} : kOr (.bl t) b e h = if t then .ok (.bl true) h else b e h := by cases t <;> rfl
@[simp] theorem ev_not {a : M D} : mNot a e h = (a e h).bind fun x h1 => match x with | .bl b => .ok (.bl (!b)) h1 | _ => .bad := rfl
@[simp] theorem ev_ifE {c : M Bool} {a b : M D} : mIfE c a b e h = (c e h).bind fun x h1 => if x then a e h1 else b e h1 := rfl
def kCh (z : D) (c : M D) (g : D → D → LH → Res D) (y : D) (e : EN) (h : LH) : Res D := match z with
  | .bl true => (c e h).bind fun w h4 => g y w h4
  | .bl false => .ok (.bl false) h
  | _ => .bad
@[simp] theorem ev_chain {f g : D → D → LH → Res D} {a b c : M D} : mChain f g a b c e h = (a e h).bind fun x h1 => (b e h1).bind fun y h2 => (f x y h2).bind fun z h3 => kCh z c g y e h3 := rfl
@[simp] theorem kCh_bl {c : M D} {g : D → D → LH → Res D} {y : D} {t : Bool} : kCh (.bl t) c g y e h = if t then (c e h).bind fun w h4 => g y w h4 else .ok (.bl false) h := by cases t <;> rfl
@[simp] theorem ev_tup {a : M (List D)} : mTup a e h = (a e h).bind fun xs h1 => if xs.length ≤ 16777216 then .ok (.tup xs) h1 else .bad := rfl
@[simp] theorem ev_lst {a : M (List D)} : mLst a e h = (a e h).bind fun xs h1 => if xs.length ≤ 16777216 then .ok (.ref h1.length) (h1 ++ [.lst xs]) else .bad := rfl
@[simp] theorem ev_isI {b : BT} {a : M D} : mIsI b a e h = (a e h).bind fun d h1 => match tyD d h1 with | some t => .ok (.bl (isB t b)) h1 | Option.none => .bad := rfl
@[simp] theorem ev_noP : mNoP e h = .ok none h := rfl
@[simp] theorem ev_part {a : M D} : mPart a e h = (a e h).bind fun d h1 => match d with | .int i => .ok (some i) h1 | _ => .bad := rfl
@[simp] theorem ev_sl {a : M D} {lo hi : M (Option Int)} : mSl a lo hi e h = (a e h).bind fun d h1 => (lo e h1).bind fun l h2 => (hi e h2).bind fun u h3 => dSl d l u h3 := rfl
@[simp] theorem ev_met {ck : D → LH → Bool} {f : MM} {o : M D} {a : M (List D)} : mMet ck f o a e h = (o e h).bind fun x h1 => if ck x h1 then (a e h1).bind fun xs h2 => f x xs h2 else .bad := rfl
theorem ev_seq {a b : MS} : sSeq a b e h = match a e h with
  | .next e1 h1 => b e1 h1
  | .ret d h1 => .ret d h1
  | .brk e1 h1 => .brk e1 h1
  | .cnt e1 h1 => .cnt e1 h1
  | .exc x e1 h1 => .exc x e1 h1
  | .bad => .bad := rfl
@[simp] theorem ev_snil : sNil e h = .next e h := rfl
@[simp] theorem ev_if {c : M Bool} {a b : MS} : sIf c a b e h = rsBind (c e h) e fun x h1 => if x then a e h1 else b e h1 := rfl
@[simp] theorem ev_set {i : Nat} {a : M D} : sSet i a e h = rsBind (a e h) e fun x h1 => .next (e.set i (some x)) h1 := rfl
@[simp] theorem ev_ret {a : M D} : sRet a e h = rsBind (a e h) e fun x h1 => .ret x h1 := rfl
@[simp] theorem ev_retN : sRetN e h = .ret .non h := rfl
@[simp] theorem ev_expr {a : M D} : sExpr a e h = rsBind (a e h) e fun _ h1 => .next e h1 := rfl
@[simp] theorem ev_brk : sBrk e h = .brk e h := rfl
@[simp] theorem ev_cnt : sCnt e h = .cnt e h := rfl
@[simp] theorem ev_setL {o i a : M D} : sSetL o i a e h = rsBind (a e h) e fun v h1 => rsBind (o e h1) e fun x h2 => rsBind (i e h2) e fun y h3 => match setL x y v h3 with | some h4 => .next e h4 | none => .bad := rfl
@[simp] theorem ev_sTup {is : List Nat} {a : M D} : sTup is a e h = rsBind (a e h) e fun v h1 => match tnSet (.tp is) v e with | some e1 => .next e1 h1 | none => .bad := rfl
@[simp] theorem ev_aug {f : D → D → LH → Res D} {i : Nat} {a : M D} : sAug f i a e h = match e[i]? with
  | some (some x) => rsBind (a e h) e fun y h1 => rsBind (f x y h1) e fun z h2 => .next (e.set i (some z)) h2
  | _ => .bad := rfl
@[simp] theorem ev_for {it : M (IT × Nat)} {t : TN} {b : MS} : sFor it t b e h = rsBind (it e h) e fun g h1 => loopF g.1 t b g.2 0 e h1 := rfl
@[simp] theorem ev_while {c : M Bool} {b : MS} {n : Nat} : sWhile n c b e h = loopW c b n e h := rfl
@[simp] theorem ev_any {a : M D} : iAny a e h = (a e h).bind fun d h1 => match d with
  | .tup xs => .ok (itL xs, xs.length) h1
  | .scr ns => .ok (itL (ns.map D.int), ns.length) h1
  | .str s => .ok (itL (s.map fun c => D.str [c]), s.length) h1
  | .ref i => match h1[i]? with
    | some (.lst xs) => .ok (itO i, xs.length) h1
    | _ => .bad
  | _ => .bad := rfl
@[simp] theorem ev_lc {it : M (IT × Nat)} {t : TN} {c : M Bool} {y : M D} {vs : List Nat} : mLc it t c y vs e h = (it e h).bind fun g h1 => loopC g.1 t c y (wipeM e vs) h1.length g.2 0 (h1 ++ [.lst []]) := rfl
end
theorem dAdd_int {a b : Int} {h : LH} : dAdd (.int a) (.int b) h = .ok (.int (a + b)) h := rfl
theorem dSub_int {a b : Int} {h : LH} : dSub (.int a) (.int b) h = .ok (.int (a - b)) h := rfl
theorem dLt_int {a b : Int} {h : LH} : dLt (.int a) (.int b) h = .ok (.bl (decide (a < b))) h := rfl
theorem dLe_int {a b : Int} {h : LH} : dLe (.int a) (.int b) h = .ok (.bl (decide (a ≤ b))) h := rfl
theorem dGt_int {a b : Int} {h : LH} : dGt (.int a) (.int b) h = .ok (.bl (decide (b < a))) h := rfl
theorem dGe_int {a b : Int} {h : LH} : dGe (.int a) (.int b) h = .ok (.bl (decide (b ≤ a))) h := rfl
theorem dEq_int {a b : Int} {h : LH} : dEq (.int a) (.int b) h = .ok (.bl (decide (a = b))) h := rfl
theorem dNe_int {a b : Int} {h : LH} : dNe (.int a) (.int b) h = .ok (.bl (!decide (a = b))) h := rfl
theorem dEq_str {a b : List Nat} {h : LH} : dEq (.str a) (.str b) h = .ok (.bl (decide (a = b))) h := rfl
theorem dNe_str {a b : List Nat} {h : LH} : dNe (.str a) (.str b) h = .ok (.bl (!decide (a = b))) h := rfl
theorem dMod_int {a b : Int} {h : LH} (hb : 0 < b) : dMod (.int a) (.int b) h = .ok (.int (a % b)) h := by
  show (if 0 < b then _ else _) = _
  rw [if_pos hb]
theorem dDiv_int {a b : Int} {h : LH} (hb : 0 < b) (hl : b.natAbs.log2 < 9000) : dDiv (.int a) (.int b) h = .ok (.int (a / b)) h := by
  show (if 0 < b ∧ b.natAbs.log2 < 9000 then _ else _) = _
  rw [if_pos ⟨hb, hl⟩]
theorem dMul_int {a b : Int} {h : LH} (hb : mulOk a b = true) : dMul (.int a) (.int b) h = .ok (.int (a * b)) h := by
  show (if mulOk a b = true then _ else _) = _
  rw [if_pos hb]
theorem mulOk_r {a b : Int} (h : b.natAbs < 2 ^ 63) : mulOk a b = true := by
  unfold mulOk
  rw [decide_eq_true h]
  rfl
theorem S_eq (s : String) : S s = .str (s.toList.map Char.toNat) := by
  unfold S
  have := TL.tl_ofString s
  unfold TL.tl at this
  rw [this]
end HM
namespace HM
open PySem L2
theorem wseq {R : RSt → Prop} {a b : MS} {e e1 : EN} {h h1 : LH} (x : a e h = .next e1 h1) (k : R (b e1 h1)) : R (sSeq a b e h) := by
  rw [ev_seq, x]
  exact k
theorem mkF_ret {np nn : Nat} {m : MS} {ds : List D} {h h1 : LH} {d : D} (hl : ds.length = np) (k : m (ds.map some ++ List.replicate (nn - np) none) h = .ret d h1) : mkF np nn m ds h = .ok d h1 := by
  unfold mkF
  rw [if_pos hl, k]
def RetT (r : RSt) : Prop := ∃ h, r = .ret (.bl true) h
theorem law_of {nn : Nat} {m : MS} (H : ∀ ns : List Int, ns.length ≤ 63 → (∀ z ∈ ns, Builtin.Int.intBits z ≤ 1048576) → RetT (m (some (.scr ns) :: List.replicate (nn - 1) none) [])) : LawOk (mkF 1 nn m) := by
  intro ns hn hb
  obtain ⟨h, e⟩ := H ns hn hb
  exact ⟨h, mkF_ret (by rfl) e⟩
end HM
set_option Elab.async false
set_option linter.all false
set_option maxRecDepth 100000
set_option maxHeartbeats 4000000
namespace HM
open PySem L2
theorem mkF_eq {np nn : Nat} {m : MS} {ds : List D} {h : LH} (hl : ds.length = np) : mkF np nn m ds h = match m (ds.map some ++ List.replicate (nn - np) none) h with
  | .next _ h => .ok .non h
  | .ret d h => .ok d h
  | .exc x _ h => .exc x h
  | .brk _ _ => .bad
  | .cnt _ _ => .bad
  | .bad => .bad := by
  unfold mkF
  first
    | (rw [if_pos hl]; done)
    | (rw [if_pos hl]
       cases m (ds.map some ++ List.replicate (nn - np) none) h <;> rfl)
theorem atI_of {α : Type} {xs : List α} {i : Int} {x : α} (h0 : 0 ≤ i) (h : xs[i.toNat]? = some x) : atI xs i = some x := by
  have e : ((i.toNat : Nat) : Int) = i := Int.toNat_of_nonneg h0
  rw [← e]
  exact atI_nat h
theorem dIx_ref {h : LH} {r : Nat} {xs : List D} {i : Int} {x : D} (hr : h[r]? = some (.lst xs)) (hx : atI xs i = some x) : dIx (.ref r) (.int i) h = .ok x h := by
  show (match seqD (.ref r) h with
    | some xs => (match atI xs i with
      | some x => Res.ok x h
      | none => .bad)
    | none => .bad) = _
  have e : seqD (.ref r) h = some xs := by
    show (match h[r]? with
      | some (.lst xs) => some xs
      | _ => none) = _
    rw [hr]
  rw [e]
  simp only [hx]
theorem dIx_tup {h : LH} {xs : List D} {i : Int} {x : D} (hx : atI xs i = some x) : dIx (.tup xs) (.int i) h = .ok x h := by
  show (match atI xs i with
      | some x => Res.ok x h
      | none => .bad) = _
  simp only [hx]
theorem dIx_scr {h : LH} {xs : List Int} {i : Int} {x : Int} (h0 : 0 ≤ i) (hx : xs[i.toNat]? = some x) : dIx (.scr xs) (.int i) h = .ok (.int x) h := by
  show (match atI (xs.map D.int) i with
      | some x => Res.ok x h
      | none => .bad) = _
  rw [atI_of h0 (x := D.int x) (by rw [List.getElem?_map, hx]; rfl)]
theorem dIx_str {h : LH} {s : List Nat} {i : Int} {c : Nat} (hl : s.length ≤ 16777216) (hx : atI s i = some c) : dIx (.str s) (.int i) h = .ok (.str [c]) h := by
  show (if s.length ≤ 16777216 then (match atI s i with
    | some c => Res.ok (D.str [c]) h
    | none => .bad) else .bad) = _
  rw [if_pos hl, hx]
theorem dLen_ref {h : LH} {r : Nat} {xs : List D} (hr : h[r]? = some (.lst xs)) : dLen [.ref r] h = .ok (.int xs.length) h := by
  show (match h[r]? with
    | some (.lst ys) => Res.ok (D.int ys.length) h
    | _ => .bad) = _
  rw [hr]
theorem dLen_str {h : LH} {s : List Nat} (hl : s.length ≤ 16777216) : dLen [.str s] h = .ok (.int s.length) h := by
  show (if s.length ≤ 16777216 then Res.ok (D.int s.length) h else .bad) = _
  rw [if_pos hl]
theorem dLen_scr {h : LH} {s : List Int} : dLen [.scr s] h = .ok (.int s.length) h := rfl
theorem dLen_tup {h : LH} {s : List D} : dLen [.tup s] h = .ok (.int s.length) h := rfl
theorem dInt_int {h : LH} {i : Int} : dInt [.int i] h = .ok (.int i) h := rfl
theorem dOrd_chr {h : LH} {c : Nat} : dOrd [.str [c]] h = .ok (.int c) h := rfl
theorem dAdd_str {a b : List Nat} {h : LH} (hl : a.length + b.length ≤ 16777216) : dAdd (.str a) (.str b) h = .ok (.str (a ++ b)) h := by
  show (if a.length + b.length ≤ 16777216 then Res.ok (D.str (a ++ b)) h else .bad) = _
  rw [if_pos hl]

/-! ### the stream of a law -/
/-! ### frames: a stream at r may have turned, all else stands, new objects came -/
def StrAt (h : LH) (r : Nat) : Prop := ∃ a b, h[r]? = some (.lst [.int a, .int b])
structure SF (r : Nat) (h h' : LH) : Prop where
  le : h.length ≤ h'.length
  keep : ∀ i, i < h.length → i ≠ r → h'[i]? = h[i]?
  st : StrAt h' r
theorem SF.trans {r : Nat} {h h1 h2 : LH} (a : SF r h h1) (b : SF r h1 h2) : SF r h h2 :=
  ⟨Nat.le_trans a.le b.le, fun i hi hr => (b.keep i (Nat.lt_of_lt_of_le hi a.le) hr).trans (a.keep i hi hr), b.st⟩
theorem SF.refl {r : Nat} {h : LH} (s : StrAt h r) : SF r h h := ⟨Nat.le_refl _, fun _ _ _ => rfl, s⟩
theorem SF.push {r : Nat} {h : LH} {o : LO} (s : StrAt h r) : SF r h (h ++ [o]) := by
  obtain ⟨a, b, e⟩ := s
  refine ⟨by simp, fun i hi _ => List.getElem?_append_left hi, a, b, ?_⟩
  rw [List.getElem?_append_left (lt_of_get e)]
  exact e
theorem SF.get {r i : Nat} {h h' : LH} {o : LO} (s : SF r h h') (hr : i ≠ r) (e : h[i]? = some o) : h'[i]? = some o := (s.keep i (lt_of_get e) hr).trans e
/-! ### loops -/
theorem loopF_gen {g : IT} {t : TN} {body : MS} {N : Nat} (it : Nat → D) (I : Nat → EN → LH → Prop) (R : RSt → Prop)
    (hg : ∀ j e h, j ≤ N → I j e h → g h j = some (if j < N then some (it j) else none))
    (step : ∀ j e h, j < N → I j e h → ∃ e1, tnSet t (it j) e = some e1 ∧ match body e1 h with
      | .next e2 h2 => I (j + 1) e2 h2
      | .cnt e2 h2 => I (j + 1) e2 h2
      | .brk e2 h2 => R (.next e2 h2)
      | .ret x h2 => R (.ret x h2)
      | .exc x e2 h2 => R (.exc x e2 h2)
      | .bad => False)
    (fin : ∀ e h, I N e h → R (.next e h)) : ∀ n j e h, j + n = N → I j e h → R (loopF g t body n j e h) := by
  intro n
  induction n with
  | zero =>
    intro j e h hj hi
    have e0 := hg j e h (by omega) hi
    rw [if_neg (by omega)] at e0
    unfold loopF
    rw [e0]
    have : j = N := by omega
    subst this
    exact fin e h hi
  | succ n ih =>
    intro j e h hj hi
    have e0 := hg j e h (by omega) hi
    rw [if_pos (by omega)] at e0
    obtain ⟨e1, et, hb⟩ := step j e h (by omega) hi
    unfold loopF
    rw [e0]
    simp only [et]
    cases eb : body e1 h with
    | next e2 h2 => rw [eb] at hb; exact ih (j + 1) e2 h2 (by omega) hb
    | cnt e2 h2 => rw [eb] at hb; exact ih (j + 1) e2 h2 (by omega) hb
    | brk e2 h2 => rw [eb] at hb; exact hb
    | ret x h2 => rw [eb] at hb; exact hb
    | exc x e2 h2 => rw [eb] at hb; exact hb
    | bad => rw [eb] at hb; exact hb.elim
theorem loopC_gen {g : IT} {t : TN} {c : M Bool} {y : M D} {e : EN} {k N : Nat} (it : Nat → D) (I : Nat → List D → LH → Prop)
    (hg : ∀ j acc h, j ≤ N → I j acc h → g h j = some (if j < N then some (it j) else none))
    (hk : ∀ j acc h, j ≤ N → I j acc h → h[k]? = some (.lst acc))
    (step : ∀ j acc h, j < N → I j acc h → ∃ e1, tnSet t (it j) e = some e1 ∧ ((∃ h2, c e1 h = .ok false h2 ∧ I (j + 1) acc h2) ∨
      ∃ h2 x h3 acc2, c e1 h = .ok true h2 ∧ y e1 h2 = .ok x h3 ∧ h3[k]? = some (.lst acc2) ∧ acc2.length < 16777216 ∧ I (j + 1) (acc2 ++ [x]) (h3.set k (.lst (acc2 ++ [x]))))) :
    ∀ n j acc h, j + n = N → I j acc h → ∃ acc' h', loopC g t c y e k n j h = .ok (.ref k) h' ∧ I N acc' h' := by
  intro n
  induction n with
  | zero =>
    intro j acc h hj hi
    have e0 := hg j acc h (by omega) hi
    rw [if_neg (by omega)] at e0
    unfold loopC
    rw [e0]
    have : j = N := by omega
    subst this
    exact ⟨acc, h, rfl, hi⟩
  | succ n ih =>
    intro j acc h hj hi
    have e0 := hg j acc h (by omega) hi
    rw [if_pos (by omega)] at e0
    obtain ⟨e1, et, hb⟩ := step j acc h (by omega) hi
    unfold loopC
    rw [e0]
    simp only [et]
    rcases hb with ⟨h2, ec, hi2⟩ | ⟨h2, x, h3, acc2, ec, ey, ek, hl, hi2⟩
    · simp only [ec]
      exact ih (j + 1) acc h2 (by omega) hi2
    · simp only [ec, ey, ek, if_pos hl]
      exact ih (j + 1) _ _ (by omega) hi2
def itN (N : Nat) : IT := fun _ j => some (if j < N then some (.int j) else none)
theorem ev_rng1 {a : M (List D)} {e : EN} {h : LH} : iRng1M a e h = (a e h).bind fun d h1 => match d with
  | [.int n] => if -(2 ^ 62) ≤ n ∧ n < 2 ^ 62 then .ok (itN n.toNat, n.toNat) h1 else .bad
  | _ => .bad := rfl
/-! ### the characters of a law -/
def LC (c : Nat) : Prop := 32 ≤ c ∧ c ≤ 126 ∧ c ≠ 37
theorem strsD_map (l : List (List Nat)) : strsD (l.map D.str) = some l := by
  induction l with
  | nil => rfl
  | cons a l ih =>
    show (strsD (l.map D.str)).map _ = _
    rw [ih]
    rfl
theorem S_nil : S "" = .str [] := by
  rw [S_eq]
  rfl
end HM
set_option Elab.async false
set_option linter.all false
set_option maxRecDepth 100000
set_option maxHeartbeats 4000000
namespace HM
open PySem L2
/-! ### is_printable, is_integer, says -/
def okC (c : Nat) : Bool := decide (32 ≤ c) && decide (c ≤ 126) && decide (c ≠ 37)
def allC (s : List Nat) : Bool := s.all okC
theorem allC_snoc {s : List Nat} {c : Nat} (h : allC s = true) (hc : okC c = true) : allC (s ++ [c]) = true := by
  unfold allC at *
  rw [List.all_append, h]
  simp [hc]
theorem allC_not {s : List Nat} {c : Nat} (h : c ∈ s) (hc : ¬ okC c = true) : ¬ allC s = true := fun z => hc (List.all_eq_true.mp z c h)
def isPr : D → Bool
  | .str s => allC s
  | _ => false
theorem okC_iff {c : Nat} : okC c = true ↔ LC c := by
  unfold okC LC
  simp [and_assoc]
theorem loopF_list {t : TN} {body : MS} {xs : List D} (I : Nat → EN → LH → Prop) (R : RSt → Prop)
    (step : ∀ j d e h, xs[j]? = some d → I j e h → ∃ e1, tnSet t d e = some e1 ∧ match body e1 h with
      | .next e2 h2 => I (j + 1) e2 h2
      | .cnt e2 h2 => I (j + 1) e2 h2
      | .brk e2 h2 => R (.next e2 h2)
      | .ret x h2 => R (.ret x h2)
      | .exc x e2 h2 => R (.exc x e2 h2)
      | .bad => False)
    (fin : ∀ e h, I xs.length e h → R (.next e h)) {e : EN} {h : LH} (h0 : I 0 e h) : R (loopF (itL xs) t body xs.length 0 e h) := by
  refine loopF_gen (N := xs.length) (fun j => xs.getD j .non) I R (fun j e h hj hi => ?_) (fun j e h hj hi => ?_) fin xs.length 0 e h (by omega) h0
  · unfold itL
    by_cases c : j < xs.length
    · rw [if_pos c, List.getD_eq_getElem?_getD, List.getElem?_eq_getElem c]; rfl
    · rw [if_neg c, List.getElem?_eq_none (by omega)]
  · have e1 : xs[j]? = some (xs.getD j .non) := by rw [List.getD_eq_getElem?_getD, List.getElem?_eq_getElem hj]; rfl
    exact step j _ e h e1 hi
theorem printable_eq {d : D} {h : LH} {t : BT} (ht : tyD d h = some t) : L.f_is_printable [d] h = .ok (.bl (isPr d)) h := by
  unfold L.f_is_printable
  rw [mkF_eq (by rfl)]
  unfold L.b_is_printable
  cases d with
  | str s =>
    have key := loopF_list (t := .nm 1) (body := (sSeq (sSet 2 (mApp dOrd (mCons (mVar 1) mNil)))
        (sIf (mTOr (mTst (mOp dLt (mVar 2) (mC (.int 32)))) (mTOr (mTst (mOp dGt (mVar 2) (mC (.int 126)))) (mTst (mOp dEq (mVar 2) (mC (.int 37)))))) (sRet (mC (.bl false))) sNil))) (xs := s.map fun c => D.str [c])
      (fun j e g => g = h ∧ (∃ a b c, e = [a, b, c]) ∧ allC (s.take j) = true) (fun r => if allC s = true then ∃ e', r = .next e' h else r = .ret (.bl false) h)
      (fun j d e g hd => by
        rintro ⟨rfl, ⟨a, b, c, rfl⟩, hall⟩
        rw [List.getElem?_map] at hd
        cases es : s[j]? with
        | none => rw [es] at hd; cases hd
        | some ch =>
          rw [es] at hd
          cases hd
          refine ⟨_, rfl, ?_⟩
          have hj := lt_of_get es
          have et : s.take (j + 1) = s.take j ++ [ch] := by
            rw [List.take_succ, es]; rfl
          have hmem : ch ∈ s := List.mem_of_getElem? es
          simp [ev_seq, dOrd_chr, dLt_int, dGt_int, dEq_int]
          by_cases c1 : okC ch = true
          · have := okC_iff.mp c1
            unfold LC at this
            simp [show ¬ (ch : Int) < 32 by omega, show ¬ (126 : Int) < ch by omega, show ¬ (ch : Int) = 37 by omega]
            rw [et]
            exact allC_snoc hall c1
          · have hn := allC_not hmem c1
            have hl : ¬ LC ch := fun z => c1 (okC_iff.mpr z)
            unfold LC at hl
            have hn' : allC s = false := by simpa using hn
            by_cases q1 : (ch : Int) < 32
            · simp [q1, hn']
            · by_cases q2 : (126 : Int) < ch
              · simp [q1, q2, hn']
              · have q3 : (ch : Int) = 37 := by omega
                simp [q1, q2, q3, hn'])
      (fun e g ⟨hg, _, hall⟩ => by
        subst hg
        rw [List.length_map, List.take_length] at hall
        rw [if_pos hall]
        exact ⟨e, rfl⟩) (e := [some (.str s), none, none]) (h := h) ⟨rfl, ⟨_, _, _, rfl⟩, rfl⟩
    rw [List.length_map] at key
    simp [ev_seq, tyD, isB, truD]
    by_cases c : allC s = true
    · rw [if_pos c] at key
      obtain ⟨e', ee⟩ := key
      simp [ee, isPr, c]
    · rw [if_neg c] at key
      simp [key, isPr, c]
  | _ =>
    simp only [List.map_cons, List.map_nil, List.length_cons, List.length_nil, ev_seq, ev_if, ev_tNot, ev_tru, ev_isI, ev_var]
    simp [ht]
    have hne : t ≠ .str := by
      rintro rfl
      first
        | (simp [tyD] at ht; done)
        | (simp only [tyD] at ht; split at ht <;> simp at ht)
    cases t <;> simp [isB, truD, isPr] at hne ⊢
theorem integer_eq {i lo hi : Int} {h : LH} : L.f_is_integer [.int i, .int lo, .int hi] h = .ok (.bl (decide (lo ≤ i ∧ i ≤ hi))) h := by
  unfold L.f_is_integer
  rw [mkF_eq (by rfl)]
  unfold L.b_is_integer
  simp [ev_seq, tyD, isB, truD, dLe_int]
  by_cases c : lo ≤ i <;> simp [c]
theorem integer_no {d : D} {lo hi : D} {h : LH} {t : BT} (ht : tyD d h = some t) (hn : t ≠ .int) : L.f_is_integer [d, lo, hi] h = .ok (.bl false) h := by
  unfold L.f_is_integer
  rw [mkF_eq (by rfl)]
  unfold L.b_is_integer
  simp [ev_seq, ht]
  cases t <;> simp [isB, truD, ht] at hn ⊢
end HM
set_option Elab.async false
set_option linter.all false
set_option maxRecDepth 100000
set_option maxHeartbeats 4000000
namespace HM
open PySem L2
theorem itO_get {h : LH} {r j : Nat} {xs : List D} (hr : h[r]? = some (.lst xs)) : itO r h j = some xs[j]? := by
  unfold itO
  rw [hr]
theorem loopF_obj {t : TN} {body : MS} {r : Nat} {xs : List D} (I : Nat → EN → LH → Prop) (R : RSt → Prop)
    (hr : ∀ j e h, I j e h → h[r]? = some (.lst xs))
    (step : ∀ j d e h, xs[j]? = some d → I j e h → ∃ e1, tnSet t d e = some e1 ∧ match body e1 h with
      | .next e2 h2 => I (j + 1) e2 h2
      | .cnt e2 h2 => I (j + 1) e2 h2
      | .brk e2 h2 => R (.next e2 h2)
      | .ret x h2 => R (.ret x h2)
      | .exc x e2 h2 => R (.exc x e2 h2)
      | .bad => False)
    (fin : ∀ e h, I xs.length e h → R (.next e h)) {e : EN} {h : LH} (h0 : I 0 e h) : R (loopF (itO r) t body xs.length 0 e h) := by
  refine loopF_gen (N := xs.length) (fun j => xs.getD j .non) I R (fun j e h hj hi => ?_) (fun j e h hj hi => ?_) fin xs.length 0 e h (by omega) h0
  · rw [itO_get (hr j e h hi)]
    by_cases c : j < xs.length
    · rw [if_pos c, List.getD_eq_getElem?_getD, List.getElem?_eq_getElem c]; rfl
    · rw [if_neg c, List.getElem?_eq_none (by omega)]
  · have e1 : xs[j]? = some (xs.getD j .non) := by rw [List.getD_eq_getElem?_getD, List.getElem?_eq_getElem hj]; rfl
    exact step j _ e h e1 hi
theorem set_self {e : EN} {i : Nat} (h : i < e.length) : e = e.set i (e.getD i none) := by
  rw [List.getD_eq_getElem?_getD, List.getElem?_eq_getElem h]
  simp
theorem dSl_str {s : List Nat} {lo hi : Option Int} {h : LH} (hl : s.length ≤ 16777216) : dSl (.str s) lo hi h = .ok (.str (cutD s lo hi)) h := by
  show (if s.length ≤ 16777216 then Res.ok (D.str (cutD s lo hi)) h else .bad) = _
  rw [if_pos hl]
theorem cut_to {α : Type} {s : List α} {p : Int} (h0 : 0 ≤ p) : cutD s none (some p) = s.take p.toNat := by
  unfold cutD
  have e0 : HT.sIx s.length 0 none = 0 := rfl
  have e1 : HT.sIx s.length s.length (some p) = min p.toNat s.length := by
    show (if p < 0 then (p + (s.length : Int)).toNat else min p.toNat s.length) = _
    rw [if_neg (by omega)]
  rw [e0, e1, List.drop_zero, Nat.sub_zero]
  rcases Nat.le_total p.toNat s.length with c | c
  · rw [Nat.min_eq_left c]
  · rw [Nat.min_eq_right c, List.take_length, List.take_of_length_le c]
theorem cut_from {α : Type} {s : List α} {p : Int} (h0 : 0 ≤ p) : cutD s (some p) none = s.drop p.toNat := by
  unfold cutD
  have e0 : HT.sIx s.length s.length none = s.length := rfl
  have e1 : HT.sIx s.length 0 (some p) = min p.toNat s.length := by
    show (if p < 0 then (p + (s.length : Int)).toNat else min p.toNat s.length) = _
    rw [if_neg (by omega)]
  rw [e0, e1]
  rcases Nat.le_total p.toNat s.length with c | c
  · rw [Nat.min_eq_left c, List.take_of_length_le (by rw [List.length_drop]; exact Nat.le_refl _)]
  · rw [Nat.min_eq_right c, List.drop_of_length_le (Nat.le_refl _), List.drop_of_length_le c]; simp
theorem cut_both {α : Type} {s : List α} {p q : Int} (h0 : 0 ≤ p) (h1 : 0 ≤ q) : cutD s (some p) (some q) = (s.drop p.toNat).take (q.toNat - p.toNat) := by
  unfold cutD
  have e0 : HT.sIx s.length 0 (some p) = min p.toNat s.length := by
    show (if p < 0 then (p + (s.length : Int)).toNat else min p.toNat s.length) = _
    rw [if_neg (by omega)]
  have e1 : HT.sIx s.length s.length (some q) = min q.toNat s.length := by
    show (if q < 0 then (q + (s.length : Int)).toNat else min q.toNat s.length) = _
    rw [if_neg (by omega)]
  rw [e0, e1]
  rcases Nat.le_total p.toNat s.length with c | c
  · rw [Nat.min_eq_left c]
    rcases Nat.le_total q.toNat s.length with c2 | c2
    · rw [Nat.min_eq_left c2]
    · rw [Nat.min_eq_right c2]
      rw [List.take_of_length_le (by rw [List.length_drop]; exact Nat.le_refl _), List.take_of_length_le (by rw [List.length_drop]; omega)]
  · rw [Nat.min_eq_right c, List.drop_of_length_le (Nat.le_refl _), List.drop_of_length_le c]; simp
end HM
set_option Elab.async false
set_option linter.all false
set_option maxRecDepth 100000
set_option maxHeartbeats 4000000
namespace HM
open PySem L2
/-! ### texts walked sign by sign; drawn texts; made_of -/
theorem loopF_test {body : MS} {i : Nat} {xs : List D} {h : LH} {e : EN} (p : D → Bool) (hi : i < e.length)
    (step : ∀ d, d ∈ xs → body (e.set i (some d)) h = if p d then .next (e.set i (some d)) h else .ret (.bl false) h) :
    (if xs.all p then ∃ v, loopF (itL xs) (.nm i) body xs.length 0 e h = .next (e.set i v) h else loopF (itL xs) (.nm i) body xs.length 0 e h = .ret (.bl false) h) := by
  refine loopF_list (fun j e' g => g = h ∧ (∃ v, e' = e.set i v) ∧ (xs.take j).all p = true) (fun r => if xs.all p then ∃ v, r = .next (e.set i v) h else r = .ret (.bl false) h) (fun j d e1 g hd ⟨q, ⟨v, ev⟩, ha⟩ => ?_) (fun e1 g ⟨q, ⟨v, ev⟩, ha⟩ => ?_) ⟨rfl, ⟨_, set_self hi⟩, by simp⟩
  · subst q ev
    refine ⟨e.set i (some d), ?_, ?_⟩
    · show some ((e.set i v).set i (some d)) = _
      rw [List.set_set]
    · rw [step d (List.mem_of_getElem? hd)]
      by_cases c : p d = true
      · rw [if_pos c]
        refine ⟨rfl, ⟨_, rfl⟩, ?_⟩
        rw [List.take_succ, hd]
        simp [ha, c]
      · rw [if_neg c]
        have : ¬ xs.all p = true := fun z => c (List.all_eq_true.mp z d (List.mem_of_getElem? hd))
        dsimp only; rw [if_neg this]
  · subst q ev
    rw [List.take_length] at ha
    rw [if_pos ha]
    exact ⟨v, rfl⟩
theorem loopO_test {body : MS} {i r : Nat} {xs : List D} {h : LH} {e : EN} (p : D → Bool) (hr : h[r]? = some (.lst xs)) (hi : i < e.length)
    (step : ∀ d, d ∈ xs → body (e.set i (some d)) h = if p d then .next (e.set i (some d)) h else .ret (.bl false) h) :
    (if xs.all p then ∃ v, loopF (itO r) (.nm i) body xs.length 0 e h = .next (e.set i v) h else loopF (itO r) (.nm i) body xs.length 0 e h = .ret (.bl false) h) := by
  refine loopF_obj (fun j e' g => g = h ∧ (∃ v, e' = e.set i v) ∧ (xs.take j).all p = true) (fun r => if xs.all p then ∃ v, r = .next (e.set i v) h else r = .ret (.bl false) h) (fun j e g ⟨q, _⟩ => by rw [q]; exact hr) (fun j d e1 g hd ⟨q, ⟨v, ev⟩, ha⟩ => ?_) (fun e1 g ⟨q, ⟨v, ev⟩, ha⟩ => ?_) ⟨rfl, ⟨_, set_self hi⟩, by simp⟩
  · subst q ev
    refine ⟨e.set i (some d), ?_, ?_⟩
    · show some ((e.set i v).set i (some d)) = _
      rw [List.set_set]
    · rw [step d (List.mem_of_getElem? hd)]
      by_cases c : p d = true
      · rw [if_pos c]
        refine ⟨rfl, ⟨_, rfl⟩, ?_⟩
        rw [List.take_succ, hd]
        simp [ha, c]
      · rw [if_neg c]
        have : ¬ xs.all p = true := fun z => c (List.all_eq_true.mp z d (List.mem_of_getElem? hd))
        dsimp only; rw [if_neg this]
  · subst q ev
    rw [List.take_length] at ha
    rw [if_pos ha]
    exact ⟨v, rfl⟩
theorem loopS_test {body : MS} {i : Nat} {s : List Nat} {h : LH} {e : EN} (p : Nat → Bool) (hi : i < e.length)
    (step : ∀ c, c ∈ s → body (e.set i (some (.str [c]))) h = if p c then .next (e.set i (some (.str [c]))) h else .ret (.bl false) h) :
    (if s.all p then ∃ v, loopF (itL (s.map fun c => D.str [c])) (.nm i) body s.length 0 e h = .next (e.set i v) h else loopF (itL (s.map fun c => D.str [c])) (.nm i) body s.length 0 e h = .ret (.bl false) h) := by
  have key := loopF_test (body := body) (i := i) (xs := s.map fun c => D.str [c]) (h := h) (e := e) (fun d => match d with | .str [c] => p c | _ => false) hi (by
    intro d hd
    obtain ⟨c, hc, rfl⟩ := List.mem_map.mp hd
    exact step c hc)
  rw [List.length_map, List.all_map] at key
  exact key
theorem dNotIn_chr {c : Nat} {z : List Nat} {h : LH} : dNotIn (.str [c]) (.str z) h = .ok (.bl (!decide (c ∈ z))) h := rfl
def inC (cs : List Nat) (c : Nat) : Bool := decide (c ∈ cs)
theorem made_eq {s cs : List Nat} {h : LH} : L.f_made_of [.str s, .str cs] h = .ok (.bl (s.all (inC cs))) h := by
  unfold L.f_made_of
  rw [mkF_eq (by rfl)]
  unfold L.b_made_of
  have key := loopS_test (body := sIf (mTst (mOp dNotIn (mVar 2) (mVar 1))) (sRet (mC (.bl false))) sNil) (i := 2) (s := s) (h := h) (e := [some (.str s), some (.str cs), none]) (inC cs) (by simp) (by
    intro c hc
    unfold inC
    by_cases q : c ∈ cs <;> simp [dNotIn_chr, q])
  simp only [List.map_cons, List.map_nil, List.length_cons, List.length_nil, ev_seq, ev_for, ev_any, ev_var]
  split at key
  · rename_i q
    obtain ⟨v, ev⟩ := key
    simp [ev, q]
  · rename_i q
    have q' : s.all (inC cs) = false := by simpa using q
    simp [key, q']
end HM
set_option Elab.async false
set_option linter.all false
set_option maxRecDepth 100000
set_option maxHeartbeats 4000000
namespace HM
open PySem L2
/-! ### list names and keys -/
def nmC : List Nat := (Str.ofString "abcdefghijklmnopqrstuvwxyz").cps.toList
def dgC : List Nat := (Str.ofString "0123456789").cps.toList
def isLN : D → Bool
  | .str s => decide (1 ≤ s.length) && decide (s.length ≤ 12) && s.all (inC nmC)
  | _ => false
def isKey : D → Bool
  | .str s => decide (2 ≤ s.length) && decide (s.length ≤ 12) && decide (s[0]? = some 107) && (s.drop 1).all (inC dgC)
  | _ => false
theorem S_ofN : S "abcdefghijklmnopqrstuvwxyz" = .str nmC := rfl
theorem S_ofD : S "0123456789" = .str dgC := rfl
theorem tyD_str {d : D} {h : LH} (t : tyD d h = some .str) : ∃ s, d = .str s := by
  cases d <;> simp [tyD] at t
  · exact ⟨_, rfl⟩
  · split at t <;> simp at t
theorem name_eq {d : D} {h : LH} {t : BT} (ht : tyD d h = some t) (hl : ∀ s, d = .str s → s.length ≤ 16777216) : L.f_is_list_name [d] h = .ok (.bl (isLN d)) h := by
  unfold L.f_is_list_name
  rw [mkF_eq (by rfl)]
  unfold L.b_is_list_name
  by_cases c : t = .str
  · subst c
    obtain ⟨s, rfl⟩ := tyD_str ht
    have hs := hl s rfl
    simp [tyD, isB, dLen_str hs, dLe_int, S_ofN, made_eq, isLN]
    by_cases c1 : (1 : Int) ≤ s.length
    · by_cases c2 : (s.length : Int) ≤ 12
      · simp [c1, c2, made_eq, show 1 ≤ s.length by omega, show s.length ≤ 12 by omega]
      · simp [c1, c2, show ¬ s.length ≤ 12 by omega]
    · simp [c1, show ¬ 1 ≤ s.length by omega]
  · have hn : isLN d = false := by
      cases d <;> simp [isLN, tyD] at ht ⊢
      exact absurd ht.symm c
    simp [ht, hn]
    cases t <;> simp [isB] at c ⊢
theorem key_eq {d : D} {h : LH} {t : BT} (ht : tyD d h = some t) (hl : ∀ s, d = .str s → s.length ≤ 16777216) : L.f_is_key [d] h = .ok (.bl (isKey d)) h := by
  unfold L.f_is_key
  rw [mkF_eq (by rfl)]
  unfold L.b_is_key
  by_cases c : t = .str
  · subst c
    obtain ⟨s, rfl⟩ := tyD_str ht
    have hs := hl s rfl
    have hk := S_eq "k"
    simp at hk
    simp only [ev_seq]
    simp [tyD, isB, dLen_str hs, dLe_int, truD]
    by_cases c1 : (2 : Int) ≤ s.length
    · by_cases c2 : (s.length : Int) ≤ 12
      · have h0 : (0 : Nat) < s.length := by omega
        have e0 : s[0]? = some s[0] := List.getElem?_eq_getElem h0
        have ei : dIx (.str s) (.int 0) h = .ok (.str [s[0]]) h := dIx_str hs (atI_of (by decide) e0)
        simp [c1, c2, ei, hk, dEq_str, dSl_str hs, cut_from (show (0 : Int) ≤ 1 by decide), S_ofD, made_eq, isKey, show 2 ≤ s.length by omega, show s.length ≤ 12 by omega, e0]
        by_cases c3 : s[0] = 107 <;> simp [c3]
      · simp [c1, c2, isKey, show ¬ s.length ≤ 12 by omega]
    · simp [c1, isKey, show ¬ 2 ≤ s.length by omega]
  · have hn : isKey d = false := by
      cases d <;> simp [isKey, tyD] at ht ⊢
      exact absurd ht.symm c
    simp only [ev_seq]
    simp [ht, hn]
    cases t <;> simp [isB, truD] at c ⊢
end HM
set_option Elab.async false
set_option linter.all false
set_option maxRecDepth 100000
set_option maxHeartbeats 4000000
namespace HM
open PySem L2
/-! ### hexadecimal digits -/
def hxC : List Nat := (Str.ofString "0123456789abcdef").cps.toList
theorem S_ofH : S "0123456789abcdef" = .str hxC := rfl
def hexL (n : Nat) : List Nat := List.replicate (18 - (Nat.toDigits 16 n).length) 48 ++ (Nat.toDigits 16 n).map Char.toNat
theorem hexText_eq (n : Nat) : (hexText n).cps.toList = hexL n := by
  have hd : ((Nat.toDigits 16 n).map fun c => (if (120 : Nat) == 88 then c.toUpper else c).toNat) = (Nat.toDigits 16 n).map Char.toNat := rfl
  have hn : ((Nat.toDigits 16 n).map Char.toNat).isEmpty = false := by
    cases e : Nat.toDigits 16 n with
    | nil =>
      have := PyProof.Rows.tDigits_len_ge 16 n
      rw [e] at this
      simp at this
    | cons x l => rfl
  unfold hexText PyProof.Rows.intField'
  have hneg : decide ((n : Int) < 0) = false := by simp
  have hna : ((n : Int)).natAbs = n := rfl
  simp only [hneg, hna, hd, hn, fx]
  unfold hexL
  have hpad : ((18 : Int) - ((18 - (Nat.toDigits 16 n).length + (Nat.toDigits 16 n).length : Nat) : Int)).toNat = 0 := by omega
  simp
  omega
theorem dHex_nat {n : Nat} {h : LH} (hn : n < 16 ^ 18) : dHex (.int n) h = .ok (.str (hexL n)) h := by
  show (if (n : Int).natAbs < 2 ^ 200 then Res.ok (D.str (hexText n).cps.toList) h else .bad) = _
  have hlt : (n : Int).natAbs < 2 ^ 200 := by
    show n < 2 ^ 200
    exact Nat.lt_of_lt_of_le hn (by decide)
  rw [if_pos hlt, hexText_eq]
/-! ### a loop over a text that folds -/
theorem loopS_fold {α : Type} {body : MS} {i : Nat} {s : List Nat} {h : LH} (E : α → Option D → EN) (F : α → Nat → α) (P : α → Prop) {a : α} {v : Option D}
    (hs : ∀ x v d, tnSet (.nm i) d (E x v) = some (E x (some d)))
    (step : ∀ x c, c ∈ s → P x → body (E x (some (.str [c]))) h = .next (E (F x c) (some (.str [c]))) h ∧ P (F x c)) (hP : P a) :
    ∃ v', loopF (itL (s.map fun c => D.str [c])) (.nm i) body s.length 0 (E a v) h = .next (E (s.foldl F a) v') h ∧ P (s.foldl F a) := by
  have key := loopF_list (t := .nm i) (body := body) (xs := s.map fun c => D.str [c]) (fun j e g => g = h ∧ (∃ v, e = E ((s.take j).foldl F a) v) ∧ P ((s.take j).foldl F a)) (fun r => ∃ v', r = .next (E (s.foldl F a) v') h ∧ P (s.foldl F a))
    (fun j d e1 g hd ⟨q, ⟨v, ev⟩, hp⟩ => by
      subst q ev
      rw [List.getElem?_map] at hd
      cases es : s[j]? with
      | none => rw [es] at hd; cases hd
      | some ch =>
        rw [es] at hd
        cases hd
        refine ⟨_, hs _ _ _, ?_⟩
        have st := step _ ch (List.mem_of_getElem? es) hp
        rw [st.1]
        have et : s.take (j + 1) = s.take j ++ [ch] := by
          rw [List.take_succ, es]; rfl
        rw [et, List.foldl_append]
        exact ⟨rfl, ⟨_, rfl⟩, st.2⟩)
    (fun e1 g ⟨q, ⟨v, ev⟩, hp⟩ => by
      subst q ev
      rw [List.length_map, List.take_length] at hp ⊢
      exact ⟨v, rfl, hp⟩) (e := E a v) (h := h) ⟨rfl, ⟨v, rfl⟩, hP⟩
  rw [List.length_map] at key
  exact key
/-! ### digest -/
def dgF (n : Nat) (c : Nat) : Nat := (n * 65599 + c) % 2361183241434822606617
def dig (s : List Nat) : Nat := s.foldl dgF (s.length + 1)
theorem dig_lt {s : List Nat} (hl : s.length ≤ 16777216) : dig s < 2361183241434822606617 := by
  unfold dig
  have : ∀ (s : List Nat) a, a < 2361183241434822606617 → s.foldl dgF a < 2361183241434822606617 := by
    intro s
    induction s with
    | nil => exact fun a h => h
    | cons c s ih => exact fun a h => ih _ (Nat.mod_lt _ (by decide))
  exact this _ _ (by omega)
theorem digest_eq {s : List Nat} {h : LH} (hl : s.length ≤ 16777216) : L.f_digest [.str s] h = .ok (.str (hexL (dig s))) h := by
  unfold L.f_digest
  rw [mkF_eq (by rfl)]
  unfold L.b_digest
  obtain ⟨v, ev, hp⟩ := loopS_fold (i := 2) (s := s) (h := h) (body := sSet 1 (mOp dMod (mOp dAdd (mOp dMul (mVar 1) (mC (.int 65599))) (mApp dOrd (mCons (mVar 2) mNil))) (mC (.int 2361183241434822606617))))
    (fun (n : Nat) v => [some (.str s), some (.int n), v]) dgF (fun _ => True) (a := s.length + 1) (v := none) (fun _ _ _ => rfl) (by
      intro n c _ _
      refine ⟨?_, trivial⟩
      have m1 : dMul (.int n) (.int 65599) h = .ok (.int (n * 65599)) h := dMul_int (mulOk_r (by decide))
      have e : ((dgF n c : Nat) : Int) = ((n : Int) * 65599 + c) % 2361183241434822606617 := by
        unfold dgF
        omega
      simp [m1, dOrd_chr, dAdd_int, dMod_int (show (0 : Int) < 2361183241434822606617 by decide), e]) trivial
  have hd := dig_lt hl
  have ev' : loopF (itL (s.map fun c => D.str [c])) (.nm 2) (sSet 1 (mOp dMod (mOp dAdd (mOp dMul (mVar 1) (mC (.int 65599))) (mApp dOrd (mCons (mVar 2) mNil))) (mC (.int 2361183241434822606617)))) s.length 0 [some (.str s), some (.int ((s.length : Int) + 1)), none] h = .next [some (.str s), some (.int (dig s)), v] h := ev
  simp only [ev_seq]
  simp [dLen_str hl, dAdd_int, ev', dHex_nat (n := dig s) (h := h) (by omega)]
end HM
set_option Elab.async false
set_option linter.all false
set_option maxRecDepth 100000
set_option maxHeartbeats 4000000
namespace HM
open PySem L2
/-! ### comprehensions that leave the heap -/
def itN2 (a b : Int) : IT := fun _ j => some (if j < (b - a).toNat then some (.int (a + j)) else none)
theorem compP {it : IT} {i n : Nat} {y : M D} {e : EN} {h : LH} (f : Nat → D) (q : Nat → D) (hn : n ≤ 16777216) (hg : ∀ j g, j ≤ n → it g j = some (if j < n then some (q j) else none))
    (hy : ∀ j acc, j < n → y (e.set i (some (q j))) (h ++ [.lst acc]) = .ok (f j) (h ++ [.lst acc])) :
    loopC it (.nm i) mYes y e h.length n 0 (h ++ [.lst []]) = .ok (.ref h.length) (h ++ [.lst ((List.range n).map f)]) := by
  obtain ⟨acc, h', e1, rfl, rfl⟩ := loopC_gen (g := it) (t := .nm i) (c := mYes) (y := y) (e := e) (k := h.length) (N := n) q
    (fun j acc g => acc = (List.range j).map f ∧ g = h ++ [.lst acc])
    (fun j acc g hj hi => hg j g hj) (fun j acc g hj hi => by rw [hi.2]; simp) (by
      rintro j acc g hj ⟨rfl, rfl⟩
      refine ⟨_, rfl, .inr ⟨_, f j, _, (List.range j).map f, rfl, hy j _ hj, by simp, by simp; omega, ?_, ?_⟩⟩
      · rw [List.range_succ, List.map_append]; rfl
      · simp) n 0 [] (h ++ [.lst []]) (by omega) ⟨rfl, rfl⟩
  exact e1
theorem ev_rng2 {a : M (List D)} {e : EN} {h : LH} : iRng2M a e h = (a e h).bind fun d h1 => match d with
  | [.int m, .int n] => if -(2 ^ 62) ≤ m ∧ m < 2 ^ 62 ∧ -(2 ^ 62) ≤ n ∧ n < 2 ^ 62 then .ok (itN2 m n, (n - m).toNat) h1 else .bad
  | _ => .bad := rfl
/-! ### short texts -/
end HM
set_option Elab.async false
set_option linter.all false
set_option maxRecDepth 100000
set_option maxHeartbeats 4000000
namespace HM
open PySem L2
/-! ### cut at one sign -/
def cut1 (k : Nat) : List Nat → List Nat → List (List Nat)
  | acc, [] => [acc]
  | acc, c :: r => if c = k then acc :: cut1 k [] r else cut1 k (acc ++ [c]) r
theorem spl_one (k : Nat) : ∀ (s acc : List Nat), TL.spl [k] 0 acc s = cut1 k acc s := by
  intro s
  induction s with
  | nil => intro acc; rfl
  | cons c r ih =>
    intro acc
    have hp : TL.pre [k] (c :: r) = decide (c = k) := by
      show ((c :: r).take 1 == [k]) = _
      rw [List.take_succ_cons, List.take_zero]
      by_cases h : c = k
      · subst h; simp
      · rw [decide_eq_false h]
        exact beq_eq_false_iff_ne.mpr fun z => h (by injection z)
    unfold cut1
    by_cases h : c = k
    · rw [TL.spl_hit (by rw [hp, decide_eq_true h]), if_pos h]
      show acc :: TL.spl [k] 0 [] r = _
      rw [ih]
    · rw [TL.spl_miss (by rw [hp, decide_eq_false h]), if_neg h, ih]
/-! ### paths and patterns -/
def pcC : List Nat := (Str.ofString "abcdefghijklmnopqrstuvwxyz0123456789.-_").cps.toList
def ptC : List Nat := (Str.ofString "abcdefghijklmnopqrstuvwxyz0123456789.-_*").cps.toList
theorem S_ofP : S "abcdefghijklmnopqrstuvwxyz0123456789.-_" = .str pcC := rfl
theorem S_ofT : S "abcdefghijklmnopqrstuvwxyz0123456789.-_*" = .str ptC := rfl
def okP (cs p : List Nat) : Bool := decide (p ≠ []) && p.all (inC cs)
def hasP (s cs : List Nat) : Bool := decide (s.length ≤ 60) && (decide ((cut1 47 [] s).length ≤ 6) && (cut1 47 [] s).all (okP cs))
def hasD (d : D) (cs : List Nat) : Bool := match d with
  | .str s => hasP s cs
  | _ => false
def Gr (h h' : LH) : Prop := ∃ x, h' = h ++ x
theorem parts_eq {d : D} {cs : List Nat} {h : LH} {t : BT} (ht : tyD d h = some t) (hl : ∀ s, d = .str s → s.length ≤ 1000000) :
    ∃ h', L.f_has_parts [d, .str cs] h = .ok (.bl (hasD d cs)) h' ∧ Gr h h' ∧ ((∀ s, d ≠ .str s) → h' = h) := by
  unfold L.f_has_parts
  rw [mkF_eq (by rfl)]
  unfold L.b_has_parts
  have esl := S_eq "/"
  simp at esl
  by_cases c : t = .str
  · subst c
    obtain ⟨s, rfl⟩ := tyD_str ht
    have hs := hl s rfl
    have hs' : s.length ≤ 16777216 := by omega
    by_cases c1 : s.length ≤ 60
    · have c1' : ¬ (60 : Int) < s.length := by omega
      obtain ⟨P, hP⟩ : ∃ P, cut1 47 [] s = P := ⟨_, rfl⟩
      have es : dSplit (.str s) [.str [47]] h = .ok (.ref h.length) (h ++ [.lst (P.map D.str)]) := by
        show (if [47] ≠ [] ∧ [47].all (· < 256) = true ∧ s.length + 2 ≤ 16777216 then Res.ok (D.ref h.length) (h ++ [.lst ((TL.spl [47] 0 [] s).map D.str)]) else .bad) = _
        rw [if_pos ⟨by decide, by decide, by omega⟩, spl_one, hP]
      refine ⟨h ++ [.lst (P.map D.str)], ?_, ⟨_, rfl⟩, fun z => absurd rfl (z s)⟩
      have el : dLen [.ref h.length] (h ++ [.lst (P.map D.str)]) = .ok (.int P.length) (h ++ [.lst (P.map D.str)]) := by
        rw [dLen_ref (xs := P.map D.str) (by simp), List.length_map]
      have key := loopO_test (body := sIf (mTOr (mTst (mOp dEq (mVar 3) (mC (S "")))) (mTNot (mTru (mApp L.f_made_of (mCons (mVar 3) (mCons (mVar 1) mNil)))))) (sRet (mC (.bl false))) sNil) (i := 3) (r := h.length) (xs := P.map D.str) (h := h ++ [.lst (P.map D.str)])
        (e := [some (.str s), some (.str cs), some (.ref h.length), none]) (fun d => match d with | .str p => okP cs p | _ => false) (by simp) (by simp) (by
          intro d hd
          obtain ⟨p, hp, rfl⟩ := List.mem_map.mp hd
          by_cases q1 : p = []
          · subst q1
            simp [S_nil, dEq_str, okP]
          · by_cases q2 : p.all (inC cs) = true
            · simp [S_nil, dEq_str, okP, q1, made_eq, q2, truD]
            · have q2' : p.all (inC cs) = false := by simpa using q2
              simp [S_nil, dEq_str, okP, q1, made_eq, q2', truD])
      rw [List.length_map, List.all_map] at key
      simp only [ev_seq]
      simp [tyD, isB, truD, dLen_str hs', dGt_int, c1', esl, isStr, es, el, hasD, hasP, c1, hP]
      by_cases c2 : P.length ≤ 6
      · have c2' : ¬ (6 : Int) < P.length := by omega
        simp [c2', c2, List.length_map]
        have e3 : ∀ xs : List (List Nat), (xs.all (okP cs)) = xs.all ((fun d => match d with | .str p => okP cs p | _ => false) ∘ D.str) := fun xs => rfl
        rw [e3]
        split at key
        · rename_i q
          obtain ⟨v, ev⟩ := key
          rw [ev]
          simp [q]
        · rename_i q
          have q' : P.all ((fun d => match d with | .str p => okP cs p | _ => false) ∘ D.str) = false := by simpa using q
          rw [key]
          simp [q']
      · have c2' : (6 : Int) < P.length := by omega
        simp [c2', c2]
    · have c1' : (60 : Int) < s.length := by omega
      refine ⟨h, ?_, ⟨[], by simp⟩, fun _ => rfl⟩
      simp only [ev_seq]
      simp [tyD, isB, truD, dLen_str hs', dGt_int, c1', hasD, hasP, c1]
  · have hn : hasD d cs = false := by
      cases d <;> simp [hasD, tyD] at ht ⊢
      exact absurd ht.symm c
    refine ⟨h, ?_, ⟨[], by simp⟩, fun _ => rfl⟩
    simp only [ev_seq]
    simp [ht, hn]
    cases t <;> simp [isB, truD] at c ⊢
theorem path_eq {d : D} {h : LH} {t : BT} (ht : tyD d h = some t) (hl : ∀ s, d = .str s → s.length ≤ 1000000) :
    ∃ h', L.f_is_path [d] h = .ok (.bl (hasD d pcC)) h' ∧ Gr h h' ∧ ((∀ s, d ≠ .str s) → h' = h) := by
  obtain ⟨h', e, g, k⟩ := parts_eq (cs := pcC) ht hl
  refine ⟨h', ?_, g, k⟩
  unfold L.f_is_path
  rw [mkF_eq (by rfl)]
  unfold L.b_is_path
  simp [S_ofP, e]
theorem pattern_eq {d : D} {h : LH} {t : BT} (ht : tyD d h = some t) (hl : ∀ s, d = .str s → s.length ≤ 1000000) :
    ∃ h', L.f_is_pattern [d] h = .ok (.bl (hasD d ptC)) h' ∧ Gr h h' ∧ ((∀ s, d ≠ .str s) → h' = h) := by
  obtain ⟨h', e, g, k⟩ := parts_eq (cs := ptC) ht hl
  refine ⟨h', ?_, g, k⟩
  unfold L.f_is_pattern
  rw [mkF_eq (by rfl)]
  unfold L.b_is_pattern
  simp [S_ofT, e]
theorem dAppend_ref {h : LH} {r : Nat} {xs : List D} {y : D} (hr : h[r]? = some (.lst xs)) (hl : xs.length < 16777216) : dAppend (.ref r) [y] h = .ok .non (h.set r (.lst (xs ++ [y]))) := by
  show (match h[r]? with
    | some (.lst ys) => if ys.length < 16777216 then Res.ok D.non (h.set r (.lst (ys ++ [y]))) else .bad
    | _ => .bad) = _
  rw [hr]
  simp only [if_pos hl]
theorem isLst_ref {h : LH} {r : Nat} {xs : List D} (hr : h[r]? = some (.lst xs)) : isLst (.ref r) h = true := by
  unfold isLst seqD
  simp only [hr]
end HM
set_option Elab.async false
set_option linter.all false
set_option maxRecDepth 100000
set_option maxHeartbeats 4000000
namespace HM
open PySem L2
/-! ### == of lists of numbers -/
theorem toPs_ints {h : LH} : ∀ (E : List Int) (n : Nat), E.length < n → toPs (n + 1) h (E.map D.int) = some (E.map PyData.int) := by
  intro E
  induction E with
  | nil => intro n _; rfl
  | cons a E ih =>
    intro n hn
    obtain ⟨m, rfl⟩ : ∃ m, n = m + 1 := ⟨n - 1, by simp at hn; omega⟩
    have e := ih m (by simpa using hn)
    show (match toP (m + 1) h (.int a), toPs (m + 1) h (E.map D.int) with
      | some p, some ps => some (p :: ps)
      | _, _ => none) = _
    rw [e]
    rfl
theorem lay_ints (E : List Int) : PyData.canLayAll0 (E.map PyData.int) = true ∧ PyData.depthAll (E.map PyData.int) = 0 := by
  induction E with
  | nil => exact ⟨by simp [PyData.canLayAll0], by simp [PyData.depthAll]⟩
  | cons a E ih => exact ⟨by simp [PyData.canLayAll0, PyData.canLay0, ih.1], by simp [PyData.depthAll, PyData.depth, ih.2]⟩
theorem shaped_ints (E : List Int) : SeqAt.shaped (.list (E.map PyData.int)) = true := by
  unfold SeqAt.shaped
  simp [PyData.canLay0, PyData.depth, (lay_ints E).1, (lay_ints E).2]
theorem eqv_ints : ∀ (E F : List Int), PyData.eqvAll (E.map PyData.int) (F.map PyData.int) = decide (E = F)
  | [], [] => by simp [PyData.eqvAll]
  | _ :: _, [] => by simp [PyData.eqvAll]
  | [], _ :: _ => by simp [PyData.eqvAll]
  | a :: E, b :: F => by
    simp only [List.map_cons, PyData.eqvAll, PyData.eqv, eqv_ints E F]
    by_cases h1 : a = b <;> by_cases h2 : E = F <;> simp [h1, h2]
theorem dEq_ints {h : LH} {r q : Nat} {E F : List Int} (hr : h[r]? = some (.lst (E.map D.int))) (hq : h[q]? = some (.lst (F.map D.int))) (lE : E.length ≤ 90000) (lF : F.length ≤ 90000) :
    dEq (.ref r) (.ref q) h = .ok (.bl (decide (E = F))) h := by
  have t : ∀ (r : Nat) (E : List Int), h[r]? = some (.lst (E.map D.int)) → E.length ≤ 90000 → toP 10000000 h (.ref r) = some (.list (E.map PyData.int)) := by
    intro r E hr l
    show (match h[r]? with
      | some (.lst xs) => (toPs (9999998 + 1) h xs).map PyData.list
      | _ => none) = _
    rw [hr]
    simp only [toPs_ints E 9999998 (by omega), Option.map_some]
  unfold dEq dEqB
  simp only [t r E hr lE, t q F hq lF, shaped_ints, Bool.and_self, if_true, PyData.eqv, eqv_ints]
/-! ### matching of a part -/
def mt : List Nat → List Nat → Bool
  | [], p => p.isEmpty
  | c :: w, p => if c = 42 then (List.range (p.length + 1)).any (fun k => mt w (p.drop k)) else match p with
    | [] => false
    | d :: p' => decide (d = c) && mt w p'
theorem mt_cons (c : Nat) (w p : List Nat) : mt (c :: w) p = if c = 42 then (List.range (p.length + 1)).any (fun k => mt w (p.drop k)) else match p with
    | [] => false
    | d :: p' => decide (d = c) && mt w p' := rfl
def endsB (p : List Nat) (E : List Nat) (c : Nat) : List Nat := if c = 42 then (match E with
    | [] => []
    | e :: _ => List.range' e (p.length + 1 - e)) else (E.filter fun e => decide (p[e]? = some c)).map (· + 1)
theorem endsB_ok {p E : List Nat} {c : Nat} (hs : E.Pairwise (· ≤ ·)) (hb : ∀ e ∈ E, e ≤ p.length) : (endsB p E c).Pairwise (· ≤ ·) ∧ ∀ e ∈ endsB p E c, e ≤ p.length := by
  unfold endsB
  by_cases h : c = 42
  · rw [if_pos h]
    cases E with
    | nil => exact ⟨.nil, fun _ h => nomatch h⟩
    | cons a E =>
      refine ⟨?_, fun e he => ?_⟩
      · exact (List.pairwise_lt_range' (step := 1)).imp fun h => Nat.le_of_lt h
      · have := List.mem_range'_1.mp he
        have := hb a (by simp)
        omega
  · rw [if_neg h]
    refine ⟨?_, fun e he => ?_⟩
    · rw [List.pairwise_map]
      exact (hs.filter _).imp fun h => by omega
    · obtain ⟨x, hx, rfl⟩ := List.mem_map.mp he
      have h2 := (List.mem_filter.mp hx).2
      have := lt_of_get (of_decide_eq_true h2)
      omega
theorem pm_iff {p : List Nat} : ∀ (w E : List Nat), E.Pairwise (· ≤ ·) → (∀ e ∈ E, e ≤ p.length) → (p.length ∈ w.foldl (endsB p) E ↔ ∃ e ∈ E, mt w (p.drop e) = true)
  | [], E, hs, hb => by
    show p.length ∈ E ↔ ∃ e ∈ E, (p.drop e).isEmpty = true
    constructor
    · intro h
      exact ⟨_, h, by simp⟩
    · rintro ⟨e, he, h⟩
      have h1 := hb e he
      have h2 : p.length ≤ e := by simpa using h
      have : e = p.length := by omega
      rw [← this]
      exact he
  | c :: w, E, hs, hb => by
    have hk := endsB_ok (c := c) hs hb
    rw [List.foldl_cons, pm_iff w _ hk.1 hk.2]
    simp only [mt_cons]
    unfold endsB
    by_cases h : c = 42
    · simp only [if_pos h]
      cases E with
      | nil => simp
      | cons a E =>
        have ha := hb a (by simp)
        constructor
        · rintro ⟨e, he, hm⟩
          have h1 := List.mem_range'_1.mp he
          refine ⟨a, by simp, List.any_eq_true.mpr ⟨e - a, ?_, ?_⟩⟩
          · rw [List.mem_range, List.length_drop]
            omega
          · rw [List.drop_drop]
            rw [show a + (e - a) = e from by omega]
            exact hm
        · rintro ⟨e, he, hm⟩
          obtain ⟨k, hk, hm⟩ := List.any_eq_true.mp hm
          rw [List.mem_range, List.length_drop] at hk
          rw [List.drop_drop] at hm
          have h1 := hb e he
          have h2 : a ≤ e := by
            rcases List.mem_cons.mp he with rfl | he
            · exact Nat.le_refl _
            · exact (List.pairwise_cons.mp hs).1 e he
          exact ⟨e + k, List.mem_range'_1.mpr ⟨by omega, by omega⟩, hm⟩
    · simp only [if_neg h]
      constructor
      · rintro ⟨e, he, hm⟩
        obtain ⟨x, hx, rfl⟩ := List.mem_map.mp he
        obtain ⟨h1, h2⟩ := List.mem_filter.mp hx
        have h3 := of_decide_eq_true h2
        have hl := lt_of_get h3
        refine ⟨x, h1, ?_⟩
        rw [List.drop_eq_getElem_cons hl]
        rw [List.getElem?_eq_getElem hl] at h3
        injection h3 with h3
        simp [h3, hm]
      · rintro ⟨e, he, hm⟩
        by_cases hl : e < p.length
        · rw [List.drop_eq_getElem_cons hl] at hm
          simp at hm
          exact ⟨e + 1, List.mem_map.mpr ⟨e, List.mem_filter.mpr ⟨he, by simp [List.getElem?_eq_getElem hl, hm.1]⟩, rfl⟩, hm.2⟩
        · rw [List.drop_of_length_le (by omega)] at hm
          simp at hm
theorem pm_mt {w p : List Nat} : decide (p.length ∈ w.foldl (endsB p) [0]) = mt w p := by
  have := pm_iff (p := p) w [0] (List.pairwise_singleton _ _) (by simp)
  simp at this
  by_cases h : mt w p = true
  · rw [h, decide_eq_true (this.mpr h)]
  · rw [decide_eq_false (fun z => h (this.mp z))]
    simpa using h
/-! ### the mirrors of matching -/
def nD (E : List Nat) : List D := E.map fun e : Nat => D.int (e : Int)
theorem nD_ints (E : List Nat) : nD E = (E.map fun e : Nat => (e : Int)).map D.int := by
  unfold nD; rw [List.map_map]; rfl
theorem Gr.get {h h' : LH} (g : Gr h h') {i : Nat} {o : LO} (e : h[i]? = some o) : h'[i]? = some o := by
  obtain ⟨x, rfl⟩ := g
  rw [List.getElem?_append_left (lt_of_get e)]
  exact e
theorem Gr.refl (h : LH) : Gr h h := ⟨[], by simp⟩
theorem Gr.trans {h h1 h2 : LH} (a : Gr h h1) (b : Gr h1 h2) : Gr h h2 := by
  obtain ⟨x, rfl⟩ := a
  obtain ⟨y, rfl⟩ := b
  exact ⟨x ++ y, by rw [List.append_assoc]⟩
theorem Gr.push (h : LH) (x : List LO) : Gr h (h ++ x) := ⟨x, rfl⟩
theorem cut_one {p : List Nat} {e : Nat} (c : Nat) : (cutD p (some (e : Int)) (some ((e : Int) + 1)) = [c]) ↔ p[e]? = some c := by
  rw [cut_both (by omega) (by omega)]
  rw [show (e : Int).toNat = e from by omega, show ((e : Int) + 1).toNat - e = 1 from by omega]
  by_cases hl : e < p.length
  · rw [List.drop_eq_getElem_cons hl, List.getElem?_eq_getElem hl, List.take_succ_cons, List.take_zero]
    simp
  · rw [List.drop_of_length_le (by omega), List.getElem?_eq_none (by omega)]
    simp
theorem lrg_ok {a b : M D} {e : EN} {h h1 h2 : LH} {i j : Int} (ha : a e h = .ok (.int i) h1) (hb : b e h1 = .ok (.int j) h2) (hc : -(2 ^ 62) ≤ i ∧ i < 2 ^ 62 ∧ -(2 ^ 62) ≤ j ∧ j < 2 ^ 62 ∧ (j - i).toNat ≤ 2 ^ 24) :
    mLRg a b e h = .ok (.ref h2.length) (h2 ++ [.lst (rgD i j)]) := by
  unfold mLRg
  rw [ha]
  show (b e h1).bind _ = _
  rw [hb]
  show (if _ then _ else _) = _
  rw [if_pos hc]
theorem ends_ok {h : LH} {r : Nat} {E p : List Nat} {c : Nat} (hr : h[r]? = some (.lst (nD E))) (hE : E.length ≤ 1000) (hp : p.length ≤ 1000) (hb : ∀ e ∈ E, e ≤ p.length) :
    ∃ q h', L.f_ends_behind [.ref r, .str [c], .str p] h = .ok (.ref q) h' ∧ h'[q]? = some (.lst (nD (endsB p E c))) ∧ Gr h h' := by
  unfold L.f_ends_behind
  rw [mkF_eq (by rfl)]
  unfold L.b_ends_behind
  have est := S_eq "*"
  simp at est
  have hps : p.length ≤ 16777216 := by omega
  unfold endsB
  by_cases hc : c = 42
  · rw [if_pos hc]
    have e1 : (h ++ [LO.lst []])[r]? = some (.lst (nD E)) := by rw [List.getElem?_append_left (lt_of_get hr)]; exact hr
    have eq0 : dEq (.ref r) (.ref h.length) (h ++ [.lst []]) = .ok (.bl (decide (E = []))) (h ++ [.lst []]) := by
      have := dEq_ints (h := h ++ [.lst []]) (r := r) (q := h.length) (E := E.map fun e : Nat => (e : Int)) (F := []) (by rw [e1, nD_ints]) (by simp) (by simp; omega) (by simp)
      rw [this]
      simp
    cases E with
    | nil =>
      refine ⟨h.length + 1, h ++ [.lst []] ++ [.lst []], ?_, ?_, ?_⟩
      · simp only [ev_seq]
        simp [hc, est, dNe_str, eq0]
      · rw [List.append_assoc, List.getElem?_append_right (by omega)]; simp [nD]
      · exact (Gr.push h _).trans (Gr.push _ _)
    | cons a E =>
      have ha := hb a (by simp)
      refine ⟨h.length + 1, h ++ [.lst []] ++ [.lst (nD (List.range' a (p.length + 1 - a)))], ?_, ?_, ?_⟩
      · have ei : dIx (.ref r) (.int 0) (h ++ [.lst []]) = .ok (.int a) (h ++ [.lst []]) := dIx_ref e1 (atI_of (by decide) rfl)
        have erg : rgD (a : Int) ((p.length : Int) + 1) = nD (List.range' a (p.length + 1 - a)) := by
          unfold rgD nD
          rw [List.range'_eq_map_range, List.map_map, show ((p.length : Int) + 1 - a).toNat = p.length + 1 - a from by omega]
          rfl
        have el := lrg_ok (a := mOp dIx (mVar 0) (mC (.int 0))) (b := mOp dAdd (mApp dLen (mCons (mVar 2) mNil)) (mC (.int 1))) (e := [some (.ref r), some (.str [42]), some (.str p), none]) (h := h ++ [.lst []]) (h1 := h ++ [.lst []]) (h2 := h ++ [.lst []]) (i := a) (j := (p.length : Int) + 1) (by simp [ei]) (by simp [dLen_str hps, dAdd_int]) (by omega)
        rw [erg] at el
        simp only [ev_seq]
        simp [hc, est, dNe_str, eq0, el]
      · rw [List.append_assoc, List.getElem?_append_right (by omega)]; simp
      · exact (Gr.push h _).trans (Gr.push _ _)
  · rw [if_neg hc]
    have key := loopC_gen (g := itO r) (t := .nm 3) (c := mTst (mOp dEq (mSl (mVar 2) (mPart (mVar 3)) (mPart (mOp dAdd (mVar 3) (mC (.int 1))))) (mVar 1))) (y := mOp dAdd (mVar 3) (mC (.int 1)))
      (e := [some (.ref r), some (.str [c]), some (.str p), none]) (k := h.length) (N := E.length) (fun j => .int (E.getD j 0 : Nat))
      (fun j acc g => g = h ++ [.lst acc] ∧ acc = nD (((E.take j).filter fun e => decide (p[e]? = some c)).map (· + 1)))
      (fun j acc g hj hi => by
        have : (h ++ [LO.lst acc])[r]? = some (.lst (nD E)) := by rw [List.getElem?_append_left (lt_of_get hr)]; exact hr
        rw [hi.1, itO_get this]
        unfold nD
        rw [List.getElem?_map]
        by_cases c : j < E.length
        · rw [if_pos c, List.getD_eq_getElem?_getD, List.getElem?_eq_getElem c]; rfl
        · rw [if_neg c, List.getElem?_eq_none (by omega)]; rfl)
      (fun j acc g hj hi => by rw [hi.1]; simp) (by
        rintro j acc g hj ⟨rfl, ea⟩
        have ej : E[j]? = some (E.getD j 0) := by rw [List.getD_eq_getElem?_getD, List.getElem?_eq_getElem hj]; rfl
        have et : E.take (j + 1) = E.take j ++ [E.getD j 0] := by rw [List.take_succ, ej]; rfl
        refine ⟨_, rfl, ?_⟩
        have al : acc.length ≤ E.length := by
          rw [ea]; unfold nD
          rw [List.length_map, List.length_map]
          refine Nat.le_trans (List.length_filter_le _ _) ?_
          rw [List.length_take]; omega
        by_cases q : p[E.getD j 0]? = some c
        · right
          refine ⟨h ++ [.lst acc], .int ((E.getD j 0 : Nat) + 1), h ++ [.lst acc], acc, ?_, rfl, by simp, by omega, ?_, ?_⟩
          · have := (cut_one (p := p) (e := E.getD j 0) c).mpr q
            generalize E.getD j 0 = z at *
            simp [dAdd_int, dSl_str hps, this, dEq_str]
          · simp
          · rw [et, List.filter_append, List.map_append, ea]
            have : List.filter (fun e => decide (p[e]? = some c)) [E.getD j 0] = [E.getD j 0] := by
              rw [List.filter_cons, if_pos (decide_eq_true q)]; rfl
            rw [this]
            unfold nD
            rw [List.map_append]
            rfl
        · left
          refine ⟨_, ?_, rfl, ?_⟩
          · have : ¬ cutD p (some ((E.getD j 0 : Nat) : Int)) (some (((E.getD j 0 : Nat) : Int) + 1)) = [c] := fun z => q ((cut_one c).mp z)
            generalize E.getD j 0 = z at *
            simp [dAdd_int, dSl_str hps, this, dEq_str]
          · rw [et, List.filter_append, ea]
            have : List.filter (fun e => decide (p[e]? = some c)) [E.getD j 0] = [] := by
              rw [List.filter_cons, if_neg (by simpa using q)]; rfl
            rw [this, List.append_nil]) E.length 0 [] (h ++ [.lst []]) (by omega) ⟨rfl, rfl⟩
    obtain ⟨acc, h', e2, rfl, ea⟩ := key
    rw [List.take_length] at ea
    refine ⟨h.length, h ++ [.lst acc], ?_, by rw [ea]; simp, Gr.push _ _⟩
    simp only [ev_seq]
    simp [hc, est, dNe_str, hr, wipeM, show (nD E).length = E.length from by unfold nD; rw [List.length_map], e2]
theorem endsB_len {p E : List Nat} {c : Nat} (hE : E.length ≤ p.length + 1) : (endsB p E c).length ≤ p.length + 1 := by
  unfold endsB
  by_cases h : c = 42
  · rw [if_pos h]
    cases E with
    | nil => exact Nat.zero_le _
    | cons a E => simp only [List.length_range']; omega
  · rw [if_neg h, List.length_map]
    exact Nat.le_trans (List.length_filter_le _ _) hE
theorem pmatch_ok {h : LH} {w p : List Nat} (hp : p.length ≤ 900) : ∃ h', L.f_part_matches [.str w, .str p] h = .ok (.bl (mt w p)) h' ∧ Gr h h' := by
  unfold L.f_part_matches
  rw [mkF_eq (by rfl)]
  unfold L.b_part_matches
  have hps : p.length ≤ 16777216 := by omega
  have key := loopF_list (t := .nm 3) (xs := w.map fun c => D.str [c]) (body := sSet 2 (mApp L.f_ends_behind (mCons (mVar 2) (mCons (mVar 3) (mCons (mVar 1) mNil)))))
    (fun j e g => Gr h g ∧ ∃ (r : Nat) (v : Option D) (E : List Nat), e = [some (.str w), some (.str p), some (.ref r), v] ∧ g[r]? = some (.lst (nD E)) ∧ E = (w.take j).foldl (endsB p) [0] ∧ E.Pairwise (· ≤ ·) ∧ (∀ e ∈ E, e ≤ p.length) ∧ E.length ≤ p.length + 1)
    (fun r => ∃ (g : LH) (q : Nat) (v : Option D), r = .next [some (.str w), some (.str p), some (.ref q), v] g ∧ Gr h g ∧ g[q]? = some (.lst (nD (w.foldl (endsB p) [0]))))
    (fun j d e g hd ⟨hG, r, v, E, he, hr, hE, hs, hb, hl⟩ => by
      subst he
      rw [List.getElem?_map] at hd
      cases es : w[j]? with
      | none => rw [es] at hd; cases hd
      | some ch =>
        rw [es] at hd
        cases hd
        have et : w.take (j + 1) = w.take j ++ [ch] := by rw [List.take_succ, es]; rfl
        obtain ⟨q, g', eq, hq, hG'⟩ := ends_ok (c := ch) hr (by omega) (by omega) hb
        refine ⟨[some (.str w), some (.str p), some (.ref r), some (.str [ch])], rfl, ?_⟩
        have hk := endsB_ok (c := ch) hs hb
        have eb : (sSet 2 (mApp L.f_ends_behind (mCons (mVar 2) (mCons (mVar 3) (mCons (mVar 1) mNil))))) [some (.str w), some (.str p), some (.ref r), some (.str [ch])] g = .next [some (.str w), some (.str p), some (.ref q), some (.str [ch])] g' := by
          simp [eq]
        rw [eb]
        refine ⟨hG.trans hG', q, _, endsB p E ch, rfl, hq, ?_, hk.1, hk.2, endsB_len hl⟩
        rw [et, List.foldl_append, ← hE]
        rfl)
    (fun e g ⟨hG, r, v, E, he, hr, hE, _⟩ => by
      rw [List.length_map, List.take_length] at hE
      subst hE
      exact ⟨g, r, v, by rw [he], hG, hr⟩) (e := [some (.str w), some (.str p), some (.ref h.length), none]) (h := h ++ [.lst [.int 0]])
      ⟨Gr.push _ _, h.length, none, [0], rfl, by simp [nD], rfl, List.pairwise_singleton _ _, by simp, by simp⟩
  rw [List.length_map] at key
  obtain ⟨g, q, v, er, hG, hq⟩ := key
  refine ⟨g, ?_, hG⟩
  have ein : dIn (.int p.length) (.ref q) g = .ok (.bl (decide (p.length ∈ w.foldl (endsB p) [0]))) g := by
    show (match seqD (.ref q) g with
      | some xs => if flD (.int p.length) && xs.all flD then Res.ok (D.bl (xs.any fun y => eqF y (.int p.length))) g else .bad
      | none => .bad) = _
    have e : seqD (.ref q) g = some (nD (w.foldl (endsB p) [0])) := by
      show (match g[q]? with
        | some (.lst xs) => some xs
        | _ => none) = _
      rw [hq]
    rw [e]
    generalize w.foldl (endsB p) [0] = E
    have e1 : (nD E).all flD = true := by
      unfold nD
      rw [List.all_map]
      exact List.all_eq_true.mpr fun _ _ => rfl
    have e2 : ((nD E).any fun y => eqF y (.int p.length)) = decide (p.length ∈ E) := by
      unfold nD
      rw [List.any_map, Bool.eq_iff_iff, List.any_eq_true, decide_eq_true_eq]
      constructor
      · rintro ⟨x, hx, hq⟩
        have : ((x : Int) == (p.length : Int)) = true := hq
        have := eq_of_beq this
        have : x = p.length := by omega
        rw [← this]; exact hx
      · intro hx
        exact ⟨_, hx, beq_self_eq_true _⟩
    simp only [e1, e2, flD, Bool.and_self, if_true]
  rw [pm_mt] at ein
  simp only [ev_seq]
  simp [er, dLen_str hps, ein]
def mts : List (List Nat) → List (List Nat) → Bool
  | [], [] => true
  | w :: ws, p :: ps => mt w p && mts ws ps
  | _, _ => false
theorem mts_len : ∀ {ws ps : List (List Nat)}, mts ws ps = true → ws.length = ps.length
  | [], [], _ => rfl
  | [], _ :: _, h => by simp [mts] at h
  | _ :: _, [], h => by simp [mts] at h
  | w :: ws, p :: ps, h => by
    simp [mts] at h
    simp [mts_len h.2]
theorem cut1_le (k : Nat) : ∀ (s acc : List Nat), ∀ p ∈ cut1 k acc s, p.length ≤ acc.length + s.length := by
  intro s
  induction s with
  | nil =>
    intro acc p hp
    have : p = acc := by simpa [cut1] using hp
    rw [this]; simp
  | cons c r ih =>
    intro acc p hp
    unfold cut1 at hp
    by_cases h : c = k
    · rw [if_pos h] at hp
      rcases List.mem_cons.mp hp with rfl | hp
      · simp
      · have := ih [] p hp
        simp at this ⊢
        omega
    · rw [if_neg h] at hp
      have := ih _ p hp
      simp at this ⊢
      omega
theorem cut1_cnt (k : Nat) : ∀ (s acc : List Nat), (cut1 k acc s).length ≤ s.length + 1 := by
  intro s
  induction s with
  | nil => intro acc; simp [cut1]
  | cons c r ih =>
    intro acc
    unfold cut1
    by_cases h : c = k
    · rw [if_pos h]
      have := ih []
      simp
      omega
    · rw [if_neg h]
      have := ih (acc ++ [c])
      simp
      omega
theorem rng1_int {a : M (List D)} {e : EN} {h h1 : LH} {n : Int} (ha : a e h = .ok [.int n] h1) (hc : -(2 ^ 62) ≤ n ∧ n < 2 ^ 62) : iRng1M a e h = .ok (itN n.toNat, n.toNat) h1 := by
  rw [ev_rng1, ha]
  simp only [bind_ok]
  rw [if_pos hc]
theorem rng1_nat {a : M (List D)} {e : EN} {h h1 : LH} {n : Nat} (ha : a e h = .ok [.int n] h1) (hc : n ≤ 1000000000) : iRng1M a e h = .ok (itN n, n) h1 := by
  have := rng1_int ha ⟨by omega, by omega⟩
  rw [Int.toNat_natCast] at this
  exact this
theorem dSplit_one {s : List Nat} {k : Nat} {h : LH} (hk : k < 256) (hl : s.length ≤ 1000000) : dSplit (.str s) [.str [k]] h = .ok (.ref h.length) (h ++ [.lst ((cut1 k [] s).map D.str)]) := by
  show (if [k] ≠ [] ∧ [k].all (· < 256) = true ∧ s.length + 2 ≤ 16777216 then Res.ok (D.ref h.length) (h ++ [.lst ((TL.spl [k] 0 [] s).map D.str)]) else .bad) = _
  rw [if_pos ⟨by simp, by simp [hk], by omega⟩, spl_one]
theorem matches_ok {h : LH} {a b : List Nat} (ha : a.length ≤ 800) (hb : b.length ≤ 800) : ∃ h', L.f_matches [.str a, .str b] h = .ok (.bl (mts (cut1 47 [] a) (cut1 47 [] b))) h' ∧ Gr h h' := by
  unfold L.f_matches
  rw [mkF_eq (by rfl)]
  unfold L.b_matches
  have esl := S_eq "/"
  simp at esl
  have s1 := dSplit_one (s := a) (k := 47) (h := h) (by decide) (by omega)
  have lw := cut1_le 47 a []
  have lp := cut1_le 47 b []
  have lc := cut1_cnt 47 b []
  generalize cut1 47 [] a = ws at *
  have s2 := dSplit_one (s := b) (k := 47) (h := h ++ [.lst (ws.map D.str)]) (by decide) (by omega)
  generalize cut1 47 [] b = ps at *
  obtain ⟨h2, eh2⟩ : ∃ h2, h ++ [.lst (ws.map D.str)] ++ [.lst (ps.map D.str)] = h2 := ⟨_, rfl⟩
  rw [eh2] at s2
  have g1 : h2[h.length]? = some (.lst (ws.map D.str)) := by rw [← eh2]; simp
  have g2 : h2[h.length + 1]? = some (.lst (ps.map D.str)) := by rw [← eh2, List.append_assoc, List.getElem?_append_right (by omega)]; simp
  have hG : Gr h h2 := by rw [← eh2]; exact (Gr.push h _).trans (Gr.push _ _)
  have hlen : (h ++ [LO.lst (ws.map D.str)]).length = h.length + 1 := by simp
  rw [hlen] at s2
  have l1 : dLen [.ref h.length] h2 = .ok (.int ws.length) h2 := by rw [dLen_ref g1, List.length_map]
  have l2 : dLen [.ref (h.length + 1)] h2 = .ok (.int ps.length) h2 := by rw [dLen_ref g2, List.length_map]
  simp only [ev_seq]
  by_cases c : ws.length = ps.length
  · obtain ⟨B, hB⟩ : ∃ B : MS, B = sIf (mTNot (mTru (mApp L.f_part_matches (mCons (mOp dIx (mVar 2) (mVar 4)) (mCons (mOp dIx (mVar 3) (mVar 4)) mNil))))) (sRet (mC (.bl false))) sNil := ⟨_, rfl⟩
    have key := loopF_gen (g := itN ps.length) (t := .nm 4) (body := B) (N := ps.length) (fun j => .int (j : Nat))
      (fun j e g => Gr h2 g ∧ (∃ v, e = [some (.str a), some (.str b), some (.ref h.length), some (.ref (h.length + 1)), v]) ∧ mts (ws.drop j) (ps.drop j) = mts ws ps)
      (fun r => (∃ e g, r = .next e g ∧ Gr h2 g ∧ mts ws ps = true) ∨ ∃ g, r = .ret (.bl false) g ∧ Gr h2 g ∧ mts ws ps = false)
      (fun j e g hj hi => rfl) (by
        rintro j e g hj ⟨hg, ⟨v, rfl⟩, hm⟩
        have hw : j < ws.length := by omega
        rw [List.drop_eq_getElem_cons hw, List.drop_eq_getElem_cons hj] at hm
        have ix1 : dIx (.ref h.length) (.int j) g = .ok (.str ws[j]) g := dIx_ref (hg.get g1) (atI_of (by omega) (by
          rw [show ((j : Int)).toNat = j from by omega, List.getElem?_map, List.getElem?_eq_getElem hw]; rfl))
        have ix2 : dIx (.ref (h.length + 1)) (.int j) g = .ok (.str ps[j]) g := dIx_ref (hg.get g2) (atI_of (by omega) (by
          rw [show ((j : Int)).toNat = j from by omega, List.getElem?_map, List.getElem?_eq_getElem hj]; rfl))
        have hl := lp ps[j] (List.getElem_mem hj)
        obtain ⟨g', ep, gp⟩ := pmatch_ok (h := g) (w := ws[j]) (p := ps[j]) (by simp at hl; omega)
        refine ⟨[some (.str a), some (.str b), some (.ref h.length), some (.ref (h.length + 1)), some (.int (j : Nat))], rfl, ?_⟩
        by_cases q : mt ws[j] ps[j] = true
        · have eb : B [some (.str a), some (.str b), some (.ref h.length), some (.ref (h.length + 1)), some (.int (j : Nat))] g = .next [some (.str a), some (.str b), some (.ref h.length), some (.ref (h.length + 1)), some (.int (j : Nat))] g' := by
            subst hB
            simp [ix1, ix2, ep, q, truD]
          rw [eb]
          refine ⟨hg.trans gp, ⟨_, rfl⟩, ?_⟩
          rw [← hm]
          show _ = (mt ws[j] ps[j] && mts (ws.drop (j + 1)) (ps.drop (j + 1)))
          rw [q, Bool.true_and]
        · have q' : mt ws[j] ps[j] = false := by simpa using q
          have eb : B [some (.str a), some (.str b), some (.ref h.length), some (.ref (h.length + 1)), some (.int (j : Nat))] g = .ret (.bl false) g' := by
            subst hB
            simp [ix1, ix2, ep, q', truD]
          rw [eb]
          refine .inr ⟨g', rfl, hg.trans gp, ?_⟩
          rw [← hm]
          show (mt ws[j] ps[j] && mts (ws.drop (j + 1)) (ps.drop (j + 1))) = false
          rw [q', Bool.false_and])
      (fun e g ⟨hg, _, hm⟩ => by
        rw [List.drop_length, ← c, List.drop_length] at hm
        exact .inl ⟨e, g, rfl, hg, hm.symm⟩) ps.length 0 [some (.str a), some (.str b), some (.ref h.length), some (.ref (h.length + 1)), none] h2 (by omega) ⟨Gr.refl _, ⟨none, rfl⟩, rfl⟩
    subst hB
    have er1 := rng1_nat (a := mCons (mApp dLen (mCons (mVar 3) mNil)) mNil) (e := [some (.str a), some (.str b), some (.ref h.length), some (.ref (h.length + 1)), none]) (h := h2) (h1 := h2) (n := ps.length) (by simp [l2]) (Nat.le_trans lc (by omega))
    rcases key with ⟨e, g, er, hg, hm⟩ | ⟨g, er, hg, hm⟩
    · exact ⟨g, by simp [esl, isStr, s1, s2, l1, l2, dNe_int, c, er1, er, hm], hG.trans hg⟩
    · exact ⟨g, by simp [esl, isStr, s1, s2, l1, l2, dNe_int, c, er1, er, hm], hG.trans hg⟩
  · have hm : mts ws ps = false := by
      cases e : mts ws ps with
      | false => rfl
      | true => exact absurd (mts_len e) c
    have c' : ¬ (ws.length : Int) = ps.length := by omega
    exact ⟨h2, by simp [esl, isStr, s1, s2, l1, l2, dNe_int, c', c, hm], hG⟩
end HM
set_option Elab.async false
set_option linter.all false
set_option maxRecDepth 100000
set_option maxHeartbeats 4000000
namespace HM
open PySem L2
/-! ### facts of matching; cut and join -/
theorem SF.ne {r : Nat} {h h' : LH} (s : SF r h h') : h'.length ≠ 0 := by
  obtain ⟨a, b, e⟩ := s.st
  have := lt_of_get e
  omega
end HM
set_option Elab.async false
set_option linter.all false
set_option maxRecDepth 100000
set_option maxHeartbeats 4000000
namespace HM
open PySem L2
/-! ### the law's table -/
structure Kp (h g : LH) : Prop where
  le : h.length ≤ g.length
  keep : ∀ i, i < h.length → g[i]? = h[i]?
theorem Kp.refl (h : LH) : Kp h h := ⟨Nat.le_refl _, fun _ _ => rfl⟩
theorem Kp.trans {a b c : LH} (x : Kp a b) (y : Kp b c) : Kp a c := ⟨Nat.le_trans x.le y.le, fun i hi => (y.keep i (Nat.lt_of_lt_of_le hi x.le)).trans (x.keep i hi)⟩
theorem Kp.push (h : LH) (x : List LO) : Kp h (h ++ x) := ⟨by simp, fun i hi => List.getElem?_append_left hi⟩
theorem Kp.of_gr {h g : LH} (x : Gr h g) : Kp h g := by
  obtain ⟨y, rfl⟩ := x
  exact Kp.push h y
theorem Kp.get {h g : LH} (x : Kp h g) {i : Nat} {o : LO} (e : h[i]? = some o) : g[i]? = some o := (x.keep i (lt_of_get e)).trans e
theorem Kp.set {h g : LH} (x : Kp h g) {i : Nat} {o : LO} (hi : h.length ≤ i) : Kp h (g.set i o) := ⟨by simpa using x.le, fun k hk => by rw [List.getElem?_set_ne (by omega)]; exact x.keep k hk⟩
end HM
set_option Elab.async false
set_option linter.all false
set_option maxRecDepth 100000
set_option maxHeartbeats 4000000
namespace HM
open PySem L2
/-! ### canonical texts -/
mutual
def encD : D → List Nat
  | .str s => strI s.length ++ 58 :: s
  | .int i => strI i ++ [46]
  | .tup xs => 91 :: (encL xs ++ [93])
  | _ => []
def encL : List D → List Nat
  | [] => []
  | x :: xs => encD x ++ encL xs
end
def plainD : Nat → D → Bool
  | _, .str s => allC s
  | _, .int i => decide (0 ≤ i) && decide (i ≤ 99999999999999999999)
  | r + 1, .tup xs => xs.all (plainD r)
  | _, _ => false
def Ty (h : LH) : Nat → D → Prop
  | r, d => (∃ t, tyD d h = some t) ∧ (∀ s, d = .str s → s.length ≤ 1000000) ∧ match r, d with
    | r + 1, .tup xs => ∀ x ∈ xs, Ty h r x
    | _, _ => True
theorem Kp.ty {h g : LH} (k : Kp h g) : ∀ {r : Nat} {d : D}, Ty h r d → Ty g r d := by
  have t1 : ∀ (d : D) t, tyD d h = some t → tyD d g = some t := by
    intro d t ht
    cases d with
    | ref i =>
      unfold tyD at ht ⊢
      simp only at ht ⊢
      cases e : h[i]? with
      | none => rw [e] at ht; simp at ht
      | some o => rw [k.get e]; rw [e] at ht; exact ht
    | _ => exact ht
  intro r
  induction r with
  | zero =>
    intro d hd
    unfold Ty at hd ⊢
    obtain ⟨⟨t, ht⟩, hs, hx⟩ := hd
    exact ⟨⟨t, t1 d t ht⟩, hs, by cases d <;> trivial⟩
  | succ r ih =>
    intro d hd
    unfold Ty at hd ⊢
    obtain ⟨⟨t, ht⟩, hs, hx⟩ := hd
    refine ⟨⟨t, t1 d t ht⟩, hs, ?_⟩
    cases d with
    | tup xs => exact fun x hx' => ih (hx x hx')
    | _ => trivial
theorem strI_len {n : Nat} (h : n < 10 ^ 20) : (strI (n : Int)).length ≤ 20 := by
  unfold strI
  have e : (Str.ofString (toString ((n : Nat) : Int))).cps.toList = (Nat.toDigits 10 n).map Char.toNat := by
    have := PyProof.Rows.text_ofNat n
    have e2 : (Str.ofString (toString (Int.ofNat n))).cps.toList = (Nat.toDigits 10 n).map Char.toNat := by rw [this]
    exact e2
  rw [e, List.length_map]
  exact (Nat.length_toDigits_le_iff (n := n) (b := 10) (k := 20) (by decide) (by decide)).mpr h
theorem strI_pos {n : Nat} : strI (n : Int) = (Nat.toDigits 10 n).map Char.toNat := by
  unfold strI
  have := PyProof.Rows.text_ofNat n
  have e2 : (Str.ofString (toString (Int.ofNat n))).cps.toList = (Nat.toDigits 10 n).map Char.toNat := by rw [this]
  exact e2
theorem dStr_int {i : Int} {h : LH} (hi : i.natAbs < 10 ^ 60) : dStr [.int i] h = .ok (.str (strI i)) h := by
  have hlog : i.natAbs.log2 < 1920 := Nat.lt_trans (PySem.Flt.log2_lt_of (k := 200) (by decide) (Nat.lt_of_lt_of_le hi (by decide))) (by decide)
  show (if i.natAbs.log2 < 1920 then Res.ok (D.str (strI i)) h else .bad) = _
  rw [if_pos hlog]
theorem encD_str (s : List Nat) : encD (.str s) = strI s.length ++ 58 :: s := by rw [encD]
theorem encD_int (i : Int) : encD (.int i) = strI i ++ [46] := by rw [encD]
theorem encD_tup (xs : List D) : encD (.tup xs) = 91 :: (encL xs ++ [93]) := by rw [encD]
theorem encD_pos (r : Nat) (d : D) (h : plainD r d = true) : 0 < (encD d).length := by
  cases d with
  | str s => rw [encD_str]; simp <;> omega
  | int i => rw [encD_int]; simp
  | tup xs => rw [encD_tup]; simp
  | _ => cases r <;> simp [plainD] at h
theorem Ty.out {h : LH} {r : Nat} {d : D} (t : Ty h r d) : (∃ t, tyD d h = some t) ∧ (∀ s, d = .str s → s.length ≤ 1000000) := by
  unfold Ty at t
  exact ⟨t.1, t.2.1⟩
theorem Ty.items {h : LH} {r : Nat} {xs : List D} (t : Ty h (r + 1) (.tup xs)) : ∀ x ∈ xs, Ty h r x := by
  unfold Ty at t
  exact t.2.2
theorem tup_len {xs : List D} : (encD (.tup xs)).length = (encL xs).length + 2 := by
  rw [encD_tup]
  simp
end HM
set_option Elab.async false
set_option linter.all false
set_option maxRecDepth 100000
set_option maxHeartbeats 4000000
namespace HM
open PySem L2
/-! ### closed values; == with texts and with the empty row -/
def okS (s : List Nat) : Prop := s.length ≤ 1000000 ∧ ∀ c ∈ s, c < 1114112
def Cl (h : LH) : Nat → D → Prop
  | 0, d => match d with
    | .non => True
    | .bl _ => True
    | .int _ => True
    | .str s => okS s
    | _ => False
  | r + 1, d => match d with
    | .non => True
    | .bl _ => True
    | .int _ => True
    | .str s => okS s
    | .tup xs => xs.length ≤ 200000 ∧ ∀ x ∈ xs, Cl h r x
    | .ref i => ∃ xs, h[i]? = some (.lst xs) ∧ xs.length ≤ 200000 ∧ ∀ x ∈ xs, Cl h r x
    | _ => False
theorem Cl.kp {h g : LH} (k : Kp h g) : ∀ {r : Nat} {d : D}, Cl h r d → Cl g r d := by
  intro r
  induction r with
  | zero =>
    intro d hd
    cases d <;> first | exact hd | trivial
  | succ r ih =>
    intro d hd
    cases d with
    | tup xs => exact ⟨hd.1, fun x hx => ih (hd.2 x hx)⟩
    | ref i =>
      obtain ⟨xs, e, hl, hx⟩ := hd
      exact ⟨xs, k.get e, hl, fun x hm => ih (hx x hm)⟩
    | _ => first | exact hd | trivial
theorem Cl.up {h : LH} : ∀ {r : Nat} {d : D}, Cl h r d → Cl h (r + 1) d := by
  intro r
  induction r with
  | zero =>
    intro d hd
    cases d <;> first | exact hd | exact hd.elim | trivial
  | succ r ih =>
    intro d hd
    cases d with
    | tup xs => exact ⟨hd.1, fun x hx => ih (hd.2 x hx)⟩
    | ref i =>
      obtain ⟨xs, e, hl, hx⟩ := hd
      exact ⟨xs, e, hl, fun x hm => ih (hx x hm)⟩
    | _ => first | exact hd | trivial
theorem Cl.mono {h : LH} {r r' : Nat} {d : D} (hr : r ≤ r') (c : Cl h r d) : Cl h r' d := by
  induction hr with
  | refl => exact c
  | step _ ih => exact ih.up
theorem Cl.str {h : LH} {r : Nat} {s : List Nat} (c : Cl h r (.str s)) : okS s := by cases r <;> exact c
theorem Cl.len {h : LH} {r : Nat} {d : D} (c : Cl h r d) : ∀ s, d = .str s → s.length ≤ 1000000 := by
  rintro s rfl
  exact c.str.1
theorem Cl.tup {h : LH} {r : Nat} {xs : List D} (c : Cl h (r + 1) (.tup xs)) : xs.length ≤ 200000 ∧ ∀ x ∈ xs, Cl h r x := c
theorem Cl.ty {h : LH} {r : Nat} {d : D} (c : Cl h r d) : ∃ t, tyD d h = some t := by
  cases r with
  | zero => cases d <;> first | exact ⟨_, rfl⟩ | exact c.elim
  | succ r =>
    cases d with
    | ref i =>
      obtain ⟨xs, e, _⟩ := c
      exact ⟨.list, by unfold tyD; simp only [e]⟩
    | scr _ => exact c.elim
    | exn _ => exact c.elim
    | exr _ _ _ => exact c.elim
    | _ => exact ⟨_, rfl⟩
def GP (r : Nat) (p : PyData) : Prop := PyData.canLay0 p = true ∧ PyData.depth p ≤ r
theorem clPs {h : LH} {r m : Nat} : ∀ {xs : List D}, (∀ x ∈ xs, ∀ n, m ≤ n → ∃ p, toP n h x = some p ∧ GP r p) → ∀ n, m + xs.length + 1 ≤ n → ∃ ps, toPs n h xs = some ps ∧ ps.length = xs.length ∧ PyData.canLayAll0 ps = true ∧ PyData.depthAll ps ≤ r
  | [], _, n, hn => by
    obtain ⟨k, rfl⟩ : ∃ k, n = k + 1 := ⟨n - 1, by omega⟩
    exact ⟨[], by unfold toPs; rfl, rfl, rfl, Nat.zero_le _⟩
  | x :: xs, hx, n, hn => by
    rw [List.length_cons] at hn
    obtain ⟨k, rfl⟩ : ∃ k, n = k + 1 := ⟨n - 1, by omega⟩
    obtain ⟨p, e1, g1⟩ := hx x (by simp) k (by omega)
    obtain ⟨ps, e2, l2, c2, d2⟩ := clPs (xs := xs) (fun y hy => hx y (by simp [hy])) k (by omega)
    refine ⟨p :: ps, ?_, by simp [l2], ?_, ?_⟩
    · unfold toPs
      simp only [e1, e2]
    · show (PyData.canLay0 p && PyData.canLayAll0 ps) = true
      rw [g1.1, c2]; rfl
    · show max (PyData.depth p) (PyData.depthAll ps) ≤ r
      have := g1.2
      omega
def toPK (d : D) (p : PyData) : Prop := match d with
  | .non => p = .none
  | .bl b => p = .bool b
  | .int i => p = .int i
  | .str s => p = .str ⟨s.toArray⟩
  | .tup xs => ∃ ps, p = .tuple ps ∧ ps.length = xs.length
  | .ref _ => ∃ ps, p = .list ps
  | _ => False
theorem strOk_ok {s : List Nat} (h : okS s) : PyData.strOk ⟨s.toArray⟩ = true := by
  unfold PyData.strOk
  simp only [List.all_toArray, List.all_eq_true, decide_eq_true_eq]
  intro c hc
  exact h.2 c hc
theorem clP {h : LH} : ∀ {r : Nat} {d : D}, Cl h r d → ∀ n, 200010 * (r + 1) ≤ n → ∃ p, toP n h d = some p ∧ GP r p ∧ toPK d p := by
  intro r
  induction r with
  | zero =>
    intro d hd n hn
    obtain ⟨k, rfl⟩ : ∃ k, n = k + 1 := ⟨n - 1, by omega⟩
    cases d with
    | non => exact ⟨_, by unfold toP; rfl, ⟨rfl, Nat.le_refl _⟩, rfl⟩
    | bl b => exact ⟨_, by unfold toP; rfl, ⟨rfl, Nat.le_refl _⟩, rfl⟩
    | int i => exact ⟨_, by unfold toP; rfl, ⟨rfl, Nat.le_refl _⟩, rfl⟩
    | str s => exact ⟨_, by unfold toP; rfl, ⟨(by show PyData.strOk _ = true; exact strOk_ok hd), Nat.le_refl _⟩, rfl⟩
    | _ => exact hd.elim
  | succ r ih =>
    intro d hd n hn
    obtain ⟨k, rfl⟩ : ∃ k, n = k + 1 := ⟨n - 1, by omega⟩
    cases d with
    | non => exact ⟨_, by unfold toP; rfl, ⟨rfl, Nat.zero_le _⟩, rfl⟩
    | bl b => exact ⟨_, by unfold toP; rfl, ⟨rfl, Nat.zero_le _⟩, rfl⟩
    | int i => exact ⟨_, by unfold toP; rfl, ⟨rfl, Nat.zero_le _⟩, rfl⟩
    | str s => exact ⟨_, by unfold toP; rfl, ⟨(by show PyData.strOk _ = true; exact strOk_ok hd), Nat.zero_le _⟩, rfl⟩
    | tup xs =>
      obtain ⟨ps, e, hl, c, dp⟩ := clPs (h := h) (r := r) (m := 200010 * (r + 1)) (xs := xs) (fun x hx n hn => by
        obtain ⟨p, a, b, _⟩ := ih (hd.2 x hx) n hn
        exact ⟨p, a, b⟩) k (by have := hd.1; omega)
      refine ⟨.tuple ps, ?_, ⟨c, ?_⟩, ps, rfl, hl⟩
      · unfold toP
        simp only [e, Option.map_some]
      · show PyData.depthAll ps + 1 ≤ r + 1
        omega
    | ref i =>
      obtain ⟨xs, ei, hl0, hx⟩ := hd
      obtain ⟨ps, e, hl, c, dp⟩ := clPs (h := h) (r := r) (m := 200010 * (r + 1)) (xs := xs) (fun x hm n hn => by
        obtain ⟨p, a, b, _⟩ := ih (hx x hm) n hn
        exact ⟨p, a, b⟩) k (by omega)
      refine ⟨.list ps, ?_, ⟨c, ?_⟩, ps, rfl⟩
      · unfold toP
        simp only [ei, e, Option.map_some]
      · show PyData.depthAll ps + 1 ≤ r + 1
        omega
    | _ => exact hd.elim
theorem GP.shaped {r : Nat} {p : PyData} (g : GP r p) (hr : r ≤ 40) : SeqAt.shaped p = true := by
  unfold SeqAt.shaped
  rw [g.1, Bool.true_and]
  exact decide_eq_true (by have := g.2; omega)
def isS (s : List Nat) (d : D) : Bool := match d with
  | .str t => decide (t = s)
  | _ => false
theorem dEqB_str {h : LH} {r : Nat} {d : D} {s : List Nat} (c : Cl h r d) (hr : r ≤ 40) (hs : okS s) : dEqB 10000000 d (.str s) h = some (isS s d) := by
  cases d with
  | tup xs =>
    obtain ⟨p, e, g, k⟩ := clP c 10000000 (by omega)
    obtain ⟨ps, rfl, _⟩ := k
    obtain ⟨q, e2, g2, k2⟩ := clP (h := h) (r := 0) (d := .str s) hs 10000000 (by omega)
    have k2' : q = .str ⟨s.toArray⟩ := k2
    subst k2'
    unfold dEqB
    simp only [e, e2, g.shaped hr, g2.shaped (by omega), Bool.and_self, if_true]
    simp [PyData.eqv, isS]
  | ref i =>
    obtain ⟨p, e, g, k⟩ := clP c 10000000 (by omega)
    obtain ⟨ps, rfl⟩ := k
    obtain ⟨q, e2, g2, k2⟩ := clP (h := h) (r := 0) (d := .str s) hs 10000000 (by omega)
    have k2' : q = .str ⟨s.toArray⟩ := k2
    subst k2'
    unfold dEqB
    simp only [e, e2, g.shaped hr, g2.shaped (by omega), Bool.and_self, if_true]
    simp [PyData.eqv, isS]
  | scr _ => cases r <;> exact c.elim
  | exn _ => cases r <;> exact c.elim
  | exr _ _ _ => cases r <;> exact c.elim
  | _ => rfl
theorem dEq_cl {h : LH} {r : Nat} {d : D} {s : List Nat} (c : Cl h r d) (hr : r ≤ 40) (hs : okS s) : dEq d (.str s) h = .ok (.bl (isS s d)) h := by
  unfold dEq
  rw [dEqB_str c hr hs]
theorem dEqB_tup0 {h : LH} {r : Nat} {xs : List D} (c : Cl h r (.tup xs)) (hr : r ≤ 40) : dEqB 10000000 (.tup xs) (.tup []) h = some xs.isEmpty := by
  obtain ⟨p, e, g, k⟩ := clP c 10000000 (by omega)
  obtain ⟨ps, rfl, hl⟩ := k
  obtain ⟨q, e2, g2, k2⟩ := clP (h := h) (r := 1) (d := .tup []) ⟨by simp, by simp⟩ 10000000 (by omega)
  obtain ⟨qs, rfl, hl2⟩ := k2
  have : qs = [] := List.eq_nil_of_length_eq_zero (by simpa using hl2)
  subst this
  unfold dEqB
  simp only [e, e2, g.shaped hr, g2.shaped (by omega), Bool.and_self, if_true]
  cases ps with
  | nil =>
    have : xs = [] := List.eq_nil_of_length_eq_zero (by simpa using hl.symm)
    subst this
    simp [PyData.eqv, PyData.eqvAll]
  | cons a l =>
    cases xs with
    | nil => simp at hl
    | cons => simp [PyData.eqv, PyData.eqvAll]
theorem dEq_tup0 {h : LH} {r : Nat} {xs : List D} (c : Cl h r (.tup xs)) (hr : r ≤ 40) : dEq (.tup xs) (.tup []) h = .ok (.bl xs.isEmpty) h := by
  unfold dEq
  rw [dEqB_tup0 c hr]
/-! ### rows, tables, numbers -/
def isRow (n : Int) (d : D) : Bool := match d with
  | .tup xs => decide ((xs.length : Int) = n)
  | _ => false
def isTab (n : Int) (d : D) : Bool := match d with
  | .tup xs => decide ((xs.length : Int) ≤ n)
  | _ => false
def isInt (lo hi : Int) (d : D) : Bool := match d with
  | .int i => decide (lo ≤ i ∧ i ≤ hi)
  | _ => false
theorem isInt_inv {lo hi : Int} {d : D} (h : isInt lo hi d = true) : ∃ i, d = .int i ∧ lo ≤ i ∧ i ≤ hi := by
  cases d with
  | int i => exact ⟨i, rfl, by simpa [isInt] using h⟩
  | _ => cases h
theorem isInt_of {lo hi i : Int} (h1 : lo ≤ i) (h2 : i ≤ hi) : isInt lo hi (.int i) = true := by
  simp [isInt, h1, h2]
theorem tyD_tup {d : D} {h : LH} (t : tyD d h = some .tuple) : ∃ xs, d = .tup xs := by
  cases d with
  | tup xs => exact ⟨xs, rfl⟩
  | ref i =>
    unfold tyD at t
    simp only at t
    split at t <;> cases t
  | _ => cases t
theorem tyD_int {d : D} {h : LH} (t : tyD d h = some .int) : ∃ i, d = .int i := by
  cases d with
  | int i => exact ⟨i, rfl⟩
  | ref i =>
    unfold tyD at t
    simp only at t
    split at t <;> cases t
  | _ => cases t
theorem row_eq' {d : D} {h : LH} {t : BT} {n : Int} (ht : tyD d h = some t) : L.f_is_row [d, .int n] h = .ok (.bl (isRow n d)) h := by
  unfold L.f_is_row
  rw [mkF_eq (by rfl)]
  unfold L.b_is_row
  by_cases c : t = .tuple
  · subst c
    obtain ⟨xs, rfl⟩ := tyD_tup ht
    simp [tyD, isB, dLen_tup, dEq_int, isRow]
  · have e : isRow n d = false := by
      cases d with
      | tup xs => exact absurd (Option.some.inj ht).symm c
      | _ => rfl
    simp [ht, e]
    cases t <;> simp [isB] at c ⊢
theorem tab_eq {d : D} {h : LH} {t : BT} {n : Int} (ht : tyD d h = some t) : L.f_is_table [d, .int n] h = .ok (.bl (isTab n d)) h := by
  unfold L.f_is_table
  rw [mkF_eq (by rfl)]
  unfold L.b_is_table
  by_cases c : t = .tuple
  · subst c
    obtain ⟨xs, rfl⟩ := tyD_tup ht
    simp [tyD, isB, dLen_tup, dLe_int, isTab]
  · have e : isTab n d = false := by
      cases d with
      | tup xs => exact absurd (Option.some.inj ht).symm c
      | _ => rfl
    simp [ht, e]
    cases t <;> simp [isB] at c ⊢
theorem int_eq {d : D} {h : LH} {t : BT} {lo hi : Int} (ht : tyD d h = some t) : L.f_is_integer [d, .int lo, .int hi] h = .ok (.bl (isInt lo hi d)) h := by
  by_cases c : t = .int
  · subst c
    obtain ⟨i, rfl⟩ := tyD_int ht
    exact integer_eq
  · rw [integer_no ht c]
    cases d with
    | int i => exact absurd (Option.some.inj ht).symm c
    | _ => rfl
abbrev isVer (d : D) : Bool := isInt 1 1000000000000 d
abbrev isAm (d : D) : Bool := isInt 0 1000000000000 d
theorem ver_eq {d : D} {h : LH} {t : BT} (ht : tyD d h = some t) : L.f_is_version [d] h = .ok (.bl (isVer d)) h := by
  unfold L.f_is_version
  rw [mkF_eq (by rfl)]
  unfold L.b_is_version
  simp [int_eq ht]
theorem am_eq {d : D} {h : LH} {t : BT} (ht : tyD d h = some t) : L.f_is_amount [d] h = .ok (.bl (isAm d)) h := by
  unfold L.f_is_amount
  rw [mkF_eq (by rfl)]
  unfold L.b_is_amount
  simp [int_eq ht]
/-! ### digests -/
def isDg (d : D) : Bool := match d with
  | .str s => decide (s.length = 18) && s.all (inC hxC)
  | _ => false
theorem dg_eq {d : D} {h : LH} {t : BT} (ht : tyD d h = some t) (hl : ∀ s, d = .str s → s.length ≤ 1000000) : L.f_is_digest [d] h = .ok (.bl (isDg d)) h := by
  unfold L.f_is_digest
  rw [mkF_eq (by rfl)]
  unfold L.b_is_digest
  by_cases c : t = .str
  · subst c
    obtain ⟨s, rfl⟩ := tyD_str ht
    have hl' := hl s rfl
    by_cases c1 : s.length = 18
    · have c1' : (s.length : Int) = 18 := by omega
      have key := loopS_test (body := (sIf (mTst (mOp dNotIn (mVar 1) (mC (.str hxC)))) (sRet (mC (.bl false))) sNil)) (i := 1) (s := s) (h := h) (e := [some (.str s), none]) (inC hxC) (by simp) (fun c hc => by
        by_cases q : c ∈ hxC <;> simp [dNotIn_chr, inC, q])
      by_cases q : s.all (inC hxC) = true
      · rw [if_pos q] at key
        obtain ⟨v, ev⟩ := key
        simp [ev_seq, tyD, isB, truD, dLen_str (show s.length ≤ 16777216 by omega), dNe_int, c1, S_ofH, isDg, q]
        simp [c1] at ev
        simp [ev]
      · rw [if_neg q] at key
        have q' : s.all (inC hxC) = false := by simpa using q
        simp [ev_seq, tyD, isB, truD, dLen_str (show s.length ≤ 16777216 by omega), dNe_int, c1, S_ofH, isDg, q']
        simp [c1] at key
        simp [key]
    · have c1' : ¬ (s.length : Int) = 18 := by omega
      simp [ev_seq, tyD, isB, truD, dLen_str (show s.length ≤ 16777216 by omega), dNe_int, c1, c1', isDg]
  · have e : isDg d = false := by
      cases d with
      | str xs => exact absurd (Option.some.inj ht).symm c
      | _ => rfl
    simp [ev_seq, ht, e]
    cases t <;> simp [isB, truD] at c ⊢
end HM
set_option Elab.async false
set_option linter.all false
set_option maxRecDepth 100000
set_option maxHeartbeats 4000000
namespace HM
open PySem L2
/-! ### classes and dicts evaluated -/
section
variable {e : EN} {h : LH}
def kMeth (c m : String) (f : MF) (a : M (List D)) (e : EN) (x : D) (h : LH) : Res D := match insD c x h with
  | some (_, fs) => match getF m fs with
    | none => (a e h).bind fun xs h2 => f (x :: xs) h2
    | some _ => .bad
  | none => .bad
@[simp] theorem ev_meth {c m : String} {f : MF} {o : M D} {a : M (List D)} : mMeth c m f o a e h = (o e h).bind fun x h1 => kMeth c m f a e x h1 := rfl
theorem kMeth_ok {c m : String} {f : MF} {a : M (List D)} {i : Nat} {fs : List (String × D)} (hi : h[i]? = some (.ins c fs)) (hm : getF m fs = none) : kMeth c m f a e (.ref i) h = (a e h).bind fun xs h2 => f (.ref i :: xs) h2 := by
  unfold kMeth insD
  simp only [hi, if_true, hm]
theorem insD_at {c : String} {i : Nat} {fs : List (String × D)} (hi : h[i]? = some (.ins c fs)) : insD c (.ref i) h = some (i, fs) := by
  unfold insD
  simp only [hi, if_true]
theorem fld_at {c f : String} {i : Nat} {fs : List (String × D)} {d : D} (hi : h[i]? = some (.ins c fs)) (hd : getF f fs = some d) : fldD c f (.ref i) h = .ok d h := by
  unfold fldD
  rw [insD_at hi]
  simp only [hd]
def kMake (f : MF) (h1 : LH) (c : String) (xs : List D) : Res D := (f (.ref h1.length :: xs) (h1 ++ [.ins c []])).bind fun d h2 => match d with
  | .non => .ok (.ref h1.length) h2
  | _ => .bad
@[simp] theorem ev_make {c : String} {f : MF} {a : M (List D)} : mMake c f a e h = (a e h).bind fun xs h1 => kMake f h1 c xs := rfl
theorem kMake_ok {f : MF} {c : String} {xs : List D} {h2 : LH} (hf : f (.ref h.length :: xs) (h ++ [.ins c []]) = .ok .non h2) : kMake f h c xs = .ok (.ref h.length) h2 := by
  unfold kMake
  rw [hf]
  rfl
def kFldSet (c f : String) (e : EN) (y x : D) (h2 : LH) : RSt := match insD c x h2 with
  | some (i, fs) => if fs.length < 1000 then .next e (h2.set i (.ins c (putFD f y fs))) else .bad
  | none => .bad
@[simp] theorem ev_fldSet {c f : String} {o v : M D} : sFldSet c f o v e h = rsBind (v e h) e fun y h1 => rsBind (o e h1) e fun x h2 => kFldSet c f e y x h2 := rfl
theorem kFldSet_ok {c f : String} {i : Nat} {fs : List (String × D)} {y : D} (hi : h[i]? = some (.ins c fs)) (hl : fs.length < 1000) : kFldSet c f e y (.ref i) h = .next e (h.set i (.ins c (putFD f y fs))) := by
  unfold kFldSet
  rw [insD_at hi]
  simp only [if_pos hl]
@[simp] theorem ev_raise {x : String} : sRaise x e h = .exc ⟨x, []⟩ e h := rfl
@[simp] theorem ev_raiseI {x : String} {m : M D} : sRaiseI x m e h = rsBind (m e h) e fun d h1 => .exc ⟨x, [("reason", d)]⟩ e h1 := rfl
/-! dicts -/
theorem dct_k {i : Nat} {kvs : List (KD × D)} (hi : h[i]? = some (.dK kvs)) : dctD (.ref i) h = some (i, .k kvs) := by
  unfold dctD
  simp only [hi]
theorem dcR_k {i : Nat} {kvs : List (KD × D)} (hi : h[i]? = some (.dK kvs)) : dctR (.ref i) h = some (i, .k kvs) := by
  unfold dctR
  simp only [hi]
theorem dct_t {i : Nat} {kvs : List (List KD × D)} (hi : h[i]? = some (.dT kvs)) : dctD (.ref i) h = some (i, .t kvs) := by
  unfold dctD
  simp only [hi]
theorem ixA_at {i : Nat} {kvs : List (KD × D)} {y d : D} {k : KD} (hi : h[i]? = some (.dK kvs)) (hk : keyD y = some k) (hd : getKD k kvs = some d) : dIxA (.ref i) y h = .ok d h := by
  unfold dIxA dGetK
  simp only [dcR_k hi, hk, hd]
theorem notInA_at {i : Nat} {kvs : List (KD × D)} {y : D} {k : KD} (hi : h[i]? = some (.dK kvs)) (hk : keyD y = some k) : dNotInA y (.ref i) h = .ok (.bl (!(getKD k kvs).isSome)) h := by
  unfold dNotInA inKD
  simp only [dcR_k hi, hk]
def kPut (e : EN) (v x y : D) (h3 : LH) : RSt := match dctD x h3, keyD y with
  | some (i, .k kvs), some k => if kvs.length < 16777216 then .next e (h3.set i (.dK (putKD k v kvs))) else .bad
  | _, _ => .bad
@[simp] theorem ev_putK {ma mb mv : M D} : sPutK ma mb mv e h = rsBind (mv e h) e fun v h1 => rsBind (ma e h1) e fun x h2 => rsBind (mb e h2) e fun y h3 => kPut e v x y h3 := rfl
theorem kPut_ok {i : Nat} {kvs : List (KD × D)} {v y : D} {k : KD} (hi : h[i]? = some (.dK kvs)) (hk : keyD y = some k) (hl : kvs.length < 16777216) : kPut e v (.ref i) y h = .next e (h.set i (.dK (putKD k v kvs))) := by
  unfold kPut
  simp only [dct_k hi, hk, if_pos hl]
def kDel (e : EN) (x y : D) (h3 : LH) : RSt := match dctD x h3, keyD y with
  | some (i, .k kvs), some k => if (getKD k kvs).isSome = true then .next e (h3.set i (.dK (dropKD k kvs))) else .bad
  | _, _ => .bad
@[simp] theorem ev_delK {ma mb : M D} : sDelK ma mb e h = rsBind (ma e h) e fun x h2 => rsBind (mb e h2) e fun y h3 => kDel e x y h3 := rfl
theorem sortedA_n {i : Nat} {kvs : List (KD × D)} {ss : List (List Nat)} (hi : h[i]? = some (.dK kvs)) (hk : strKs (kvs.map (·.1)) = some ss) (hl : ss.length ≤ 1000000) : dSortedA [.ref i] h = .ok (.ref h.length) (h ++ [.lst ((sortS ss).map D.str)]) := by
  unfold dSortedA
  simp only [dct_k hi, hk, if_pos hl]
@[simp] theorem ev_dict0 : mDict0 e h = .ok (.ref h.length) (h ++ [.dK []]) := rfl
@[simp] theorem ev_dictT : mDictT e h = .ok (.ref h.length) (h ++ [.dT []]) := rfl
end
/-! ### == of data -/
end HM
set_option Elab.async false
set_option linter.all false
set_option maxRecDepth 100000
set_option maxHeartbeats 4000000
namespace HM
open PySem L2
/-! ### marks -/
def mkS (k t : List Nat) : List Nat := hexL (dig (k ++ 32 :: t))
theorem S_sp : S " " = .str [32] := S_eq " "
theorem mark_eq {k t : List Nat} {h : LH} (hl : k.length + t.length ≤ 2000000) : L.f_mark_of [.str k, .str t] h = .ok (.str (mkS k t)) h := by
  have a1 : dAdd (.str k) (.str [32]) h = .ok (.str (k ++ [32])) h := dAdd_str (by simp; omega)
  have a2 : dAdd (.str (k ++ [32])) (.str t) h = .ok (.str (k ++ [32] ++ t)) h := dAdd_str (by simp; omega)
  have e : k ++ [32] ++ t = k ++ 32 :: t := by simp
  have d := digest_eq (s := k ++ [32] ++ t) (h := h) (by simp; omega)
  rw [e] at d a2
  unfold L.f_mark_of
  rw [mkF_eq (by rfl)]
  unfold L.b_mark_of
  simp -implicitDefEqProofs [S_sp, a1, a2, d, mkS]
/-! the law's own digest -/
end HM
set_option Elab.async false
set_option linter.all false
set_option maxRecDepth 100000
set_option maxHeartbeats 4000000
namespace HM
open PySem L2
def cd : D → List Nat
  | .str s => s
  | _ => []
def ascL : List (List Nat) → Bool
  | a :: b :: l => decide (a < b) && ascL (b :: l)
  | _ => true
theorem ascL_iff : ∀ ss : List (List Nat), ascL ss = true ↔ ∀ i a b, ss[i]? = some a → ss[i + 1]? = some b → a < b
  | [] => ⟨fun _ i a b h => by simp at h, fun _ => rfl⟩
  | [x] => ⟨fun _ i a b _ h => by simp at h, fun _ => rfl⟩
  | x :: y :: l => by
    have ih := ascL_iff (y :: l)
    unfold ascL
    rw [Bool.and_eq_true, decide_eq_true_eq, ih]
    constructor
    · rintro ⟨h1, h2⟩ i a b ha hb
      cases i with
      | zero =>
        simp at ha hb
        subst ha hb
        exact h1
      | succ i =>
        simp only [List.getElem?_cons_succ] at ha hb
        exact h2 i a b ha (by simpa using hb)
    · intro h
      refine ⟨h 0 x y (by simp) (by simp), fun i a b ha hb => h (i + 1) a b (by simpa using ha) (by simpa using hb)⟩
theorem asc_eq {d : D} {h : LH} {ss : List (List Nat)} (hl : dLen [d] h = .ok (.int ss.length) h) (hx : ∀ (k : Nat) s, ss[k]? = some s → dIx d (.int k) h = .ok (.str s) h) (hn : ss.length ≤ 1000000) :
    L.f_is_ascending [d] h = .ok (.bl (ascL ss)) h := by
  unfold L.f_is_ascending
  rw [mkF_eq (by rfl)]
  unfold L.b_is_ascending
  have key := loopF_gen (g := itN2 1 (ss.length : Int)) (t := .nm 1) (body := sIf (mTst (mOp dGe (mOp dIx (mVar 0) (mOp dSub (mVar 1) (mC (.int 1)))) (mOp dIx (mVar 0) (mVar 1)))) (sRet (mC (.bl false))) sNil) (N := ss.length - 1) (fun j => .int (1 + (j : Nat)))
    (fun j e g => g = h ∧ (∃ v, e = [some d, v]) ∧ ∀ i a b, i < j → ss[i]? = some a → ss[i + 1]? = some b → a < b)
    (fun r => if ascL ss then ∃ v, r = .next [some d, v] h else r = .ret (.bl false) h)
    (fun j e g hj hi => by
      show some (if j < ((ss.length : Int) - 1).toNat then some (D.int (1 + j)) else none) = _
      rw [show ((ss.length : Int) - 1).toNat = ss.length - 1 by omega]) (by
      rintro j e g hj ⟨rfl, ⟨v, rfl⟩, hp⟩
      refine ⟨[some d, some (.int (1 + (j : Nat)))], rfl, ?_⟩
      have h1 : ss[j]? = some (ss[j]'(by omega)) := List.getElem?_eq_getElem _
      have h2 : ss[j + 1]? = some (ss[j + 1]'(by omega)) := List.getElem?_eq_getElem _
      have e1 := hx j _ h1
      have e2 := hx (j + 1) _ h2
      have c1 : 1 + (j : Int) - 1 = j := by omega
      have c2 : 1 + (j : Int) = ((j + 1 : Nat) : Int) := by omega
      have eg : ∀ (a b : List Nat), dGe (.str a) (.str b) g = .ok (.bl (!decide (a < b))) g := fun a b => rfl
      have key : (sIf (mTst (mOp dGe (mOp dIx (mVar 0) (mOp dSub (mVar 1) (mC (.int 1)))) (mOp dIx (mVar 0) (mVar 1)))) (sRet (mC (.bl false))) sNil) [some d, some (.int (1 + (j : Nat)))] g = if decide (ss[j] < ss[j + 1]) = true then .next [some d, some (.int (1 + (j : Nat)))] g else .ret (.bl false) g := by
        rw [c2] at *
        simp [dSub_int, show ((j + 1 : Nat) : Int) - 1 = j by omega, e1]
        have e2' : dIx d (.int ((j : Int) + 1)) g = .ok (.str ss[j + 1]) g := e2
        simp [e2', eg]
        by_cases q : ss[j] < ss[j + 1] <;> simp [q]
      rw [key]
      by_cases q : ss[j] < ss[j + 1]
      · rw [if_pos (decide_eq_true q)]
        refine ⟨rfl, ⟨_, rfl⟩, fun i a b hi ha hb => ?_⟩
        by_cases c : i = j
        · subst c
          rw [h1] at ha
          rw [h2] at hb
          cases ha
          cases hb
          exact q
        · exact hp i a b (by omega) ha hb
      · have : ¬ ascL ss = true := fun z => q ((ascL_iff ss).mp z j _ _ h1 h2)
        rw [if_neg (show ¬ decide (ss[j] < ss[j + 1]) = true from fun z => q (of_decide_eq_true z))]
        dsimp only
        rw [if_neg this])
    (fun e g ⟨hg, ⟨v, he⟩, hp⟩ => by
      subst hg he
      have : ascL ss = true := (ascL_iff ss).mpr fun i a b ha hb => hp i a b (by have := lt_of_get hb; omega) ha hb
      rw [if_pos this]
      exact ⟨v, rfl⟩) (ss.length - 1) 0 [some d, none] h (by omega) ⟨rfl, ⟨_, rfl⟩, fun i a b hi => by omega⟩
  simp -implicitDefEqProofs only [ev_seq]
  simp -implicitDefEqProofs [ev_rng2, hl, show (ss.length : Int) < 4611686018427387904 by omega, show -4611686018427387904 ≤ (ss.length : Int) by omega]
  by_cases q : ascL ss = true
  · rw [if_pos q] at key
    obtain ⟨v, ev⟩ := key
    simp [ev, q]
  · rw [if_neg q] at key
    have q' : ascL ss = false := by simpa using q
    simp [key, q']
/-! ### the law's own name, key -/
theorem isKey_str {d : D} (h : isKey d = true) : d = .str (cd d) := by
  cases d <;> first | rfl | (simp [isKey] at h; done)
theorem isLN_str {d : D} (h : isLN d = true) : d = .str (cd d) := by
  cases d <;> first | rfl | (simp [isLN] at h; done)
theorem row_inv2 {d : D} (h : isRow 2 d = true) : ∃ a b, d = .tup [a, b] := by
  cases d with
  | tup xs =>
    simp [isRow] at h
    match xs, h with
    | [a, b], _ => exact ⟨a, b, rfl⟩
    | [], h => simp at h
    | [_], h => simp at h
    | _ :: _ :: _ :: _, h => simp at h; omega
  | _ => simp [isRow] at h
theorem row_inv3 {d : D} (h : isRow 3 d = true) : ∃ a b c, d = .tup [a, b, c] := by
  cases d with
  | tup xs =>
    simp [isRow] at h
    match xs, h with
    | [a, b, c], _ => exact ⟨a, b, c, rfl⟩
    | [], h => simp at h
    | [_], h => simp at h
    | [_, _], h => simp at h
    | _ :: _ :: _ :: _ :: _, h => simp at h; omega
  | _ => simp [isRow] at h
theorem row_inv4 {d : D} (h : isRow 4 d = true) : ∃ a b c e, d = .tup [a, b, c, e] := by
  cases d with
  | tup xs =>
    simp [isRow] at h
    match xs, h with
    | [a, b, c, e], _ => exact ⟨a, b, c, e, rfl⟩
    | [], h => simp at h
    | [_], h => simp at h
    | [_, _], h => simp at h
    | [_, _, _], h => simp at h
    | _ :: _ :: _ :: _ :: _ :: _, h => simp at h; omega
  | _ => simp [isRow] at h
theorem row_inv6 {d : D} (h : isRow 6 d = true) : ∃ a b c e f g, d = .tup [a, b, c, e, f, g] := by
  cases d with
  | tup xs =>
    simp [isRow] at h
    match xs, h with
    | [a, b, c, e, f, g], _ => exact ⟨a, b, c, e, f, g, rfl⟩
    | [], h => simp at h
    | [_], h => simp at h
    | [_, _], h => simp at h
    | [_, _, _], h => simp at h
    | [_, _, _, _], h => simp at h
    | [_, _, _, _, _], h => simp at h
    | _ :: _ :: _ :: _ :: _ :: _ :: _ :: _, h => simp at h; omega
  | _ => simp [isRow] at h
theorem tab_inv {d : D} {n : Int} (h : isTab n d = true) : ∃ xs, d = .tup xs ∧ (xs.length : Int) ≤ n := by
  cases d with
  | tup xs => exact ⟨xs, rfl, by simpa [isTab] using h⟩
  | _ => simp [isTab] at h
theorem tup_ix {xs : List D} {k : Nat} {x : D} {h : LH} (e : xs[k]? = some x) : dIx (.tup xs) (.int k) h = .ok x h := dIx_tup (atI_nat e)
theorem cds_ix {xs : List D} {h : LH} (hx : ∀ x ∈ xs, x = .str (cd x)) : ∀ (k : Nat) s, (xs.map cd)[k]? = some s → dIx (.tup xs) (.int k) h = .ok (.str s) h := by
  intro k s hs
  rw [List.getElem?_map] at hs
  cases e : xs[k]? with
  | none => rw [e] at hs; cases hs
  | some x =>
    rw [e] at hs
    cases hs
    rw [tup_ix e]
    have := hx x (List.mem_of_getElem? e)
    rw [← this]
theorem asc_tup {xs : List D} {h : LH} (hx : ∀ x ∈ xs, x = .str (cd x)) (hn : xs.length ≤ 1000000) : L.f_is_ascending [.tup xs] h = .ok (.bl (ascL (xs.map cd))) h :=
  asc_eq (by rw [dLen_tup, List.length_map]) (cds_ix hx) (by rw [List.length_map]; exact hn)
/-! ### roles -/
def isRole (d : D) : Bool := match d with
  | .tup [a, .tup ks] => decide (ks.length ≤ 16) && (ks.all isKey && (ascL (ks.map cd) && isInt 1 ks.length a))
  | _ => false
theorem role_no1 {d : D} (h : isRow 2 d = false) : isRole d = false := by
  cases e : isRole d with
  | false => rfl
  | true =>
    unfold isRole at e
    split at e
    · simp [isRow] at h
    · cases e
theorem role_no2 {a b : D} (h : isTab 16 b = false) : isRole (.tup [a, b]) = false := by
  cases b with
  | tup ks =>
    have : ¬ ks.length ≤ 16 := by
      simp [isTab] at h
      omega
    simp [isRole, this]
  | _ => rfl
theorem role_eq {d : D} {h : LH} {r : Nat} (c : Cl h r d) : L.f_is_role [d] h = .ok (.bl (isRole d)) h := by
  obtain ⟨t, ht⟩ := c.ty
  unfold L.f_is_role
  rw [mkF_eq (by rfl)]
  unfold L.b_is_role
  have e1 := row_eq' (n := 2) ht
  cases q1 : isRow 2 d with
  | false =>
    rw [q1] at e1
    simp -implicitDefEqProofs only [ev_seq]
    simp -implicitDefEqProofs [e1, truD, role_no1 q1]
  | true =>
    rw [q1] at e1
    obtain ⟨a, b, rfl⟩ := row_inv2 q1
    cases r with
    | zero => exact c.elim
    | succ r =>
    have ca := c.2 a (by simp)
    have cb := c.2 b (by simp)
    obtain ⟨ta, hta⟩ := ca.ty
    obtain ⟨tb, htb⟩ := cb.ty
    have i0 : ∀ g, dIx (.tup [a, b]) (.int 0) g = .ok a g := fun _ => rfl
    have i1 : ∀ g, dIx (.tup [a, b]) (.int 1) g = .ok b g := fun _ => rfl
    have e2 := tab_eq (n := 16) htb
    cases q2 : isTab 16 b with
    | false =>
      rw [q2] at e2
      simp -implicitDefEqProofs only [ev_seq]
      simp -implicitDefEqProofs [e1, truD, i1, e2, role_no2 q2]
    | true =>
      rw [q2] at e2
      obtain ⟨ks, rfl, hk⟩ := tab_inv q2
      have ck : ∀ x ∈ ks, ∃ t, tyD x h = some t ∧ ∀ s, x = .str s → s.length ≤ 1000000 := by
        intro x hx
        cases r with
        | zero => exact cb.elim
        | succ r =>
          obtain ⟨t, ht⟩ := (cb.2 x hx).ty
          exact ⟨t, ht, (cb.2 x hx).len⟩
      have key := loopF_test (body := sIf (mTNot (mTru (mApp L.f_is_key (mCons (mVar 1) mNil)))) (sRet (mC (.bl false))) sNil) (i := 1) (xs := ks) (h := h) (e := [some (.tup [a, .tup ks]), none]) isKey (by simp) (fun x hx => by
        obtain ⟨t, h1, h2⟩ := ck x hx
        have := key_eq h1 fun s hs => by have := h2 s hs; omega
        cases q : isKey x <;> simp -implicitDefEqProofs [this, q, truD])
      have e3 := int_eq (lo := 1) (hi := ks.length) (h := h) hta
      have h16 : ks.length ≤ 16 := by omega
      cases q3 : ks.all isKey with
      | false =>
        rw [q3] at key
        simp only [Bool.false_eq_true, if_false] at key
        simp -implicitDefEqProofs only [ev_seq]
        simp -implicitDefEqProofs [e1, truD, i1, e2, key, isRole, q3]
      | true =>
        rw [q3] at key
        simp only [if_true] at key
        obtain ⟨v, ev⟩ := key
        have e4 := asc_tup (h := h) (xs := ks) (fun x hx => isKey_str (List.all_eq_true.mp q3 x hx)) (by omega)
        simp -implicitDefEqProofs only [ev_seq]
        cases q4 : ascL (ks.map cd) <;> rw [q4] at e4 <;> simp -implicitDefEqProofs [e1, truD, i0, i1, e2, ev, dLen_tup, e4, e3, isRole, q3, q4, h16]
end HM
set_option Elab.async false
set_option linter.all false
set_option maxRecDepth 100000
set_option maxHeartbeats 4000000
namespace HM
open PySem L2
/-! ### sums, heads, charters, stamps -/
def kCr : List Nat := (Str.ofString "charter").cps.toList
def kSt : List Nat := (Str.ofString "stamp").cps.toList
def kSh : List Nat := (Str.ofString "shelf").cps.toList
def kLi : List Nat := (Str.ofString "list").cps.toList
theorem S_li : S "list" = .str kLi := rfl
theorem okS_of {s : List Nat} (h1 : s.length ≤ 1000000) (h2 : s.all (fun c => decide (c < 1114112)) = true) : okS s :=
  ⟨h1, fun c hc => of_decide_eq_true (List.all_eq_true.mp h2 c hc)⟩
theorem ok_kLi : okS kLi := okS_of (by decide +kernel) (by decide +kernel)
theorem kinds : kCr ≠ kSt ∧ kCr ≠ kSh ∧ kCr ≠ kLi ∧ kSt ≠ kSh ∧ kSt ≠ kLi ∧ kSh ≠ kLi := by decide +kernel
def isSum (d : D) : Bool := match d with
  | .tup [a, b, c] => isVer a && (isAm b && isDg c)
  | _ => false
theorem head_eq {xs : List D} {a v e : D} {k : List Nat} {n : Nat} {h : LH} {r : Nat} (ok : okS k) (i0 : xs[0]? = some a) (i1 : xs[n]? = some v) (i2 : xs[n + 1]? = some e) (c : Cl h r (.tup xs)) (hr : r ≤ 40) :
    L.f_has_head [.tup xs, .str k, .int n] h = .ok (.bl (isS k a && (isVer v && isAm e))) h := by
  cases r with
  | zero => exact c.elim
  | succ r =>
  have ca := c.2 a (List.mem_of_getElem? i0)
  obtain ⟨tv, htv⟩ := (c.2 v (List.mem_of_getElem? i1)).ty
  obtain ⟨te, hte⟩ := (c.2 e (List.mem_of_getElem? i2)).ty
  unfold L.f_has_head
  rw [mkF_eq (by rfl)]
  unfold L.b_has_head
  have j0 : ∀ g, dIx (.tup xs) (.int 0) g = .ok a g := fun g => tup_ix (k := 0) i0
  have j1 : ∀ g, dIx (.tup xs) (.int n) g = .ok v g := fun g => tup_ix i1
  have j2 : ∀ g, dIx (.tup xs) (.int ((n : Int) + 1)) g = .ok e g := fun g => tup_ix (k := n + 1) i2
  have e1 := dEq_cl ca (by omega) ok
  have e2 := ver_eq htv
  have e3 := am_eq hte
  cases q1 : isS k a <;> cases q2 : isVer v <;> rw [q1] at e1 <;> rw [q2] at e2 <;> simp -implicitDefEqProofs [j0, j1, j2, dAdd_int, e1, e2, e3]
def isStamp (d : D) : Bool := match d with
  | .tup [k, v, e, s] => isS kSt k && (isVer v && (isAm e && isSum s))
  | _ => false
def isCharter (d : D) : Bool := match d with
  | .tup [k, v, e, .tup rs] => isS kCr k && (isVer v && (isAm e && (decide (rs.length = 4) && rs.all isRole)))
  | _ => false
end HM
set_option Elab.async false
set_option linter.all false
set_option maxRecDepth 100000
set_option maxHeartbeats 4000000
namespace HM
open PySem L2
/-! ### first items; shelves -/
theorem comp_map {i : Nat} {y : M D} {e : EN} {h : LH} {xs : List D} (f : D → D) (hn : xs.length ≤ 16777216)
    (hy : ∀ x g, x ∈ xs → y (e.set i (some x)) g = .ok (f x) g) :
    loopC (itL xs) (.nm i) mYes y e h.length xs.length 0 (h ++ [.lst []]) = .ok (.ref h.length) (h ++ [.lst (xs.map f)]) := by
  have key := compP (it := itL xs) (i := i) (n := xs.length) (y := y) (e := e) (h := h) (fun j => f (xs.getD j .non)) (fun j => xs.getD j .non) hn (fun j g hj => by
    unfold itL
    by_cases c : j < xs.length
    · rw [if_pos c, List.getD_eq_getElem?_getD, List.getElem?_eq_getElem c]; rfl
    · rw [if_neg c, List.getElem?_eq_none (by omega)]) (fun j acc hj => by
    have e1 : xs[j]? = some (xs.getD j .non) := by rw [List.getD_eq_getElem?_getD, List.getElem?_eq_getElem hj]; rfl
    exact hy _ _ (List.mem_of_getElem? e1))
  rw [key]
  congr 4
  apply List.ext_getElem
  · simp
  · intro j h1 h2
    simp at h1
    simp [List.getD_eq_getElem?_getD, h1]
def fst' (d : D) : D := match d with
  | .tup (x :: _) => x
  | _ => .non
def fstC (d : D) : List Nat := cd (fst' d)
theorem dIn_strs {s : List Nat} {r : Nat} {h : LH} {ss : List (List Nat)} (hr : h[r]? = some (.lst (ss.map D.str))) : dIn (.str s) (.ref r) h = .ok (.bl (ss.any fun t => decide (t = s))) h := by
  have e : seqD (.ref r) h = some (ss.map D.str) := by
    show (match h[r]? with
      | some (.lst xs) => some xs
      | _ => none) = _
    rw [hr]
  have f : (ss.map D.str).all flD = true := by simp [flD]
  have a : ((ss.map D.str).any fun y => eqF y (.str s)) = ss.any fun t => decide (t = s) := by
    rw [List.any_map]
    congr 1
    funext t
    show (t == s) = decide (t = s)
    rw [Bool.eq_iff_iff]
    simp
  have key : (match seqD (.ref r) h with
    | some xs => if (flD (.str s) && xs.all flD) = true then Res.ok (D.bl (xs.any fun y => eqF y (.str s))) h else .bad
    | none => .bad) = .ok (D.bl (ss.any fun t => decide (t = s))) h := by
    rw [e]
    simp only [f, a]
    simp [flD]
  match s with
  | [] => exact key
  | [c] => exact key
  | _ :: _ :: _ => exact key
theorem asc_ref {r : Nat} {h : LH} {ss : List (List Nat)} (hr : h[r]? = some (.lst (ss.map D.str))) (hn : ss.length ≤ 1000000) : L.f_is_ascending [.ref r] h = .ok (.bl (ascL ss)) h :=
  asc_eq (by rw [dLen_ref hr, List.length_map]) (fun k s hs => dIx_ref hr (atI_nat (by rw [List.getElem?_map, hs]; rfl))) hn
def isEnt (d : D) : Bool := match d with
  | .tup [n, a, b, c] => isLN n && isSum (.tup [a, b, c])
  | _ => false
def isShelf (d : D) : Bool := match d with
  | .tup [k, v, e, .tup rs] => isS kSh k && (isVer v && (isAm e && (decide (rs.length ≤ 32) && (rs.all isEnt && (ascL (rs.map fstC) && (rs.map fstC).any fun t => decide (t = kLi))))))
  | _ => false
theorem ent_fst {d : D} (h : isEnt d = true) : fst' d = .str (fstC d) := by
  unfold isEnt at h
  split at h
  · rw [Bool.and_eq_true] at h
    exact isLN_str h.1
  · cases h
end HM
set_option Elab.async false
set_option linter.all false
set_option maxRecDepth 100000
set_option maxHeartbeats 4000000
namespace HM
open PySem L2
/-! ### grants, goods, lists -/
theorem loopL_kp {body : MS} {i : Nat} {xs : List D} {h : LH} {e : EN} (p : D → Bool) (hi : i < e.length)
    (step : ∀ d g, d ∈ xs → Kp h g → ∃ g', Kp g g' ∧ body (e.set i (some d)) g = if p d then .next (e.set i (some d)) g' else .ret (.bl false) g') :
    ∃ g, Kp h g ∧ (if xs.all p then ∃ v, loopF (itL xs) (.nm i) body xs.length 0 e h = .next (e.set i v) g else loopF (itL xs) (.nm i) body xs.length 0 e h = .ret (.bl false) g) := by
  refine loopF_list (fun j e' g => Kp h g ∧ (∃ v, e' = e.set i v) ∧ (xs.take j).all p = true) (fun r => ∃ g, Kp h g ∧ (if xs.all p then ∃ v, r = .next (e.set i v) g else r = .ret (.bl false) g)) (fun j d e1 g hd ⟨q, ⟨v, ev⟩, ha⟩ => ?_) (fun e1 g ⟨q, ⟨v, ev⟩, ha⟩ => ?_) ⟨Kp.refl h, ⟨_, set_self hi⟩, by simp⟩
  · subst ev
    refine ⟨e.set i (some d), ?_, ?_⟩
    · show some ((e.set i v).set i (some d)) = _
      rw [List.set_set]
    · obtain ⟨g', K, eb⟩ := step d g (List.mem_of_getElem? hd) q
      rw [eb]
      by_cases c : p d = true
      · rw [if_pos c]
        refine ⟨q.trans K, ⟨_, rfl⟩, ?_⟩
        rw [List.take_succ, hd]
        simp [ha, c]
      · rw [if_neg c]
        have : ¬ xs.all p = true := fun z => c (List.all_eq_true.mp z d (List.mem_of_getElem? hd))
        exact ⟨g', q.trans K, by rw [if_neg this]⟩
  · subst ev
    rw [List.take_length] at ha
    exact ⟨g, q, by rw [if_pos ha]; exact ⟨v, rfl⟩⟩
abbrev isPa (d : D) : Bool := hasD d pcC
abbrev isPt (d : D) : Bool := hasD d ptC
theorem path_kp {d : D} {h : LH} {r : Nat} (c : Cl h r d) : ∃ h', Kp h h' ∧ L.f_is_path [d] h = .ok (.bl (isPa d)) h' := by
  obtain ⟨t, ht⟩ := c.ty
  obtain ⟨h', e, g, _⟩ := path_eq ht c.len
  exact ⟨h', Kp.of_gr g, e⟩
theorem pat_kp {d : D} {h : LH} {r : Nat} (c : Cl h r d) : ∃ h', Kp h h' ∧ L.f_is_pattern [d] h = .ok (.bl (isPt d)) h' := by
  obtain ⟨t, ht⟩ := c.ty
  obtain ⟨h', e, g, _⟩ := pattern_eq ht c.len
  exact ⟨h', Kp.of_gr g, e⟩
def isGrant (d : D) : Bool := match d with
  | .tup [n, rl, .tup ps, l] => isLN n && (!isS kLi n && (isRole rl && (decide (ps.length ≤ 8) && (!ps.isEmpty && (ps.all isPt && isInt 0 1 l)))))
  | _ => false
theorem grant_no {d : D} (h : isRow 4 d = false) : isGrant d = false := by
  cases e : isGrant d with
  | false => rfl
  | true =>
    unfold isGrant at e
    split at e
    · simp [isRow] at h
    · cases e
theorem grant_no2 {n rl b l : D} (h : isTab 8 b = false) : isGrant (.tup [n, rl, b, l]) = false := by
  cases b with
  | tup rs =>
    have : ¬ rs.length ≤ 8 := by
      simp [isTab] at h
      omega
    simp [isGrant, this]
  | _ => rfl
theorem grant_no3 {n rl b l : D} (h : (isLN n && (!isS kLi n && isRole rl)) = false) : isGrant (.tup [n, rl, b, l]) = false := by
  unfold isGrant
  split
  · rename_i w
    cases w
    cases a1 : isLN n <;> cases a2 : isS kLi n <;> cases a3 : isRole rl <;> rw [a1, a2, a3] at h <;> first | rfl | cases h
  · rfl
theorem grant_eq {d : D} {h : LH} {r : Nat} (c : Cl h r d) (hr : r ≤ 40) : ∃ h', Kp h h' ∧ L.f_is_grant [d] h = .ok (.bl (isGrant d)) h' := by
  obtain ⟨t, ht⟩ := c.ty
  unfold L.f_is_grant
  rw [mkF_eq (by rfl)]
  unfold L.b_is_grant
  rw [ev_seq]
  have e1 := row_eq' (n := 4) ht
  cases q1 : isRow 4 d with
  | false =>
    rw [q1] at e1
    refine ⟨h, Kp.refl h, ?_⟩
    simp -implicitDefEqProofs [e1, truD, grant_no q1]
  | true =>
    rw [q1] at e1
    obtain ⟨n, rl, b, l, rfl⟩ := row_inv4 q1
    cases r with
    | zero => exact c.elim
    | succ r =>
    have i0 : ∀ g, dIx (.tup [n, rl, b, l]) (.int 0) g = .ok n g := fun _ => rfl
    have i1 : ∀ g, dIx (.tup [n, rl, b, l]) (.int 1) g = .ok rl g := fun _ => rfl
    have i2 : ∀ g, dIx (.tup [n, rl, b, l]) (.int 2) g = .ok b g := fun _ => rfl
    have i3 : ∀ g, dIx (.tup [n, rl, b, l]) (.int 3) g = .ok l g := fun _ => rfl
    have cn := c.2 n (by simp)
    have cb := c.2 b (by simp)
    have cl := c.2 l (by simp)
    obtain ⟨tn, htn⟩ := cn.ty
    obtain ⟨tb, htb⟩ := cb.ty
    have e2 := name_eq htn (fun s hs => by have := cn.len s hs; omega)
    have e3 := dEq_cl cn (by omega) ok_kLi
    have e4 := role_eq (c.2 rl (by simp))
    have e5 := tab_eq (n := 8) htb
    cases q2 : (isLN n && (!isS kLi n && isRole rl)) with
    | false =>
      refine ⟨h, Kp.refl h, ?_⟩
      rw [grant_no3 q2]
      cases a1 : isLN n <;> rw [a1] at e2
      · simp -implicitDefEqProofs [e1, truD, i0, e2]
      · cases a2 : isS kLi n <;> rw [a2] at e3
        · have a3 : isRole rl = false := by rw [a1, a2] at q2; exact q2
          rw [a3] at e4
          simp -implicitDefEqProofs [ev_seq, e1, truD, i0, i1, e2, S_li, e3, e4]
        · simp -implicitDefEqProofs [e1, truD, i0, e2, S_li, e3]
    | true =>
      rw [Bool.and_eq_true, Bool.and_eq_true] at q2
      have q2b : isS kLi n = false := by simpa using q2.2.1
      rw [q2.1] at e2
      rw [q2b] at e3
      rw [q2.2.2] at e4
      cases q3 : isTab 8 b with
      | false =>
        rw [q3] at e5
        refine ⟨h, Kp.refl h, ?_⟩
        simp -implicitDefEqProofs [ev_seq, e1, truD, i0, i1, i2, e2, S_li, e3, e4, e5, grant_no2 q3]
      | true =>
        rw [q3] at e5
        obtain ⟨ps, rfl, hl⟩ := tab_inv q3
        have hl' : ps.length ≤ 8 := by omega
        have e6 := dEq_tup0 cb (by omega)
        have es : isGrant (.tup [n, rl, .tup ps, l]) = (isLN n && (!isS kLi n && (isRole rl && (decide (ps.length ≤ 8) && (!ps.isEmpty && (ps.all isPt && isInt 0 1 l)))))) := rfl
        rw [es, q2.1, q2b, q2.2.2, decide_eq_true hl']
        cases q4 : ps.isEmpty with
        | true =>
          rw [q4] at e6
          refine ⟨h, Kp.refl h, ?_⟩
          simp -implicitDefEqProofs [ev_seq, e1, truD, i0, i1, i2, e2, S_li, e3, e4, e5, e6]
        | false =>
          rw [q4] at e6
          cases r with
          | zero => exact cb.elim
          | succ r =>
          obtain ⟨h1, K1, key⟩ := loopL_kp (body := sIf (mTNot (mTru (mApp L.f_is_pattern (mCons (mVar 1) mNil)))) (sRet (mC (.bl false))) sNil) (i := 1) (xs := ps) (h := h) (e := [some (.tup [n, rl, .tup ps, l]), none]) isPt (by simp) (fun x g hx K => by
            obtain ⟨g', K', ep⟩ := pat_kp ((cb.2 x hx).kp K)
            refine ⟨g', K', ?_⟩
            cases q : isPt x <;> rw [q] at ep <;> simp -implicitDefEqProofs [ep, truD])
          obtain ⟨tl, htl⟩ := (cl.kp K1).ty
          have e7 := int_eq (lo := 0) (hi := 1) htl
          refine ⟨h1, K1, ?_⟩
          cases q5 : ps.all isPt with
          | false =>
            rw [q5] at key
            simp only [Bool.false_eq_true, if_false] at key
            simp -implicitDefEqProofs [ev_seq, e1, truD, i0, i1, i2, e2, S_li, e3, e4, e5, e6, key]
          | true =>
            rw [q5] at key
            simp only [if_true] at key
            obtain ⟨w, ev⟩ := key
            simp -implicitDefEqProofs [ev_seq, e1, truD, i0, i1, i2, i3, e2, S_li, e3, e4, e5, e6, ev, e7]
end HM
set_option Elab.async false
set_option linter.all false
set_option maxRecDepth 100000
set_option maxHeartbeats 4000000
namespace HM
open PySem L2
/-! ### goods, the grants of a list, lists -/
def isGood (d : D) : Bool := match d with
  | .tup [p, l, g] => isPa p && (isAm l && isDg g)
  | _ => false
def areGoods (d : D) : Bool := match d with
  | .tup rs => decide (rs.length ≤ 64) && (rs.all isGood && ascL (rs.map fstC))
  | _ => false
theorem good_no {d : D} (h : isRow 3 d = false) : isGood d = false := by
  cases e : isGood d with
  | false => rfl
  | true =>
    unfold isGood at e
    split at e
    · simp [isRow] at h
    · cases e
theorem isPa_str {cs : List Nat} {d : D} (h : hasD d cs = true) : d = .str (cd d) := by
  cases d <;> first | rfl | (simp [hasD] at h; done)
theorem good_fst {d : D} (h : isGood d = true) : fst' d = .str (fstC d) := by
  unfold isGood at h
  split at h
  · rw [Bool.and_eq_true] at h
    exact isPa_str h.1
  · cases h
theorem first_ix {rs : List D} {p : D → Bool} (hp : ∀ x, p x = true → fst' x = .str (fstC x)) (h : rs.all p = true) {e : EN} {x : D} {g : LH} (hi : 1 < e.length) (hx : x ∈ rs) : (mOp dIx (mVar 1) (mC (.int 0))) (e.set 1 (some x)) g = .ok (fst' x) g := by
  have h1 := hp x (List.all_eq_true.mp h x hx)
  have e0 : (e.set 1 (some x))[1]? = some (some x) := List.getElem?_set_self hi
  cases x with
  | tup xs =>
    cases xs with
    | nil => cases h1
    | cons a l =>
      have i0 : dIx (.tup (a :: l)) (.int 0) g = .ok a g := tup_ix (k := 0) rfl
      simp -implicitDefEqProofs [e0, i0, fst']
  | _ => cases h1
theorem firsts {rs : List D} {p : D → Bool} (hp : ∀ x, p x = true → fst' x = .str (fstC x)) (h : rs.all p = true) : rs.map fst' = (rs.map fstC).map D.str := by
  rw [List.map_map]
  exact List.map_congr_left fun x hx => hp x (List.all_eq_true.mp h x hx)
theorem good_body {x : D} {h : LH} {r : Nat} {e : EN} (c : Cl h r x) (hi : 1 < e.length) :
    ∃ h', Kp h h' ∧ (sIf (mTOr (mTNot (mTru (mApp L.f_is_row (mCons (mVar 1) (mCons (mC (.int 3)) mNil))))) (mTOr (mTNot (mTru (mApp L.f_is_path (mCons (mOp dIx (mVar 1) (mC (.int 0))) mNil)))) (mTOr (mTNot (mTru (mApp L.f_is_amount (mCons (mOp dIx (mVar 1) (mC (.int 1))) mNil)))) (mTNot (mTru (mApp L.f_is_digest (mCons (mOp dIx (mVar 1) (mC (.int 2))) mNil))))))) (sRet (mC (.bl false))) sNil) (e.set 1 (some x)) h =
      if isGood x then .next (e.set 1 (some x)) h' else .ret (.bl false) h' := by
  obtain ⟨t, ht⟩ := c.ty
  have e0 : (e.set 1 (some x))[1]? = some (some x) := List.getElem?_set_self hi
  have e1 := row_eq' (n := 3) ht
  cases q1 : isRow 3 x with
  | false =>
    rw [q1] at e1
    refine ⟨h, Kp.refl h, ?_⟩
    simp -implicitDefEqProofs [e0, e1, truD, good_no q1]
  | true =>
    rw [q1] at e1
    obtain ⟨p, l, f, rfl⟩ := row_inv3 q1
    cases r with
    | zero => exact c.elim
    | succ r =>
    have i0 : ∀ g, dIx (.tup [p, l, f]) (.int 0) g = .ok p g := fun _ => rfl
    have i1 : ∀ g, dIx (.tup [p, l, f]) (.int 1) g = .ok l g := fun _ => rfl
    have i2 : ∀ g, dIx (.tup [p, l, f]) (.int 2) g = .ok f g := fun _ => rfl
    obtain ⟨h1, K1, e2⟩ := path_kp (c.2 p (by simp))
    obtain ⟨tl, htl⟩ := ((c.2 l (by simp)).kp K1).ty
    have cf := (c.2 f (by simp)).kp K1
    obtain ⟨tf, htf⟩ := cf.ty
    have e3 := am_eq htl
    have e4 := dg_eq htf cf.len
    have es : isGood (.tup [p, l, f]) = (isPa p && (isAm l && isDg f)) := rfl
    rw [es]
    refine ⟨h1, K1, ?_⟩
    cases q2 : isPa p <;> rw [q2] at e2 <;> cases q3 : isAm l <;> rw [q3] at e3 <;> cases q4 : isDg f <;> rw [q4] at e4 <;> simp -implicitDefEqProofs [e0, e1, truD, i0, i1, i2, e2, e3, e4]
theorem goods_eq {d : D} {h : LH} {r : Nat} (c : Cl h r d) : ∃ h', Kp h h' ∧ L.f_are_goods [d] h = .ok (.bl (areGoods d)) h' := by
  obtain ⟨t, ht⟩ := c.ty
  unfold L.f_are_goods
  rw [mkF_eq (by rfl)]
  unfold L.b_are_goods
  rw [ev_seq]
  have e1 := tab_eq (n := 64) ht
  cases q1 : isTab 64 d with
  | false =>
    rw [q1] at e1
    refine ⟨h, Kp.refl h, ?_⟩
    have : areGoods d = false := by
      cases d with
      | tup rs =>
        have : ¬ rs.length ≤ 64 := by
          simp [isTab] at q1
          omega
        simp [areGoods, this]
      | _ => rfl
    simp -implicitDefEqProofs [e1, truD, this]
  | true =>
    rw [q1] at e1
    obtain ⟨rs, rfl, hl⟩ := tab_inv q1
    have hl' : rs.length ≤ 64 := by omega
    cases r with
    | zero => exact c.elim
    | succ r =>
    obtain ⟨h1, K1, key⟩ := loopL_kp (body := (sIf (mTOr (mTNot (mTru (mApp L.f_is_row (mCons (mVar 1) (mCons (mC (.int 3)) mNil))))) (mTOr (mTNot (mTru (mApp L.f_is_path (mCons (mOp dIx (mVar 1) (mC (.int 0))) mNil)))) (mTOr (mTNot (mTru (mApp L.f_is_amount (mCons (mOp dIx (mVar 1) (mC (.int 1))) mNil)))) (mTNot (mTru (mApp L.f_is_digest (mCons (mOp dIx (mVar 1) (mC (.int 2))) mNil))))))) (sRet (mC (.bl false))) sNil)) (i := 1) (xs := rs) (h := h) (e := [some (.tup rs), none]) isGood (by simp) (fun x g hx K => good_body ((c.2 x hx).kp K) (by simp))
    have es : areGoods (.tup rs) = (decide (rs.length ≤ 64) && (rs.all isGood && ascL (rs.map fstC))) := rfl
    rw [es, decide_eq_true hl']
    cases q4 : rs.all isGood with
    | false =>
      rw [q4] at key
      simp only [Bool.false_eq_true, if_false] at key
      refine ⟨h1, K1, ?_⟩
      simp -implicitDefEqProofs [ev_seq, e1, truD, key]
    | true =>
      rw [q4] at key
      simp only [if_true] at key
      obtain ⟨w, ev⟩ := key
      have cm := comp_map (i := 1) (y := mOp dIx (mVar 1) (mC (.int 0))) (e := [some (.tup rs), none]) (h := h1) (xs := rs) fst' (by omega) (fun x g hx => first_ix (fun x => good_fst) q4 (by simp) hx)
      rw [firsts (fun x => good_fst) q4] at cm
      obtain ⟨h2, eh2⟩ : ∃ h2, h2 = h1 ++ [LO.lst ((rs.map fstC).map D.str)] := ⟨_, rfl⟩
      have hr2 : h2[h1.length]? = some (.lst ((rs.map fstC).map D.str)) := by rw [eh2]; simp
      rw [← eh2] at cm
      have ea := asc_ref hr2 (by rw [List.length_map]; omega)
      refine ⟨h2, K1.trans (eh2 ▸ Kp.push _ _), ?_⟩
      simp -implicitDefEqProofs [ev_seq, e1, truD, ev, wipeM, cm, ea]
/-! the grants -/
def grOk : List (List Nat) → List D → Bool
  | _, [] => true
  | seen, g :: gs => isGrant g && (!(seen.any fun t => decide (t = fstC g)) && grOk (seen ++ [fstC g]) gs)
theorem grOk_cons {seen : List (List Nat)} {g : D} {gs : List D} : grOk seen (g :: gs) = (isGrant g && (!(seen.any fun t => decide (t = fstC g)) && grOk (seen ++ [fstC g]) gs)) := by
  rw [grOk]
def areGrants (s : List Nat) (d : D) : Bool := match d with
  | .tup gs => decide (gs.length ≤ 32) && grOk [s] gs
  | _ => false
theorem grant_fst {d : D} (h : isGrant d = true) : fst' d = .str (fstC d) := by
  unfold isGrant at h
  split at h
  · rw [Bool.and_eq_true] at h
    exact isLN_str h.1
  · cases h
theorem fst_ix {d : D} {h : LH} (e : fst' d = .str (fstC d)) : dIx d (.int 0) h = .ok (.str (fstC d)) h := by
  cases d with
  | tup xs =>
    cases xs with
    | nil => cases e
    | cons a l =>
      have e' : a = .str (fstC (.tup (a :: l))) := e
      have i0 : dIx (.tup (a :: l)) (.int 0) h = .ok a h := tup_ix (k := 0) rfl
      rw [i0, ← e']
  | _ => cases e
def grB (F : MF) (iG iN : Nat) : MS := sSeq (sIf (mTOr (mTNot (mTru (mApp F (mCons (mVar iG) mNil)))) (mTst (mOp dIn (mOp dIx (mVar iG) (mC (.int 0))) (mVar iN)))) (sRet (mC (.bl false))) sNil)
    (sExpr (mMet isLst dAppend (mVar iN) (mCons (mOp dIx (mVar iG) (mC (.int 0))) mNil)))
theorem grants_loop {F : MF} {iG iN R : Nat} {gs : List D} {h0 h : LH} {e : EN} {s0 : List Nat} (hF : ∀ d g, d ∈ gs → Kp h0 g → ∃ g', Kp g g' ∧ F [d] g = .ok (.bl (isGrant d)) g')
    (hR : h[R]? = some (.lst [.str s0])) (hR0 : h0.length ≤ R) (K0 : Kp h0 h) (hi : iG < e.length) (hN : e[iN]? = some (some (.ref R))) (hne : iG ≠ iN) (hlen : gs.length ≤ 1000) :
    ∃ g, Kp h0 g ∧ (if grOk [s0] gs then ∃ v, loopF (itL gs) (.nm iG) (grB F iG iN) gs.length 0 e h = .next (e.set iG v) g else loopF (itL gs) (.nm iG) (grB F iG iN) gs.length 0 e h = .ret (.bl false) g) := by
  refine loopF_list (fun j e' g => Kp h0 g ∧ (∃ v, e' = e.set iG v) ∧ g[R]? = some (.lst ((s0 :: (gs.take j).map fstC).map D.str)) ∧ grOk [s0] gs = grOk (s0 :: (gs.take j).map fstC) (gs.drop j))
    (fun r => ∃ g, Kp h0 g ∧ (if grOk [s0] gs then ∃ v, r = .next (e.set iG v) g else r = .ret (.bl false) g)) (fun j d e1 g hd ⟨K, ⟨v, ev⟩, hg, hk⟩ => ?_) (fun e1 g ⟨K, ⟨v, ev⟩, hg, hk⟩ => ?_) ⟨K0, ⟨_, set_self hi⟩, by simpa using hR, by simp⟩
  · subst ev
    refine ⟨e.set iG (some d), ?_, ?_⟩
    · show some ((e.set iG v).set iG (some d)) = _
      rw [List.set_set]
    · have hj := lt_of_get hd
      have ed : gs.drop j = d :: gs.drop (j + 1) := by
        rw [List.drop_eq_getElem_cons hj]
        congr 1
        rw [List.getElem?_eq_getElem hj] at hd
        exact Option.some.inj hd
      have et : gs.take (j + 1) = gs.take j ++ [d] := by rw [List.take_succ, hd]; rfl
      rw [ed, grOk_cons] at hk
      obtain ⟨g', K', eF⟩ := hF d g (List.mem_of_getElem? hd) K
      have v1 : (e.set iG (some d))[iG]? = some (some d) := List.getElem?_set_self hi
      have v2 : (e.set iG (some d))[iN]? = some (some (.ref R)) := by rw [List.getElem?_set_ne hne]; exact hN
      have hg' := K'.get hg
      unfold grB
      cases q1 : isGrant d with
      | false =>
        rw [q1] at eF
        rw [q1, Bool.false_and] at hk
        simp -implicitDefEqProofs [ev_seq, v1, eF, truD]
        exact ⟨K.trans K', hk⟩
      | true =>
        rw [q1] at eF
        have ix : ∀ g, dIx d (.int 0) g = .ok (.str (fstC d)) g := fun g => fst_ix (grant_fst q1)
        have ei := dIn_strs (s := fstC d) hg'
        cases q2 : (s0 :: (gs.take j).map fstC).any (fun t => decide (t = fstC d)) with
        | true =>
          rw [q2] at ei
          rw [q1, q2, Bool.true_and, Bool.not_true, Bool.false_and] at hk
          simp -implicitDefEqProofs [ev_seq, v1, v2, eF, truD, ix, ei]
          exact ⟨K.trans K', hk⟩
        | false =>
          rw [q2] at ei
          have il := isLst_ref hg'
          have ea := dAppend_ref (y := .str (fstC d)) hg' (by simp; omega)
          have key : (sSeq (sIf (mTOr (mTNot (mTru (mApp F (mCons (mVar iG) mNil)))) (mTst (mOp dIn (mOp dIx (mVar iG) (mC (.int 0))) (mVar iN)))) (sRet (mC (.bl false))) sNil)
    (sExpr (mMet isLst dAppend (mVar iN) (mCons (mOp dIx (mVar iG) (mC (.int 0))) mNil)))) (e.set iG (some d)) g = .next (e.set iG (some d)) (g'.set R (.lst ((s0 :: (gs.take j).map fstC).map D.str ++ [.str (fstC d)]))) := by
            simp -implicitDefEqProofs [ev_seq, v1, v2, eF, truD, ix, ei, il, ea]
          rw [key]
          refine ⟨(K.trans K').set hR0, ⟨_, rfl⟩, ?_, ?_⟩
          · rw [List.getElem?_set_self (lt_of_get hg'), et]
            simp
          · rw [hk, q1, q2, et]
            simp
  · subst ev
    rw [List.take_length, List.drop_length] at hk
    have : grOk [s0] gs = true := hk
    refine ⟨g, K, ?_⟩
    rw [if_pos this]
    exact ⟨v, rfl⟩
def isList (d : D) : Bool := match d with
  | .tup [k, n, v, e, g, gr] => isS kLi k && (isVer v && (isAm e && (isLN n && (areGoods g && areGrants (cd n) gr))))
  | _ => false
theorem list_no {d : D} (h : isRow 6 d = false) : isList d = false := by
  cases e : isList d with
  | false => rfl
  | true =>
    unfold isList at e
    split at e
    · simp [isRow] at h
    · cases e
theorem grants_eq {d : D} {h : LH} {r : Nat} {s : List Nat} (c : Cl h r d) (hr : r ≤ 40) : ∃ h', Kp h h' ∧ L.f_are_grants [d, .str s] h = .ok (.bl (areGrants s d)) h' := by
  obtain ⟨t, ht⟩ := c.ty
  unfold L.f_are_grants
  rw [mkF_eq (by rfl)]
  unfold L.b_are_grants
  rw [ev_seq]
  have e1 := tab_eq (n := 32) ht
  cases q1 : isTab 32 d with
  | false =>
    rw [q1] at e1
    refine ⟨h, Kp.refl h, ?_⟩
    have : areGrants s d = false := by
      cases d with
      | tup rs =>
        have : ¬ rs.length ≤ 32 := by
          simp [isTab] at q1
          omega
        simp [areGrants, this]
      | _ => rfl
    simp -implicitDefEqProofs [e1, truD, this]
  | true =>
    rw [q1] at e1
    obtain ⟨gs, rfl, hl⟩ := tab_inv q1
    have hl' : gs.length ≤ 32 := by omega
    cases r with
    | zero => exact c.elim
    | succ r =>
    obtain ⟨h1, K1, key⟩ := grants_loop (F := L.f_is_grant) (iG := 3) (iN := 2) (R := h.length) (gs := gs) (h0 := h) (h := h ++ [.lst [.str s]]) (e := [some (.tup gs), some (.str s), some (.ref h.length), none]) (s0 := s)
      (fun d g hd K => grant_eq ((c.2 d hd).kp K) (by omega)) (by simp) (Nat.le_refl _) (Kp.push _ _) (by simp) rfl (by decide) (by omega)
    unfold grB at key
    have es : areGrants s (.tup gs) = (decide (gs.length ≤ 32) && grOk [s] gs) := rfl
    rw [es, decide_eq_true hl']
    refine ⟨h1, K1, ?_⟩
    cases q4 : grOk [s] gs with
    | false =>
      rw [q4] at key
      simp only [Bool.false_eq_true, if_false] at key
      simp -implicitDefEqProofs [ev_seq, e1, truD, key]
    | true =>
      rw [q4] at key
      simp only [if_true] at key
      obtain ⟨w, ev⟩ := key
      simp -implicitDefEqProofs [ev_seq, e1, truD, ev]
theorem list_eq {d : D} {h : LH} {r : Nat} (c : Cl h r d) (hr : r ≤ 40) : ∃ h', Kp h h' ∧ L.f_is_list [d] h = .ok (.bl (isList d)) h' := by
  obtain ⟨t, ht⟩ := c.ty
  unfold L.f_is_list
  rw [mkF_eq (by rfl)]
  unfold L.b_is_list
  rw [ev_seq]
  have e1 := row_eq' (n := 6) ht
  cases q1 : isRow 6 d with
  | false =>
    rw [q1] at e1
    refine ⟨h, Kp.refl h, ?_⟩
    simp -implicitDefEqProofs [e1, truD, list_no q1]
  | true =>
    rw [q1] at e1
    obtain ⟨k, n, v, e, g, gr, rfl⟩ := row_inv6 q1
    have e2 : L.f_has_head [.tup [k, n, v, e, g, gr], .str kLi, .int 2] h = _ := head_eq (n := 2) ok_kLi rfl rfl rfl c hr
    cases r with
    | zero => exact c.elim
    | succ r =>
    have i1 : ∀ z, dIx (.tup [k, n, v, e, g, gr]) (.int 1) z = .ok n z := fun _ => rfl
    have i4 : ∀ z, dIx (.tup [k, n, v, e, g, gr]) (.int 4) z = .ok g z := fun _ => rfl
    have i5 : ∀ z, dIx (.tup [k, n, v, e, g, gr]) (.int 5) z = .ok gr z := fun _ => rfl
    have cn := c.2 n (by simp)
    obtain ⟨tn, htn⟩ := cn.ty
    have e3 := name_eq htn (fun s hs => by have := cn.len s hs; omega)
    have es : isList (.tup [k, n, v, e, g, gr]) = (isS kLi k && (isVer v && (isAm e && (isLN n && (areGoods g && areGrants (cd n) gr))))) := rfl
    rw [es]
    cases q2 : (isS kLi k && (isVer v && isAm e)) with
    | false =>
      rw [q2] at e2
      refine ⟨h, Kp.refl h, ?_⟩
      have : (isS kLi k && (isVer v && (isAm e && (isLN n && (areGoods g && areGrants (cd n) gr))))) = false := by
        cases a1 : isS kLi k <;> cases a2 : isVer v <;> cases a3 : isAm e <;> rw [a1, a2, a3] at q2 <;> first | rfl | cases q2
      simp -implicitDefEqProofs [e1, truD, S_li, e2, this]
    | true =>
      rw [q2] at e2
      rw [Bool.and_eq_true, Bool.and_eq_true] at q2
      rw [q2.1, q2.2.1, q2.2.2]
      cases q3 : isLN n with
      | false =>
        rw [q3] at e3
        refine ⟨h, Kp.refl h, ?_⟩
        simp -implicitDefEqProofs [e1, truD, S_li, e2, i1, e3]
      | true =>
        rw [q3] at e3
        have en := isLN_str q3
        obtain ⟨h1, K1, e4⟩ := goods_eq (c.2 g (by simp))
        cases q4 : areGoods g with
        | false =>
          rw [q4] at e4
          refine ⟨h1, K1, ?_⟩
          simp -implicitDefEqProofs [ev_seq, e1, truD, S_li, e2, i1, e3, i4, e4]
        | true =>
          rw [q4] at e4
          obtain ⟨h2, K2, e5⟩ := grants_eq (s := cd n) ((c.2 gr (by simp)).kp K1) (by omega)
          rw [← en] at e5
          refine ⟨h2, K1.trans K2, ?_⟩
          simp -implicitDefEqProofs [ev_seq, e1, truD, S_li, e2, i1, e3, i4, e4, i5, e5]
end HM
set_option Elab.async false
set_option linter.all false
set_option maxRecDepth 100000
set_option maxHeartbeats 4000000
namespace HM
open PySem L2
/-! ### while loops -/
theorem loopW_gen {c : M Bool} {b : MS} (I : EN → LH → Prop) (R : RSt → Prop) (μ : EN → LH → Nat)
    (step : ∀ e h, I e h → (∃ h1, c e h = .ok false h1 ∧ R (.next e h1)) ∨ (∃ h1, c e h = .ok true h1 ∧ match b e h1 with
      | .next e2 h2 => I e2 h2 ∧ μ e2 h2 < μ e h
      | .cnt e2 h2 => I e2 h2 ∧ μ e2 h2 < μ e h
      | .brk e2 h2 => R (.next e2 h2)
      | .ret x h2 => R (.ret x h2)
      | .exc x e2 h2 => R (.exc x e2 h2)
      | .bad => False)) : ∀ n e h, I e h → μ e h < n → R (loopW c b n e h) := by
  intro n
  induction n with
  | zero => intro e h _ hn; omega
  | succ n ih =>
    intro e h hi hn
    unfold loopW
    rcases step e h hi with ⟨h1, ec, r⟩ | ⟨h1, ec, r⟩
    · rw [ec]
      exact r
    · rw [ec]
      show R (match b e h1 with
        | .next e2 h2 => loopW c b n e2 h2
        | .cnt e2 h2 => loopW c b n e2 h2
        | .brk e2 h2 => .next e2 h2
        | .ret x h2 => .ret x h2
        | .exc x e2 h2 => .exc x e2 h2
        | .bad => .bad)
      revert r
      cases b e h1 with
      | next e2 h2 => exact fun r => ih e2 h2 r.1 (by omega)
      | cnt e2 h2 => exact fun r => ih e2 h2 r.1 (by omega)
      | brk e2 h2 => exact fun r => r
      | ret x h2 => exact fun r => r
      | exc x e2 h2 => exact fun r => r
      | bad => exact fun r => r.elim
/-! ### the parser in plain words -/
def dgs (t : List Nat) (s : Nat) : List Nat := (t.drop s).takeWhile (inC dgC)
def pNum (t : List Nat) (s : Nat) : Option (Nat × Nat) := if (dgs t s).length = 0 ∨ 20 < (dgs t s).length then none else if t[s]? = some 48 ∧ 1 < (dgs t s).length then none else some (PySem.NumText.digitsVal (dgs t s), s + (dgs t s).length)
def pLeaf (t : List Nat) (s : Nat) : Option (D × Nat) := match pNum t s with
  | none => none
  | some (n, e) => if t[e]? = some 46 then some (.int n, e + 1) else if t[e]? = some 58 ∧ e + 1 + n ≤ t.length then (if allC ((t.drop (e + 1)).take n) then some (.str ((t.drop (e + 1)).take n), e + 1 + n) else none) else none
def pIts (f : Nat → Option (D × Nat)) (t : List Nat) : Nat → Nat → Option (List D × Nat)
  | 0, _ => none
  | k + 1, s => if t[s]? = some 93 then some ([], s + 1) else match f s with
    | none => none
    | some (x, e) => match pIts f t k e with
      | none => none
      | some (xs, q) => some (x :: xs, q)
def pVal (t : List Nat) : Nat → Nat → Option (D × Nat)
  | 0, s => if t[s]? = some 91 then none else pLeaf t s
  | r + 1, s => if t[s]? = some 91 then (match pIts (pVal t r) t (t.length + 1) (s + 1) with
    | none => none
    | some (xs, e) => some (.tup xs, e)) else pLeaf t s
end HM
set_option Elab.async false
set_option linter.all false
set_option maxRecDepth 100000
set_option maxHeartbeats 4000000
namespace HM
open PySem L2
/-! ### decode_value, wholly -/
end HM
set_option Elab.async false
set_option linter.all false
set_option maxRecDepth 100000
set_option maxHeartbeats 4000000
namespace HM
open PySem L2
/-! ### decode, wholly; the parser reads back what is written -/
def decD (d : D) : Option D := match d with
  | .str t => if t.length ≤ 100000 then (match pVal t 8 0 with
    | some (v, e) => if e = t.length then some v else none
    | none => none) else none
  | _ => none
/-! digits -/
/-! what is written is read back -/
end HM
set_option Elab.async false
set_option linter.all false
set_option maxRecDepth 100000
set_option maxHeartbeats 4000000
namespace HM
open PySem L2
/-! ### drawn amounts, digests, sums, stamps; spoilt values -/
theorem isS_self (s : List Nat) : isS s (.str s) = true := by simp [isS]
/-! small values -/
def smS (s : List Nat) : Prop := s.length ≤ 100 ∧ ∀ c ∈ s, c < 128
def Sm : Nat → D → Prop
  | 0, d => match d with
    | .int i => 0 ≤ i ∧ i ≤ 10000000000000
    | .str s => smS s
    | _ => False
  | r + 1, d => match d with
    | .int i => 0 ≤ i ∧ i ≤ 10000000000000
    | .str s => smS s
    | .tup xs => xs.length ≤ 100 ∧ ∀ x ∈ xs, Sm r x
    | _ => False
theorem smS.ok {s : List Nat} (h : smS s) : okS s := ⟨by have := h.1; omega, fun c hc => by have := h.2 c hc; omega⟩
theorem Sm.cl {h : LH} : ∀ {r : Nat} {d : D}, Sm r d → Cl h r d := by
  intro r
  induction r with
  | zero =>
    intro d hd
    cases d <;> first | exact hd.elim | trivial | exact smS.ok hd
  | succ r ih =>
    intro d hd
    cases d with
    | tup xs => exact ⟨by have := hd.1; omega, fun x hx => ih (hd.2 x hx)⟩
    | _ => first | exact hd.elim | trivial | exact smS.ok hd
theorem dAdd_tup {a b : List D} {h : LH} (hl : a.length + b.length ≤ 16777216) : dAdd (.tup a) (.tup b) h = .ok (.tup (a ++ b)) h := by
  show (if a.length + b.length ≤ 16777216 then Res.ok (D.tup (a ++ b)) h else .bad) = _
  rw [if_pos hl]
end HM
set_option Elab.async false
set_option linter.all false
set_option maxRecDepth 100000
set_option maxHeartbeats 4000000
namespace HM
open PySem L2
/-! ### documents are small; the law of one kind -/
theorem Sm.up : ∀ {r : Nat} {d : D}, Sm r d → Sm (r + 1) d := by
  intro r
  induction r with
  | zero =>
    intro d hd
    cases d <;> first | exact hd | exact hd.elim
  | succ r ih =>
    intro d hd
    cases d with
    | tup xs => exact ⟨hd.1, fun x hx => ih (hd.2 x hx)⟩
    | _ => first | exact hd | exact hd.elim
theorem Sm.mono {r r' : Nat} {d : D} (hr : r ≤ r') (c : Sm r d) : Sm r' d := by
  induction hr with
  | refl => exact c
  | step _ ih => exact ih.up
theorem mem_low {cs : List Nat} (h : cs.all (fun c => decide (c < 128)) = true) {c : Nat} (hc : c ∈ cs) : c < 128 := of_decide_eq_true (List.all_eq_true.mp h c hc)
theorem dg_low {c : Nat} (h : c ∈ dgC) : c < 128 := mem_low (by decide +kernel) h
theorem nm_low {c : Nat} (h : c ∈ nmC) : c < 128 := mem_low (by decide +kernel) h
theorem hx_low {c : Nat} (h : c ∈ hxC) : c < 128 := mem_low (by decide +kernel) h
theorem pc_low {c : Nat} (h : c ∈ pcC) : c < 128 := mem_low (by decide +kernel) h
theorem pt_low {c : Nat} (h : c ∈ ptC) : c < 128 := mem_low (by decide +kernel) h
theorem inC_mem {cs : List Nat} {s : List Nat} (h : s.all (inC cs) = true) {c : Nat} (hc : c ∈ s) : c ∈ cs := of_decide_eq_true (List.all_eq_true.mp h c hc)
theorem key_sm {d : D} (h : isKey d = true) : Sm 0 d := by
  obtain ⟨s, rfl⟩ : ∃ s, d = .str s := ⟨_, isKey_str h⟩
  unfold isKey at h
  simp only [Bool.and_eq_true, decide_eq_true_eq] at h
  refine ⟨by omega, fun c hc => ?_⟩
  cases s with
  | nil => simp at hc
  | cons a l =>
    rcases List.mem_cons.mp hc with rfl | hc
    · have := h.1.2
      simp at this
      omega
    · exact dg_low (inC_mem h.2 (by simpa using hc))
theorem name_sm {d : D} (h : isLN d = true) : Sm 0 d := by
  obtain ⟨s, rfl⟩ : ∃ s, d = .str s := ⟨_, isLN_str h⟩
  unfold isLN at h
  simp only [Bool.and_eq_true, decide_eq_true_eq] at h
  exact ⟨by omega, fun c hc => nm_low (inC_mem h.2 hc)⟩
theorem dg_sm {d : D} (h : isDg d = true) : Sm 0 d := by
  cases d with
  | str s =>
    unfold isDg at h
    simp only [Bool.and_eq_true, decide_eq_true_eq] at h
    exact ⟨by omega, fun c hc => hx_low (inC_mem h.2 hc)⟩
  | _ => cases h
theorem cut1_mem {k : Nat} : ∀ (s acc : List Nat) (c : Nat), c ∈ s ∨ c ∈ acc → c = k ∨ ∃ p ∈ cut1 k acc s, c ∈ p := by
  intro s
  induction s with
  | nil =>
    intro acc c h
    rcases h with h | h
    · simp at h
    · exact .inr ⟨acc, by simp [cut1], h⟩
  | cons a l ih =>
    intro acc c h
    unfold cut1
    by_cases q : a = k
    · rw [if_pos q]
      rcases h with h | h
      · rcases List.mem_cons.mp h with rfl | h
        · exact .inl q
        · rcases ih [] c (.inl h) with h | ⟨p, hp, hc⟩
          · exact .inl h
          · exact .inr ⟨p, by simp [hp], hc⟩
      · exact .inr ⟨acc, by simp, h⟩
    · rw [if_neg q]
      refine ih (acc ++ [a]) c ?_
      rcases h with h | h
      · rcases List.mem_cons.mp h with rfl | h
        · exact .inr (by simp)
        · exact .inl h
      · exact .inr (by simp [h])
theorem path_sm {d : D} {cs : List Nat} (h : hasD d cs = true) (hc : ∀ c ∈ cs, c < 128) : Sm 0 d := by
  cases d with
  | str s =>
    have h : hasP s cs = true := h
    unfold hasP at h
    simp only [Bool.and_eq_true, decide_eq_true_eq, List.all_eq_true] at h
    refine ⟨by omega, fun c hm => ?_⟩
    rcases cut1_mem (k := 47) s [] c (.inl hm) with hk | ⟨p, hp, hc2⟩
    · omega
    · have := h.2.2 p hp
      unfold okP at this
      rw [Bool.and_eq_true] at this
      exact hc c (inC_mem this.2 hc2)
  | _ => cases h
theorem int_sm {d : D} {lo hi : Int} (h : isInt lo hi d = true) (h0 : 0 ≤ lo) (h1 : hi ≤ 10000000000000) (r : Nat) : Sm r d := by
  obtain ⟨i, rfl, a, b⟩ := isInt_inv h
  cases r <;> exact ⟨by omega, by omega⟩
theorem sum_sm {d : D} (h : isSum d = true) : Sm 1 d := by
  unfold isSum at h
  split at h
  · rename_i a b c
    rw [Bool.and_eq_true, Bool.and_eq_true] at h
    refine ⟨by simp, fun x hx => ?_⟩
    simp at hx
    rcases hx with rfl | rfl | rfl
    · exact int_sm h.1 (by decide) (by decide) 0
    · exact int_sm h.2.1 (by decide) (by decide) 0
    · exact dg_sm h.2.2
  · cases h
theorem kind_sm {k : List Nat} {d : D} (h : isS k d = true) (hk : smS k) : Sm 0 d := by
  cases d with
  | str s =>
    have : s = k := of_decide_eq_true h
    subst this
    exact hk
  | _ => cases h
theorem sm_kCr : smS kCr := ⟨by decide +kernel, by decide +kernel⟩
theorem sm_kSt : smS kSt := ⟨by decide +kernel, by decide +kernel⟩
theorem sm_kSh : smS kSh := ⟨by decide +kernel, by decide +kernel⟩
theorem sm_kLi : smS kLi := ⟨by decide +kernel, by decide +kernel⟩
theorem stamp_sm {d : D} (h : isStamp d = true) : Sm 2 d := by
  unfold isStamp at h
  split at h
  · rename_i k v e s
    simp only [Bool.and_eq_true] at h
    refine ⟨by simp, fun x hx => ?_⟩
    simp at hx
    rcases hx with rfl | rfl | rfl | rfl
    · exact (kind_sm h.1 sm_kSt).mono (by omega)
    · exact int_sm h.2.1 (by decide) (by decide) 1
    · exact int_sm h.2.2.1 (by decide) (by decide) 1
    · exact sum_sm h.2.2.2
  · cases h
theorem role_sm {d : D} (h : isRole d = true) : Sm 2 d := by
  unfold isRole at h
  split at h
  · rename_i a ks
    simp only [Bool.and_eq_true, decide_eq_true_eq, List.all_eq_true] at h
    refine ⟨by simp, fun x hx => ?_⟩
    simp at hx
    rcases hx with rfl | rfl
    · exact int_sm h.2.2.2 (by decide) (by omega) 1
    · exact ⟨by omega, fun y hy => key_sm (h.2.1 y hy)⟩
  · cases h
theorem charter_sm {d : D} (h : isCharter d = true) : Sm 4 d := by
  unfold isCharter at h
  split at h
  · rename_i k v e rs
    simp only [Bool.and_eq_true, decide_eq_true_eq, List.all_eq_true] at h
    refine ⟨by simp, fun x hx => ?_⟩
    simp at hx
    rcases hx with rfl | rfl | rfl | rfl
    · exact (kind_sm h.1 sm_kCr).mono (by omega)
    · exact int_sm h.2.1 (by decide) (by decide) 3
    · exact int_sm h.2.2.1 (by decide) (by decide) 3
    · exact ⟨by omega, fun y hy => role_sm (h.2.2.2.2 y hy)⟩
  · cases h
theorem ent_sm {d : D} (h : isEnt d = true) : Sm 1 d := by
  unfold isEnt at h
  split at h
  · rename_i n a b c
    rw [Bool.and_eq_true] at h
    have := sum_sm h.2
    refine ⟨by simp, fun x hx => ?_⟩
    simp at hx
    rcases hx with rfl | rfl | rfl | rfl
    · exact name_sm h.1
    · exact this.2 _ (by simp)
    · exact this.2 _ (by simp)
    · exact this.2 _ (by simp)
  · cases h
theorem shelf_sm {d : D} (h : isShelf d = true) : Sm 3 d := by
  unfold isShelf at h
  split at h
  · rename_i k v e rs
    simp only [Bool.and_eq_true, decide_eq_true_eq, List.all_eq_true] at h
    refine ⟨by simp, fun x hx => ?_⟩
    simp at hx
    rcases hx with rfl | rfl | rfl | rfl
    · exact (kind_sm h.1 sm_kSh).mono (by omega)
    · exact int_sm h.2.1 (by decide) (by decide) 2
    · exact int_sm h.2.2.1 (by decide) (by decide) 2
    · exact ⟨by omega, fun y hy => ent_sm (h.2.2.2.2.1 y hy)⟩
  · cases h
theorem grant_sm {d : D} (h : isGrant d = true) : Sm 3 d := by
  unfold isGrant at h
  split at h
  · rename_i n rl ps l
    simp only [Bool.and_eq_true, decide_eq_true_eq, List.all_eq_true] at h
    refine ⟨by simp, fun x hx => ?_⟩
    simp at hx
    rcases hx with rfl | rfl | rfl | rfl
    · exact (name_sm h.1).mono (by omega)
    · exact role_sm h.2.2.1
    · exact ⟨by omega, fun y hy => (path_sm (h.2.2.2.2.2.1 y hy) fun c => pt_low).mono (by omega)⟩
    · exact int_sm h.2.2.2.2.2.2 (by decide) (by decide) 2
  · cases h
theorem good_sm {d : D} (h : isGood d = true) : Sm 1 d := by
  unfold isGood at h
  split at h
  · rename_i p l g
    simp only [Bool.and_eq_true] at h
    refine ⟨by simp, fun x hx => ?_⟩
    simp at hx
    rcases hx with rfl | rfl | rfl
    · exact path_sm h.1 fun c => pc_low
    · exact int_sm h.2.1 (by decide) (by decide) 0
    · exact dg_sm h.2.2
  · cases h
theorem grOk_all : ∀ {gs : List D} {seen : List (List Nat)}, grOk seen gs = true → ∀ g ∈ gs, isGrant g = true
  | [], _, _, g, hg => by simp at hg
  | a :: l, seen, h, g, hg => by
    rw [grOk_cons, Bool.and_eq_true, Bool.and_eq_true] at h
    rcases List.mem_cons.mp hg with rfl | hg
    · exact h.1
    · exact grOk_all h.2.2 g hg
theorem list_sm {d : D} (h : isList d = true) : Sm 5 d := by
  unfold isList at h
  split at h
  · rename_i k n v e g gr
    simp only [Bool.and_eq_true] at h
    refine ⟨by simp, fun x hx => ?_⟩
    simp at hx
    rcases hx with rfl | rfl | rfl | rfl | rfl | rfl
    · exact (kind_sm h.1 sm_kLi).mono (by omega)
    · exact (name_sm h.2.2.2.1).mono (by omega)
    · exact int_sm h.2.1 (by decide) (by decide) 4
    · exact int_sm h.2.2.1 (by decide) (by decide) 4
    · have hg := h.2.2.2.2.1
      cases x with
      | tup rs =>
        unfold areGoods at hg
        simp only [Bool.and_eq_true, decide_eq_true_eq, List.all_eq_true] at hg
        exact ⟨by omega, fun y hy => (good_sm (hg.2.1 y hy)).mono (r' := 3) (by decide)⟩
      | _ => cases hg
    · have hg := h.2.2.2.2.2
      cases x with
      | tup rs =>
        unfold areGrants at hg
        simp only [Bool.and_eq_true, decide_eq_true_eq] at hg
        exact ⟨by omega, fun y hy => grant_sm (grOk_all hg.2 y hy)⟩
      | _ => cases hg
  · cases h
/-! one kind is not another -/
def kinds4 (d : D) : List Bool := [isCharter d, isStamp d, isShelf d, isList d]
structure Kind (FD FX FL : MF) (p : D → Bool) (kk : Nat) (kd : List Nat) : Prop where
  draw : ∀ h s, StrAt h s → ∃ d h', FD [.ref s] h = .ok d h' ∧ p d = true ∧ SF s h h'
  sm : ∀ d, p d = true → Sm 6 d
  fx : ∀ h r d, Cl h r d → r ≤ 40 → ∃ h', Kp h h' ∧ FX [d] h = .ok (.bl (p d)) h'
  fl : ∀ h r d, Cl h r d → r ≤ 40 → ∃ h', Kp h h' ∧ FL [d] h = .ok (.bl (p d)) h'
  k4 : ∀ d, p d = true → kinds4 d = (List.range 4).map fun m => decide (m = kk)
  row : ∀ d, p d = true → ∃ xs, d = .tup xs ∧ p (.tup xs.tail) = false
  non : p .non = false
  rf : ∀ i, p (.ref i) = false
  tx : ∀ s, p (.str s) = false
  ok : okS kd
end HM
set_option Elab.async false
set_option linter.all false
set_option maxRecDepth 100000
set_option maxHeartbeats 4000000
namespace HM
open PySem L2
/-! ### drawn lists; once; keys, names, roles, charters, shelves -/
theorem strsD_ref {h : LH} {i : Nat} {ss : List (List Nat)} (hi : h[i]? = some (.lst (ss.map D.str))) : dSorted [.ref i] h = .ok (.ref h.length) (h ++ [.lst ((sortS ss).map D.str)]) := by
  have e : seqD (.ref i) h = some (ss.map D.str) := by
    show (match h[i]? with
      | some (.lst xs) => some xs
      | _ => none) = _
    rw [hi]
  unfold dSorted
  simp only [isLst_ref hi, if_true, e, strsD_map]
/-! keys, names, roles, charters, shelves -/
theorem dTuple_ref {h : LH} {R : Nat} {xs : List D} (hR : h[R]? = some (.lst xs)) : dTuple [.ref R] h = .ok (.tup xs) h := by
  have e : seqD (.ref R) h = some xs := by
    show (match h[R]? with
      | some (.lst xs) => some xs
      | _ => none) = _
    rw [hR]
  unfold dTuple
  simp only [e]
end HM
set_option Elab.async false
set_option linter.all false
set_option maxRecDepth 100000
set_option maxHeartbeats 4000000
namespace HM
open PySem L2
/-! ### pairs -/
abbrev PR := List Nat × List Nat
def pD (p : PR) : D := .tup [.str p.1, .str p.2]
structure GPr (p : PR) : Prop where
  k : isKey (.str p.1) = true
  c : allC p.2 = true
  l : p.2.length ≤ 1000000
theorem key_le {s : List Nat} (h : isKey (.str s) = true) : s.length ≤ 12 := by
  unfold isKey at h
  simp only [Bool.and_eq_true, decide_eq_true_eq] at h
  exact h.1.1.2
theorem key_lt {s : List Nat} (h : isKey (.str s) = true) : ∀ c ∈ s, c < 1114112 := by
  unfold isKey at h
  simp only [Bool.and_eq_true, decide_eq_true_eq] at h
  obtain ⟨⟨_, h0⟩, h1⟩ := h
  intro c hc
  cases s with
  | nil => cases hc
  | cons a s =>
    simp at h0
    rcases List.mem_cons.mp hc with rfl | hc
    · omega
    · have := List.all_eq_true.mp h1 c hc
      have hd : ∀ c ∈ dgC, c < 1114112 := by decide +kernel
      exact hd c (of_decide_eq_true this)
theorem allC_lt {s : List Nat} (h : allC s = true) : ∀ c ∈ s, c < 1114112 := fun c hc => by
  have := okC_iff.mp (List.all_eq_true.mp h c hc)
  unfold LC at this
  omega
theorem GPr.ok {p : PR} (g : GPr p) : okS p.1 ∧ okS p.2 := by
  have := key_le g.k
  exact ⟨⟨by omega, key_lt g.k⟩, g.l, allC_lt g.c⟩
/-! ### the office -/
def kvP (p : PR) : List KD × D := ([Sum.inr p.1, Sum.inr p.2], .str (mkS p.1 p.2))
def pK (a b : List Nat) : List KD := [Sum.inr a, Sum.inr b]
theorem get_kv {a b : List Nat} : ∀ ps : List PR, getKD (pK a b) (ps.map kvP) = if (a, b) ∈ ps then some (.str (mkS a b)) else none
  | [] => rfl
  | p :: ps => by
    rw [List.map_cons]
    unfold kvP
    unfold getKD
    have ih := get_kv (a := a) (b := b) ps
    by_cases q : p = (a, b)
    · subst q
      rw [if_pos List.mem_cons_self]
      exact if_pos rfl
    · have : ¬ [Sum.inr p.1, Sum.inr p.2] = pK a b := fun z => q (by
        unfold pK at z
        simp at z
        exact Prod.ext z.1 z.2)
      rw [if_neg this]
      have e : ((a, b) ∈ p :: ps) ↔ (a, b) ∈ ps := by
        rw [List.mem_cons]
        exact ⟨fun z => z.resolve_left fun y => q y.symm, .inr⟩
      simp only [e]
      exact ih
def addP (p : PR) (ps : List PR) : List PR := if p ∈ ps then ps else ps ++ [p]
theorem put_kv {a b : List Nat} {ps : List PR} : putKD (pK a b) (.str (mkS a b)) (ps.map kvP) = (addP (a, b) ps).map kvP := by
  unfold putKD addP
  rw [get_kv]
  by_cases q : (a, b) ∈ ps
  · rw [if_pos q, if_pos q]
    simp only [Option.isSome_some, if_true]
    rw [List.map_map]
    refine List.map_congr_left fun p hp => ?_
    show (if (kvP p).1 = pK a b then ((kvP p).1, D.str (mkS a b)) else kvP p) = kvP p
    split
    · rename_i c
      unfold kvP pK at c
      simp at c
      unfold kvP
      rw [c.1, c.2]
    · rfl
  · rw [if_neg q, if_neg q]
    simp [kvP, pK]
structure Off (h : LH) (o m : Nat) (ps : List PR) : Prop where
  o : h[o]? = some (.ins "Seals" [("_marks", .ref m)])
  m : h[m]? = some (.dT (ps.map kvP))
  g : ∀ p ∈ ps, GPr p
theorem Off.kp {h g : LH} {o m : Nat} {ps : List PR} (w : Off h o m ps) (k : Kp h g) : Off g o m ps := ⟨k.get w.o, k.get w.m, w.g⟩
theorem Off.set {h : LH} {o m s : Nat} {x : LO} {ps : List PR} (w : Off h o m ps) (ho : o ≠ s) (hm : m ≠ s) : Off (h.set s x) o m ps := ⟨by rw [List.getElem?_set_ne ho.symm]; exact w.o, by rw [List.getElem?_set_ne hm.symm]; exact w.m, w.g⟩
theorem gf_marks {m : D} : getF "_marks" [("_marks", m)] = some m := by simp [getF]
theorem inT_at {h : LH} {o m : Nat} {ps : List PR} (w : Off h o m ps) {a b : List Nat} : inTD [.str a, .str b] (.ref m) h = some (if (a, b) ∈ ps then some (.str (mkS a b)) else none) := by
  unfold inTD
  simp only [dct_t w.m, keysD, keyD]
  rw [← get_kv]
  rfl
theorem seal_make {h : LH} {o m : Nat} {ps : List PR} {p : PR} (w : Off h o m ps) (g : GPr p) (hl : ps.length ≤ 1000000) :
    L.f_Seals_make [.ref o, .str p.1, .str p.2] h = .ok (.str (mkS p.1 p.2)) (h.set m (.dT ((addP p ps).map kvP))) ∧ Off (h.set m (.dT ((addP p ps).map kvP))) o m (addP p ps) := by
  obtain ⟨a, b⟩ := p
  have hne : o ≠ m := by
    rintro rfl
    have := w.o
    rw [w.m] at this
    cases this
  have lk := key_le g.k
  have lt := g.l
  have gk := g.k
  have gc := g.c
  simp only at lk lt gk gc
  have e1 : ∀ g, L.f_is_key [.str a] g = .ok (.bl true) g := fun g => by
    rw [key_eq (t := .str) rfl (by intro s q; cases q; omega), gk]
  have e2 : ∀ g, L.f_is_printable [.str b] g = .ok (.bl true) g := fun g => by
    rw [printable_eq (t := .str) rfl]
    show Res.ok (D.bl (allC b)) g = _
    rw [gc]
  have e3 : ∀ g, L.f_mark_of [.str a, .str b] g = .ok (.str (mkS a b)) g := fun g => mark_eq (by omega)
  refine ⟨?_, ?_, ?_, ?_⟩
  · unfold L.f_Seals_make L.b_Seals_make
    refine mkF_ret rfl ?_
    refine wseq (R := fun r => r = _) (h1 := h) (e1 := [some (.ref o), some (.str a), some (.str b), none]) (by simp -implicitDefEqProofs [e1, truD]) ?_
    refine wseq (R := fun r => r = _) (h1 := h) (e1 := [some (.ref o), some (.str a), some (.str b), none]) (by simp -implicitDefEqProofs [e2, truD]) ?_
    refine wseq (R := fun r => r = _) (h1 := h) (e1 := [some (.ref o), some (.str a), some (.str b), some (.str (mkS a b))]) (by simp -implicitDefEqProofs [e3]) ?_
    refine wseq (R := fun r => r = _) (h1 := h.set m (.dT ((addP (a, b) ps).map kvP))) (e1 := [some (.ref o), some (.str a), some (.str b), some (.str (mkS a b))]) (by
      unfold sPutT
      simp -implicitDefEqProofs [fld_at w.o gf_marks, dct_t w.m, keysD, keyD, show ps.length < 16777216 by omega]
      exact congrArg (fun z => h.set m (.dT z)) put_kv) ?_
    simp -implicitDefEqProofs []
  · rw [List.getElem?_set_ne hne.symm]; exact w.o
  · rw [List.getElem?_set_self (lt_of_get w.m)]
  · intro p hp
    unfold addP at hp
    split at hp
    · exact w.g p hp
    · rcases List.mem_append.mp hp with hp | hp
      · exact w.g p hp
      · rw [List.mem_singleton.mp hp]; exact g
def isStrD : D → Bool
  | .str _ => true
  | _ => false
def holdsV (ps : List PR) : D → D → D → Bool
  | .str a, .str b, .str c => decide ((a, b) ∈ ps) && decide (mkS a b = c)
  | _, _, _ => false
theorem seal_holds {h : LH} {o m : Nat} {ps : List PR} {x y z : D} {t1 t2 t3 : BT} (w : Off h o m ps) (h1 : tyD x h = some t1) (h2 : tyD y h = some t2) (h3 : tyD z h = some t3) :
    L.f_Seals_holds [.ref o, x, y, z] h = .ok (.bl (holdsV ps x y z)) h := by
  unfold L.f_Seals_holds
  rw [mkF_eq (by rfl)]
  unfold L.b_Seals_holds
  by_cases c : isStrD x && isStrD y && isStrD z
  · simp only [Bool.and_eq_true] at c
    obtain ⟨⟨c1, c2⟩, c3⟩ := c
    cases x with
    | str a =>
      cases y with
      | str b =>
        cases z with
        | str c =>
          have e1 : ∀ _ : Unit, mInT true (mCons (mVar 1) (mCons (mVar 2) mNil)) (mUn (fldD "Seals" "_marks") (mVar 0)) [some (.ref o), some (.str a), some (.str b), some (.str c)] h = .ok (.bl (!decide ((a, b) ∈ ps))) h := fun _ => by
            unfold mInT
            simp -implicitDefEqProofs [fld_at w.o gf_marks, inT_at w]
            by_cases q : (a, b) ∈ ps <;> simp [q]
          simp only [ev_seq]
          simp -implicitDefEqProofs [tyD, isB, truD, e1 ()]
          by_cases q : (a, b) ∈ ps
          · simp -implicitDefEqProofs [q, mGetT, fld_at w.o gf_marks, inT_at w, dEq_str, holdsV]
          · simp -implicitDefEqProofs [q, holdsV]
        | _ => simp [isStrD] at c3
      | _ => simp [isStrD] at c2
    | _ => simp [isStrD] at c1
  · have hv : holdsV ps x y z = false := by
      cases x <;> cases y <;> cases z <;> first | rfl | (simp [isStrD] at c)
    rw [hv, ev_seq]
    have u : ∀ {d : D} {t : BT}, tyD d h = some t → isStrD d = false → isB t .str = false := fun {d t} ht hs => by
      cases d <;> simp [tyD, isStrD] at ht hs
      all_goals first | (subst ht; rfl) | skip
      split at ht <;> simp at ht <;> first | (subst ht; rfl) | skip
    have v : ∀ {d : D} {t : BT}, tyD d h = some t → isStrD d = true → isB t .str = true := fun {d t} ht hs => by
      cases d <;> simp [tyD, isStrD] at ht hs
      subst ht; rfl
    cases c1 : isStrD x
    · simp -implicitDefEqProofs [h1, u h1 c1, truD]
    · cases c2 : isStrD y
      · simp -implicitDefEqProofs [h1, h2, v h1 c1, u h2 c2, truD]
      · cases c3 : isStrD z
        · simp -implicitDefEqProofs [h1, h2, h3, v h1 c1, v h2 c2, u h3 c3, truD]
        · simp [c1, c2, c3] at c
end HM
set_option Elab.async false
set_option linter.all false
set_option maxRecDepth 100000
set_option maxHeartbeats 4000000
namespace HM
open PySem L2
/-! ### the law's own text of a value, and its comparison -/
theorem encL_mem {xs : List D} {x : D} (h : x ∈ xs) : (encD x).length ≤ (encL xs).length := by
  induction xs with
  | nil => cases h
  | cons a xs ih =>
    rw [encL, List.length_append]
    rcases List.mem_cons.mp h with rfl | h
    · omega
    · have := ih h
      omega
theorem encL_cnt {r : Nat} : ∀ {xs : List D}, (∀ x ∈ xs, plainD r x = true) → xs.length ≤ (encL xs).length
  | [], _ => by simp
  | x :: xs, h => by
    rw [encL, List.length_append]
    have h1 := encD_pos r x (h x (by simp))
    have h2 := encL_cnt (xs := xs) fun y hy => h y (List.mem_cons_of_mem _ hy)
    simp
    omega
def eqD : Nat → D → D → Bool
  | _, .str s, .str t => decide (s = t)
  | _, .int i, .int j => decide (i = j)
  | r + 1, .tup xs, .tup ys => decide (xs.length = ys.length) && (xs.zip ys).all (fun p => eqD r p.1 p.2)
  | _, _, _ => false
theorem same_core {r n : Nat} {a b : D} {h : LH} (ha : plainD r a = true) (hb : plainD r b = true) (hl : (encD b).length ≤ 16000000)
    (H : ∀ xs ys r', a = .tup xs → b = .tup ys → r = r' + 1 → ∀ x y, x ∈ xs → y ∈ ys → L.F__law_same n 0 [x, y] h = .ok (.bl (eqD r' x y)) h) :
    L.F__law_same (n + 1) 0 [a, b] h = .ok (.bl (eqD r a b)) h := by
  show mkF 2 3 (L.b__law_same (L.F__law_same n)) [a, b] h = _
  rw [mkF_eq (by rfl)]
  unfold L.b__law_same
  have kinds : ∀ {d : D}, plainD r d = true → (∃ s, d = .str s) ∨ (∃ i, d = .int i) ∨ ∃ xs r', d = .tup xs ∧ r = r' + 1 := by
    intro d hd
    cases d with
    | str s => exact .inl ⟨s, rfl⟩
    | int i => exact .inr (.inl ⟨i, rfl⟩)
    | tup xs =>
      cases r with
      | zero => simp [plainD] at hd
      | succ r => exact .inr (.inr ⟨xs, r, rfl, rfl⟩)
    | _ => cases r <;> simp [plainD] at hd
  have dis : ∀ x : D, ∀ g, dIs x .non g = .ok (.bl (dIsN x)) g := fun _ _ => rfl
  rcases kinds hb with ⟨t, rfl⟩ | ⟨j, rfl⟩ | ⟨ys, r', rfl, rfl⟩
  · rcases kinds ha with ⟨s, rfl⟩ | ⟨i, rfl⟩ | ⟨xs, r', rfl, hr⟩
    · have e : eqD r (.str s) (.str t) = decide (s = t) := by cases r <;> rfl
      rw [e]
      simp only [ev_seq]
      simp [tyD, isB, truD, dis, dIsN, dEq_str]
    · have e : eqD r (.int i) (.str t) = false := by cases r <;> rfl
      rw [e]
      simp only [ev_seq]
      simp [tyD, isB, truD, dis, dIsN]
    · have e : eqD r (.tup xs) (.str t) = false := by cases r <;> rfl
      rw [e]
      simp only [ev_seq]
      simp [tyD, isB, truD, dis, dIsN]
  · rcases kinds ha with ⟨s, rfl⟩ | ⟨i, rfl⟩ | ⟨xs, r', rfl, hr⟩
    · have e : eqD r (.str s) (.int j) = false := by cases r <;> rfl
      rw [e]
      simp only [ev_seq]
      simp [tyD, isB, truD, dis, dIsN]
    · have e : eqD r (.int i) (.int j) = decide (i = j) := by cases r <;> rfl
      rw [e]
      simp only [ev_seq]
      simp [tyD, isB, truD, dis, dIsN, dEq_int]
    · have e : eqD r (.tup xs) (.int j) = false := by cases r <;> rfl
      rw [e]
      simp only [ev_seq]
      simp [tyD, isB, truD, dis, dIsN]
  · rcases kinds ha with ⟨s, rfl⟩ | ⟨i, rfl⟩ | ⟨xs, r2, rfl, hr⟩
    · have e : eqD (r' + 1) (.str s) (.tup ys) = false := rfl
      rw [e]
      simp only [ev_seq]
      simp [tyD, isB, truD, ev_seq]
    · have e : eqD (r' + 1) (.int i) (.tup ys) = false := rfl
      rw [e]
      simp only [ev_seq]
      simp [tyD, isB, truD, ev_seq]
    · have e : eqD (r' + 1) (.tup xs) (.tup ys) = (decide (xs.length = ys.length) && (xs.zip ys).all (fun p => eqD r' p.1 p.2)) := rfl
      rw [e]
      have hy : ∀ x ∈ ys, plainD r' x = true := by
        have : ys.all (plainD r') = true := hb
        exact List.all_eq_true.mp this
      by_cases c : xs.length = ys.length
      · have c' : (xs.length : Int) = ys.length := by omega
        obtain ⟨B, hB⟩ : ∃ B : MS, B = sIf (mTNot (mTru (mApp (L.F__law_same n 0) (mCons (mOp dIx (mVar 0) (mVar 2)) (mCons (mOp dIx (mVar 1) (mVar 2)) mNil))))) (sRet (mC (.bl false))) sNil := ⟨_, rfl⟩
        obtain ⟨G0, hG⟩ : ∃ G0, (xs.zip ys).all (fun p => eqD r' p.1 p.2) = G0 := ⟨_, rfl⟩
        have key := loopF_gen (g := itN ys.length) (t := .nm 2) (body := B) (N := ys.length) (fun j => .int (j : Nat))
          (fun j e g => g = h ∧ (∃ v, e = [some (.tup xs), some (.tup ys), v]) ∧ ((xs.drop j).zip (ys.drop j)).all (fun p => eqD r' p.1 p.2) = G0)
          (fun q => (∃ e, q = .next e h ∧ G0 = true) ∨ (q = .ret (.bl false) h ∧ G0 = false))
          (fun j e g hj hi => rfl) (by
            rintro j e g hj ⟨rfl, ⟨v, rfl⟩, hm⟩
            have jx : j < xs.length := by omega
            rw [List.drop_eq_getElem_cons jx, List.drop_eq_getElem_cons hj, List.zip_cons_cons, List.all_cons] at hm
            have ix1 : dIx (.tup xs) (.int (j : Nat)) g = .ok xs[j] g := dIx_tup (atI_of (by omega) (by rw [show ((j : Nat) : Int).toNat = j by omega]; exact List.getElem?_eq_getElem jx))
            have ix2 : dIx (.tup ys) (.int (j : Nat)) g = .ok ys[j] g := dIx_tup (atI_of (by omega) (by rw [show ((j : Nat) : Int).toNat = j by omega]; exact List.getElem?_eq_getElem hj))
            have es := H xs ys r' rfl rfl rfl xs[j] ys[j] (List.getElem_mem jx) (List.getElem_mem hj)
            refine ⟨[some (.tup xs), some (.tup ys), some (.int (j : Nat))], rfl, ?_⟩
            by_cases q : eqD r' xs[j] ys[j] = true
            · have eb : B [some (.tup xs), some (.tup ys), some (.int (j : Nat))] g = .next [some (.tup xs), some (.tup ys), some (.int (j : Nat))] g := by
                subst hB
                simp [ix1, ix2, es, q, truD]
              rw [eb]
              refine ⟨rfl, ⟨_, rfl⟩, ?_⟩
              rw [← hm]
              dsimp only
              rw [q, Bool.true_and]
            · have q' : eqD r' xs[j] ys[j] = false := by simpa using q
              have eb : B [some (.tup xs), some (.tup ys), some (.int (j : Nat))] g = .ret (.bl false) g := by
                subst hB
                simp [ix1, ix2, es, q', truD]
              rw [eb]
              refine .inr ⟨rfl, ?_⟩
              rw [← hm]
              dsimp only
              rw [q', Bool.false_and])
          (fun e g ⟨hg, _, hm⟩ => by
            subst hg
            rw [List.drop_length, List.zip_nil_right] at hm
            exact .inl ⟨e, rfl, hm.symm⟩) ys.length 0 [some (.tup xs), some (.tup ys), none] h (by omega) ⟨rfl, ⟨none, rfl⟩, by rw [List.drop_zero, List.drop_zero]; exact hG⟩
        subst hB
        have hlen : ys.length ≤ 1000000000 := by
          have := encL_cnt hy
          rw [tup_len] at hl
          omega
        have er1 := rng1_nat (n := ys.length) (a := mCons (mApp dLen (mCons (mVar 1) mNil)) mNil) (e := [some (.tup xs), some (.tup ys), none]) (h := h) (h1 := h) (by simp [dLen_tup]) hlen
        rw [hG, decide_eq_true c, Bool.true_and]
        have eC1 : (mTru (mIsI .tuple (mVar 1))) [some (.tup xs), some (.tup ys), none] h = .ok true h := rfl
        have eN : dNe (.int xs.length) (.int ys.length) h = .ok (.bl false) h := by rw [dNe_int, decide_eq_true c']; rfl
        have eC2 : (mTOr (mTNot (mTru (mIsI .tuple (mVar 0)))) (mTst (mOp dNe (mApp dLen (mCons (mVar 0) mNil)) (mApp dLen (mCons (mVar 1) mNil))))) [some (.tup xs), some (.tup ys), none] h = .ok false h := by
          show ((dNe (.int xs.length) (.int ys.length) h).bind fun x h1 => match x with | .bl b => Res.ok b h1 | _ => .bad) = _
          rw [eN]
          rfl
        have eI : (sSeq (sIf (mTOr (mTNot (mTru (mIsI .tuple (mVar 0)))) (mTst (mOp dNe (mApp dLen (mCons (mVar 0) mNil)) (mApp dLen (mCons (mVar 1) mNil))))) (sRet (mC (.bl false))) sNil)
            (sSeq (sFor (iRng1M (mCons (mApp dLen (mCons (mVar 1) mNil)) mNil)) (.nm 2) (sIf (mTNot (mTru (mApp (L.F__law_same n 0) (mCons (mOp dIx (mVar 0) (mVar 2)) (mCons (mOp dIx (mVar 1) (mVar 2)) mNil))))) (sRet (mC (.bl false))) sNil))
            (sRet (mC (.bl true))))) [some (.tup xs), some (.tup ys), none] h = .ret (.bl G0) h := by
          rw [ev_seq, ev_if, eC2]
          show (sSeq _ _) _ _ = _
          rw [ev_seq, ev_for, er1]
          rcases key with ⟨e, er, hq⟩ | ⟨er, hq⟩
          · show (match loopF _ _ _ _ _ _ _ with
              | .next e1 h1 => (sRet (mC (.bl true))) e1 h1
              | .ret d h1 => .ret d h1
              | .brk e1 h1 => .brk e1 h1
              | .cnt e1 h1 => .cnt e1 h1
              | .exc x e1 h1 => .exc x e1 h1
              | .bad => .bad) = _
            rw [er, hq]
            rfl
          · show (match loopF _ _ _ _ _ _ _ with
              | .next e1 h1 => (sRet (mC (.bl true))) e1 h1
              | .ret d h1 => .ret d h1
              | .brk e1 h1 => .brk e1 h1
              | .cnt e1 h1 => .cnt e1 h1
              | .exc x e1 h1 => .exc x e1 h1
              | .bad => .bad) = _
            rw [er, hq]
        rw [show List.map some [D.tup xs, D.tup ys] ++ List.replicate (3 - 2) none = [some (.tup xs), some (.tup ys), none] from rfl]
        rw [ev_seq, ev_if, eC1]
        simp only [rs_ok, if_true]
        rw [eI]
      · have c' : ¬ (xs.length : Int) = ys.length := by omega
        rw [decide_eq_false c, Bool.false_and]
        simp only [ev_seq]
        simp [tyD, isB, truD, dLen_tup, dNe_int, c, c', ev_seq]
theorem same_ok : ∀ (r n : Nat), r + 1 ≤ n → ∀ (a b : D) (h : LH), plainD r a = true → plainD r b = true → (encD b).length ≤ 16000000 → L.F__law_same n 0 [a, b] h = .ok (.bl (eqD r a b)) h := by
  intro r
  induction r with
  | zero =>
    intro n hn a b h ha hb hl
    obtain ⟨m, rfl⟩ : ∃ m, n = m + 1 := ⟨n - 1, by omega⟩
    exact same_core ha hb hl fun xs ys r' _ _ z => absurd z (by omega)
  | succ r ih =>
    intro n hn a b h ha hb hl
    obtain ⟨m, rfl⟩ : ∃ m, n = m + 1 := ⟨n - 1, by omega⟩
    refine same_core ha hb hl fun xs ys r' hx hy hr x y mx my => ?_
    subst hx hy
    have e : r' = r := by omega
    subst e
    have ha' : xs.all (plainD r') = true := ha
    have hb' : ys.all (plainD r') = true := hb
    rw [tup_len] at hl
    exact ih m (by omega) x y h (List.all_eq_true.mp ha' x mx) (List.all_eq_true.mp hb' y my) (by have := encL_mem my; omega)
theorem eqD_iff : ∀ (r : Nat) (a b : D), plainD r a = true → plainD r b = true → (eqD r a b = true ↔ a = b) := by
  intro r
  induction r with
  | zero =>
    intro a b ha hb
    cases a <;> cases b <;> simp [plainD, eqD] at ha hb ⊢
  | succ r ih =>
    intro a b ha hb
    cases a with
    | tup xs =>
      cases b with
      | tup ys =>
        have ha' : ∀ x ∈ xs, plainD r x = true := List.all_eq_true.mp ha
        have hb' : ∀ x ∈ ys, plainD r x = true := List.all_eq_true.mp hb
        show (decide (xs.length = ys.length) && (xs.zip ys).all (fun p => eqD r p.1 p.2)) = true ↔ D.tup xs = D.tup ys
        rw [D.tup.injEq]
        clear ha hb
        induction xs generalizing ys with
        | nil => cases ys <;> simp
        | cons x xs ihx =>
          cases ys with
          | nil => simp
          | cons y ys =>
            have h1 := ih x y (ha' x (by simp)) (hb' y (by simp))
            have h2 := ihx ys (fun z hz => ha' z (List.mem_cons_of_mem _ hz)) (fun z hz => hb' z (List.mem_cons_of_mem _ hz))
            simp only [Bool.and_eq_true, decide_eq_true_eq, List.length_cons, List.zip_cons_cons, List.all_cons, List.cons.injEq] at h2 ⊢
            rw [← h2, ← h1]
            constructor
            · rintro ⟨p, q, t⟩
              exact ⟨q, by omega, t⟩
            · rintro ⟨q, p, t⟩
              exact ⟨by omega, q, t⟩
      | _ => simp [eqD, plainD] at hb ⊢
    | _ => cases b <;> simp [plainD, eqD] at ha hb ⊢
end HM
set_option Elab.async false
set_option linter.all false
set_option maxRecDepth 100000
set_option maxHeartbeats 4000000
namespace HM
open PySem L2
/-! ### the values that the laws draw -/
structure F2 (s q : Nat) (h h' : LH) : Prop where
  le : h.length ≤ h'.length
  keep : ∀ i, i < h.length → i ≠ s → i ≠ q → h'[i]? = h[i]?
  st : StrAt h' s
theorem F2.trans {s q : Nat} {h h1 h2 : LH} (a : F2 s q h h1) (b : F2 s q h1 h2) : F2 s q h h2 :=
  ⟨Nat.le_trans a.le b.le, fun i hi h1 h2 => (b.keep i (Nat.lt_of_lt_of_le hi a.le) h1 h2).trans (a.keep i hi h1 h2), b.st⟩
theorem F2.of {s q : Nat} {h h' : LH} (a : SF s h h') : F2 s q h h' := ⟨a.le, fun i hi h1 _ => a.keep i hi h1, a.st⟩
theorem F2.get {s q i : Nat} {h h' : LH} {o : LO} (a : F2 s q h h') (h1 : i ≠ s) (h2 : i ≠ q) (e : h[i]? = some o) : h'[i]? = some o := (a.keep i (lt_of_get e) h1 h2).trans e
structure Vl (s q dp : Nat) (h h' : LH) (r r' : Int) (d : D) : Prop where
  pl : plainD dp d = true
  rm : h'[q]? = some (.lst [.int r'])
  fr : F2 s q h h'
  lo : r' ≤ r - 1
  hi : min (r - 1) (-(3 * (dp : Int))) ≤ r'
  ln : ((encD d).length : Int) ≤ 109 * (r - r')
theorem plain_up : ∀ {r : Nat} {d : D}, plainD r d = true → plainD (r + 1) d = true := by
  intro r
  induction r with
  | zero =>
    intro d h
    cases d <;> simp [plainD] at h ⊢ <;> exact h
  | succ r ih =>
    intro d h
    cases d with
    | tup xs =>
      have h' : xs.all (plainD r) = true := h
      show xs.all (plainD (r + 1)) = true
      exact List.all_eq_true.mpr fun x hx => ih (List.all_eq_true.mp h' x hx)
    | _ => simp [plainD] at h ⊢ <;> exact h
theorem plain_mono {r r' : Nat} {d : D} (hr : r ≤ r') (h : plainD r d = true) : plainD r' d = true := by
  induction hr with
  | refl => exact h
  | step _ ih => exact plain_up ih
end HM
set_option Elab.async false
set_option linter.all false
set_option maxRecDepth 100000
set_option maxHeartbeats 4000000
namespace HM
open PySem L2
/-! ### what is read is what would be written -/
end HM
set_option Elab.async false
set_option linter.all false
set_option maxRecDepth 100000
set_option maxHeartbeats 4000000
namespace HM
open PySem L2
/-! ### _law_printable, _law_plain, _law_sign, _law_edited -/
end HM
set_option Elab.async false
set_option linter.all false
set_option maxRecDepth 100000
set_option maxHeartbeats 4000000
namespace HM
open PySem L2
/-! ### seals: what a sealed pair is -/
structure PL (r : Nat) (d : D) : Prop where
  p : plainD r d = true
  l : (encD d).length ≤ 1000000
theorem PL.len {r : Nat} {d : D} (c : PL r d) : ∀ s, d = .str s → s.length ≤ 1000000 := by
  rintro s rfl
  have := c.l
  rw [encD_str] at this
  simp at this
  omega
theorem PL.ty {r : Nat} {d : D} {h : LH} (c : PL r d) : ∃ t, tyD d h = some t := by
  have := c.p
  cases d with
  | str s => exact ⟨_, rfl⟩
  | int s => exact ⟨_, rfl⟩
  | tup s => exact ⟨_, rfl⟩
  | _ => cases r <;> simp [plainD] at this
theorem PL.items {r : Nat} {xs : List D} (c : PL (r + 1) (.tup xs)) : ∀ x ∈ xs, PL r x := by
  intro x hx
  have hp := c.p
  have hp' : xs.all (plainD r) = true := hp
  refine ⟨List.all_eq_true.mp hp' x hx, ?_⟩
  have := c.l
  rw [encD] at this
  have := encL_mem hx
  simp at *
  omega
theorem PL.pos {r : Nat} {xs : List D} (c : PL r (.tup xs)) : ∃ r', r = r' + 1 := by
  cases r with
  | zero => have := c.p; simp [plainD] at this
  | succ r => exact ⟨r, rfl⟩
theorem PL.cnt {r : Nat} {xs : List D} (c : PL (r + 1) (.tup xs)) : xs.length ≤ 1000000 := by
  have := encL_cnt (r := r) (xs := xs) (fun x hx => (c.items x hx).p)
  have := c.l
  rw [encD] at this
  simp at *
  omega
theorem PL.all {r : Nat} {s : List Nat} (c : PL r (.str s)) : allC s = true := by
  have := c.p
  cases r <;> simpa [plainD] using this
def isSl (d : D) : Bool := match d with
  | .tup [k, m] => isKey k && (isPr m && decide ((cd m).length ≤ 40))
  | _ => false
def kyOf (d : D) : List Nat := match d with
  | .tup (k :: _) => cd k
  | _ => []
def ascK : List Nat → List D → Bool
  | _, [] => true
  | l, x :: xs => (isSl x && decide (l < kyOf x)) && ascK (kyOf x) xs
def areSl (d : D) : Bool := match d with
  | .tup xs => decide ((xs.length : Int) ≤ 32) && ascK [] xs
  | _ => false
def isSd (d : D) : Bool := match d with
  | .tup [a, b] => isPr a && areSl b
  | _ => false
theorem PL.mono {r r' : Nat} {d : D} (hr : r ≤ r') (c : PL r d) : PL r' d := ⟨plain_mono hr c.p, c.l⟩
def opD (d : D) : Option D := match decD d with
  | some v => if isSd v then some v else none
  | none => none
end HM
set_option Elab.async false
set_option linter.all false
set_option maxRecDepth 100000
set_option maxHeartbeats 4000000
namespace HM
open PySem L2
/-! ### a sealed value -/
def svD (t : List Nat) (xs : List PR) : D := .tup [.str t, .tup (xs.map pD)]
structure GS (t : List Nat) (xs : List PR) : Prop where
  tc : allC t = true
  tl : t.length ≤ 10000
  l : xs.length ≤ 32
  k : ∀ p ∈ xs, isKey (.str p.1) = true
  c : ∀ p ∈ xs, allC p.2 = true
  m : ∀ p ∈ xs, p.2.length ≤ 40
  a : ascL (xs.map (·.1)) = true
theorem enc_pair {p : PR} (h1 : p.1.length ≤ 12) (h2 : p.2.length ≤ 40) : (encD (pD p)).length ≤ 100 := by
  unfold pD
  rw [encD]
  simp only [encL, encD]
  have a := strI_len (n := p.1.length) (by omega)
  have b := strI_len (n := p.2.length) (by omega)
  simp
  omega
theorem enc_pairs : ∀ {xs : List PR}, (∀ p ∈ xs, p.1.length ≤ 12 ∧ p.2.length ≤ 40) → (encL (xs.map pD)).length ≤ 100 * xs.length
  | [], _ => by simp [encL]
  | p :: xs, h => by
    have a := enc_pairs fun q hq => h q (List.mem_cons_of_mem _ hq)
    have b := enc_pair (h p List.mem_cons_self).1 (h p List.mem_cons_self).2
    rw [List.map_cons]
    simp only [encL]
    simp
    omega
theorem GS.len {t : List Nat} {xs : List PR} (g : GS t xs) : (encD (svD t xs)).length ≤ 20000 := by
  have a := enc_pairs (xs := xs) fun p hp => ⟨key_le (g.k p hp), g.m p hp⟩
  have b := strI_len (n := t.length) (by have := g.tl; omega)
  have := g.l
  have := g.tl
  unfold svD
  rw [encD]
  simp only [encL, encD]
  simp
  omega
/-! not sealed values -/
end HM
set_option Elab.async false
set_option linter.all false
set_option maxRecDepth 100000
set_option maxHeartbeats 4000000
namespace HM
open PySem L2
/-! ### shelves, paths, grants, lists drawn -/
theorem dAdd_refs {h : LH} {i j : Nat} {a b : List D} (hi : h[i]? = some (.lst a)) (hj : h[j]? = some (.lst b)) (hl : a.length + b.length ≤ 16777216) : dAdd (.ref i) (.ref j) h = .ok (.ref h.length) (h ++ [.lst (a ++ b)]) := by
  show (match h[i]?, h[j]? with
    | some (.lst a), some (.lst b) => if a.length + b.length ≤ 16777216 then Res.ok (D.ref h.length) (h ++ [LO.lst (a ++ b)]) else .bad
    | _, _ => .bad) = _
  rw [hi, hj]
  simp only [if_pos hl]
end HM
set_option Elab.async false
set_option linter.all false
set_option maxRecDepth 100000
set_option maxHeartbeats 4000000
namespace HM
open PySem L2
/-! ### paths, grants, lists drawn -/
end HM
set_option Elab.async false
set_option linter.all false
set_option maxRecDepth 100000
set_option maxHeartbeats 4000000
namespace HM
open PySem L2
/-! ### lists drawn -/
theorem grOk_of : ∀ {gs : List D} {seen : List (List Nat)}, (∀ g ∈ gs, isGrant g = true) → (seen ++ gs.map fstC).Nodup → grOk seen gs = true
  | [], _, _, _ => by rw [grOk]
  | g :: gs, seen, h, hn => by
    rw [grOk_cons, h g (by simp), Bool.true_and]
    have e : seen ++ (g :: gs).map fstC = (seen ++ [fstC g]) ++ gs.map fstC := by simp
    rw [e] at hn
    rw [grOk_of (fun x hx => h x (by simp [hx])) hn, Bool.and_true]
    have hn2 := (List.nodup_append.mp hn).1
    have : ¬ fstC g ∈ seen := by
      intro hm
      exact (List.nodup_append.mp hn2).2.2 _ hm _ (by simp) rfl
    have e2 : (seen.any fun t => decide (t = fstC g)) = false := by
      cases q : (seen.any fun t => decide (t = fstC g)) with
      | false => rfl
      | true =>
        rw [List.any_eq_true] at q
        obtain ⟨t, ht, he⟩ := q
        rw [of_decide_eq_true he] at ht
        exact absurd ht this
    rw [e2]
    rfl
end HM
set_option Elab.async false
set_option linter.all false
set_option maxRecDepth 100000
set_option maxHeartbeats 4000000
namespace HM
open PySem L2
/-! ### covers, by both ways of matching; rows found by name -/
def mw (p w : List Nat) : Bool := mts (cut1 47 [] w) (cut1 47 [] p)
theorem covers_ok {h : LH} {n rl l : D} {ps : List D} {p : List Nat} (hp : ∀ d ∈ ps, ∃ w, d = .str w ∧ w.length ≤ 800) (hl : p.length ≤ 800) :
    ∃ h', Kp h h' ∧ L.f_covers [.tup [n, rl, .tup ps, l], .str p] h = .ok (.bl (ps.any fun d => mw p (cd d))) h' := by
  unfold L.f_covers
  rw [mkF_eq (by rfl)]
  unfold L.b_covers
  have i2 : ∀ g, dIx (.tup [n, rl, .tup ps, l]) (.int 2) g = .ok (.tup ps) g := fun _ => rfl
  have key := loopF_list (t := .nm 2) (body := (sIf (mTru (mApp L.f_matches (mCons (mVar 2) (mCons (mVar 1) mNil)))) (sRet (mC (.bl true))) sNil)) (xs := ps)
    (fun j e g => Kp h g ∧ (∃ v, e = [some (.tup [n, rl, .tup ps, l]), some (.str p), v]) ∧ (ps.take j).any (fun d => mw p (cd d)) = false)
    (fun r => ∃ g, Kp h g ∧ (if ps.any (fun d => mw p (cd d)) then r = .ret (.bl true) g else ∃ e, r = .next e g))
    (fun j d e g hd ⟨K, ⟨v, he⟩, ha⟩ => by
      subst he
      refine ⟨[some (.tup [n, rl, .tup ps, l]), some (.str p), some d], rfl, ?_⟩
      obtain ⟨w, rfl, hw⟩ := hp d (List.mem_of_getElem? hd)
      obtain ⟨g', e, G⟩ := matches_ok (h := g) hw hl
      have e : L.f_matches [.str w, .str p] g = .ok (.bl (mw p w)) g' := e
      cases q : mw p w with
      | true =>
        rw [q] at e
        have eb : (sIf (mTru (mApp L.f_matches (mCons (mVar 2) (mCons (mVar 1) mNil)))) (sRet (mC (.bl true))) sNil) [some (.tup [n, rl, .tup ps, l]), some (.str p), some (.str w)] g = .ret (.bl true) g' := by simp -implicitDefEqProofs [e, truD]
        rw [eb]
        refine ⟨g', K.trans (Kp.of_gr G), ?_⟩
        rw [if_pos (List.any_eq_true.mpr ⟨_, List.mem_of_getElem? hd, q⟩)]
      | false =>
        rw [q] at e
        have eb : (sIf (mTru (mApp L.f_matches (mCons (mVar 2) (mCons (mVar 1) mNil)))) (sRet (mC (.bl true))) sNil) [some (.tup [n, rl, .tup ps, l]), some (.str p), some (.str w)] g = .next [some (.tup [n, rl, .tup ps, l]), some (.str p), some (.str w)] g' := by simp -implicitDefEqProofs [e, truD]
        rw [eb]
        refine ⟨K.trans (Kp.of_gr G), ⟨_, rfl⟩, ?_⟩
        rw [List.take_succ, hd, List.any_append, ha]
        show (false || (mw p w || false)) = false
        rw [q]
        rfl)
    (fun e g ⟨K, he, ha⟩ => by
      rw [List.take_length] at ha
      exact ⟨g, K, by rw [ha]; exact ⟨e, rfl⟩⟩) (e := [some (.tup [n, rl, .tup ps, l]), some (.str p), none]) (h := h) ⟨Kp.refl h, ⟨_, rfl⟩, by simp⟩
  obtain ⟨g, K, key⟩ := key
  refine ⟨g, K, ?_⟩
  cases q : ps.any (fun d => mw p (cd d)) with
  | true =>
    rw [q] at key
    simp only [if_true] at key
    simp -implicitDefEqProofs [ev_seq, i2, key]
  | false =>
    rw [q] at key
    simp only [Bool.false_eq_true, if_false] at key
    obtain ⟨e, key⟩ := key
    simp -implicitDefEqProofs [ev_seq, i2, key]
end HM
set_option Elab.async false
set_option linter.all false
set_option maxRecDepth 100000
set_option maxHeartbeats 4000000
namespace HM
open PySem L2
/-! ### rows found by name -/
def tlD (d : D) : D := match d with
  | .tup xs => .tup xs.tail
  | _ => .non
def fndD (rs : List D) (w : List Nat) : D := match rs.find? (fun r => decide (fstC r = w)) with
  | some r => tlD r
  | none => .non
theorem find_ok {K : M D} {rs : List D} {w : List Nat} {h : LH} {v0 : Option D} (hf : ∀ r ∈ rs, fst' r = .str (fstC r)) (hK : ∀ r ∈ rs, K [v0, some (.str w), some r] h = .ok (tlD r) h) :
    match rs.find? (fun r => decide (fstC r = w)) with
    | some r => loopF (itL rs) (.nm 2) (sIf (mTst (mOp dEq (mOp dIx (mVar 2) (mC (.int 0))) (mVar 1))) (sRet K) sNil) rs.length 0 [v0, some (.str w), none] h = .ret (tlD r) h
    | none => ∃ v, loopF (itL rs) (.nm 2) (sIf (mTst (mOp dEq (mOp dIx (mVar 2) (mC (.int 0))) (mVar 1))) (sRet K) sNil) rs.length 0 [v0, some (.str w), none] h = .next [v0, some (.str w), v] h := by
  refine loopF_list (t := .nm 2) (body := (sIf (mTst (mOp dEq (mOp dIx (mVar 2) (mC (.int 0))) (mVar 1))) (sRet K) sNil)) (xs := rs)
    (fun j e g => g = h ∧ (∃ v, e = [v0, some (.str w), v]) ∧ (rs.take j).find? (fun r => decide (fstC r = w)) = none)
    (fun x => match rs.find? (fun r => decide (fstC r = w)) with
      | some r => x = .ret (tlD r) h
      | none => ∃ v, x = .next [v0, some (.str w), v] h)
    (fun j d e g hd ⟨hg, ⟨v, he⟩, ha⟩ => ?_) (fun e g ⟨hg, ⟨v, he⟩, ha⟩ => ?_) (e := [v0, some (.str w), none]) (h := h) ⟨rfl, ⟨_, rfl⟩, by simp⟩
  · subst hg he
    have hm := List.mem_of_getElem? hd
    refine ⟨[v0, some (.str w), some d], rfl, ?_⟩
    have ix := fst_ix (h := g) (hf d hm)
    have hj := lt_of_get hd
    have es : rs = rs.take j ++ d :: rs.drop (j + 1) := by
      have e1 : rs.drop j = d :: rs.drop (j + 1) := by
        rw [List.drop_eq_getElem_cons hj]
        congr 1
        rw [List.getElem?_eq_getElem hj] at hd
        exact Option.some.inj hd
      rw [← e1, List.take_append_drop]
    by_cases q : fstC d = w
    · have eb : (sIf (mTst (mOp dEq (mOp dIx (mVar 2) (mC (.int 0))) (mVar 1))) (sRet K) sNil) [v0, some (.str w), some d] g = .ret (tlD d) g := by
        simp -implicitDefEqProofs [ix, dEq_str, q, hK d hm]
      rw [eb]
      have ef : rs.find? (fun r => decide (fstC r = w)) = some d := by
        rw [es, List.find?_append, ha, Option.none_or, List.find?_cons, decide_eq_true q]
      rw [ef]
    · have eb : (sIf (mTst (mOp dEq (mOp dIx (mVar 2) (mC (.int 0))) (mVar 1))) (sRet K) sNil) [v0, some (.str w), some d] g = .next [v0, some (.str w), some d] g := by
        simp -implicitDefEqProofs [ix, dEq_str, q]
      rw [eb]
      refine ⟨rfl, ⟨_, rfl⟩, ?_⟩
      rw [List.take_succ, hd, List.find?_append, ha, Option.none_or]
      show List.find? _ [d] = none
      rw [List.find?_cons, decide_eq_false q]
      rfl
  · subst hg he
    rw [List.take_length] at ha
    rw [ha]
    exact ⟨v, rfl⟩
theorem good_of_eq {rs : List D} {a b c e f : D} {w : List Nat} {h : LH} (hr : ∀ r ∈ rs, isGood r = true) : L.f_good_of [.tup [a, b, c, e, .tup rs, f], .str w] h = .ok (fndD rs w) h := by
  unfold L.f_good_of
  rw [mkF_eq (by rfl)]
  unfold L.b_good_of
  have i4 : ∀ g, dIx (.tup [a, b, c, e, .tup rs, f]) (.int 4) g = .ok (.tup rs) g := fun _ => rfl
  have key := find_ok (K := (mTup (mCons (mOp dIx (mVar 2) (mC (.int 1))) (mCons (mOp dIx (mVar 2) (mC (.int 2))) mNil)))) (rs := rs) (w := w) (h := h) (v0 := some (.tup [a, b, c, e, .tup rs, f])) (fun r hm => good_fst (hr r hm)) (fun r hm => by
    have := hr r hm
    unfold isGood at this
    split at this
    · rename_i p l g
      have i1 : ∀ z, dIx (.tup [p, l, g]) (.int 1) z = .ok l z := fun _ => rfl
      have i2 : ∀ z, dIx (.tup [p, l, g]) (.int 2) z = .ok g z := fun _ => rfl
      simp -implicitDefEqProofs [i1, i2, tlD]
    · cases this)
  unfold fndD
  cases q : rs.find? (fun r => decide (fstC r = w)) with
  | some r =>
    rw [q] at key
    dsimp only at key
    simp -implicitDefEqProofs [ev_seq, i4, key]
  | none =>
    rw [q] at key
    obtain ⟨v, key⟩ := key
    simp -implicitDefEqProofs [ev_seq, i4, key]
theorem entry_of_eq {rs : List D} {a b c : D} {w : List Nat} {h : LH} (hr : ∀ r ∈ rs, isEnt r = true) : L.f_entry_of [.tup [a, b, c, .tup rs], .str w] h = .ok (fndD rs w) h := by
  unfold L.f_entry_of
  rw [mkF_eq (by rfl)]
  unfold L.b_entry_of
  have i3 : ∀ g, dIx (.tup [a, b, c, .tup rs]) (.int 3) g = .ok (.tup rs) g := fun _ => rfl
  have key := find_ok (K := (mTup (mCons (mOp dIx (mVar 2) (mC (.int 1))) (mCons (mOp dIx (mVar 2) (mC (.int 2))) (mCons (mOp dIx (mVar 2) (mC (.int 3))) mNil))))) (rs := rs) (w := w) (h := h) (v0 := some (.tup [a, b, c, .tup rs])) (fun r hm => ent_fst (hr r hm)) (fun r hm => by
    have := hr r hm
    unfold isEnt at this
    split at this
    · rename_i n x y z
      have i1 : ∀ u, dIx (.tup [n, x, y, z]) (.int 1) u = .ok x u := fun _ => rfl
      have i2 : ∀ u, dIx (.tup [n, x, y, z]) (.int 2) u = .ok y u := fun _ => rfl
      have i3 : ∀ u, dIx (.tup [n, x, y, z]) (.int 3) u = .ok z u := fun _ => rfl
      simp -implicitDefEqProofs [i1, i2, i3, tlD]
    · cases this)
  unfold fndD
  cases q : rs.find? (fun r => decide (fstC r = w)) with
  | some r =>
    rw [q] at key
    dsimp only at key
    simp -implicitDefEqProofs [ev_seq, i3, key]
  | none =>
    rw [q] at key
    obtain ⟨v, key⟩ := key
    simp -implicitDefEqProofs [ev_seq, i3, key]
theorem same_plain {d : D} {h : LH} {r : Nat} (hp : plainD r d = true) (hr : r ≤ 20) (hl : (encD d).length ≤ 16000000) : L.f__law_same [d, d] h = .ok (.bl true) h := by
  have := same_ok r 24 (by omega) d d h hp hp hl
  rw [(eqD_iff r d d hp hp).mpr rfl] at this
  exact this
theorem same_non {h : LH} : L.f__law_same [.non, .non] h = .ok (.bl true) h := by
  show L.F__law_same (23 + 1) 0 [.non, .non] h = _
  unfold L.F__law_same
  rw [mkF_eq (by rfl)]
  unfold L.b__law_same
  simp -implicitDefEqProofs [ev_seq, tyD, isB, truD, dIs, dIsN]
end HM
set_option Elab.async false
set_option linter.all false
set_option maxRecDepth 100000
set_option maxHeartbeats 4000000
namespace HM
open PySem L2
/-! ### seal: the mirror's body (the same in each law), good seals and refusals -/
theorem StrAt.kp {g g' : LH} {s : Nat} (w : StrAt g s) (k : Kp g g') : StrAt g' s := by
  obtain ⟨a, b, e⟩ := w
  exact ⟨a, b, k.get e⟩
theorem StrAt.set {g : LH} {s i : Nat} {o : LO} (w : StrAt g s) (hi : i ≠ s) : StrAt (g.set i o) s := by
  obtain ⟨a, b, e⟩ := w
  exact ⟨a, b, by rw [List.getElem?_set_ne hi]; exact e⟩
/-! ### the different keys in order -/
def pairK (t k : List Nat) : PR := (k, mkS k t)
structure Fm (m : Nat) (g g' : LH) : Prop where
  le : g.length ≤ g'.length
  keep : ∀ i, i < g.length → i ≠ m → i ≠ 0 → g'[i]? = g[i]?
  st : StrAt g' 0
theorem Fm.get {m i : Nat} {g g' : LH} {o : LO} (f : Fm m g g') (h1 : i ≠ m) (h0 : i ≠ 0) (e : g[i]? = some o) : g'[i]? = some o := (f.keep i (lt_of_get e) h1 h0).trans e
theorem nodup_le {α : Type} [DecidableEq α] : ∀ (a b : List α), a.Nodup → (∀ x ∈ a, x ∈ b) → a.length ≤ b.length := by
  intro a
  induction a with
  | nil => intro b _ _; simp
  | cons x a ih =>
    intro b hn hs
    rw [List.nodup_cons] at hn
    have hx := hs x List.mem_cons_self
    have := ih (b.erase x) hn.2 (fun y hy => by
      have hb := hs y (List.mem_cons_of_mem _ hy)
      have hne : y ≠ x := fun z => hn.1 (by rw [← z]; exact hy)
      exact (List.mem_erase_of_ne hne).mpr hb)
    rw [List.length_erase_of_mem hx] at this
    have := List.length_pos_of_mem hx
    simp
    omega

theorem asc_of : ∀ {l : List (List Nat)}, l.Pairwise (fun a b => leS a b = true) → l.Nodup → ascL l = true
  | [], _, _ => rfl
  | [a], _, _ => rfl
  | a :: b :: l, hp, hn => by
    unfold ascL
    have h1 := List.rel_of_pairwise_cons hp List.mem_cons_self
    have h2 := asc_of (List.pairwise_cons.mp hp).2 (List.nodup_cons.mp hn).2
    rw [h2, Bool.and_true, decide_eq_true_eq]
    have hne : a ≠ b := fun z => (List.nodup_cons.mp hn).1 (by rw [z]; exact List.mem_cons_self)
    unfold leS at h1
    simp only [Bool.not_eq_true', decide_eq_false_iff_not] at h1
    exact Classical.byContradiction fun z => hne (List.le_antisymm (List.not_lt.mp h1) (List.not_lt.mp z))
end HM
set_option Elab.async false
set_option linter.all false
set_option maxRecDepth 100000
set_option maxHeartbeats 4000000
namespace HM
open PySem L2
/-! ### how long a sealed text is -/
/-! ### the keys of k31 -/
end HM
set_option Elab.async false
set_option linter.all false
set_option maxRecDepth 100000
set_option maxHeartbeats 4000000
namespace HM
open PySem L2
/-! ### documents and their published names -/
def isDoc (d : D) : Bool := isCharter d || (isStamp d || (isShelf d || isList d))
theorem isS_inv {k : List Nat} {d : D} (h : isS k d = true) : d = .str k := by
  cases d with
  | str s => have : s = k := of_decide_eq_true h; rw [this]
  | _ => cases h
inductive DocS : D → Prop
  | two {k : List Nat} {n : Nat} {e b : D} : n ≤ 1000000000000 → (k = kCr ∨ k = kSh) → DocS (.tup [.str k, .int n, e, b])
  | stamp {n : Nat} {e b : D} : n ≤ 1000000000000 → DocS (.tup [.str kSt, .int n, e, b])
  | list {m : List Nat} {n : Nat} {e g gr : D} : n ≤ 1000000000000 → isLN (.str m) = true → DocS (.tup [.str kLi, .str m, .int n, e, g, gr])
def nmD (d : D) : List Nat := match d with
  | .tup [.str k, .int v, _, _] => if k = kSt then kSt else strI v ++ 46 :: k
  | .tup [.str _, .str m, .int v, _, _, _] => strI v ++ 46 :: (m ++ 46 :: kLi)
  | _ => []
theorem nm4 {k : List Nat} {v : Int} {e b : D} : nmD (.tup [.str k, .int v, e, b]) = if k = kSt then kSt else strI v ++ 46 :: k := rfl
theorem k_lens : kCr.length ≤ 10 ∧ kSt.length ≤ 10 ∧ kSh.length ≤ 10 ∧ kLi.length ≤ 10 := by decide +kernel
/-! ### names are equal for like documents alone -/
theorem strI_13 {n : Nat} (h : n ≤ 1000000000000) : (strI (n : Int)).length ≤ 13 := by
  rw [strI_pos, List.length_map]
  exact (Nat.length_toDigits_le_iff (n := n) (b := 10) (k := 13) (by decide) (by decide)).mpr (by omega)
end HM
set_option Elab.async false
set_option linter.all false
set_option maxRecDepth 100000
set_option maxHeartbeats 4000000
namespace HM
open PySem L2
/-! ### every document is plain and short: it can be encoded -/
structure PE (r n : Nat) (d : D) : Prop where
  p : plainD r d = true
  l : (encD d).length ≤ n
theorem plain_up1 : ∀ {r : Nat} {d : D}, plainD r d = true → plainD (r + 1) d = true := by
  intro r
  induction r with
  | zero =>
    intro d h
    cases d <;> first | exact h | (simp [plainD] at h; done)
  | succ r ih =>
    intro d h
    cases d with
    | tup xs =>
      have h' : xs.all (plainD r) = true := h
      show xs.all (plainD (r + 1)) = true
      rw [List.all_eq_true] at h' ⊢
      exact fun x hx => ih (h' x hx)
    | _ => exact h
theorem PE.mono {r n r' n' : Nat} {d : D} (h : PE r n d) (hr : r ≤ r') (hn : n ≤ n') : PE r' n' d := by
  refine ⟨?_, Nat.le_trans h.l hn⟩
  induction hr with
  | refl => exact h.p
  | step _ ih => exact plain_up1 ih
theorem encL_leN {xs : List D} {n : Nat} (h : ∀ x ∈ xs, (encD x).length ≤ n) : (encL xs).length ≤ xs.length * n := by
  induction xs with
  | nil => simp [encL]
  | cons a l ih =>
    have h1 := h a (by simp)
    have h2 := ih fun x hx => h x (by simp [hx])
    rw [encL, List.length_append, List.length_cons, Nat.add_mul]
    omega
theorem pe_list {r n k : Nat} {xs : List D} (hl : xs.length ≤ k) (h : ∀ x ∈ xs, PE r n x) : PE (r + 1) (k * n + 2) (.tup xs) := by
  refine ⟨List.all_eq_true.mpr fun x hx => (h x hx).p, ?_⟩
  have h1 := encL_leN fun x hx => (h x hx).l
  have h2 : xs.length * n ≤ k * n := Nat.mul_le_mul_right n hl
  rw [encD]
  simp
  omega
theorem pe2 {r a b : Nat} {x y : D} (hx : PE r a x) (hy : PE r b y) : PE (r + 1) (a + b + 2) (.tup [x, y]) := by
  refine ⟨by show [x, y].all (plainD r) = true; simp [hx.p, hy.p], ?_⟩
  have := hx.l
  have := hy.l
  simp [encD, encL]
  omega
theorem pe3 {r a b c : Nat} {x y z : D} (hx : PE r a x) (hy : PE r b y) (hz : PE r c z) : PE (r + 1) (a + b + c + 2) (.tup [x, y, z]) := by
  refine ⟨by show [x, y, z].all (plainD r) = true; simp [hx.p, hy.p, hz.p], ?_⟩
  have := hx.l
  have := hy.l
  have := hz.l
  simp [encD, encL]
  omega
theorem pe4 {r a b c e : Nat} {x y z w : D} (hx : PE r a x) (hy : PE r b y) (hz : PE r c z) (hw : PE r e w) : PE (r + 1) (a + b + c + e + 2) (.tup [x, y, z, w]) := by
  refine ⟨by show [x, y, z, w].all (plainD r) = true; simp [hx.p, hy.p, hz.p, hw.p], ?_⟩
  have := hx.l
  have := hy.l
  have := hz.l
  have := hw.l
  simp [encD, encL]
  omega
theorem str_pe {s : List Nat} {n : Nat} (r : Nat) (hl : s.length ≤ n) (hn : n ≤ 900) (hc : allC s = true) : PE r (n + 4) (.str s) := by
  refine ⟨by cases r <;> exact hc, ?_⟩
  have h3 := (Nat.length_toDigits_le_iff (n := s.length) (b := 10) (k := 3) (by decide) (by decide)).mpr (by omega)
  rw [encD_str, strI_pos]
  simp
  omega
theorem all_of {s cs : List Nat} (h : ∀ c ∈ s, c ∈ cs) (hc : allC cs = true) : allC s = true := by
  unfold allC at *
  rw [List.all_eq_true] at *
  exact fun c hm => hc c (h c hm)
theorem nm_all : allC nmC = true := by decide +kernel
theorem dgC_all : allC dgC = true := by decide +kernel
theorem hx_all : allC hxC = true := by decide +kernel
theorem pa_all : allC (47 :: pcC) = true := by decide +kernel
theorem k_all : allC kCr = true ∧ allC kSt = true ∧ allC kSh = true ∧ allC kLi = true := by decide +kernel
theorem int_pe {lo hi : Int} {d : D} (r : Nat) (h : isInt lo hi d = true) (h0 : 0 ≤ lo) (h1 : hi ≤ 1000000000000) : PE r 14 d := by
  obtain ⟨i, rfl, a, b⟩ := isInt_inv h
  obtain ⟨k, rfl⟩ : ∃ k : Nat, i = k := ⟨i.toNat, by omega⟩
  refine ⟨by cases r <;> simp [plainD] <;> omega, ?_⟩
  have := strI_13 (n := k) (by omega)
  rw [encD_int]
  simp
  omega
theorem name_pe {d : D} (r : Nat) (h : isLN d = true) : PE r 16 d := by
  have hs := isLN_str h
  rw [hs] at h ⊢
  unfold isLN at h
  simp only [Bool.and_eq_true, decide_eq_true_eq] at h
  exact str_pe r h.1.2 (by decide) (all_of (fun c hc => inC_mem h.2 hc) nm_all)
theorem key_pe {d : D} (r : Nat) (h : isKey d = true) : PE r 16 d := by
  have hs := isKey_str h
  rw [hs] at h ⊢
  generalize cd d = s at h ⊢
  unfold isKey at h
  simp only [Bool.and_eq_true, decide_eq_true_eq] at h
  refine str_pe r h.1.1.2 (by decide) ?_
  cases s with
  | nil => rfl
  | cons a l =>
    have ha : a = 107 := by simpa using h.1.2
    have hl : allC l = true := all_of (fun c hc => inC_mem h.2 (by simpa using hc)) dgC_all
    subst ha
    unfold allC at hl ⊢
    rw [List.all_cons, hl]
    decide
theorem dg_pe {d : D} (r : Nat) (h : isDg d = true) : PE r 22 d := by
  cases d with
  | str s =>
    unfold isDg at h
    simp only [Bool.and_eq_true, decide_eq_true_eq] at h
    exact str_pe r (by omega) (by decide) (all_of (fun c hc => inC_mem h.2 hc) hx_all)
  | _ => cases h
theorem path_pe {d : D} {cs : List Nat} (r : Nat) (h : hasD d cs = true) (hc : allC (47 :: cs) = true) : PE r 64 d := by
  cases d with
  | str s =>
    have h : hasP s cs = true := h
    unfold hasP at h
    simp only [Bool.and_eq_true, decide_eq_true_eq, List.all_eq_true] at h
    refine str_pe r h.1 (by decide) (all_of (cs := 47 :: cs) (fun c hm => ?_) hc)
    rcases cut1_mem (k := 47) s [] c (.inl hm) with hk | ⟨p, hp, hc2⟩
    · rw [hk]; simp
    · have := h.2.2 p hp
      unfold okP at this
      rw [Bool.and_eq_true] at this
      exact List.mem_cons_of_mem _ (inC_mem this.2 hc2)
  | _ => cases h
theorem kind_pe {k : List Nat} {d : D} (r : Nat) (h : isS k d = true) (hl : k.length ≤ 10) (hc : allC k = true) : PE r 14 d := by
  rw [isS_inv h]
  exact str_pe r hl (by decide) hc
theorem role_pe {d : D} (h : isRole d = true) : PE 2 274 d := by
  unfold isRole at h
  split at h
  · simp only [Bool.and_eq_true, decide_eq_true_eq, List.all_eq_true] at h
    exact pe2 (int_pe 1 h.2.2.2 (by decide) (by omega)) (pe_list (k := 16) (n := 16) (r := 0) h.1 fun y hy => key_pe 0 (h.2.1 y hy))
  · cases h
theorem good_pe {d : D} (h : isGood d = true) : PE 1 102 d := by
  unfold isGood at h
  split at h
  · simp only [Bool.and_eq_true] at h
    exact pe3 (path_pe 0 h.1 pa_all) (int_pe 0 h.2.1 (by decide) (by decide)) (dg_pe 0 h.2.2)
  · cases h
end HM
set_option Elab.async false
set_option linter.all false
set_option maxRecDepth 100000
set_option maxHeartbeats 4000000
namespace HM
open PySem L2
/-! ### a plain value with a short text is closed -/
theorem plain_cl {h : LH} : ∀ {r : Nat} {d : D}, plainD r d = true → (encD d).length ≤ 200000 → Cl h (r + 1) d := by
  intro r
  induction r with
  | zero =>
    intro d hp hl
    cases d with
    | str s =>
      have hc : allC s = true := hp
      rw [encD_str] at hl
      simp at hl
      refine ⟨by omega, fun c hm => ?_⟩
      have := okC_iff.mp (List.all_eq_true.mp hc c hm)
      have := this.2.1
      omega
    | int i => trivial
    | _ => simp [plainD] at hp
  | succ r ih =>
    intro d hp hl
    cases d with
    | str s =>
      have hc : allC s = true := hp
      rw [encD_str] at hl
      simp at hl
      refine ⟨by omega, fun c hm => ?_⟩
      have := okC_iff.mp (List.all_eq_true.mp hc c hm)
      have := this.2.1
      omega
    | int i => trivial
    | tup xs =>
      have hp' : xs.all (plainD r) = true := hp
      have hx : ∀ x ∈ xs, plainD r x = true := List.all_eq_true.mp hp'
      have hc := encL_cnt (r := r) hx
      rw [encD] at hl
      simp at hl
      exact ⟨by omega, fun x hm => ih (hx x hm) (by have := encL_mem hm; omega)⟩
    | _ => simp [plainD] at hp
end HM
set_option Elab.async false
set_option linter.all false
set_option maxRecDepth 100000
set_option maxHeartbeats 4000000
namespace HM
open PySem L2
/-! ### documents drawn, and changed a little -/
theorem doc_sm {d : D} (h : isDoc d = true) : Sm 6 d := by
  unfold isDoc at h
  simp only [Bool.or_eq_true] at h
  rcases h with h | h | h | h
  · exact (charter_sm h).mono (by decide)
  · exact (stamp_sm h).mono (by decide)
  · exact (shelf_sm h).mono (by decide)
  · exact (list_sm h).mono (by decide)
inductive DocV : D → Prop
  | four {k : List Nat} {v e b : D} : isVer v = true → k ≠ kLi → DocV (.tup [.str k, v, e, b])
  | six {m v e g gr : D} : isVer v = true → isLN m = true → DocV (.tup [.str kLi, m, v, e, g, gr])
end HM
set_option Elab.async false
set_option linter.all false
set_option maxRecDepth 100000
set_option maxHeartbeats 4000000
namespace HM
open PySem L2
/-! ### canonical texts are printable; write; comprehensions without draws -/
end HM
set_option Elab.async false
set_option linter.all false
set_option maxRecDepth 100000
set_option maxHeartbeats 4000000
namespace HM
open PySem L2
/-! ### a search, as the program keeps it -/
theorem any_strs (w : List Nat) : ∀ E : List (List Nat), ((E.map D.str).any fun y => eqF y (.str w)) = decide (w ∈ E)
  | [] => rfl
  | a :: E => by
    rw [List.map_cons, List.any_cons, any_strs w E]
    show ((a == w) || decide (w ∈ E)) = _
    by_cases q : a = w
    · simp [q]
    · have q' : ¬ w = a := fun z => q z.symm
      simp [q, q']
theorem notIn_L {h : LH} {r : Nat} {w : List Nat} {E : List (List Nat)} (hr : h[r]? = some (.lst (E.map D.str))) : dNotIn (.str w) (.ref r) h = .ok (.bl (!decide (w ∈ E))) h ∧ dIn (.str w) (.ref r) h = .ok (.bl (decide (w ∈ E))) h := by
  have e : seqD (.ref r) h = some (E.map D.str) := by unfold seqD; simp only [hr]
  have f : (E.map D.str).all flD = true := by simp [List.all_map, flD]
  constructor
  · unfold dNotIn
    simp only [e, f, flD, Bool.and_self, if_true, any_strs]
  · unfold dIn
    simp only [e, f, flD, Bool.and_self, if_true, any_strs]
abbrev NR := List Nat × D
def nrD (x : NR) : D := .tup [.str x.1, x.2]
structure SS where
  wait : List NR
  seen : List (List Nat)
  out : Option (List D)
def outD : Option (List D) → D
  | none => .non
  | some ds => .tup ds
def srF (sh : D) (p : List Nat) (W V : Nat) (out : Option (List D)) : List (String × D) := [("shelf", sh), ("path", .str p), ("waiting", .ref W), ("visited", .ref V), ("outcome", outD out)]
structure SeAt (h : LH) (o : Nat) (sh : D) (p : List Nat) (W V : Nat) (s : SS) : Prop where
  o : h[o]? = some (.ins "Search" (srF sh p W V s.out))
  w : h[W]? = some (.lst (s.wait.map nrD))
  v : h[V]? = some (.lst (s.seen.map D.str))
  ne : W ≠ V
theorem SeAt.kp {h g : LH} {o W V : Nat} {sh : D} {p : List Nat} {s : SS} (a : SeAt h o sh p W V s) (k : Kp h g) : SeAt g o sh p W V s := ⟨k.get a.o, k.get a.w, k.get a.v, a.ne⟩
def wantS (s : SS) : Option NR := if s.out.isSome || decide (32 ≤ s.seen.length) then none else s.wait.find? fun x => !decide (x.1 ∈ s.seen)
def wantD (s : SS) : D := match wantS s with
  | none => .non
  | some x => nrD x
theorem isN_out {o : Option (List D)} : dIsN (outD o) = !o.isSome := by cases o <;> rfl
section
variable {h : LH} {o W V : Nat} {sh : D} {p : List Nat} {s : SS}
theorem SeAt.fW (a : SeAt h o sh p W V s) : fldD "Search" "waiting" (.ref o) h = .ok (.ref W) h := fld_at a.o rfl
theorem SeAt.fV (a : SeAt h o sh p W V s) : fldD "Search" "visited" (.ref o) h = .ok (.ref V) h := fld_at a.o rfl
theorem SeAt.fO (a : SeAt h o sh p W V s) : fldD "Search" "outcome" (.ref o) h = .ok (outD s.out) h := fld_at a.o rfl
theorem SeAt.fP (a : SeAt h o sh p W V s) : fldD "Search" "path" (.ref o) h = .ok (.str p) h := fld_at a.o rfl
theorem SeAt.fS (a : SeAt h o sh p W V s) : fldD "Search" "shelf" (.ref o) h = .ok sh h := fld_at a.o rfl
theorem dIs_n {d : D} {h : LH} : dIs d .non h = .ok (.bl (dIsN d)) h := rfl
theorem dIsNot_n {d : D} {h : LH} : dIsNot d .non h = .ok (.bl (!dIsN d)) h := rfl
theorem wanted_ok (a : SeAt h o sh p W V s) : L.f_Search_wanted [.ref o] h = .ok (wantD s) h := by
  have lv := dLen_ref a.v
  rw [List.length_map] at lv
  unfold L.f_Search_wanted
  rw [mkF_eq (by rfl)]
  rw [show (List.map some [D.ref o] ++ List.replicate (3 - 1) none : EN) = [some (.ref o), none, none] from rfl]
  rw [show L.b_Search_wanted = sSeq L.s_Search_wanted_1 (sSeq L.s_Search_wanted_2 L.s_Search_wanted_3) from rfl]
  unfold wantD wantS
  by_cases c1 : s.out.isSome = true
  · rw [ev_seq]; simp -implicitDefEqProofs [L.s_Search_wanted_1, a.fO, dIsNot_n, isN_out, c1]
  have c1' : s.out.isSome = false := by simpa using c1
  by_cases c2 : 32 ≤ s.seen.length
  · have c2' : (32 : Int) ≤ (s.seen.length : Int) := by omega
    rw [ev_seq]; simp -implicitDefEqProofs [L.s_Search_wanted_1, a.fO, dIsNot_n, isN_out, c1', a.fV, lv, dGe_int, c2', c2]
  have c2' : ¬ (32 : Int) ≤ (s.seen.length : Int) := by omega
  have key := loopF_obj (t := .tp [1, 2]) (body := L.s_Search_wanted_2b) (r := W) (xs := s.wait.map nrD)
    (fun j e g => g = h ∧ (∃ v1 v2, e = [some (.ref o), v1, v2]) ∧ (s.wait.take j).find? (fun x => !decide (x.1 ∈ s.seen)) = none)
    (fun r => match s.wait.find? (fun x => !decide (x.1 ∈ s.seen)) with
      | none => ∃ e, r = .next e h
      | some x => r = .ret (nrD x) h)
    (fun j e g hi => by rw [hi.1]; exact a.w)
    (fun j d e g hd => by
      rintro ⟨rfl, ⟨v1, v2, rfl⟩, hf⟩
      rw [List.getElem?_map] at hd
      cases ex : s.wait[j]? with
      | none => rw [ex] at hd; cases hd
      | some x =>
        rw [ex] at hd
        cases hd
        have en := (notIn_L (w := x.1) a.v).1
        refine ⟨[some (.ref o), some (.str x.1), some x.2], rfl, ?_⟩
        have es : s.wait.find? (fun x => !decide (x.1 ∈ s.seen)) = (if x.1 ∉ s.seen then some x else (s.wait.drop (j + 1)).find? fun x => !decide (x.1 ∈ s.seen)) := by
          have hj := lt_of_get ex
          have : s.wait = s.wait.take j ++ x :: s.wait.drop (j + 1) := by
            have e1 : s.wait.drop j = x :: s.wait.drop (j + 1) := by
              rw [List.drop_eq_getElem_cons hj]
              congr 1
              rw [List.getElem?_eq_getElem hj] at ex
              exact Option.some.inj ex
            rw [← e1, List.take_append_drop]
          conv => lhs; rw [this]
          rw [List.find?_append, hf, Option.none_or, List.find?_cons]
          by_cases c : x.1 ∈ s.seen <;> simp [c]
        by_cases c : x.1 ∈ s.seen
        · have eb : L.s_Search_wanted_2b [some (.ref o), some (.str x.1), some x.2] g = .next [some (.ref o), some (.str x.1), some x.2] g := by
            unfold L.s_Search_wanted_2b
            simp -implicitDefEqProofs [a.fV, en, c]
          rw [eb]
          refine ⟨rfl, ⟨_, _, rfl⟩, ?_⟩
          rw [List.take_succ, ex, List.find?_append, hf, Option.none_or]
          simp [c]
        · have eb : L.s_Search_wanted_2b [some (.ref o), some (.str x.1), some x.2] g = .ret (nrD x) g := by
            unfold L.s_Search_wanted_2b nrD
            simp -implicitDefEqProofs [a.fV, en, c]
          rw [eb, es]
          simp [c])
    (fun e g => by
      rintro ⟨rfl, _, hf⟩
      rw [List.length_map, List.take_length] at hf
      rw [hf]
      exact ⟨e, rfl⟩) (e := [some (.ref o), none, none]) (h := h) ⟨rfl, ⟨_, _, rfl⟩, by simp⟩
  rw [ev_seq]; simp -implicitDefEqProofs [L.s_Search_wanted_1, a.fO, dIsNot_n, isN_out, c1', a.fV, lv, dGe_int, c2', c2]
  rw [ev_seq]
  rw [show L.s_Search_wanted_2 = sFor (iAny (mUn (fldD "Search" "waiting") (mVar 0))) (.tp [1, 2]) L.s_Search_wanted_2b from rfl, ev_for]
  have ia : iAny (mUn (fldD "Search" "waiting") (mVar 0)) [some (.ref o), none, none] h = .ok (itO W, (s.wait.map nrD).length) h := by
    simp -implicitDefEqProofs [a.fW, a.w]
  rw [ia, rs_ok]
  dsimp only
  cases q : s.wait.find? (fun x => !decide (x.1 ∈ s.seen)) with
  | none =>
    rw [q] at key
    obtain ⟨e, ek⟩ := key
    rw [ek]
    rfl
  | some x =>
    rw [q] at key
    dsimp only at key
    rw [key]
def resD (s : SS) : D := if s.out.isSome = false ∧ wantS s = none then .tup [S "none"] else outD s.out
theorem isN_want : dIsN (wantD s) = (wantS s).isNone := by
  unfold wantD
  cases wantS s <;> rfl
theorem mwant (a : SeAt h o sh p W V s) {e : EN} : kMeth "Search" "wanted" L.f_Search_wanted mNil e (.ref o) h = .ok (wantD s) h := by
  rw [kMeth_ok a.o (by rfl)]
  exact wanted_ok a
theorem result_ok (a : SeAt h o sh p W V s) : L.f_Search_result [.ref o] h = .ok (resD s) h := by
  unfold L.f_Search_result
  rw [mkF_eq (by rfl)]
  rw [show L.b_Search_result = sSeq L.s_Search_result_1 L.s_Search_result_2 from rfl]
  unfold resD
  by_cases c1 : s.out.isSome = false
  · by_cases c2 : wantS s = none
    · have c2' : (wantS s).isNone = true := by rw [c2]; rfl
      rw [ev_seq]; simp -implicitDefEqProofs [L.s_Search_result_1, a.fO, dIs_n, isN_out, c1, mwant a, isN_want, c2', c2]
    · have c2' : (wantS s).isNone = false := by
        cases q : wantS s with
        | none => exact absurd q c2
        | some x => rfl
      rw [ev_seq]; simp -implicitDefEqProofs [L.s_Search_result_1, a.fO, dIs_n, isN_out, c1, mwant a, isN_want, c2', c2]
      simp -implicitDefEqProofs [L.s_Search_result_2, a.fO]
  · have c1' : s.out.isSome = true := by cases q : s.out.isSome with
      | true => rfl
      | false => exact absurd q c1
    rw [ev_seq]; simp -implicitDefEqProofs [L.s_Search_result_1, a.fO, dIs_n, isN_out, c1']
    simp -implicitDefEqProofs [L.s_Search_result_2, a.fO]
end
/-! reading a list -/
theorem list_shp {d : D} (h : isList d = true) : ∃ n v e gs grs, d = .tup [.str kLi, .str n, v, e, .tup gs, .tup grs] ∧ isLN (.str n) = true ∧ isVer v = true ∧ isAm e = true ∧ areGoods (.tup gs) = true ∧ areGrants n (.tup grs) = true := by
  unfold isList at h
  split at h
  · rename_i k n v e g gr
    simp only [Bool.and_eq_true] at h
    obtain ⟨h1, h2, h3, h4, h5, h6⟩ := h
    obtain rfl := isS_inv h1
    have hn : ∃ s, n = .str s := by
      unfold isLN at h4
      split at h4
      · exact ⟨_, rfl⟩
      · cases h4
    obtain ⟨s, rfl⟩ := hn
    have hg : ∃ gs, g = .tup gs := by
      unfold areGoods at h5
      split at h5
      · exact ⟨_, rfl⟩
      · cases h5
    have hr : ∃ gs, gr = .tup gs := by
      unfold areGrants at h6
      split at h6
      · exact ⟨_, rfl⟩
      · cases h6
    obtain ⟨gs, rfl⟩ := hg
    obtain ⟨grs, rfl⟩ := hr
    exact ⟨s, v, e, gs, grs, rfl, h4, h2, h3, h5, h6⟩
  · cases h
theorem grOk_mem : ∀ {gs : List D} {seen : List (List Nat)}, grOk seen gs = true → ∀ g ∈ gs, isGrant g = true
  | [], _, _, g, hg => by cases hg
  | x :: gs, seen, h, g, hg => by
    rw [grOk_cons, Bool.and_eq_true, Bool.and_eq_true] at h
    rcases List.mem_cons.mp hg with rfl | hg
    · exact h.1
    · exact grOk_mem h.2.2 g hg
theorem grant_shape {g : D} (h : isGrant g = true) : ∃ n rl ps l, g = .tup [.str n, rl, .tup ps, .int l] ∧ (∀ d ∈ ps, ∃ w, d = .str w ∧ w.length ≤ 800) ∧ isRole rl = true ∧ isLN (.str n) = true ∧ n ≠ kLi ∧ (l = 0 ∨ l = 1) := by
  unfold isGrant at h
  split at h
  · rename_i n rl ps l
    simp only [Bool.and_eq_true] at h
    obtain ⟨h1, h2, h3, h4, h5, h6, h7⟩ := h
    have hn : ∃ s, n = .str s := by
      unfold isLN at h1
      split at h1
      · exact ⟨_, rfl⟩
      · cases h1
    obtain ⟨s, rfl⟩ := hn
    obtain ⟨i, rfl, i0, i1⟩ := isInt_inv h7
    refine ⟨s, rl, ps, i, rfl, fun d hd => ?_, h3, h1, fun e => ?_, by omega⟩
    · have := List.all_eq_true.mp h6 d hd
      cases d with
      | str w =>
        have : hasP w ptC = true := this
        unfold hasP at this
        simp only [Bool.and_eq_true, decide_eq_true_eq] at this
        exact ⟨w, rfl, by omega⟩
      | _ => cases this
    · rw [e, isS_self] at h2
      cases h2
  · cases h
structure Fo (S : List Nat) (h g : LH) : Prop where
  le : h.length ≤ g.length
  k : ∀ i, i < h.length → i ∉ S → g[i]? = h[i]?
theorem Fo.refl (S : List Nat) (h : LH) : Fo S h h := ⟨Nat.le_refl _, fun _ _ _ => rfl⟩
theorem Fo.trans {S : List Nat} {a b c : LH} (x : Fo S a b) (y : Fo S b c) : Fo S a c := ⟨Nat.le_trans x.le y.le, fun i hi hs => (y.k i (Nat.lt_of_lt_of_le hi x.le) hs).trans (x.k i hi hs)⟩
theorem Fo.kp {S : List Nat} {a b : LH} (x : Kp a b) : Fo S a b := ⟨x.le, fun i hi _ => x.keep i hi⟩
theorem Fo.set {S : List Nat} {a b : LH} {i : Nat} {o : LO} (x : Fo S a b) (hi : i ∈ S ∨ a.length ≤ i) : Fo S a (b.set i o) := ⟨by simpa using x.le, fun j hj hs => by
  have : i ≠ j := by
    rintro rfl
    rcases hi with hi | hi
    · exact hs hi
    · omega
  rw [List.getElem?_set_ne this]
  exact x.k j hj hs⟩
theorem Fo.push {S : List Nat} {a b : LH} {o : LO} (x : Fo S a b) : Fo S a (b ++ [o]) := x.trans (Fo.kp (Kp.push _ _))
theorem Fo.get {S : List Nat} {a b : LH} (x : Fo S a b) {i : Nat} {o : LO} (hi : i ∉ S) (e : a[i]? = some o) : b[i]? = some o := (x.k i (lt_of_get e) hi).trans e
theorem Fo.mono {S T : List Nat} {a b : LH} (x : Fo S a b) (h : ∀ i ∈ S, i ∈ T) : Fo T a b := ⟨x.le, fun i hi hs => x.k i hi fun z => hs (h i z)⟩
def covG (p : List Nat) (g : D) : Bool := match g with
  | .tup [_, _, .tup ps, _] => ps.any fun d => mw p (cd d)
  | _ => false
def rlG (g : D) : D := match g with
  | .tup [_, r, _, _] => r
  | _ => .non
def laG (g : D) : Bool := match g with
  | .tup [_, _, _, .int l] => decide (l = 1)
  | _ => false
def takeG (p : List Nat) (rs : List D) (seen : List (List Nat)) (g : D) : Bool := covG p g && (!decide (fstC g ∈ seen) && (rs.any fun r => decide (fstC r = fstC g)))
def addG (p : List Nat) (rs : List D) (seen : List (List Nat)) : List D → List NR × Bool
  | [] => ([], false)
  | g :: gs => if takeG p rs seen g then (if laG g then ([(fstC g, rlG g)], true) else ((fstC g, rlG g) :: (addG p rs seen gs).1, (addG p rs seen gs).2)) else addG p rs seen gs
theorem addG_cons {p : List Nat} {rs : List D} {seen : List (List Nat)} {g : D} {gs : List D} : addG p rs seen (g :: gs) = if takeG p rs seen g then (if laG g then ([(fstC g, rlG g)], true) else ((fstC g, rlG g) :: (addG p rs seen gs).1, (addG p rs seen gs).2)) else addG p rs seen gs := rfl
def giveS (p : List Nat) (rs gs grs : List D) (nm : List Nat) (s : SS) : SS := match gs.find? (fun r => decide (fstC r = p)) with
  | some r => match tlD r with
    | .tup [l, g] => ⟨s.wait, s.seen ++ [nm], some [S "found", .str nm, l, g]⟩
    | _ => s
  | none => ⟨(addG p rs (s.seen ++ [nm]) grs).1 ++ ((if (addG p rs (s.seen ++ [nm]) grs).2 then [] else s.wait).filter fun x => !decide (x.1 ∈ s.seen ++ [nm])), s.seen ++ [nm], s.out⟩
theorem fnd_none {rs : List D} {w : List Nat} (hr : ∀ r ∈ rs, isEnt r = true) : dIsN (fndD rs w) = !(rs.any fun r => decide (fstC r = w)) := by
  unfold fndD
  cases q : rs.find? (fun r => decide (fstC r = w)) with
  | none =>
    rw [List.find?_eq_none] at q
    have : (rs.any fun r => decide (fstC r = w)) = false := by
      rw [List.any_eq_false]
      exact q
    rw [this]
    rfl
  | some r =>
    have hm := List.mem_of_find?_eq_some q
    have h2 := List.find?_some q
    have : (rs.any fun r => decide (fstC r = w)) = true := List.any_eq_true.mpr ⟨r, hm, h2⟩
    rw [this]
    have := hr r hm
    unfold isEnt at this
    split at this
    · rfl
    · cases this
section
variable {h : LH} {o W V : Nat} {sh : D} {p : List Nat} {s : SS}
def badG (d : D) (s : SS) : Prop := match wantS s with
  | none => True
  | some x => isList d = true → ∃ n v e g r, d = .tup [.str kLi, .str n, v, e, g, r] ∧ n ≠ x.1
theorem give_no {d : D} {r : Nat} (a : SeAt h o sh p W V s) (c : Cl h r d) (hr : r ≤ 40) (bad : badG d s) : ∃ h', Kp h h' ∧ L.f_Search_give [.ref o, d] h = .exc ⟨"BadState", []⟩ h' := by
  unfold L.f_Search_give
  rw [mkF_eq (by rfl)]
  rw [show (List.map some [D.ref o, d] ++ List.replicate (10 - 2) none : EN) = [some (.ref o), some d, none, none, none, none, none, none, none, none] from rfl]
  rw [show L.b_Search_give = sSeq L.s_Search_give_1 (sSeq L.s_Search_give_2 (sSeq L.s_Search_give_3 (sSeq L.s_Search_give_4 (sSeq L.s_Search_give_5 (sSeq L.s_Search_give_6 (sSeq L.s_Search_give_7 L.s_Search_give_8)))))) from rfl]
  rw [ev_seq]; simp -implicitDefEqProofs [L.s_Search_give_1, mwant a]
  unfold badG at bad
  cases q : wantS s with
  | none =>
    have : wantD s = .non := by unfold wantD; rw [q]
    rw [this]
    refine ⟨h, Kp.refl h, ?_⟩
    rw [ev_seq]; simp -implicitDefEqProofs [L.s_Search_give_2, dIs_n, dIsN]
  | some x =>
    rw [q] at bad
    dsimp only at bad
    have : wantD s = .tup [.str x.1, x.2] := by unfold wantD; rw [q]; rfl
    rw [this]
    obtain ⟨h1, K1, e1⟩ := list_eq c hr
    refine ⟨h1, K1, ?_⟩
    cases b : isList d with
    | false =>
      rw [b] at e1
      rw [ev_seq]; simp -implicitDefEqProofs [L.s_Search_give_2, dIs_n, dIsN, e1, truD]
    | true =>
      rw [b] at e1
      obtain ⟨n, v, e, g, r', rfl, hne⟩ := bad b
      have i1 : ∀ z, dIx (.tup [.str kLi, .str n, v, e, g, r']) (.int 1) z = .ok (.str n) z := fun _ => rfl
      have i0 : ∀ z, dIx (.tup [.str x.1, x.2]) (.int 0) z = .ok (.str x.1) z := fun _ => rfl
      rw [ev_seq]; simp -implicitDefEqProofs [L.s_Search_give_2, dIs_n, dIsN, e1, truD, i1, i0, dNe_str, hne]
structure GiI (h0 : LH) (o V W A : Nat) (sh : D) (p nm : List Nat) (s : SS) (rl d : D) (grs : List D) (rs : List D) (j : Nat) (e : EN) (g : LH) : Prop where
  ev : ∃ v5 v6 v7 v8, e = [some (.ref o), some d, some (.tup [.str nm, rl]), some .non, some (.ref A), v5, v6, v7, v8, none]
  fo : Fo [o, A] h0 g
  se : SeAt g o sh p W V ⟨s.wait, s.seen ++ [nm], s.out⟩
  ad : ∃ acc, g[A]? = some (.lst (acc.map nrD)) ∧ acc.length ≤ j ∧ acc ++ (addG p rs (s.seen ++ [nm]) (grs.drop j)).1 = (addG p rs (s.seen ++ [nm]) grs).1 ∧ (addG p rs (s.seen ++ [nm]) (grs.drop j)).2 = (addG p rs (s.seen ++ [nm]) grs).2
def GiR (h0 : LH) (o V W A : Nat) (sh : D) (p nm : List Nat) (s : SS) (rl d : D) (grs : List D) (rs : List D) (r : RSt) : Prop := ∃ v5 v6 v7 v8 g W', r = .next [some (.ref o), some d, some (.tup [.str nm, rl]), some .non, some (.ref A), v5, v6, v7, v8, none] g ∧
  Fo [o, A] h0 g ∧ SeAt g o sh p W' V ⟨if (addG p rs (s.seen ++ [nm]) grs).2 then [] else s.wait, s.seen ++ [nm], s.out⟩ ∧ g[A]? = some (.lst ((addG p rs (s.seen ++ [nm]) grs).1.map nrD)) ∧ W' ≠ A
theorem SeAt.set (a : SeAt h o sh p W V s) {i : Nat} {x : LO} (h1 : i ≠ o) (h2 : i ≠ W) (h3 : i ≠ V) : SeAt (h.set i x) o sh p W V s :=
  ⟨by rw [List.getElem?_set_ne h1]; exact a.o, by rw [List.getElem?_set_ne h2]; exact a.w, by rw [List.getElem?_set_ne h3]; exact a.v, a.ne⟩
theorem sgrants_loop {h0 : LH} {A : Nat} {nm : List Nat} {rl d x y z : D} {grs rs : List D} (hs : sh = .tup [x, y, z, .tup rs]) (hrs : ∀ r ∈ rs, isEnt r = true) (hp : p.length ≤ 800) (hg : ∀ g ∈ grs, isGrant g = true) (lg : grs.length ≤ 100)
    (se : SeAt h0 o sh p W V ⟨s.wait, s.seen ++ [nm], s.out⟩) (hA : h0[A]? = some (.lst [])) (AW : A ≠ W) (AV : A ≠ V) :
    GiR h0 o V W A sh p nm s rl d grs rs (loopF (itL grs) (.tp [5, 6, 7, 8]) L.s_Search_give_7b grs.length 0 [some (.ref o), some d, some (.tup [.str nm, rl]), some .non, some (.ref A), none, none, none, none, none] h0) := by
  refine loopF_list (GiI h0 o V W A sh p nm s rl d grs rs) (GiR h0 o V W A sh p nm s rl d grs rs) (fun j g e hh hd hi => ?_) (fun e hh hi => ?_) ⟨⟨_, _, _, _, rfl⟩, Fo.refl _ _, se, [], hA, Nat.le_refl _, by simp, by simp⟩
  · obtain ⟨⟨v5, v6, v7, v8, rfl⟩, fo, se1, acc, hac, lac, ha1, ha2⟩ := hi
    have hj := lt_of_get hd
    obtain ⟨n, rl', ps, l, rfl, hps, _, _, _, hl⟩ := grant_shape (hg g (List.mem_of_getElem? hd))
    have edrop : grs.drop j = .tup [.str n, rl', .tup ps, .int l] :: grs.drop (j + 1) := by
      rw [List.drop_eq_getElem_cons hj]
      congr 1
      rw [List.getElem?_eq_getElem hj] at hd
      exact Option.some.inj hd
    rw [edrop] at ha1 ha2
    refine ⟨[some (.ref o), some d, some (.tup [.str nm, rl]), some .non, some (.ref A), some (.str n), some rl', some (.tup ps), some (.int l), none], rfl, ?_⟩
    rw [show L.s_Search_give_7b = sSeq L.s_Search_give_7b_1 (sSeq L.s_Search_give_7b_2 (sSeq L.s_Search_give_7b_3 L.s_Search_give_7b_4)) from rfl]
    obtain ⟨g1, K1, e1⟩ := covers_ok (h := hh) (n := .str n) (rl := rl') (l := .int l) hps hp
    have hcov : covG p (.tup [.str n, rl', .tup ps, .int l]) = ps.any fun d => mw p (cd d) := rfl
    have hfst : fstC (.tup [.str n, rl', .tup ps, .int l]) = n := rfl
    have hrl : rlG (.tup [.str n, rl', .tup ps, .int l]) = rl' := rfl
    have hla : laG (.tup [.str n, rl', .tup ps, .int l]) = decide (l = 1) := rfl
    have htk : takeG p rs (s.seen ++ [nm]) (.tup [.str n, rl', .tup ps, .int l]) = ((ps.any fun d => mw p (cd d)) && (!decide (n ∈ s.seen ++ [nm]) && (rs.any fun r => decide (fstC r = n)))) := rfl
    rw [addG_cons, htk, hfst, hrl, hla] at ha1 ha2
    generalize (ps.any fun d => mw p (cd d)) = cv at e1 ha1 ha2
    have se2 := se1.kp K1
    have skip : takeG p rs (s.seen ++ [nm]) (.tup [.str n, rl', .tup ps, .int l]) = false → True := fun _ => trivial
    cases cv with
    | false =>
      have eb : (sSeq L.s_Search_give_7b_1 (sSeq L.s_Search_give_7b_2 (sSeq L.s_Search_give_7b_3 L.s_Search_give_7b_4))) [some (.ref o), some d, some (.tup [.str nm, rl]), some .non, some (.ref A), some (.str n), some rl', some (.tup ps), some (.int l), none] hh = .cnt [some (.ref o), some d, some (.tup [.str nm, rl]), some .non, some (.ref A), some (.str n), some rl', some (.tup ps), some (.int l), none] g1 := by
        rw [ev_seq]; simp -implicitDefEqProofs [L.s_Search_give_7b_1, se1.fP, e1, truD]
      rw [eb]
      rw [Bool.false_and, if_neg (by decide)] at ha1 ha2
      exact ⟨⟨_, _, _, _, rfl⟩, fo.trans (Fo.kp K1), se2, acc, K1.get hac, by omega, ha1, ha2⟩
    | true =>
      rw [Bool.true_and] at ha1 ha2
      have d1 := (notIn_L (w := n) se2.v).2
      have en := entry_of_eq (rs := rs) (a := x) (b := y) (c := z) (w := n) (h := g1) hrs
      rw [← hs] at en
      have enn := fnd_none (w := n) hrs
      have k1 : K1.le = K1.le := rfl
      by_cases c2 : n ∈ s.seen ++ [nm]
      · have eb : (sSeq L.s_Search_give_7b_1 (sSeq L.s_Search_give_7b_2 (sSeq L.s_Search_give_7b_3 L.s_Search_give_7b_4))) [some (.ref o), some d, some (.tup [.str nm, rl]), some .non, some (.ref A), some (.str n), some rl', some (.tup ps), some (.int l), none] hh = .cnt [some (.ref o), some d, some (.tup [.str nm, rl]), some .non, some (.ref A), some (.str n), some rl', some (.tup ps), some (.int l), none] g1 := by
          rw [ev_seq]; simp -implicitDefEqProofs [L.s_Search_give_7b_1, se1.fP, e1, truD]
          rw [ev_seq]
          have dd : dIn (.str n) (.ref V) g1 = .ok (.bl true) g1 := by rw [d1]; exact congrArg (fun b => Res.ok (D.bl b) g1) (decide_eq_true c2)
          simp -implicitDefEqProofs [L.s_Search_give_7b_2, se2.fV, dd]
        rw [eb]
        rw [decide_eq_true c2, Bool.not_true, Bool.false_and, if_neg (by decide)] at ha1 ha2
        exact ⟨⟨_, _, _, _, rfl⟩, fo.trans (Fo.kp K1), se2, acc, K1.get hac, by omega, ha1, ha2⟩
      · have dd : dIn (.str n) (.ref V) g1 = .ok (.bl false) g1 := by rw [d1]; exact congrArg (fun b => Res.ok (D.bl b) g1) (decide_eq_false c2)
        rw [decide_eq_false c2, Bool.not_false, Bool.true_and] at ha1 ha2
        generalize (rs.any fun r => decide (fstC r = n)) = ex at enn ha1 ha2
        generalize fndD rs n = fd at en enn
        cases ex with
        | false =>
          have eb : (sSeq L.s_Search_give_7b_1 (sSeq L.s_Search_give_7b_2 (sSeq L.s_Search_give_7b_3 L.s_Search_give_7b_4))) [some (.ref o), some d, some (.tup [.str nm, rl]), some .non, some (.ref A), some (.str n), some rl', some (.tup ps), some (.int l), none] hh = .cnt [some (.ref o), some d, some (.tup [.str nm, rl]), some .non, some (.ref A), some (.str n), some rl', some (.tup ps), some (.int l), none] g1 := by
            rw [ev_seq]; simp -implicitDefEqProofs [L.s_Search_give_7b_1, se1.fP, e1, truD]
            rw [ev_seq]
            simp -implicitDefEqProofs [L.s_Search_give_7b_2, se2.fV, dd, se2.fS, en, dIs_n, enn]
          rw [eb]
          rw [if_neg (by decide)] at ha1 ha2
          exact ⟨⟨_, _, _, _, rfl⟩, fo.trans (Fo.kp K1), se2, acc, K1.get hac, by omega, ha1, ha2⟩
        | true =>
          have hac1 := K1.get hac
          have ap := dAppend_ref (y := .tup [.str n, rl']) hac1 (by simp; omega)
          have il := isLst_ref hac1
          have Ao : A ≠ o := by
            rintro rfl
            have := se2.o
            rw [hac1] at this
            cases this
          obtain ⟨g2, q2⟩ : ∃ g2, g2 = g1.set A (.lst (acc.map nrD ++ [.tup [.str n, rl']])) := ⟨_, rfl⟩
          rw [← q2] at ap
          have se3 : SeAt g2 o sh p W V ⟨s.wait, s.seen ++ [nm], s.out⟩ := by rw [q2]; exact se2.set Ao AW AV
          have fo2 : Fo [o, A] h0 g2 := by rw [q2]; exact (fo.trans (Fo.kp K1)).set (.inl (by simp))
          have hac2 : g2[A]? = some (.lst ((acc ++ [(n, rl')]).map nrD)) := by
            rw [q2, List.getElem?_set_self (lt_of_get hac1), List.map_append]
            rfl
          rw [if_pos rfl] at ha1 ha2
          rcases hl with rfl | rfl
          · have eb : (sSeq L.s_Search_give_7b_1 (sSeq L.s_Search_give_7b_2 (sSeq L.s_Search_give_7b_3 L.s_Search_give_7b_4))) [some (.ref o), some d, some (.tup [.str nm, rl]), some .non, some (.ref A), some (.str n), some rl', some (.tup ps), some (.int 0), none] hh = .next [some (.ref o), some d, some (.tup [.str nm, rl]), some .non, some (.ref A), some (.str n), some rl', some (.tup ps), some (.int 0), none] g2 := by
              rw [ev_seq]; simp -implicitDefEqProofs [L.s_Search_give_7b_1, se1.fP, e1, truD]
              rw [ev_seq]; simp -implicitDefEqProofs [L.s_Search_give_7b_2, se2.fV, dd, se2.fS, en, dIs_n, enn]
              rw [ev_seq]; simp -implicitDefEqProofs [L.s_Search_give_7b_3, il, ap]
              simp -implicitDefEqProofs [L.s_Search_give_7b_4, dEq_int]
            rw [eb]
            rw [if_neg (by decide)] at ha1 ha2
            exact ⟨⟨_, _, _, _, rfl⟩, fo2, se3, acc ++ [(n, rl')], hac2, by simp; omega, by rw [← ha1]; simp, ha2⟩
          · obtain ⟨g3, q3⟩ : ∃ g3, g3 = g2 ++ [LO.lst []] := ⟨_, rfl⟩
            have se4 := se3.kp (show Kp g2 g3 by rw [q3]; exact Kp.push _ _)
            have fs := kFldSet_ok (c := "Search") (f := "waiting") (e := [some (.ref o), some d, some (.tup [.str nm, rl]), some .non, some (.ref A), some (.str n), some rl', some (.tup ps), some (.int 1), none]) (y := .ref g2.length) se4.o (by simp [srF])
            have hpf : putFD "waiting" (.ref g2.length) (srF sh p W V s.out) = srF sh p g2.length V s.out := rfl
            rw [hpf] at fs
            obtain ⟨g4, q4⟩ : ∃ g4, g4 = g3.set o (.ins "Search" (srF sh p g2.length V s.out)) := ⟨_, rfl⟩
            rw [← q4] at fs
            have eb : (sSeq L.s_Search_give_7b_1 (sSeq L.s_Search_give_7b_2 (sSeq L.s_Search_give_7b_3 L.s_Search_give_7b_4))) [some (.ref o), some d, some (.tup [.str nm, rl]), some .non, some (.ref A), some (.str n), some rl', some (.tup ps), some (.int 1), none] hh = .brk [some (.ref o), some d, some (.tup [.str nm, rl]), some .non, some (.ref A), some (.str n), some rl', some (.tup ps), some (.int 1), none] g4 := by
              rw [ev_seq]; simp -implicitDefEqProofs [L.s_Search_give_7b_1, se1.fP, e1, truD]
              rw [ev_seq]; simp -implicitDefEqProofs [L.s_Search_give_7b_2, se2.fV, dd, se2.fS, en, dIs_n, enn]
              rw [ev_seq]; simp -implicitDefEqProofs [L.s_Search_give_7b_3, il, ap]
              rw [show L.s_Search_give_7b_4 = sIf (mTst (mOp dEq (mVar 8) (mC (.int 1)))) (sSeq L.s_Search_give_7b_4t_1 L.s_Search_give_7b_4t_2) sNil from rfl]
              rw [ev_if]
              simp -implicitDefEqProofs [dEq_int]
              rw [ev_seq]; simp -implicitDefEqProofs [L.s_Search_give_7b_4t_1, ← q3, fs]
              rfl
            rw [eb]
            rw [if_pos (by decide)] at ha1 ha2
            have gl : g2.length < g3.length := by rw [q3]; simp
            have oo := lt_of_get se3.o
            have vv := lt_of_get se3.v
            have aa := lt_of_get hac2
            have ov : V ≠ o := by
              rintro rfl
              have := se3.v
              rw [se3.o] at this
              cases this
            refine ⟨_, _, _, _, g4, g2.length, rfl, ?_, ⟨?_, ?_, ?_, by omega⟩, ?_, by omega⟩
            · rw [q4]
              exact (fo2.trans (Fo.kp (by rw [q3]; exact Kp.push _ _))).set (.inl (by simp))
            · rw [q4, List.getElem?_set_self (by omega)]
            · rw [q4, List.getElem?_set_ne (by omega), ← ha2, q3]
              simp
            · rw [q4, List.getElem?_set_ne (Ne.symm ov)]
              exact se4.v
            · rw [q4, List.getElem?_set_ne (Ne.symm Ao), ← ha1]
              rw [q3, List.getElem?_append_left aa]
              exact hac2
  · obtain ⟨⟨v5, v6, v7, v8, rfl⟩, fo, se1, acc, hac, lac, ha1, ha2⟩ := hi
    rw [List.drop_length] at ha1 ha2
    refine ⟨_, _, _, _, hh, W, rfl, fo, ?_, ?_, Ne.symm AW⟩
    · rw [← ha2]
      exact se1
    · rw [← ha1]
      unfold addG
      simpa using hac
theorem filtD_ok {g : LH} {R i : Nat} {xs : List D} {e : EN} {c : M Bool} {y : M D} {p : D → Bool} (hR : g[R]? = some (.lst xs)) (hl : xs.length ≤ 100000)
    (hc : ∀ x acc, x ∈ xs → c (e.set i (some x)) (g ++ [.lst acc]) = .ok (p x) (g ++ [.lst acc])) (hy : ∀ x h, y (e.set i (some x)) h = .ok x h) :
    loopC (itO R) (.nm i) c y e g.length xs.length 0 (g ++ [.lst []]) = .ok (.ref g.length) (g ++ [.lst (xs.filter p)]) := by
  have key := loopC_gen (g := itO R) (t := .nm i) (c := c) (y := y) (e := e) (k := g.length) (N := xs.length) (fun j => xs.getD j .non) (fun j acc h => acc = (xs.take j).filter p ∧ h = g ++ [.lst acc])
    (fun j acc h hj hi => by
      obtain ⟨rfl, rfl⟩ := hi
      show (match (g ++ [LO.lst ((xs.take j).filter p)])[R]? with
        | some (.lst xs) => some xs[j]?
        | _ => none) = _
      rw [List.getElem?_append_left (lt_of_get hR), hR]
      simp only
      by_cases c : j < xs.length
      · rw [if_pos c, List.getElem?_eq_getElem c, List.getD_eq_getElem?_getD, List.getElem?_eq_getElem c]
        rfl
      · rw [if_neg c, List.getElem?_eq_none (by omega)])
    (fun j acc h hj hi => by
      obtain ⟨_, rfl⟩ := hi
      simp)
    (fun j acc h hj hi => by
      obtain ⟨rfl, rfl⟩ := hi
      have tk : xs.take (j + 1) = xs.take j ++ [xs[j]] := by rw [List.take_add_one, List.getElem?_eq_getElem hj]; rfl
      have ei : xs.getD j .non = xs[j] := by
        rw [List.getD_eq_getElem?_getD, List.getElem?_eq_getElem hj]
        rfl
      rw [ei]
      refine ⟨_, rfl, ?_⟩
      have h1 := hc xs[j] ((xs.take j).filter p) (List.getElem_mem hj)
      cases q : p xs[j] with
      | false =>
        rw [q] at h1
        refine .inl ⟨_, h1, ?_⟩
        rw [tk, List.filter_append]
        simp [q]
      | true =>
        rw [q] at h1
        have ll : ((xs.take j).filter p).length ≤ 100000 := Nat.le_trans (List.length_filter_le _ _) (by rw [List.length_take]; omega)
        refine .inr ⟨_, xs[j], _, (xs.take j).filter p, h1, hy _ _, by simp, by omega, ?_⟩
        rw [tk, List.filter_append]
        simp [q])
    xs.length 0 [] (g ++ [.lst []]) (by omega) ⟨by simp, rfl⟩
  obtain ⟨acc, h, e1, rfl, rfl⟩ := key
  rw [List.take_length] at e1
  exact e1
theorem addG_len {p : List Nat} {rs : List D} {seen : List (List Nat)} : ∀ gs : List D, (addG p rs seen gs).1.length ≤ gs.length
  | [] => Nat.le_refl _
  | g :: gs => by
    have ih := addG_len (p := p) (rs := rs) (seen := seen) gs
    rw [addG_cons]
    split
    · split
      · simp
      · simp; omega
    · simp; omega
theorem good_tl {gs : List D} {w : List Nat} {r : D} (hr : ∀ r ∈ gs, isGood r = true) (q : gs.find? (fun r => decide (fstC r = w)) = some r) : ∃ l g, tlD r = .tup [l, g] := by
  have := hr r (List.mem_of_find?_eq_some q)
  unfold isGood at this
  split at this
  · exact ⟨_, _, rfl⟩
  · cases this
theorem give_ok {nm : List Nat} {v e rl x y z : D} {gs grs rs : List D} {r : Nat} (a : SeAt h o sh p W V s) (hw : wantS s = some (nm, rl)) (hd : isList (.tup [.str kLi, .str nm, v, e, .tup gs, .tup grs]) = true) (c : Cl h r (.tup [.str kLi, .str nm, v, e, .tup gs, .tup grs])) (hr : r ≤ 40)
    (hs : sh = .tup [x, y, z, .tup rs]) (hrs : ∀ r ∈ rs, isEnt r = true) (hp : p.length ≤ 800) (lw : s.wait.length ≤ 10000) :
    ∃ h' W', L.f_Search_give [.ref o, .tup [.str kLi, .str nm, v, e, .tup gs, .tup grs]] h = .ok .non h' ∧ SeAt h' o sh p W' V (giveS p rs gs grs nm s) ∧ Fo [o, V] h h' := by
  obtain ⟨h1, K1, e1⟩ := list_eq c hr
  rw [hd] at e1
  have hgs : ∀ r ∈ gs, isGood r = true := by
    unfold isList at hd
    simp only [Bool.and_eq_true] at hd
    have := hd.2.2.2.2.1
    unfold areGoods at this
    simp only [Bool.and_eq_true, List.all_eq_true] at this
    exact this.2.1
  have hgr := by
    unfold isList at hd
    simp only [Bool.and_eq_true] at hd
    have := hd.2.2.2.2.2
    unfold areGrants at this
    simp only [Bool.and_eq_true, decide_eq_true_eq] at this
    exact this
  have hgg := grOk_mem hgr.2
  have lgr : grs.length ≤ 32 := hgr.1
  have eg := fun g => good_of_eq (rs := gs) (a := .str kLi) (b := .str nm) (c := v) (e := e) (f := .tup grs) (w := p) (h := g) hgs
  have i1 : ∀ q, dIx (.tup [.str kLi, .str nm, v, e, .tup gs, .tup grs]) (.int 1) q = .ok (.str nm) q := fun _ => rfl
  have i5 : ∀ q, dIx (.tup [.str kLi, .str nm, v, e, .tup gs, .tup grs]) (.int 5) q = .ok (.tup grs) q := fun _ => rfl
  obtain ⟨d, qd⟩ : ∃ d, d = D.tup [.str kLi, .str nm, v, e, .tup gs, .tup grs] := ⟨_, rfl⟩
  rw [← qd] at e1 i1 i5 eg ⊢
  have i0 : ∀ q, dIx (.tup [.str nm, rl]) (.int 0) q = .ok (.str nm) q := fun _ => rfl
  have hwd : wantD s = .tup [.str nm, rl] := by unfold wantD; rw [hw]; rfl
  have hso : s.out = none := by
    unfold wantS at hw
    by_cases q : s.out.isSome = true
    · rw [q, Bool.true_or, if_pos rfl] at hw
      cases hw
    · cases q2 : s.out with
      | none => rfl
      | some d => rw [q2] at q; exact absurd rfl q
  have lsn : s.seen.length < 32 := by
    unfold wantS at hw
    rw [hso] at hw
    by_cases q : 32 ≤ s.seen.length
    · rw [decide_eq_true q, Bool.or_true, if_pos rfl] at hw
      cases hw
    · omega
  have a1 := a.kp K1
  have il := isLst_ref a1.v
  have ap := dAppend_ref (y := .str nm) a1.v (by simp; omega)
  obtain ⟨h2, q2⟩ : ∃ h2, h2 = h1.set V (.lst (s.seen.map D.str ++ [.str nm])) := ⟨_, rfl⟩
  rw [← q2] at ap
  have ov : o ≠ V := by
    rintro rfl
    have := a.v
    rw [a.o] at this
    cases this
  have a2 : SeAt h2 o sh p W V ⟨s.wait, s.seen ++ [nm], s.out⟩ := ⟨by rw [q2, List.getElem?_set_ne ov.symm]; exact a1.o, by rw [q2, List.getElem?_set_ne a.ne.symm]; exact a1.w, by rw [q2, List.getElem?_set_self (lt_of_get a1.v)]; simp, a.ne⟩
  have f2 : Fo [o, V] h h2 := by rw [q2]; exact (Fo.kp K1).set (.inl (by simp))
  suffices hP : ∀ P : Res D → Prop, (∀ h' W', SeAt h' o sh p W' V (giveS p rs gs grs nm s) → Fo [o, V] h h' → P (.ok .non h')) → P (L.f_Search_give [.ref o, d] h) from hP (fun r => ∃ h' W', r = .ok .non h' ∧ SeAt h' o sh p W' V (giveS p rs gs grs nm s) ∧ Fo [o, V] h h') fun h' W' x y => ⟨h', W', rfl, x, y⟩
  intro P fin
  unfold L.f_Search_give
  rw [mkF_eq (by rfl)]
  rw [show (List.map some [D.ref o, d] ++ List.replicate (10 - 2) none : EN) = [some (.ref o), some d, none, none, none, none, none, none, none, none] from rfl]
  rw [show L.b_Search_give = sSeq L.s_Search_give_1 (sSeq L.s_Search_give_2 (sSeq L.s_Search_give_3 (sSeq L.s_Search_give_4 (sSeq L.s_Search_give_5 (sSeq L.s_Search_give_6 (sSeq L.s_Search_give_7 L.s_Search_give_8)))))) from rfl]
  rw [ev_seq]; simp -implicitDefEqProofs [L.s_Search_give_1, mwant a, hwd]
  rw [ev_seq]; simp -implicitDefEqProofs [L.s_Search_give_2, dIs_n, dIsN, e1, truD, i1, i0, dNe_str]
  rw [ev_seq]; simp -implicitDefEqProofs [L.s_Search_give_3, a1.fV, il, i0, ap]
  rw [ev_seq]; simp -implicitDefEqProofs [L.s_Search_give_4, a2.fP, eg]
  unfold giveS at fin
  cases qf : gs.find? (fun r => decide (fstC r = p)) with
  | some row =>
    obtain ⟨l, g, etl⟩ := good_tl hgs qf
    have hf : fndD gs p = .tup [l, g] := by unfold fndD; rw [qf]; exact etl
    rw [hf]
    rw [qf] at fin
    dsimp only at fin
    rw [etl] at fin
    dsimp only at fin
    have j0 : ∀ q, dIx (.tup [l, g]) (.int 0) q = .ok l q := fun _ => rfl
    have j1 : ∀ q, dIx (.tup [l, g]) (.int 1) q = .ok g q := fun _ => rfl
    have fs := kFldSet_ok (c := "Search") (f := "outcome") (e := [some (.ref o), some d, some (.tup [.str nm, rl]), some (.tup [l, g]), none, none, none, none, none, none]) (y := .tup [S "found", .str nm, l, g]) a2.o (by simp [srF])
    have hpf : putFD "outcome" (.tup [S "found", .str nm, l, g]) (srF sh p W V s.out) = srF sh p W V (some [S "found", .str nm, l, g]) := rfl
    rw [hpf] at fs
    obtain ⟨h3, q3⟩ : ∃ h3, h3 = h2.set o (.ins "Search" (srF sh p W V (some [S "found", .str nm, l, g]))) := ⟨_, rfl⟩
    rw [← q3] at fs
    have ow : o ≠ W := by
      rintro rfl
      have := a2.w
      rw [a2.o] at this
      cases this
    have fin' := fin h3 W ⟨by rw [q3, List.getElem?_set_self (lt_of_get a2.o)], by rw [q3, List.getElem?_set_ne ow]; exact a2.w, by rw [q3, List.getElem?_set_ne ov]; exact a2.v, a.ne⟩ (by rw [q3]; exact f2.set (.inl (by simp)))
    rw [ev_seq]
    rw [show L.s_Search_give_5 = sIf (mTst (mOp dIsNot (mVar 3) (mC .non))) (sSeq L.s_Search_give_5t_1 L.s_Search_give_5t_2) sNil from rfl]
    rw [ev_if]
    simp -implicitDefEqProofs [dIsNot_n, dIsN]
    rw [ev_seq]; simp -implicitDefEqProofs [L.s_Search_give_5t_1, i0, j0, j1, fs]
    exact fin'
  | none =>
    have hf : fndD gs p = .non := by unfold fndD; rw [qf]
    rw [hf]
    rw [qf] at fin
    dsimp only at fin
    obtain ⟨A, qA⟩ : ∃ A, A = h2.length := ⟨_, rfl⟩
    obtain ⟨h3, q3⟩ : ∃ h3, h3 = h2 ++ [LO.lst []] := ⟨_, rfl⟩
    have K3 : Kp h2 h3 := by rw [q3]; exact Kp.push _ _
    have a3 := a2.kp K3
    have hA : h3[A]? = some (.lst []) := by rw [q3, qA]; simp
    have wl := lt_of_get a2.w
    have vl := lt_of_get a2.v
    have ol := lt_of_get a2.o
    obtain ⟨v5, v6, v7, v8, h4, W', ek, f4, a4, hA4, wa⟩ := sgrants_loop (rl := rl) (d := d) hs hrs hp hgg (by omega) a3 hA (by omega) (by omega)
    rw [hso] at a4
    generalize qadd : addG p rs (s.seen ++ [nm]) grs = AD at a4 hA4
    obtain ⟨ad, fl⟩ := AD
    have lad : ad.length ≤ 32 := by
      have := addG_len (p := p) (rs := rs) (seen := s.seen ++ [nm]) grs
      rw [qadd] at this
      exact Nat.le_trans this lgr
    dsimp only at a4 hA4
    obtain ⟨w2, qw2⟩ : ∃ w2, w2 = (if fl = true then [] else s.wait) := ⟨_, rfl⟩
    rw [← qw2] at a4
    have lw2 : w2.length ≤ 10000 := by rw [qw2]; split <;> simp [lw]
    have efl := filtD_ok (g := h4) (R := W') (i := 9) (xs := w2.map nrD) (e := [some (.ref o), some d, some (.tup [.str nm, rl]), some .non, some (.ref A), v5, v6, v7, v8, none]) (c := L.s_Search_give_8c) (y := L.s_Search_give_8y) (p := fun d => !decide (fstC d ∈ s.seen ++ [nm])) a4.w (by simp; omega) (fun x acc hx => by
      obtain ⟨nr, _, rfl⟩ := List.mem_map.mp hx
      have a5 := a4.kp (Kp.push h4 [.lst acc])
      have en := (notIn_L (w := nr.1) a5.v).1
      have ix : ∀ q, dIx (.tup [.str nr.1, nr.2]) (.int 0) q = .ok (.str nr.1) q := fun _ => rfl
      have fv := a5.fV
      have hfst : fstC (nrD nr) = nr.1 := rfl
      rw [hfst]
      unfold L.s_Search_give_8c nrD
      generalize (!decide (nr.1 ∈ s.seen ++ [nm])) = b at en ⊢
      simp -implicitDefEqProofs [ix, fv, en]) (fun x h => by
      unfold L.s_Search_give_8y
      simp -implicitDefEqProofs [])
    rw [List.filter_map] at efl
    have hcomp : ((fun d => !decide (fstC d ∈ s.seen ++ [nm])) ∘ nrD) = fun x : NR => !decide (x.1 ∈ s.seen ++ [nm]) := rfl
    rw [hcomp] at efl
    obtain ⟨w3, qw3⟩ : ∃ w3, w3 = w2.filter (fun x : NR => !decide (x.1 ∈ s.seen ++ [nm])) := ⟨_, rfl⟩
    rw [← qw3] at efl
    have lw3 : w3.length ≤ 10000 := by rw [qw3]; exact Nat.le_trans (List.length_filter_le _ _) lw2
    obtain ⟨h5, q5⟩ : ∃ h5, h5 = h4 ++ [LO.lst (w3.map nrD)] := ⟨_, rfl⟩
    rw [← q5] at efl
    have K5 : Kp h4 h5 := by rw [q5]; exact Kp.push _ _
    have a5 := a4.kp K5
    have ea := dAdd_refs (h := h5) (i := A) (j := h4.length) (a := ad.map nrD) (b := w3.map nrD) (K5.get hA4) (by rw [q5]; simp) (by simp; omega)
    rw [← List.map_append] at ea
    obtain ⟨h6, q6⟩ : ∃ h6, h6 = h5 ++ [LO.lst ((ad ++ w3).map nrD)] := ⟨_, rfl⟩
    rw [← q6] at ea
    have K6 : Kp h5 h6 := by rw [q6]; exact Kp.push _ _
    have a6 := a5.kp K6
    have fs := kFldSet_ok (c := "Search") (f := "waiting") (e := [some (.ref o), some d, some (.tup [.str nm, rl]), some .non, some (.ref A), v5, v6, v7, v8, none]) (y := .ref h5.length) a6.o (by simp [srF])
    have hpf : putFD "waiting" (.ref h5.length) (srF sh p W' V none) = srF sh p h5.length V none := rfl
    dsimp only at fs
    rw [hpf] at fs
    obtain ⟨h7, q7⟩ : ∃ h7, h7 = h6.set o (.ins "Search" (srF sh p h5.length V none)) := ⟨_, rfl⟩
    rw [← q7] at fs
    have o5 := lt_of_get a5.o
    have v5' := lt_of_get a5.v
    have fin' := fin h7 h5.length (by
        rw [hso]
        rw [qadd]
        have : (if (ad, fl).2 = true then [] else s.wait) = w2 := qw2.symm
        dsimp only at this ⊢
        rw [this, ← qw3]
        refine ⟨by rw [q7, List.getElem?_set_self (lt_of_get a6.o)], ?_, ?_, by omega⟩
        · rw [q7, List.getElem?_set_ne (by omega), q6]
          simp
        · rw [q7, List.getElem?_set_ne ov]
          exact a6.v) (by
        have fA : Fo [o, V] h h4 := by
          refine ⟨by have := f2.le; have := K3.le; have := f4.le; omega, fun i hi hs => ?_⟩
          have hi2 : i < h2.length := by have := f2.le; omega
          have hi3 : i < h3.length := by have := K3.le; omega
          rw [f4.k i hi3 (fun z => by
            simp at z hs
            rcases z with z | z
            · exact hs.1 z
            · omega), K3.keep i hi2, f2.k i hi hs]
        rw [q7]
        exact ((fA.trans (Fo.kp K5)).trans (Fo.kp K6)).set (.inl (by simp)))
    rw [ev_seq]
    rw [show L.s_Search_give_5 = sIf (mTst (mOp dIsNot (mVar 3) (mC .non))) (sSeq L.s_Search_give_5t_1 L.s_Search_give_5t_2) sNil from rfl]
    rw [ev_if]
    simp -implicitDefEqProofs [dIsNot_n, dIsN]
    rw [ev_seq]; simp -implicitDefEqProofs [L.s_Search_give_6, ← q3, ← qA]
    rw [ev_seq]
    rw [show L.s_Search_give_7 = sFor (iAny (mOp dIx (mVar 1) (mC (.int 5)))) (.tp [5, 6, 7, 8]) L.s_Search_give_7b from rfl, ev_for]
    have ia : iAny (mOp dIx (mVar 1) (mC (.int 5))) [some (.ref o), some d, some (.tup [.str nm, rl]), some .non, some (.ref A), none, none, none, none, none] h3 = .ok (itL grs, grs.length) h3 := by
      simp -implicitDefEqProofs [i5]
    rw [ia, rs_ok]
    dsimp only
    rw [ek]
    dsimp only
    rw [show L.s_Search_give_8 = sFldSet "Search" "waiting" (mVar 0) (mOp dAdd (mVar 4) (mLc (iAny (mUn (fldD "Search" "waiting") (mVar 0))) (.nm 9) L.s_Search_give_8c L.s_Search_give_8y [9])) from rfl]
    have elc : mLc (iAny (mUn (fldD "Search" "waiting") (mVar 0))) (.nm 9) L.s_Search_give_8c L.s_Search_give_8y [9] [some (.ref o), some d, some (.tup [.str nm, rl]), some .non, some (.ref A), v5, v6, v7, v8, none] h4 = .ok (.ref h4.length) h5 := by
      have ia : iAny (mUn (fldD "Search" "waiting") (mVar 0)) [some (.ref o), some d, some (.tup [.str nm, rl]), some .non, some (.ref A), v5, v6, v7, v8, none] h4 = .ok (itO W', (w2.map nrD).length) h4 := by
        have fw := a4.fW
        have aw := a4.w
        dsimp only at aw
        generalize w2.map nrD = Y at aw ⊢
        simp -implicitDefEqProofs [fw, aw]
      rw [ev_lc, ia, bind_ok]
      exact efl
    generalize mLc (iAny (mUn (fldD "Search" "waiting") (mVar 0))) (.nm 9) L.s_Search_give_8c L.s_Search_give_8y [9] = ML at elc ⊢
    simp -implicitDefEqProofs [elc, ea, fs]
    exact fin'
end
end HM
set_option Elab.async false
set_option linter.all false
set_option maxRecDepth 100000
set_option maxHeartbeats 4000000
namespace HM
open PySem L2
/-! ### roles of a charter; a new search; lookup -/
theorem tix {ds : List D} {ss : List (List Nat)} {k : List Nat} {i : Nat} (e1 : strsD ds = some ss) (e2 : ss.findIdx? (fun s => s == k) = some i) (h : LH) : dTIndex (.tup ds) [.str k] h = .ok (.int (i : Nat)) h := by
  unfold dTIndex
  simp only [e1, e2]
theorem rolx_eq {a b c r0 r1 r2 r3 : D} {k : List Nat} {i : Nat} {r : D} {h : LH} (e2 : [kCr, kSt, kSh, kLi].findIdx? (fun s => s == k) = some i) (hi : [r0, r1, r2, r3][i]? = some r) :
    L.f_role_of [.tup [a, b, c, .tup [r0, r1, r2, r3]], .str k] h = .ok r h := by
  have t := tix (ds := List.map S ["charter", "stamp", "shelf", "list"]) (ss := [kCr, kSt, kSh, kLi]) rfl e2 h
  have i3 : dIx (.tup [a, b, c, .tup [r0, r1, r2, r3]]) (.int 3) h = .ok (.tup [r0, r1, r2, r3]) h := rfl
  have ii : dIx (.tup [r0, r1, r2, r3]) (.int (i : Nat)) h = .ok r h := dIx_tup (atI_of (by omega) (by rw [Int.toNat_natCast]; exact hi))
  unfold L.f_role_of
  rw [mkF_eq (by rfl)]
  rw [show L.b_role_of = sRet (mOp dIx (mOp dIx (mVar 0) (mC (.int 3))) (mTIx (List.map S ["charter", "stamp", "shelf", "list"]) (mVar 1))) from rfl]
  generalize List.map S ["charter", "stamp", "shelf", "list"] = ds at t ⊢
  simp -implicitDefEqProofs [i3, mTIx, t, ii]
theorem role_li {a b c r0 r1 r2 r3 : D} {h : LH} : L.f_role_of [.tup [a, b, c, .tup [r0, r1, r2, r3]], .str kLi] h = .ok r3 h := rolx_eq (i := 3) (by decide +kernel) rfl
theorem search_init {a b c r0 r1 r2 r3 sh : D} {p : List Nat} {h : LH} : ∃ h', kMake L.f_Search___init__ h "Search" [.tup [a, b, c, .tup [r0, r1, r2, r3]], sh, .str p] = .ok (.ref h.length) h' ∧ SeAt h' h.length sh p (h.length + 1) (h.length + 2) ⟨[(kLi, r3)], [], none⟩ ∧ Kp h h' := by
  obtain ⟨ch, qch⟩ : ∃ ch, ch = D.tup [a, b, c, .tup [r0, r1, r2, r3]] := ⟨_, rfl⟩
  have er := fun g => role_li (a := a) (b := b) (c := c) (r0 := r0) (r1 := r1) (r2 := r2) (r3 := r3) (h := g)
  rw [← qch] at er ⊢
  have sl : S "list" = .str kLi := rfl
  obtain ⟨o, qo⟩ : ∃ o, o = h.length := ⟨_, rfl⟩
  have s1 : ∀ (fs : List (String × D)) (x : List LO), (h ++ LO.ins "Search" fs :: x)[o]? = some (.ins "Search" fs) := fun fs x => by rw [qo]; simp
  have s2 : ∀ (fs fs' : List (String × D)) (x : List LO), (h ++ LO.ins "Search" fs :: x).set o (.ins "Search" fs') = h ++ LO.ins "Search" fs' :: x := fun fs fs' x => by
    rw [qo, List.set_append_right _ _ (Nat.le_refl _)]
    simp
  refine ⟨h ++ [.ins "Search" (srF sh p (o + 1) (o + 2) none), .lst [nrD (kLi, r3)], .lst []], ?_, ⟨?_, ?_, ?_, by omega⟩, Kp.push _ _⟩
  · rw [← qo]
    have key : L.f_Search___init__ [.ref o, ch, sh, .str p] (h ++ [.ins "Search" []]) = .ok .non (h ++ [.ins "Search" (srF sh p (o + 1) (o + 2) none), .lst [nrD (kLi, r3)], .lst []]) := by
      unfold L.f_Search___init__
      rw [mkF_eq (by rfl)]
      rw [show (List.map some [D.ref o, ch, sh, .str p] ++ List.replicate (4 - 4) none : EN) = [some (.ref o), some ch, some sh, some (.str p)] from rfl]
      rw [show L.b_Search___init__ = sSeq L.s_Search___init___1 (sSeq L.s_Search___init___2 (sSeq L.s_Search___init___3 (sSeq L.s_Search___init___4 L.s_Search___init___5))) from rfl]
      have f1 := kFldSet_ok (c := "Search") (f := "shelf") (e := [some (.ref o), some ch, some sh, some (.str p)]) (y := sh) (s1 [] []) (by simp)
      have f2 := kFldSet_ok (c := "Search") (f := "path") (e := [some (.ref o), some ch, some sh, some (.str p)]) (y := .str p) (s1 [("shelf", sh)] []) (by simp)
      have f3 := kFldSet_ok (c := "Search") (f := "waiting") (e := [some (.ref o), some ch, some sh, some (.str p)]) (y := .ref (o + 1)) (s1 [("shelf", sh), ("path", .str p)] [.lst [nrD (kLi, r3)]]) (by simp)
      have f4 := kFldSet_ok (c := "Search") (f := "visited") (e := [some (.ref o), some ch, some sh, some (.str p)]) (y := .ref (o + 2)) (s1 [("shelf", sh), ("path", .str p), ("waiting", .ref (o + 1))] [.lst [nrD (kLi, r3)], .lst []]) (by simp)
      have f5 := kFldSet_ok (c := "Search") (f := "outcome") (e := [some (.ref o), some ch, some sh, some (.str p)]) (y := .non) (s1 [("shelf", sh), ("path", .str p), ("waiting", .ref (o + 1)), ("visited", .ref (o + 2))] [.lst [nrD (kLi, r3)], .lst []]) (by simp)
      rw [s2] at f1 f2 f3 f4 f5
      have l1 : (h ++ [LO.ins "Search" [("shelf", sh), ("path", .str p)]]).length = o + 1 := by rw [qo]; simp
      have l2 : (h ++ [LO.ins "Search" [("shelf", sh), ("path", .str p), ("waiting", .ref (o + 1))], .lst [nrD (kLi, r3)]]).length = o + 2 := by rw [qo]; simp
      have p1 : (h ++ [LO.ins "Search" [("shelf", sh), ("path", .str p)]]) ++ [.lst [nrD (kLi, r3)]] = h ++ [LO.ins "Search" [("shelf", sh), ("path", .str p)], .lst [nrD (kLi, r3)]] := by simp
      have p2 : (h ++ [LO.ins "Search" [("shelf", sh), ("path", .str p), ("waiting", .ref (o + 1))], .lst [nrD (kLi, r3)]]) ++ [.lst []] = h ++ [LO.ins "Search" [("shelf", sh), ("path", .str p), ("waiting", .ref (o + 1))], .lst [nrD (kLi, r3)], .lst []] := by simp
      have pf1 : putFD "shelf" sh [] = [("shelf", sh)] := rfl
      have pf2 : putFD "path" (.str p) [("shelf", sh)] = [("shelf", sh), ("path", .str p)] := rfl
      have pf3 : putFD "waiting" (.ref (o + 1)) [("shelf", sh), ("path", .str p)] = [("shelf", sh), ("path", .str p), ("waiting", .ref (o + 1))] := rfl
      have pf4 : putFD "visited" (.ref (o + 2)) [("shelf", sh), ("path", .str p), ("waiting", .ref (o + 1))] = [("shelf", sh), ("path", .str p), ("waiting", .ref (o + 1)), ("visited", .ref (o + 2))] := rfl
      have pf5 : putFD "outcome" .non [("shelf", sh), ("path", .str p), ("waiting", .ref (o + 1)), ("visited", .ref (o + 2))] = srF sh p (o + 1) (o + 2) none := rfl
      rw [pf1] at f1
      rw [pf2] at f2
      rw [pf3] at f3
      rw [pf4] at f4
      rw [pf5] at f5
      have w0 : D.tup [.str kLi, r3] = nrD (kLi, r3) := rfl
      generalize nrD (kLi, r3) = x0 at *
      generalize h ++ [LO.ins "Search" []] = g0 at *
      generalize h ++ [LO.ins "Search" [("shelf", sh)]] = g1 at *
      generalize h ++ [LO.ins "Search" [("shelf", sh), ("path", .str p)]] = g2 at *
      generalize h ++ [LO.ins "Search" [("shelf", sh), ("path", .str p)], .lst [x0]] = g3 at *
      generalize h ++ [LO.ins "Search" [("shelf", sh), ("path", .str p), ("waiting", .ref (o + 1))], .lst [x0]] = g4 at *
      generalize h ++ [LO.ins "Search" [("shelf", sh), ("path", .str p), ("waiting", .ref (o + 1))], .lst [x0], .lst []] = g5 at *
      generalize h ++ [LO.ins "Search" [("shelf", sh), ("path", .str p), ("waiting", .ref (o + 1)), ("visited", .ref (o + 2))], .lst [x0], .lst []] = g6 at *
      rw [ev_seq]; simp -implicitDefEqProofs [L.s_Search___init___1, f1]
      rw [ev_seq]; simp -implicitDefEqProofs [L.s_Search___init___2, f2]
      rw [ev_seq]; simp -implicitDefEqProofs [L.s_Search___init___3, sl, er, w0, l1, p1, f3]
      rw [ev_seq]; simp -implicitDefEqProofs [L.s_Search___init___4, l2, p2, f4]
      simp -implicitDefEqProofs [L.s_Search___init___5, f5]
    rw [qo] at key ⊢
    exact kMake_ok key
  · rw [← qo, qo]
    simp
  · rw [← qo, qo]
    simp
  · rw [← qo, qo]
    simp
/-! lookup -/
def readS (p : List Nat) (rs : List D) (d : D) (s : SS) : SS := match d with
  | .tup [_, .str nm, _, _, .tup gs, .tup grs] => giveS p rs gs grs nm s
  | _ => s
def runS (p : List Nat) (rs : List D) (dm : List Nat → Option D) : Nat → SS → D
  | 0, _ => .non
  | n + 1, s => if dIsN (resD s) = true then (match wantS s with
    | none => .non
    | some x => match dm x.1 with
      | none => .tup [S "missing", .str x.1]
      | some d => runS p rs dm n (readS p rs d s)) else resD s
def LsD (nm : List Nat) (d : D) : Prop := isList d = true ∧ ∃ v e g r, d = .tup [.str kLi, .str nm, v, e, g, r]
theorem LsD.shape {nm : List Nat} {d : D} (h : LsD nm d) : ∃ v e gs grs, d = .tup [.str kLi, .str nm, v, e, .tup gs, .tup grs] ∧ grs.length ≤ 32 := by
  obtain ⟨h1, v, e, g, r, rfl⟩ := h
  obtain ⟨n, v', e', gs, grs, q, _, _, _, _, h6⟩ := list_shp h1
  injection q with q
  simp at q
  obtain ⟨rfl, rfl, rfl, rfl, rfl⟩ := q
  unfold areGrants at h6
  simp only [Bool.and_eq_true, decide_eq_true_eq] at h6
  exact ⟨_, _, gs, grs, rfl, h6.1⟩
theorem LsD.cl {nm : List Nat} {d : D} {h : LH} (q : LsD nm d) : Cl h 6 d := (doc_sm (by unfold isDoc; rw [q.1]; simp)).cl
theorem want_facts {s : SS} {x : NR} (h : wantS s = some x) : s.out = none ∧ s.seen.length < 32 ∧ x ∈ s.wait ∧ x.1 ∉ s.seen := by
  unfold wantS at h
  split at h
  · cases h
  · rename_i c
    simp only [Bool.or_eq_true, decide_eq_true_eq, not_or] at c
    refine ⟨by cases q : s.out with | none => rfl | some d => rw [q] at c; exact absurd rfl c.1, by omega, List.mem_of_find?_eq_some h, ?_⟩
    have := List.find?_some h
    simpa using this
theorem read_seen {p : List Nat} {rs : List D} {nm : List Nat} {d : D} {s : SS} (h : LsD nm d) : (readS p rs d s).seen = s.seen ++ [nm] ∧ (readS p rs d s).wait.length ≤ 32 + s.wait.length := by
  obtain ⟨v, e, gs, grs, rfl, hl⟩ := h.shape
  have hgs : ∀ r ∈ gs, isGood r = true := by
    have := h.1
    unfold isList at this
    simp only [Bool.and_eq_true] at this
    have := this.2.2.2.2.1
    unfold areGoods at this
    simp only [Bool.and_eq_true, List.all_eq_true] at this
    exact this.2.1
  unfold readS giveS
  dsimp only
  cases q : gs.find? (fun r => decide (fstC r = p)) with
  | some r =>
    obtain ⟨l, g, e⟩ := good_tl hgs q
    dsimp only
    rw [e]
    exact ⟨rfl, by simp⟩
  | none =>
    dsimp only
    refine ⟨rfl, ?_⟩
    rw [List.length_append]
    have h1 := addG_len (p := p) (rs := rs) (seen := s.seen ++ [nm]) grs
    have h2 : ((if (addG p rs (s.seen ++ [nm]) grs).2 then [] else s.wait).filter fun x => !decide (x.1 ∈ s.seen ++ [nm])).length ≤ s.wait.length := by
      refine Nat.le_trans (List.length_filter_le _ _) ?_
      split
      · simp
      · exact Nat.le_refl _
    omega
theorem give_doc {h : LH} {o W V : Nat} {p : List Nat} {s : SS} {nm : List Nat} {rl d x y z : D} {rs : List D} (a : SeAt h o (.tup [x, y, z, .tup rs]) p W V s) (hw : wantS s = some (nm, rl)) (hd : LsD nm d) (hrs : ∀ r ∈ rs, isEnt r = true) (hp : p.length ≤ 800) (lw : s.wait.length ≤ 10000) :
    ∃ h' W', L.f_Search_give [.ref o, d] h = .ok .non h' ∧ SeAt h' o (.tup [x, y, z, .tup rs]) p W' V (readS p rs d s) ∧ Fo [o, V] h h' := by
  have c := hd.cl (h := h)
  have h1 := hd.1
  obtain ⟨v, e, gs, grs, rfl, _⟩ := hd.shape
  exact give_ok a hw h1 c (by decide) rfl hrs hp lw
structure LkI (h0 : LH) (o V : Nat) (ch sh : D) (Dc : Nat) (p : List Nat) (rs : List D) (dm : List Nat → Option D) (res : D) (e : EN) (h : LH) : Prop where
  ev : ∃ v, e = [some ch, some sh, some (.ref Dc), some (.str p), some (.ref o), v]
  k : Kp h0 h
  st : ∃ W s n, SeAt h o sh p W V s ∧ runS p rs dm n s = res ∧ 34 ≤ n + s.seen.length ∧ s.seen.length ≤ 32 ∧ s.wait.length ≤ 1 + 32 * s.seen.length
theorem meth_s {h : LH} {o W V : Nat} {sh : D} {p : List Nat} {s : SS} (a : SeAt h o sh p W V s) {n : String} {f : MF} {as : M (List D)} {e : EN} (hn : getF n (srF sh p W V s.out) = none) : kMeth "Search" n f as e (.ref o) h = (as e h).bind fun xs h2 => f (.ref o :: xs) h2 := kMeth_ok a.o hn
theorem res_non {s : SS} (h : dIsN (resD s) = true) : ∃ x, wantS s = some x := by
  unfold resD at h
  cases q : wantS s with
  | some x => exact ⟨x, rfl⟩
  | none =>
    rw [q] at h
    cases q2 : s.out with
    | none => rw [q2] at h; simp [dIsN] at h
    | some d => rw [q2] at h; simp [outD, dIsN] at h
theorem lookup_ok {h : LH} {a b c r0 r1 r2 r3 x y z : D} {p : List Nat} {rs : List D} {Dc : Nat} {kvs : List (KD × D)} (hD : h[Dc]? = some (.dK kvs)) (hrs : ∀ r ∈ rs, isEnt r = true) (hp : p.length ≤ 800) (hd : ∀ nm d, getKD (.inr nm) kvs = some d → LsD nm d) :
    ∃ h', Kp h h' ∧ L.f_lookup [.tup [a, b, c, .tup [r0, r1, r2, r3]], .tup [x, y, z, .tup rs], .ref Dc, .str p] h = .ok (runS p rs (fun nm => getKD (.inr nm) kvs) 34 ⟨[(kLi, r3)], [], none⟩) h' := by
  obtain ⟨h1, e1, a1, K1⟩ := search_init (a := a) (b := b) (c := c) (r0 := r0) (r1 := r1) (r2 := r2) (r3 := r3) (sh := .tup [x, y, z, .tup rs]) (p := p) (h := h)
  obtain ⟨o, qo⟩ : ∃ o, o = h.length := ⟨_, rfl⟩
  rw [← qo] at e1 a1
  obtain ⟨ch, qch⟩ : ∃ ch, ch = D.tup [a, b, c, .tup [r0, r1, r2, r3]] := ⟨_, rfl⟩
  obtain ⟨sh, qsh⟩ : ∃ sh, sh = D.tup [x, y, z, .tup rs] := ⟨_, rfl⟩
  rw [← qch, ← qsh] at e1
  rw [← qsh] at a1
  rw [← qch, ← qsh]
  obtain ⟨dm, qdm⟩ : ∃ dm : List Nat → Option D, dm = fun nm => getKD (.inr nm) kvs := ⟨_, rfl⟩
  rw [← qdm]
  obtain ⟨res, qres⟩ : ∃ res, res = runS p rs dm 34 ⟨[(kLi, r3)], [], none⟩ := ⟨_, rfl⟩
  rw [← qres]
  have Do : Dc < h.length := lt_of_get hD
  have key := loopW_gen (c := (mTst (mOp dIs (mMeth "Search" "result" L.f_Search_result (mVar 4) mNil) (mC .non)))) (b := L.s_lookup_2b)
    (LkI h o (o + 2) ch sh Dc p rs dm res)
    (fun r => (∃ h' v, r = .ret res h' ∧ Kp h h' ∧ v = ()) ∨ ∃ h' v W s, r = .next [some ch, some sh, some (.ref Dc), some (.str p), some (.ref o), v] h' ∧ Kp h h' ∧ SeAt h' o sh p W (o + 2) s ∧ resD s = res)
    (fun e h => 40 - (match h[o + 2]? with
      | some (.lst xs) => xs.length
      | _ => 0))
    (fun e g hi => by
      obtain ⟨⟨v, rfl⟩, K, W, s, n, sa, hr, hn, hl, hwl⟩ := hi
      have er := result_ok sa
      have em : kMeth "Search" "result" L.f_Search_result mNil [some ch, some sh, some (.ref Dc), some (.str p), some (.ref o), v] (.ref o) g = .ok (resD s) g := by
        rw [meth_s sa rfl]
        exact er
      cases q : dIsN (resD s) with
      | false =>
        refine .inl ⟨g, by simp -implicitDefEqProofs [em, dIs_n, q], .inr ⟨g, v, W, s, rfl, K, sa, ?_⟩⟩
        obtain ⟨n, rfl⟩ : ∃ m, n = m + 1 := ⟨n - 1, by omega⟩
        rw [← hr]
        unfold runS
        rw [q]
        rfl
      | true =>
        obtain ⟨⟨nm, rl⟩, hx⟩ := res_non q
        obtain ⟨hso, hsl, hxm, hxs⟩ := want_facts hx
        obtain ⟨n, rfl⟩ : ∃ m, n = m + 1 := ⟨n - 1, by omega⟩
        unfold runS at hr
        rw [q, if_pos rfl, hx] at hr
        dsimp only at hr
        have hwd : wantD s = .tup [.str nm, rl] := by unfold wantD; rw [hx]; rfl
        have mw := mwant sa (e := [some ch, some sh, some (.ref Dc), some (.str p), some (.ref o), v])
        rw [hwd] at mw
        have i0 : ∀ q, dIx (.tup [.str nm, rl]) (.int 0) q = .ok (.str nm) q := fun _ => rfl
        have hD1 := K.get hD
        have ni := notInA_at (y := .str nm) (k := .inr nm) hD1 rfl
        refine .inr ⟨g, by simp -implicitDefEqProofs [em, dIs_n, q], ?_⟩
        rw [show L.s_lookup_2b = sSeq L.s_lookup_2b_1 (sSeq L.s_lookup_2b_2 L.s_lookup_2b_3) from rfl]
        have hdm : dm nm = getKD (.inr nm) kvs := by rw [qdm]
        rw [← hdm] at ni
        cases qd : dm nm with
        | none =>
          rw [qd] at ni hr
          dsimp only at hr
          have hr' : D.tup [S "missing", .str nm] = res := hr
          have eb : (sSeq L.s_lookup_2b_1 (sSeq L.s_lookup_2b_2 L.s_lookup_2b_3)) [some ch, some sh, some (.ref Dc), some (.str p), some (.ref o), v] g = .ret res g := by
            rw [ev_seq]; simp -implicitDefEqProofs [L.s_lookup_2b_1, mw, i0]
            rw [ev_seq]; simp -implicitDefEqProofs [L.s_lookup_2b_2, ni]
            exact hr'
          rw [eb]
          exact .inl ⟨g, (), rfl, K, rfl⟩
        | some d =>
          rw [qd] at ni hr
          dsimp only at hr
          have hls := hd nm d (by rw [← hdm]; exact qd)
          have sa' := sa
          rw [qsh] at sa'
          obtain ⟨g2, W2, eg, sa2, fo⟩ := give_doc sa' hx hls hrs hp (by omega)
          rw [← qsh] at sa2
          have ig := ixA_at (y := .str nm) (k := .inr nm) (d := d) hD1 rfl (by rw [← hdm]; exact qd)
          have mg : ∀ e' : EN, e' = [some ch, some sh, some (.ref Dc), some (.str p), some (.ref o), some (.str nm)] → kMeth "Search" "give" L.f_Search_give (mCons (mOp dIxA (mVar 2) (mVar 5)) mNil) e' (.ref o) g = .ok .non g2 := fun e' he => by
            rw [meth_s sa rfl, he]
            simp -implicitDefEqProofs [ig, eg]
          have mg' := mg _ rfl
          obtain ⟨rs1, rs2⟩ := read_seen (p := p) (rs := rs) (s := s) hls
          have eb : (sSeq L.s_lookup_2b_1 (sSeq L.s_lookup_2b_2 L.s_lookup_2b_3)) [some ch, some sh, some (.ref Dc), some (.str p), some (.ref o), v] g = .next [some ch, some sh, some (.ref Dc), some (.str p), some (.ref o), some (.str nm)] g2 := by
            rw [ev_seq]; simp -implicitDefEqProofs [L.s_lookup_2b_1, mw, i0]
            rw [ev_seq]; simp -implicitDefEqProofs [L.s_lookup_2b_2, ni]
            simp -implicitDefEqProofs [L.s_lookup_2b_3, mg']
          rw [eb]
          refine ⟨⟨⟨_, rfl⟩, ⟨Nat.le_trans K.le fo.le, fun i hi => ?_⟩, W2, _, n, sa2, hr, by rw [rs1]; simp; omega, by rw [rs1]; simp; omega, by rw [rs1]; simp; omega⟩, ?_⟩
          · rw [fo.k i (Nat.lt_of_lt_of_le hi K.le) (by simp; omega), K.keep i hi]
          · have v1 := sa.v
            have v2 := sa2.v
            rw [v1, v2, rs1]
            simp
            omega) 100000000 [some ch, some sh, some (.ref Dc), some (.str p), some (.ref o), none] h1 ⟨⟨_, rfl⟩, K1, o + 1, _, 34, a1, qres.symm, by simp, by simp, by simp⟩ (by
      have := a1.v
      rw [this]
      simp)
  suffices hP : ∀ P : Res D → Prop, (∀ h', Kp h h' → P (.ok res h')) → P (L.f_lookup [ch, sh, .ref Dc, .str p] h) from (hP (fun r => ∃ h', Kp h h' ∧ r = .ok res h') fun h' k => ⟨h', k, rfl⟩)
  intro P fin
  unfold L.f_lookup
  rw [mkF_eq (by rfl)]
  rw [show (List.map some [ch, sh, .ref Dc, .str p] ++ List.replicate (6 - 4) none : EN) = [some ch, some sh, some (.ref Dc), some (.str p), none, none] from rfl]
  rw [show L.b_lookup = sSeq L.s_lookup_1 (sSeq L.s_lookup_2 L.s_lookup_3) from rfl]
  rw [ev_seq]; simp -implicitDefEqProofs [L.s_lookup_1, e1]
  rw [ev_seq]
  rw [show L.s_lookup_2 = sWhile L.fuel (mTst (mOp dIs (mMeth "Search" "result" L.f_Search_result (mVar 4) mNil) (mC .non))) L.s_lookup_2b from rfl, ev_while]
  rw [show L.fuel = 100000000 from rfl]
  rcases key with ⟨h', v, ek, K, _⟩ | ⟨h', v, W, s, ek, K, sa, hres⟩
  · rw [ek]
    exact fin h' K
  · rw [ek]
    dsimp only
    have em : kMeth "Search" "result" L.f_Search_result mNil [some ch, some sh, some (.ref Dc), some (.str p), some (.ref o), v] (.ref o) h' = .ok (resD s) h' := by
      rw [meth_s sa rfl]
      exact result_ok sa
    simp -implicitDefEqProofs [L.s_lookup_3, em, hres]
    exact fin h' K
end HM
set_option Elab.async false
set_option linter.all false
set_option maxRecDepth 100000
set_option maxHeartbeats 4000000
namespace HM
open PySem L2
/-! ### the states of a search, one after another -/
theorem nd_mapOn {α β : Type} {f : α → β} : ∀ {l : List α}, (∀ a ∈ l, ∀ b ∈ l, f a = f b → a = b) → l.Nodup → (l.map f).Nodup
  | [], _, _ => List.nodup_nil
  | a :: l, hf, h => by
    rw [List.nodup_cons] at h
    rw [List.map_cons, List.nodup_cons]
    refine ⟨fun z => ?_, nd_mapOn (fun x hx y hy => hf x (List.mem_cons_of_mem _ hx) y (List.mem_cons_of_mem _ hy)) h.2⟩
    obtain ⟨b, hb, q⟩ := List.mem_map.mp z
    have := hf b (List.mem_cons_of_mem _ hb) a List.mem_cons_self q
    exact h.1 (this ▸ hb)
section
variable (path : List Nat) (rs : List D) (dm : List Nat → D)
def nextS (s : SS) : SS := match wantS s with
  | some x => readS path rs (dm x.1) s
  | none => s
def PS (r : D) : Nat → SS
  | 0 => ⟨[(kLi, r)], [], none⟩
  | n + 1 => nextS path rs dm (PS r n)
end
def filt (seen : List (List Nat)) (l : List NR) : List NR := l.filter fun x => !decide (x.1 ∈ seen)
structure SI (names : List (List Nat)) (s : SS) : Prop where
  w : ∀ x ∈ s.wait, x.1 ∈ names
  n : s.seen.Nodup
  m : ∀ x ∈ s.seen, x ∈ names
theorem head_find {α : Type} (p : α → Bool) : ∀ l : List α, l.find? p = (l.filter p).head?
  | [] => rfl
  | a :: l => by
    rw [List.find?_cons, List.filter_cons]
    cases q : p a with
    | true => simp
    | false => simpa [q] using head_find p l
theorem want_head {names : List (List Nat)} {s : SS} (I : SI names s) (hn : names.length ≤ 32) (ho : s.out = none) : wantS s = (filt s.seen s.wait).head? := by
  unfold wantS filt
  rw [ho]
  by_cases c : 32 ≤ s.seen.length
  · rw [decide_eq_true c, Bool.or_true, if_pos rfl]
    have : s.wait.filter (fun x => !decide (x.1 ∈ s.seen)) = [] := by
      rw [List.filter_eq_nil_iff]
      intro x hx
      have : x.1 ∈ s.seen := by
        by_cases q : x.1 ∈ s.seen
        · exact q
        · have := nodup_le (x.1 :: s.seen) names (List.nodup_cons.mpr ⟨q, I.n⟩) (fun y hy => by
            rcases List.mem_cons.mp hy with rfl | hy
            · exact I.w x hx
            · exact I.m y hy)
          simp at this
          omega
      simp [this]
    rw [this]
    rfl
  · rw [decide_eq_false c]
    exact head_find _ _
theorem filt_snoc (seen : List (List Nat)) (nm : List Nat) (l : List NR) : filt (seen ++ [nm]) l = filt [nm] (filt seen l) := by
  unfold filt
  rw [List.filter_filter]
  refine List.filter_congr fun x _ => ?_
  by_cases c1 : x.1 ∈ seen <;> by_cases c2 : x.1 = nm <;> simp [c1, c2]
theorem addG_names {p : List Nat} {rs : List D} {seen names : List (List Nat)} (hrs : ∀ w, (rs.any fun r => decide (fstC r = w)) = decide (w ∈ names)) : ∀ gs : List D, ∀ x ∈ (addG p rs seen gs).1, x.1 ∈ names
  | [], x, hx => by cases hx
  | g :: gs, x, hx => by
    rw [addG_cons] at hx
    split at hx
    · rename_i c
      have hg : fstC g ∈ names := by
        unfold takeG at c
        simp only [Bool.and_eq_true] at c
        have := c.2.2
        rw [hrs] at this
        exact of_decide_eq_true this
      split at hx
      · simp at hx
        rw [hx]
        exact hg
      · rcases List.mem_cons.mp hx with rfl | hx
        · exact hg
        · exact addG_names hrs gs x hx
    · exact addG_names hrs gs x hx
theorem addG_role {p : List Nat} {rs : List D} {seen : List (List Nat)} : ∀ gs : List D, (∀ g ∈ gs, isGrant g = true) → ∀ x ∈ (addG p rs seen gs).1, isRole x.2 = true
  | [], _, x, hx => by cases hx
  | g :: gs, hg, x, hx => by
    obtain ⟨n, rl, ps, l, rfl, _, hrl, _⟩ := grant_shape (hg g List.mem_cons_self)
    rw [addG_cons] at hx
    split at hx
    · split at hx
      · simp at hx
        rw [hx]
        exact hrl
      · rcases List.mem_cons.mp hx with rfl | hx
        · exact hrl
        · exact addG_role gs (fun g h => hg g (List.mem_cons_of_mem _ h)) x hx
    · exact addG_role gs (fun g h => hg g (List.mem_cons_of_mem _ h)) x hx
def RdOk (path : List Nat) (rs : List D) (dm : List Nat → D) (role : D) (n : Nat) (rd : List NR) : Prop := rd.length = n ∧ ∀ i, i < n → wantS (PS path rs dm role i) = rd[i]?
theorem names_full {names : List (List Nat)} {s : SS} (I : SI names s) (hn : names.length ≤ 32) : s.seen.length ≤ 32 := Nat.le_trans (nodup_le s.seen names I.n I.m) hn
theorem filt_head {seen : List (List Nat)} {x : NR} {t l : List NR} (hx : x.1 ∉ seen) (h : filt seen (x :: t) = filt seen l) (nm : List Nat) (hn : nm = x.1) : (filt seen l).head? = some x ∧ filt (seen ++ [nm]) t = filt (seen ++ [nm]) l := by
  have e1 : filt seen (x :: t) = x :: filt seen t := by
    unfold filt
    rw [List.filter_cons_of_pos (by simpa using hx)]
  rw [e1] at h
  refine ⟨by rw [← h]; rfl, ?_⟩
  rw [filt_snoc, filt_snoc, ← h]
  unfold filt
  rw [List.filter_cons_of_neg (by simp [hn])]
theorem lsd_facts {nm : List Nat} {d : D} (h : LsD nm d) : ∃ v e gs grs, d = .tup [.str kLi, .str nm, v, e, .tup gs, .tup grs] ∧ (∀ g ∈ grs, isGrant g = true) ∧ grs.length ≤ 32 ∧ ∀ r ∈ gs, isGood r = true := by
  obtain ⟨h1, v, e, g, r, rfl⟩ := h
  obtain ⟨n, v', e', gs, grs, q, _, _, _, h5, h6⟩ := list_shp h1
  injection q with q
  simp at q
  obtain ⟨rfl, rfl, rfl, rfl, rfl⟩ := q
  unfold areGrants at h6
  simp only [Bool.and_eq_true, decide_eq_true_eq] at h6
  unfold areGoods at h5
  simp only [Bool.and_eq_true, List.all_eq_true] at h5
  exact ⟨v, e, gs, grs, rfl, grOk_mem h6.2, h6.1, h5.2.1⟩
/-! ### dicts of documents -/
def dk (f : List Nat → D) (l : List (List Nat)) : List (KD × D) := l.map fun m => (Sum.inr m, f m)
theorem dk_get (f : List Nat → D) (n : List Nat) : ∀ l : List (List Nat), getKD (.inr n) (dk f l) = if n ∈ l then some (f n) else none
  | [] => rfl
  | m :: l => by
    show (if (Sum.inr m : KD) = Sum.inr n then some (f m) else getKD (.inr n) (dk f l)) = _
    rw [dk_get f n l]
    by_cases c : m = n
    · subst c
      simp
    · have c1 : ¬ (Sum.inr m : KD) = Sum.inr n := fun z => c (Sum.inr.inj z)
      have c2 : ¬ n = m := fun z => c z.symm
      rw [if_neg c1]
      simp [c2]
theorem dk_put {f : List Nat → D} {n : List Nat} {d : D} {l : List (List Nat)} (h : n ∉ l) : putKD (.inr n) d (dk f l) = dk (fun m => if m = n then d else f m) (l ++ [n]) := by
  unfold putKD
  rw [dk_get, if_neg h, if_neg (by simp)]
  unfold dk
  rw [List.map_append]
  congr 1
  · refine List.map_congr_left fun m hm => ?_
    have : m ≠ n := fun z => h (z ▸ hm)
    show _ = (Sum.inr m, if m = n then d else f m)
    rw [if_neg this]
  · simp
theorem dk_congr {f g : List Nat → D} {l : List (List Nat)} (h : ∀ n ∈ l, f n = g n) : dk f l = dk g l := List.map_congr_left fun m hm => by rw [h m hm]
theorem dk_len (f : List Nat → D) (l : List (List Nat)) : (dk f l).length = l.length := by simp [dk]
/-! ### the states of the search -/
section
variable {path : List Nat} {rs : List D} {names : List (List Nat)} {dm : List Nat → D} {role : D}
theorem ps_next {i : Nat} {x : NR} (h : wantS (PS path rs dm role i) = some x) : PS path rs dm role (i + 1) = readS path rs (dm x.1) (PS path rs dm role i) := by
  show nextS path rs dm (PS path rs dm role i) = _
  unfold nextS
  rw [h]
structure PI (names : List (List Nat)) (rd : List NR) (i : Nat) (t : SS) : Prop where
  w : ∀ x ∈ t.wait, x.1 ∈ names ∧ isRole x.2 = true
  s : t.seen = (rd.take i).map (·.1)
  l : t.wait.length ≤ 1 + 32 * i
theorem ps_inv (hn : ∀ w, (rs.any fun r => decide (fstC r = w)) = decide (w ∈ names)) (hd : ∀ n ∈ names, LsD n (dm n)) (hr : isRole role = true) (hli : kLi ∈ names) {N : Nat} {rd : List NR} (ro : RdOk path rs dm role N rd) :
    ∀ i, i ≤ N → PI names rd i (PS path rs dm role i)
  | 0, _ => ⟨fun x hx => by
      have : x = (kLi, role) := by simpa [PS] using hx
      rw [this]
      exact ⟨hli, hr⟩, by simp [PS], by simp [PS]⟩
  | i + 1, hi => by
    have I := ps_inv hn hd hr hli ro i (by omega)
    have hw := ro.2 i (by omega)
    cases ex : rd[i]? with
    | none =>
      have := List.getElem?_eq_none_iff.mp ex
      rw [ro.1] at this
      omega
    | some x =>
      rw [ex] at hw
      have hx := (want_facts hw).2.2.1
      have hxn := (I.w x hx).1
      have hdx := hd x.1 hxn
      have hls := hdx
      obtain ⟨r1, r2⟩ := read_seen (p := path) (rs := rs) (s := PS path rs dm role i) hls
      rw [ps_next hw]
      refine ⟨fun y hy => ?_, ?_, by have := I.l; omega⟩
      · obtain ⟨v, ee, gs, grs, e, hgr, _⟩ := lsd_facts hdx
        rw [e] at hy
        unfold readS giveS at hy
        dsimp only at hy
        split at hy
        · split at hy
          · exact I.w y hy
          · exact I.w y hy
        · rcases List.mem_append.mp hy with h' | h'
          · exact ⟨addG_names hn grs y h', addG_role grs hgr y h'⟩
          · have h2 := (List.mem_filter.mp h').1
            split at h2
            · cases h2
            · exact I.w y h2
      · rw [r1, I.s, List.take_succ, ex, List.map_append]
        rfl
theorem rd_mem (hn : ∀ w, (rs.any fun r => decide (fstC r = w)) = decide (w ∈ names)) (hd : ∀ n ∈ names, LsD n (dm n)) (hr : isRole role = true) (hli : kLi ∈ names) {N : Nat} {rd : List NR} (ro : RdOk path rs dm role N rd) {i : Nat} {x : NR} (hx : rd[i]? = some x) :
    i < N ∧ wantS (PS path rs dm role i) = some x ∧ x.1 ∈ names ∧ isRole x.2 = true ∧ i < 32 ∧ (PS path rs dm role i).out = none := by
  have hi : i < N := by rw [← ro.1]; exact lt_of_get hx
  have hw := ro.2 i hi
  rw [hx] at hw
  have I := ps_inv hn hd hr hli ro i (by omega)
  obtain ⟨w1, w2, w3, w4⟩ := want_facts hw
  have := I.w x w3
  have hl : (PS path rs dm role i).seen.length = i := by
    rw [I.s, List.length_map, List.length_take, ro.1]
    omega
  exact ⟨hi, hw, this.1, this.2, by omega, w1⟩
theorem resD_some {s : SS} {x : NR} (h : wantS s = some x) : resD s = .non := by
  unfold resD
  rw [h, (want_facts h).1]
  simp [outD]
theorem resD_end {s : SS} (h : wantS s = none) : dIsN (resD s) = false := by
  unfold resD
  rw [h]
  cases q : s.out with
  | none => rfl
  | some d => rfl
theorem run_full {dmo : List Nat → Option D} {N : Nat} {rd : List NR} (ro : RdOk path rs dm role N rd) (he : wantS (PS path rs dm role N) = none) (hdm : ∀ x ∈ rd, dmo x.1 = some (dm x.1)) :
    ∀ k i fuel, i + k = N → k < fuel → runS path rs dmo fuel (PS path rs dm role i) = resD (PS path rs dm role N)
  | 0, i, fuel, hi, hf => by
    obtain ⟨m, rfl⟩ : ∃ m, fuel = m + 1 := ⟨fuel - 1, by omega⟩
    have : i = N := by omega
    subst this
    unfold runS
    rw [resD_end he, if_neg (by decide)]
  | k + 1, i, fuel, hi, hf => by
    obtain ⟨m, rfl⟩ : ∃ m, fuel = m + 1 := ⟨fuel - 1, by omega⟩
    have hw := ro.2 i (by omega)
    cases ex : rd[i]? with
    | none =>
      have := List.getElem?_eq_none_iff.mp ex
      rw [ro.1] at this
      omega
    | some x =>
      rw [ex] at hw
      unfold runS
      rw [resD_some hw, if_pos (show dIsN .non = true from rfl), hw]
      dsimp only
      rw [hdm x (List.mem_of_getElem? ex)]
      dsimp only
      rw [← ps_next hw]
      exact run_full ro he hdm k (i + 1) m (by omega) (by omega)
theorem run_miss {dmo : List Nat → Option D} {N : Nat} {rd : List NR} {y : NR} (ro : RdOk path rs dm role (N + 1) rd) (hy : rd[N]? = some y) (hdm : ∀ i x, i < N → rd[i]? = some x → dmo x.1 = some (dm x.1)) (hm : dmo y.1 = none) :
    ∀ k i fuel, i + k = N → k < fuel → runS path rs dmo fuel (PS path rs dm role i) = .tup [S "missing", .str y.1]
  | 0, i, fuel, hi, hf => by
    obtain ⟨m, rfl⟩ : ∃ m, fuel = m + 1 := ⟨fuel - 1, by omega⟩
    have : i = N := by omega
    subst this
    have hw := ro.2 i (by omega)
    rw [hy] at hw
    unfold runS
    rw [resD_some hw, if_pos (show dIsN .non = true from rfl), hw]
    dsimp only
    rw [hm]
  | k + 1, i, fuel, hi, hf => by
    obtain ⟨m, rfl⟩ : ∃ m, fuel = m + 1 := ⟨fuel - 1, by omega⟩
    have hw := ro.2 i (by omega)
    cases ex : rd[i]? with
    | none =>
      have := List.getElem?_eq_none_iff.mp ex
      rw [ro.1] at this
      omega
    | some x =>
      rw [ex] at hw
      unfold runS
      rw [resD_some hw, if_pos (show dIsN .non = true from rfl), hw]
      dsimp only
      rw [hdm i x (by omega) ex]
      dsimp only
      rw [← ps_next hw]
      exact run_miss ro hy hdm hm k (i + 1) m (by omega) (by omega)
end
theorem refused_ok {h h' : LH} {o : Nat} {d : D} {fs : List (String × D)} (ho : h[o]? = some (.ins "Search" fs)) (hn : getF "give" fs = none) (e : L.f_Search_give [.ref o, d] h = .exc ⟨"BadState", []⟩ h') : L.f__law_refused [.ref o, d] h = .ok (.bl true) h' := by
  have em : kMeth "Search" "give" L.f_Search_give (mCons (mVar 1) mNil) [some (.ref o), some d] (.ref o) h = .exc ⟨"BadState", []⟩ h' := by
    rw [kMeth_ok ho hn]
    simp -implicitDefEqProofs [e]
  have mt : L.mt_BadState "BadState" = some true := by decide +kernel
  unfold L.f__law_refused
  rw [mkF_eq (by rfl)]
  rw [show (List.map some [D.ref o, d] ++ List.replicate (2 - 2) none : EN) = [some (.ref o), some d] from rfl]
  rw [show L.b__law_refused = sSeq L.s__law_refused_1 L.s__law_refused_2 from rfl]
  have e0 : (sExpr (mMeth "Search" "give" L.f_Search_give (mVar 0) (mCons (mVar 1) mNil))) [some (.ref o), some d] h = .exc ⟨"BadState", []⟩ [some (.ref o), some d] h' := by
    simp -implicitDefEqProofs [em]
  have e1 : L.s__law_refused_1 [some (.ref o), some d] h = .ret (.bl true) h' := by
    unfold L.s__law_refused_1 sTry
    rw [e0]
    dsimp only
    unfold sTryGo
    rw [mt]
    rfl
  rw [ev_seq, e1]
theorem bad_of {s : SS} {z : D} (h : isList z = false) : badG z s := by
  unfold badG
  split
  · trivial
  · intro c
    rw [h] at c
    cases c
theorem nr_pe {x : NR} (h1 : isLN (.str x.1) = true) (h2 : isRole x.2 = true) : PE 3 294 (nrD x) := (pe2 ((name_pe 2 h1).mono (Nat.le_refl _) (Nat.le_refl _)) (role_pe h2)).mono (Nat.le_refl _) (by decide)
theorem same_pe {r n : Nat} {d : D} {h : LH} (p : PE r n d) (hr : r ≤ 20) (hn : n ≤ 16000000) : L.f__law_same [d, d] h = .ok (.bl true) h := same_plain p.p hr (by have := p.l; omega)
section
variable {path : List Nat} {rs : List D} {names : List (List Nat)} {dm : List Nat → D} {role : D}
def OutOk (t : SS) : Prop := ∀ ds, t.out = some ds → PE 3 1000 (.tup ds)
theorem ps_out (hn : ∀ w, (rs.any fun r => decide (fstC r = w)) = decide (w ∈ names)) (hd : ∀ n ∈ names, LsD n (dm n)) (hr : isRole role = true) (hli : kLi ∈ names) {N : Nat} {rd : List NR} (ro : RdOk path rs dm role N rd) :
    ∀ i, i ≤ N → OutOk (PS path rs dm role i)
  | 0, _ => fun ds q => by simp [PS] at q
  | i + 1, hi => by
    have I := ps_out hn hd hr hli ro i (by omega)
    cases ex : rd[i]? with
    | none =>
      have := List.getElem?_eq_none_iff.mp ex
      rw [ro.1] at this
      omega
    | some w =>
      obtain ⟨_, hw, hm, _, _, ho⟩ := rd_mem hn hd hr hli ro ex
      have hdx := hd w.1 hm
      have hln : isLN (.str w.1) = true := by
        obtain ⟨n, v, e, gs, grs, q, hl, _⟩ := list_shp hdx.1
        obtain ⟨_, v', e', g', r', q'⟩ := hdx
        rw [q] at q'
        injection q' with q'
        simp at q'
        rw [← q'.1]
        exact hl
      rw [ps_next hw]
      obtain ⟨v, ee, gs, grs, e, hgr, _, hgo⟩ := lsd_facts hdx
      rw [e]
      intro ds q
      unfold readS giveS at q
      dsimp only at q
      cases hf : List.find? (fun r => decide (fstC r = path)) gs with
      | none =>
        rw [hf] at q
        dsimp only at q
        rw [ho] at q
        cases q
      | some r =>
        rw [hf] at q
        dsimp only at q
        have hg := hgo r (List.mem_of_find?_eq_some hf)
        obtain ⟨p1, l, dg, rfl⟩ : ∃ p1 l dg, r = .tup [p1, l, dg] := by
          unfold isGood at hg
          split at hg
          · exact ⟨_, _, _, rfl⟩
          · cases hg
        have q' : [S "found", .str w.1, l, dg] = ds := Option.some.inj q
        rw [← q']
        have gp := good_pe hg
        have hpl := gp.p
        have hll := gp.l
        have pr : ∀ d ∈ [p1, l, dg], PE 1 102 d := fun d hd' => by
          refine ⟨?_, ?_⟩
          · exact plain_up1 (List.all_eq_true.mp hpl d hd')
          · refine Nat.le_trans ?_ hll
            simp only [List.mem_cons, List.not_mem_nil, or_false] at hd'
            show _ ≤ (91 :: ((encD p1 ++ (encD l ++ (encD dg ++ []))) ++ [93])).length
            rcases hd' with rfl | rfl | rfl <;> simp <;> omega
        exact (pe4 (str_pe (s := [102, 111, 117, 110, 100]) (n := 5) 1 (by simp) (by decide) (by decide)) ((name_pe 1 hln).mono (Nat.le_refl _) (Nat.le_refl _)) (pr l (by simp)) (pr dg (by simp))).mono (by decide) (by decide)
theorem res_pe {t : SS} (ho : OutOk t) (he : wantS t = none) : PE 3 1000 (resD t) := by
  unfold resD
  split
  · exact (pe_list (r := 1) (n := 8) (k := 1) (xs := [S "none"]) (by simp) (fun q hq => by
      have : q = S "none" := by simpa using hq
      rw [this]
      exact (str_pe (s := [110, 111, 110, 101]) (n := 4) 1 (by simp) (by decide) (by decide)))).mono (by decide) (by decide)
  · rename_i c
    cases q : t.out with
    | none => exact absurd ⟨by rw [q]; rfl, he⟩ c
    | some ds => exact ho ds q
end
theorem mapO_ok {g : LH} {q i : Nat} {xs : List D} {e : EN} {y : M D} {f : D → D} (hq : g[q]? = some (.lst xs)) (hn : xs.length ≤ 1000000) (hy : ∀ x ∈ xs, ∀ h, y (e.set i (some x)) h = .ok (f x) h) :
    loopC (itO q) (.nm i) mYes y e g.length xs.length 0 (g ++ [.lst []]) = .ok (.ref g.length) (g ++ [.lst (xs.map f)]) := by
  have key := loopC_gen (g := itO q) (t := .nm i) (c := mYes) (y := y) (e := e) (k := g.length) (N := xs.length) (fun j => xs.getD j .non) (fun j acc h => acc = (xs.take j).map f ∧ h = g ++ [.lst acc])
    (fun j acc h hj hi => by
      have hh : h[q]? = some (.lst xs) := by rw [hi.2, List.getElem?_append_left (lt_of_get hq)]; exact hq
      rw [itO_get hh]
      by_cases c : j < xs.length
      · rw [if_pos c, List.getD_eq_getElem?_getD, List.getElem?_eq_getElem c]; rfl
      · rw [if_neg c, List.getElem?_eq_none (by omega)])
    (fun j acc h hj hi => by
      obtain ⟨_, rfl⟩ := hi
      simp)
    (fun j acc h hj hi => by
      obtain ⟨rfl, rfl⟩ := hi
      have e1 : xs[j]? = some (xs.getD j .non) := by rw [List.getD_eq_getElem?_getD, List.getElem?_eq_getElem hj]; rfl
      refine ⟨_, rfl, .inr ⟨_, _, _, _, rfl, hy _ (List.mem_of_getElem? e1) _, (by simp; rfl), by simp; omega, ?_⟩⟩
      rw [List.take_succ, e1, List.map_append]
      simp)
    xs.length 0 [] (g ++ [.lst []]) (by omega) ⟨by simp, rfl⟩
  obtain ⟨acc, h, e1, rfl, rfl⟩ := key
  rw [List.take_length] at e1
  exact e1
end HM
set_option Elab.async false
set_option linter.all false
set_option maxRecDepth 100000
set_option maxHeartbeats 4000000
namespace G
open PySem L2 HM L
/-! ### the draws -/
theorem pow18 {h : LH} : dPow (.int 10) (.int 18) h = .ok (.int 1000000000000000000) h := by
  show (if (0 : Int) ≤ 18 ∧ (18 : Int) ≤ 1000000 ∧ (10 : Int).natAbs < 2 ^ 64 then Res.ok (D.int (10 ^ (18 : Int).toNat)) h else .bad) = _
  rw [if_pos ⟨by decide, by decide, by decide⟩]
  rfl
theorem abs_int {h : LH} {i : Int} : dAbs [.int i] h = .ok (.int (if i < 0 then -i else i)) h := rfl
theorem sl_ref' {h : LH} {r : Nat} {xs : List D} {lo hi : Option Int} (hr : h[r]? = some (.lst xs)) : dSl (.ref r) lo hi h = .ok (.ref h.length) (h ++ [.lst (cutD xs lo hi)]) := by
  unfold dSl seqD
  simp only [hr]
theorem sl_scr {h : LH} {ns : List Int} {lo hi : Option Int} : dSl (.scr ns) lo hi h = .ok (.ref h.length) (h ++ [.lst (cutD (ns.map D.int) lo hi)]) := rfl
structure Wr (r : Nat) (g0 g : LH) : Prop where
  le : g.length = g0.length
  ne : ∀ i, i ≠ r → g[i]? = g0[i]?
theorem Wr.set {r : Nat} {g0 g : LH} {o : LO} (w : Wr r g0 g) : Wr r g0 (g.set r o) := ⟨by simpa using w.le, fun i hi => by rw [List.getElem?_set_ne (Ne.symm hi)]; exact w.ne i hi⟩
def Nn (xs : List Int) : Prop := ∀ x ∈ xs, 0 ≤ x
theorem Nn.snoc {xs : List Int} {v : Int} (h : Nn xs) (hv : 0 ≤ v) : Nn (xs ++ [v]) := fun x hx => by
  rcases List.mem_append.mp hx with hx | hx
  · exact h x hx
  · rw [List.mem_singleton.mp hx]; exact hv
theorem app_int {h : LH} {r : Nat} {xs : List Int} {v : Int} (hr : h[r]? = some (.lst (xs.map D.int))) (hl : xs.length < 16777216) : dAppend (.ref r) [.int v] h = .ok .non (h.set r (.lst ((xs ++ [v]).map D.int))) := by
  rw [dAppend_ref hr (by simpa using hl)]
  simp
def IB : MS := (sSeq (sIf (mTst (mOp dGt (mVar 5) (mC (.int 0)))) (sExpr (mMet isLst dAppend (mVar 3) (mCons (mOp dMod (mApp dInt (mCons (mVar 5) mNil)) (mC (.int 1000000))) mNil))) sNil)
    (sSet 5 (mOp dDiv (mVar 5) (mC (.int 1000000)))))
theorem inner_ok {a b c d e f : Option D} {r : Nat} {n : Int} {xs : List Int} {g0 : LH} (h0 : 0 ≤ n) (hr : g0[r]? = some (.lst (xs.map D.int))) (hx : Nn xs) (hl : xs.length ≤ 100000) :
    ∃ m xs' v g, loopF (itN 24) (.nm 7) IB 24 0 [a, b, c, some (.ref r), d, some (.int n), e, f] g0 = .next [a, b, c, some (.ref r), d, some (.int m), e, v] g ∧ Wr r g0 g ∧ g[r]? = some (.lst (xs'.map D.int)) ∧ Nn xs' ∧ xs'.length ≤ xs.length + 24 := by
  refine loopF_gen (N := 24) (fun j => .int j) (fun j env g => ∃ m xs' v, env = [a, b, c, some (.ref r), d, some (.int m), e, v] ∧ 0 ≤ m ∧ Wr r g0 g ∧ g[r]? = some (.lst (xs'.map D.int)) ∧ Nn xs' ∧ xs'.length ≤ xs.length + j)
    (fun z => ∃ m xs' v g, z = .next [a, b, c, some (.ref r), d, some (.int m), e, v] g ∧ Wr r g0 g ∧ g[r]? = some (.lst (xs'.map D.int)) ∧ Nn xs' ∧ xs'.length ≤ xs.length + 24)
    (fun j e h hj _ => rfl) ?_ ?_ 24 0 _ _ (by omega) ⟨n, xs, f, rfl, h0, ⟨rfl, fun _ _ => rfl⟩, hr, hx, by omega⟩
  · rintro j env g hj ⟨m, xs', v, rfl, hm, hw, hg, hn, hl'⟩
    refine ⟨_, rfl, ?_⟩
    unfold IB
    have d0 : 0 ≤ m / 1000000 := Int.ediv_nonneg hm (by decide)
    by_cases q : 0 < m
    · have hm0 : 0 ≤ m % 1000000 := Int.emod_nonneg _ (by decide)
      simp -implicitDefEqProofs [ev_seq, dGt_int, q, dInt_int, dMod_int (show (0 : Int) < 1000000 by decide), isLst_ref hg, app_int hg (v := m % 1000000) (by omega), dDiv_int (show (0 : Int) < 1000000 by decide) (show (1000000 : Int).natAbs.log2 < 9000 by decide)]
      refine ⟨d0, hw.set, xs' ++ [m % 1000000], ?_, hn.snoc hm0, by simp; omega⟩
      rw [List.getElem?_set_self (lt_of_get hg)]
      simp
    · simp -implicitDefEqProofs [ev_seq, dGt_int, q, dInt_int, dDiv_int (show (0 : Int) < 1000000 by decide) (show (1000000 : Int).natAbs.log2 < 9000 by decide)]
      exact ⟨d0, hw, xs', hg, hn, by omega⟩
  · rintro env g ⟨m, xs', v, rfl, hm, hw, hg, hn, hl'⟩
    exact ⟨m, xs', v, g, rfl, hw, hg, hn, hl'⟩
def LBody : MS := (sSeq (sSet 5 (mApp dAbs (mCons (mApp dInt (mCons (mVar 4) mNil)) mNil)))
    (sIf (mTst (mOp dLt (mVar 5) (mOp dPow (mC (.int 10)) (mC (.int 18))))) (sSeq (sSet 6 (mOp dMod (mApp dInt (mCons (mOp dAdd (mOp dMul (mVar 5) (mC (.int 39373))) (mC (.int 23))) mNil)) (mC (.int 2147483647))))
    (sSeq (sExpr (mMet isLst dAppend (mVar 3) (mCons (mVar 5) mNil)))
    (sSeq (sExpr (mMet isLst dAppend (mVar 3) (mCons (mOp dDiv (mOp dMod (mApp dInt (mCons (mOp dAdd (mOp dAdd (mOp dMul (mVar 6) (mC (.int 16807))) (mOp dDiv (mVar 5) (mC (.int 6)))) (mC (.int 3))) mNil)) (mC (.int 2147483399))) (mC (.int 3))) mNil)))
    (sExpr (mMet isLst dAppend (mVar 3) (mCons (mOp dDiv (mOp dMod (mApp dInt (mCons (mOp dAdd (mOp dAdd (mOp dMul (mVar 6) (mC (.int 69621))) (mOp dDiv (mVar 5) (mC (.int 11)))) (mC (.int 8))) mNil)) (mC (.int 2147483629))) (mC (.int 7))) mNil)))))) (sFor (iRng1M (mCons (mC (.int 24)) mNil)) (.nm 7) (sSeq (sIf (mTst (mOp dGt (mVar 5) (mC (.int 0)))) (sExpr (mMet isLst dAppend (mVar 3) (mCons (mOp dMod (mApp dInt (mCons (mVar 5) mNil)) (mC (.int 1000000))) mNil))) sNil)
    (sSet 5 (mOp dDiv (mVar 5) (mC (.int 1000000))))))))
theorem draws_ok {ns : List Int} {h : LH} (hn : ns.length ≤ 63) : ∃ r xs h', f__law_draws [.scr ns, .int 1, .int 8] h = .ok (.ref r) h' ∧ h.length ≤ r ∧ h'[r]? = some (.lst (xs.map D.int)) ∧ xs.length ≤ 8 ∧ Nn xs ∧ Kp h h' := by
  unfold f__law_draws
  rw [mkF_eq (by rfl)]
  rw [show b__law_draws = sSeq (sSet 3 (mLst mNil)) (sSeq (sFor (iAny (mSl (mVar 0) (mPart (mVar 1)) mNoP)) (.nm 4) LBody) (sRet (mSl (mVar 3) mNoP (mPart (mVar 2))))) from rfl]
  obtain ⟨ms, qms⟩ : ∃ ms, ms = ns.drop 1 := ⟨_, rfl⟩
  have hn : ms.length ≤ 63 := by rw [qms, List.length_drop]; omega
  have key := loopF_obj (r := h.length + 1) (xs := ms.map D.int) (t := .nm 4) (e := [some (.scr ns), some (.int 1), some (.int 8), some (.ref h.length), none, none, none, none]) (h := (h ++ [.lst []]) ++ [.lst (ms.map D.int)])
    (body := LBody)
    (fun j env g => ∃ xs v4 v5 v6 v7, env = [some (.scr ns), some (.int 1), some (.int 8), some (.ref h.length), v4, v5, v6, v7] ∧ Wr h.length ((h ++ [.lst []]) ++ [.lst (ms.map D.int)]) g ∧ g[h.length]? = some (.lst (xs.map D.int)) ∧ Nn xs ∧ xs.length ≤ 24 * j)
    (fun z => ∃ xs env g, z = .next env g ∧ env[3]? = some (some (.ref h.length)) ∧ env[2]? = some (some (.int 8)) ∧ Wr h.length ((h ++ [.lst []]) ++ [.lst (ms.map D.int)]) g ∧ g[h.length]? = some (.lst (xs.map D.int)) ∧ Nn xs)
    (fun j e g ⟨_, _, _, _, _, _, hw, _⟩ => by rw [hw.ne _ (by omega)]; simp)
    (fun j d env g hd => by
      rintro ⟨xs, v4, v5, v6, v7, rfl, hw, hg, hx, hl⟩
      rw [List.getElem?_map] at hd
      cases ed : ms[j]? with
      | none => rw [ed] at hd; cases hd
      | some i =>
        rw [ed] at hd
        cases hd
        have hj := lt_of_get ed
        refine ⟨_, rfl, ?_⟩
        unfold LBody
        obtain ⟨n, en, n0⟩ : ∃ n, (if i < 0 then -i else i) = n ∧ 0 ≤ n := ⟨_, rfl, by split <;> omega⟩
        by_cases q : n < 1000000000000000000
        · have k1 : mulOk n 39373 = true := mulOk_r (by decide)
          obtain ⟨m, em, m0, m1⟩ : ∃ m, (n * 39373 + 23) % 2147483647 = m ∧ 0 ≤ m ∧ m < 2147483647 := ⟨_, rfl, Int.emod_nonneg _ (by decide), Int.emod_lt_of_pos _ (by decide)⟩
          have k2 : mulOk m 16807 = true := mulOk_r (by decide)
          have k3 : mulOk m 69621 = true := mulOk_r (by decide)
          obtain ⟨a, ea, a0⟩ : ∃ a, (m * 16807 + n / 6 + 3) % 2147483399 / 3 = a ∧ 0 ≤ a := ⟨_, rfl, Int.ediv_nonneg (Int.emod_nonneg _ (by decide)) (by decide)⟩
          obtain ⟨b, eb, b0⟩ : ∃ b, (m * 69621 + n / 11 + 8) % 2147483629 / 7 = b ∧ 0 ≤ b := ⟨_, rfl, Int.ediv_nonneg (Int.emod_nonneg _ (by decide)) (by decide)⟩
          have g1 : (g.set h.length (.lst ((xs ++ [n]).map D.int)))[h.length]? = some (.lst ((xs ++ [n]).map D.int)) := List.getElem?_set_self (lt_of_get hg)
          have g2 : ((g.set h.length (.lst ((xs ++ [n]).map D.int))).set h.length (.lst (((xs ++ [n]) ++ [a]).map D.int)))[h.length]? = some (.lst (((xs ++ [n]) ++ [a]).map D.int)) := List.getElem?_set_self (by simpa using lt_of_get hg)
          have e1 := isLst_ref hg
          have e2 := isLst_ref g1
          have e3 := isLst_ref g2
          have f1 := app_int hg (v := n) (by omega)
          have f2 := app_int g1 (v := a) (by simp; omega)
          have f3 := app_int g2 (v := b) (by simp; omega)
          generalize hG1 : g.set h.length (.lst ((xs ++ [n]).map D.int)) = G1 at g1 g2 e2 e3 f1 f2 f3
          generalize hG2 : G1.set h.length (.lst (((xs ++ [n]) ++ [a]).map D.int)) = G2 at g2 e3 f2 f3
          simp -implicitDefEqProofs [ev_seq, dInt_int, abs_int, en, dLt_int, pow18, q, dMul_int k1, dMul_int k2, dMul_int k3, dAdd_int, em, dMod_int (show (0 : Int) < 2147483647 by decide), dMod_int (show (0 : Int) < 2147483399 by decide), dMod_int (show (0 : Int) < 2147483629 by decide),
            dDiv_int (show (0 : Int) < 6 by decide) (show (6 : Int).natAbs.log2 < 9000 by decide), dDiv_int (show (0 : Int) < 11 by decide) (show (11 : Int).natAbs.log2 < 9000 by decide), dDiv_int (show (0 : Int) < 3 by decide) (show (3 : Int).natAbs.log2 < 9000 by decide),
            dDiv_int (show (0 : Int) < 7 by decide) (show (7 : Int).natAbs.log2 < 9000 by decide), ea, eb, e1, f1, e2, f2, e3, f3]
          have W3 : Wr h.length ((h ++ [.lst []]) ++ [.lst (ms.map D.int)]) (G2.set h.length (.lst ((((xs ++ [n]) ++ [a]) ++ [b]).map D.int))) := by rw [← hG2, ← hG1]; exact hw.set.set.set
          have V3 : (G2.set h.length (.lst ((((xs ++ [n]) ++ [a]) ++ [b]).map D.int)))[h.length]? = some (.lst ((((xs ++ [n]) ++ [a]) ++ [b]).map D.int)) := List.getElem?_set_self (lt_of_get g2)
          exact ⟨by simpa using W3, ((xs ++ [n]) ++ [a]) ++ [b], by simpa using V3, ((hx.snoc n0).snoc a0).snoc b0, by simp; omega⟩
        · obtain ⟨m, xs', v, g', e1, w1, g1, x1, l1⟩ := inner_ok (a := some (.scr ns)) (b := some (.int 1)) (c := some (.int 8)) (d := some (.int i)) (e := v6) (f := v7) n0 hg hx (by omega)
          unfold IB at e1
          simp -implicitDefEqProofs [ev_seq, dInt_int, abs_int, en, dLt_int, pow18, q, rng1_nat (n := 24) (show (mCons (mC (.int 24)) mNil) [some (.scr ns), some (.int 1), some (.int 8), some (.ref h.length), some (.int i), some (.int n), v6, v7] g = .ok [.int (24 : Nat)] g from rfl) (by decide), e1]
          have W3 : Wr h.length ((h ++ [.lst []]) ++ [.lst (ms.map D.int)]) g' := ⟨w1.le.trans hw.le, fun k hk => (w1.ne k hk).trans (hw.ne k hk)⟩
          exact ⟨by simpa using W3, xs', g1, x1, by omega⟩)
    (fun env g => by
      rintro ⟨xs, v4, v5, v6, v7, rfl, hw, hg, hx, hl⟩
      exact ⟨xs, _, g, rfl, rfl, rfl, hw, hg, hx⟩)
    ⟨[], none, none, none, none, rfl, ⟨rfl, fun _ _ => rfl⟩, by simp, fun x hx => (by cases hx), by simp⟩
  obtain ⟨xs, env, g, e1, e3, e2, hw, hg, hx⟩ := key
  rw [List.length_map] at e1
  have c0 : cutD (ns.map D.int) (some 1) none = ms.map D.int := by rw [cut_from (by decide), qms, List.map_drop]; rfl
  have hl0 : (h ++ [LO.lst []]).length = h.length + 1 := by simp
  refine ⟨g.length, xs.take 8, g ++ [.lst ((xs.take 8).map D.int)], ?_, ?_, by simp, by simp; omega, fun x hm => hx x (List.mem_of_mem_take hm), ?_⟩
  · simp -implicitDefEqProofs [ev_seq, sl_scr, c0, hl0]
    simp -implicitDefEqProofs at e1
    simp -implicitDefEqProofs [e1, e3, e2, sl_ref' hg, cut_to (show (0 : Int) ≤ 8 by decide)]
  · have := hw.le; simp at this; omega
  · have hl := hw.le
    simp at hl
    refine ⟨by simp; omega, fun i hi => ?_⟩
    rw [List.getElem?_append_left (by omega), hw.ne i (by omega), List.append_assoc, List.getElem?_append_left hi]
theorem cell2_ok {ns : List Int} {h : LH} : ∃ c : Int, 0 ≤ c ∧ f__law_cell_v2 [.scr ns, .int 0] h = .ok (.int c) h := by
  unfold f__law_cell_v2
  rw [mkF_eq (by rfl)]
  rw [show (List.map some [D.scr ns, .int 0] ++ List.replicate (2 - 2) none : EN) = [some (.scr ns), some (.int 0)] from rfl]
  rw [show b__law_cell_v2 = sSeq s__law_cell_v2_1 s__law_cell_v2_2 from rfl]
  cases ns with
  | nil =>
    have d1 : ¬ (0 : Int) < (([] : List Int).length : Int) := by simp
    refine ⟨0, by decide, ?_⟩
    rw [ev_seq]; simp -implicitDefEqProofs [s__law_cell_v2_1, dLen_scr, dLt_int]
    rfl
  | cons n ns =>
    have ex : dIx (.scr (n :: ns)) (.int 0) h = .ok (.int n) h := dIx_scr (by decide) rfl
    have d1 : 0 < (n :: ns).length := by simp
    obtain ⟨c, qc, c0⟩ : ∃ c, (if n < 0 then -n else n) = c ∧ 0 ≤ c := ⟨_, rfl, by split <;> omega⟩
    refine ⟨c, c0, ?_⟩
    generalize n :: ns = ms at ex d1 ⊢
    rw [ev_seq]; simp -implicitDefEqProofs [s__law_cell_v2_1, dLen_scr, dLt_int, d1, ex, dInt_int, abs_int, qc]
end G
set_option Elab.async false
set_option linter.all false
set_option maxRecDepth 100000
set_option maxHeartbeats 4000000
namespace G
open HM PySem L2 L
/-! ### which patterns cover a path -/
theorem mapK_ok {g : LH} {n i : Nat} {e : EN} {y : M D} {f : Nat → D} (hn : n ≤ 1000000) (hy : ∀ j h, j < n → Kp g h → ∃ h', y (e.set i (some (.int (j : Nat)))) h = .ok (f j) h' ∧ Kp h h') :
    ∃ h', loopC (itN n) (.nm i) mYes y e g.length n 0 (g ++ [.lst []]) = .ok (.ref g.length) h' ∧ h'[g.length]? = some (.lst ((List.range n).map f)) ∧ Kp g h' := by
  have key := loopC_gen (g := itN n) (t := .nm i) (c := mYes) (y := y) (e := e) (k := g.length) (N := n) (fun j => .int (j : Nat)) (fun j acc h => acc = (List.range j).map f ∧ h[g.length]? = some (.lst acc) ∧ Kp g h)
    (fun j acc h hj hi => rfl)
    (fun j acc h hj hi => hi.2.1)
    (fun j acc h hj hi => by
      obtain ⟨rfl, ha, K⟩ := hi
      obtain ⟨h', ey, K'⟩ := hy j h hj K
      have ha' := K'.get ha
      refine ⟨_, rfl, .inr ⟨_, _, _, _, rfl, ey, ha', by simp; omega, ?_, List.getElem?_set_self (lt_of_get ha'), (K.trans K').set (Nat.le_refl _)⟩⟩
      rw [List.range_succ, List.map_append]
      rfl)
    n 0 [] (g ++ [.lst []]) (by omega) ⟨rfl, by simp, Kp.push _ _⟩
  obtain ⟨acc, h, e1, rfl, ha, K⟩ := key
  exact ⟨h, e1, ha, K⟩
theorem bls_map : ∀ bs : List Bool, blsD (bs.map D.bl) = some bs
  | [] => rfl
  | b :: bs => by
    show (match blsD (bs.map D.bl) with
      | some bs => some (b :: bs)
      | none => none) = _
    rw [bls_map bs]
theorem any_ok {h : LH} {r : Nat} {bs : List Bool} (hr : h[r]? = some (.lst (bs.map D.bl))) : dAny [.ref r] h = .ok (.bl (bs.any id)) h := by
  unfold dAny
  simp only [hr, bls_map]
theorem all_ok {h : LH} {r : Nat} {bs : List Bool} (hr : h[r]? = some (.lst (bs.map D.bl))) : dAll [.ref r] h = .ok (.bl (bs.all id)) h := by
  unfold dAll
  simp only [hr, bls_map]
def fitF : List Nat → List Nat → Bool
  | [], p => decide (p = [])
  | c :: m, p => if c = 42 then (List.range (p.length + 1)).any (fun k => fitF m (p.drop k)) else match p with
    | [] => false
    | d :: q => decide (c = d) && fitF m q
theorem fits_ok : ∀ (m : List Nat) (n : Nat), m.length + 1 ≤ n → m.length ≤ 1000 → ∀ (p : List Nat) (h : LH), p.length ≤ 1000 → ∃ h', F__law_fits_v2 n 0 [.str m, .str p] h = .ok (.bl (fitF m p)) h' ∧ Kp h h'
  | m, 0, hn, _, _, _, _ => by omega
  | [], n + 1, hn, hm, p, h, hp => by
    have s0 : S "" = .str [] := rfl
    refine ⟨h, ?_, Kp.refl h⟩
    unfold F__law_fits_v2
    rw [mkF_eq (by rfl)]
    rw [show b__law_fits_v2 (F__law_fits_v2 n) = sSeq (s__law_fits_v2_1 (F__law_fits_v2 n)) (sSeq (s__law_fits_v2_2 (F__law_fits_v2 n)) (s__law_fits_v2_3 (F__law_fits_v2 n))) from rfl]
    rw [ev_seq]; simp -implicitDefEqProofs [s__law_fits_v2_1, s0, dEq_str, fitF]
  | c :: m, n + 1, hn, hm, p, h, hp => by
    have s0 : S "" = .str [] := rfl
    have s1 : S "*" = .str [42] := rfl
    have i0 : ∀ g, dIx (.str (c :: m)) (.int 0) g = .ok (.str [c]) g := fun g => dIx_str (by omega) (atI_of (by decide) rfl)
    have sm : ∀ g, dSl (.str (c :: m)) (some 1) none g = .ok (.str m) g := fun g => by rw [dSl_str (by omega), cut_from (by decide)]; rfl
    have ih := fits_ok m n (by simp at hn; omega) (by simp at hm; omega)
    obtain ⟨cm, qcm⟩ : ∃ cm, cm = c :: m := ⟨_, rfl⟩
    have e0 : decide (cm = []) = false := by rw [qcm]; rfl
    obtain ⟨R, qR⟩ : ∃ R, R = F__law_fits_v2 n := ⟨_, rfl⟩
    rw [← qcm] at i0 sm ⊢
    unfold F__law_fits_v2
    rw [mkF_eq (by rfl)]
    rw [← qR] at ih ⊢
    rw [show (List.map some [D.str cm, .str p] ++ List.replicate (3 - 2) none : EN) = [some (.str cm), some (.str p), none] from rfl]
    rw [show b__law_fits_v2 R = sSeq (s__law_fits_v2_1 R) (sSeq (s__law_fits_v2_2 R) (s__law_fits_v2_3 R)) from rfl]
    have b1 : s__law_fits_v2_1 R [some (.str cm), some (.str p), none] h = .next [some (.str cm), some (.str p), none] h := by
      rw [show s__law_fits_v2_1 R = sIf (mTst (mOp dEq (mVar 0) (mC (S "")))) (sRet (mOp dEq (mVar 1) (mC (S "")))) sNil from rfl]
      have e0' : ¬ cm = [] := by rw [qcm]; simp
      simp -implicitDefEqProofs [s0, dEq_str, e0']
    rw [ev_seq, b1]
    dsimp only
    by_cases q : c = 42
    · have key := mapK_ok (g := h) (n := p.length + 1) (i := 2) (e := [some (.str cm), some (.str p), none]) (y := s__law_fits_v2_2y R) (f := fun k => .bl (fitF m (p.drop k))) (by omega) (fun j g hj _ => by
        obtain ⟨g', eg, K⟩ := ih (p.drop j) g (by simp; omega)
        have sp : dSl (.str p) (some (j : Nat)) none g = .ok (.str (p.drop j)) g := by rw [dSl_str (by omega), cut_from (by omega), Int.toNat_natCast]
        refine ⟨g', ?_, K⟩
        rw [show s__law_fits_v2_2y R = mApp (R 0) (mCons (mSl (mVar 0) (mPart (mC (.int 1))) mNoP) (mCons (mSl (mVar 1) (mPart (mVar 2)) mNoP) mNil)) from rfl]
        generalize ((j : Nat) : Int) = ji at sp ⊢
        simp -implicitDefEqProofs [mPart, sm, sp, eg])
      obtain ⟨g, el, hg, K⟩ := key
      have hm' : (List.range (p.length + 1)).map (fun k => D.bl (fitF m (p.drop k))) = ((List.range (p.length + 1)).map fun k => fitF m (p.drop k)).map D.bl := by rw [List.map_map]; rfl
      rw [hm'] at hg
      have ea := any_ok hg
      rw [List.any_map] at ea
      have ll := dLen_str (h := h) (s := p) (by omega)
      have er := rng1_nat (n := p.length + 1) (a := mCons (mOp dAdd (mApp dLen (mCons (mVar 1) mNil)) (mC (.int 1))) mNil) (e := [some (.str cm), some (.str p), none]) (h := h) (h1 := h) (by simp -implicitDefEqProofs [ll, dAdd_int]) (by omega)
      have il : mLc (iRng1M (mCons (mOp dAdd (mApp dLen (mCons (mVar 1) mNil)) (mC (.int 1))) mNil)) (.nm 2) mYes (s__law_fits_v2_2y R) [2] [some (.str cm), some (.str p), none] h = .ok (.ref h.length) g := by
        rw [ev_lc, er, bind_ok]
        exact el
      have hf : fitF (c :: m) p = (List.range (p.length + 1)).any (id ∘ fun k => fitF m (p.drop k)) := by
        show (if c = 42 then _ else _) = _
        rw [if_pos q]
        rfl
      rw [← hf, ← qcm] at ea
      refine ⟨g, ?_, K⟩
      rw [show s__law_fits_v2_2 R = sIf (mTst (mOp dEq (mOp dIx (mVar 0) (mC (.int 0))) (mC (S "*")))) (sRet (mApp dAny (mCons (mLc (iRng1M (mCons (mOp dAdd (mApp dLen (mCons (mVar 1) mNil)) (mC (.int 1))) mNil)) (.nm 2) mYes (s__law_fits_v2_2y R) [2]) mNil))) sNil from rfl]
      generalize mLc (iRng1M (mCons (mOp dAdd (mApp dLen (mCons (mVar 1) mNil)) (mC (.int 1))) mNil)) (.nm 2) mYes (s__law_fits_v2_2y R) [2] = ML at il ⊢
      generalize fitF cm p = ff at ea ⊢
      rw [ev_seq]; simp -implicitDefEqProofs [i0, s1, dEq_str, q, il, ea]
    · have b2 : s__law_fits_v2_2 R [some (.str cm), some (.str p), none] h = .next [some (.str cm), some (.str p), none] h := by
        rw [show s__law_fits_v2_2 R = sIf (mTst (mOp dEq (mOp dIx (mVar 0) (mC (.int 0))) (mC (S "*")))) (sRet (mApp dAny (mCons (mLc (iRng1M (mCons (mOp dAdd (mApp dLen (mCons (mVar 1) mNil)) (mC (.int 1))) mNil)) (.nm 2) mYes (s__law_fits_v2_2y R) [2]) mNil))) sNil from rfl]
        generalize mLc (iRng1M (mCons (mOp dAdd (mApp dLen (mCons (mVar 1) mNil)) (mC (.int 1))) mNil)) (.nm 2) mYes (s__law_fits_v2_2y R) [2] = ML
        simp -implicitDefEqProofs [i0, s1, dEq_str, q]
      rw [ev_seq, b2]
      dsimp only
      rw [show s__law_fits_v2_3 R = sRet (mAnd (mOp dNe (mVar 1) (mC (S ""))) (mAnd (mOp dEq (mOp dIx (mVar 0) (mC (.int 0))) (mOp dIx (mVar 1) (mC (.int 0)))) (mApp (R 0) (mCons (mSl (mVar 0) (mPart (mC (.int 1))) mNoP) (mCons (mSl (mVar 1) (mPart (mC (.int 1))) mNoP) mNil))))) from rfl]
      cases p with
      | nil =>
        have hf : fitF (c :: m) [] = false := by
          show (if c = 42 then _ else false) = _
          rw [if_neg q]
        rw [← qcm] at hf
        rw [hf]
        refine ⟨h, ?_, Kp.refl h⟩
        simp -implicitDefEqProofs [s0, dNe_str]
      | cons d p =>
        have hf : fitF (c :: m) (d :: p) = (decide (c = d) && fitF m p) := by
          show (if c = 42 then _ else (decide (c = d) && fitF m p)) = _
          rw [if_neg q]
        rw [← qcm] at hf
        rw [hf]
        have j0 : ∀ g, dIx (.str (d :: p)) (.int 0) g = .ok (.str [d]) g := fun g => dIx_str (by omega) (atI_of (by decide) rfl)
        have sp : ∀ g, dSl (.str (d :: p)) (some 1) none g = .ok (.str p) g := fun g => by rw [dSl_str (by omega), cut_from (by decide)]; rfl
        obtain ⟨g', eg, K⟩ := ih p h (by simp at hp; omega)
        obtain ⟨dp, qdp⟩ : ∃ dp, dp = d :: p := ⟨_, rfl⟩
        have e1 : ¬ dp = [] := by rw [qdp]; simp
        rw [← qdp] at j0 sp ⊢
        by_cases q2 : c = d
        · refine ⟨g', ?_, K⟩
          simp -implicitDefEqProofs [s0, dNe_str, e1, i0, j0, dEq_str, q2, mPart, sm, sp, eg]
        · refine ⟨h, ?_, Kp.refl h⟩
          simp -implicitDefEqProofs [s0, dNe_str, e1, i0, j0, dEq_str, q2]
/-! law's covers -/
def lcv (path w : List Nat) : Bool := decide ((cut1 47 [] w).length = (cut1 47 [] path).length) && (List.range (cut1 47 [] path).length).all fun k => fitF ((cut1 47 [] w).getD k []) ((cut1 47 [] path).getD k [])
theorem strs_ix {h : LH} {r j : Nat} {xs : List (List Nat)} (hr : h[r]? = some (.lst (xs.map D.str))) (hj : j < xs.length) : dIx (.ref r) (.int (j : Nat)) h = .ok (.str (xs.getD j [])) h := dIx_ref hr (atI_of (by omega) (by
  rw [Int.toNat_natCast, List.getElem?_map, List.getD_eq_getElem?_getD, List.getElem?_eq_getElem hj]
  rfl))
theorem getD_len {xs : List (List Nat)} {n : Nat} (h : ∀ p ∈ xs, p.length ≤ n) (j : Nat) : (xs.getD j []).length ≤ n := by
  rw [List.getD_eq_getElem?_getD]
  cases e : xs[j]? with
  | none => simp
  | some x => exact h x (List.mem_of_getElem? e)
theorem cov2_step {path w : List Nat} {ps : D} {R2 : Nat} {v4 v5 : Option D} {h : LH} (hw : w.length ≤ 20) (hp : path.length ≤ 100) (h2 : h[R2]? = some (.lst ((cut1 47 [] path).map D.str))) :
    ∃ v4' h', Kp h h' ∧ s__law_covers_v2_2b [some ps, some (.str path), some (.ref R2), some (.str w), v4, v5] h = if lcv path w then .ret (.bl true) h' else .next [some ps, some (.str path), some (.ref R2), some (.str w), v4', v5] h' := by
  have s1 : S "/" = .str [47] := rfl
  have es := dSplit_one (s := w) (k := 47) (h := h) (by decide) (by omega)
  obtain ⟨W, qW⟩ : ∃ W, W = cut1 47 [] w := ⟨_, rfl⟩
  obtain ⟨P, qP⟩ : ∃ P, P = cut1 47 [] path := ⟨_, rfl⟩
  have lW : ∀ p ∈ W, p.length ≤ 20 := fun p hp' => by rw [qW] at hp'; have := cut1_le 47 w [] p hp'; simp at this; omega
  have lP : ∀ p ∈ P, p.length ≤ 100 := fun p hp' => by rw [qP] at hp'; have := cut1_le 47 path [] p hp'; simp at this; omega
  have cP : P.length ≤ 101 := by rw [qP]; have := cut1_cnt 47 path []; omega
  rw [← qW] at es
  rw [← qP] at h2
  obtain ⟨h1, q1⟩ : ∃ h1, h1 = h ++ [LO.lst (W.map D.str)] := ⟨_, rfl⟩
  rw [← q1] at es
  have K1 : Kp h h1 := by rw [q1]; exact Kp.push _ _
  have h41 : h1[h.length]? = some (.lst (W.map D.str)) := by rw [q1]; simp
  have h21 := K1.get h2
  have l4 := dLen_ref h41
  have l2 := dLen_ref h21
  rw [List.length_map] at l4 l2
  have hl : lcv path w = (decide (W.length = P.length) && (List.range P.length).all fun k => fitF (W.getD k []) (P.getD k [])) := by rw [qW, qP]; rfl
  rw [hl]
  have b1 : s__law_covers_v2_2b_1 [some ps, some (.str path), some (.ref R2), some (.str w), v4, v5] h = .next [some ps, some (.str path), some (.ref R2), some (.str w), some (.ref h.length), v5] h1 := by
    have iS : isStr (.str w) h = true := rfl
    unfold s__law_covers_v2_2b_1
    simp -implicitDefEqProofs [s1, es, iS]
  rw [show s__law_covers_v2_2b = sSeq s__law_covers_v2_2b_1 s__law_covers_v2_2b_2 from rfl]
  have e2 : s__law_covers_v2_2b_2 = sIf (mTAnd (mTst (mOp dEq (mApp dLen (mCons (mVar 4) mNil)) (mApp dLen (mCons (mVar 2) mNil)))) (mTru (mApp dAll (mCons (mLc (iRng1M (mCons (mApp dLen (mCons (mVar 2) mNil)) mNil)) (.nm 5) mYes s__law_covers_v2_2b_2y [5]) mNil)))) (sRet (mC (.bl true))) sNil := rfl
  by_cases c : W.length = P.length
  · have key := mapK_ok (g := h1) (n := P.length) (i := 5) (e := [some ps, some (.str path), some (.ref R2), some (.str w), some (.ref h.length), none]) (y := s__law_covers_v2_2b_2y) (f := fun k => .bl (fitF (W.getD k []) (P.getD k []))) (by omega) (fun j g hj K => by
      have i4 := strs_ix (j := j) (K.get h41) (by omega)
      have i2 := strs_ix (j := j) (K.get h21) hj
      obtain ⟨g', eg, K'⟩ := fits_ok (W.getD j []) 24 (by have := getD_len lW j; omega) (by have := getD_len lW j; omega) (P.getD j []) g (by have := getD_len lP j; omega)
      refine ⟨g', ?_, K'⟩
      have ef : f__law_fits_v2 = F__law_fits_v2 24 0 := rfl
      rw [← ef] at eg
      unfold s__law_covers_v2_2b_2y
      generalize W.getD j [] = wj at i4 eg
      generalize P.getD j [] = pj at i2 eg
      generalize ((j : Nat) : Int) = ji at i4 i2 ⊢
      simp -implicitDefEqProofs [i4, i2, eg])
    obtain ⟨g, el, hg, K⟩ := key
    have hm' : (List.range P.length).map (fun k => D.bl (fitF (W.getD k []) (P.getD k []))) = ((List.range P.length).map fun k => fitF (W.getD k []) (P.getD k [])).map D.bl := by rw [List.map_map]; rfl
    rw [hm'] at hg
    have ea := all_ok hg
    rw [List.all_map] at ea
    have er := rng1_nat (n := P.length) (a := mCons (mApp dLen (mCons (mVar 2) mNil)) mNil) (e := [some ps, some (.str path), some (.ref R2), some (.str w), some (.ref h.length), v5]) (h := h1) (h1 := h1) (by simp -implicitDefEqProofs [l2]) (by omega)
    have il : mLc (iRng1M (mCons (mApp dLen (mCons (mVar 2) mNil)) mNil)) (.nm 5) mYes s__law_covers_v2_2b_2y [5] [some ps, some (.str path), some (.ref R2), some (.str w), some (.ref h.length), v5] h1 = .ok (.ref h1.length) g := by
      rw [ev_lc, er, bind_ok]
      exact el
    have hf : ((List.range P.length).all (id ∘ fun k => fitF (W.getD k []) (P.getD k []))) = ((List.range P.length).all fun k => fitF (W.getD k []) (P.getD k [])) := rfl
    rw [hf] at ea
    rw [decide_eq_true c, Bool.true_and]
    generalize ((List.range P.length).all fun k => fitF (W.getD k []) (P.getD k [])) = ff at ea ⊢
    have c' : (W.length : Int) = (P.length : Int) := by omega
    refine ⟨some (.ref h.length), g, K1.trans K, ?_⟩
    rw [ev_seq, b1]
    dsimp only
    rw [e2]
    generalize mLc (iRng1M (mCons (mApp dLen (mCons (mVar 2) mNil)) mNil)) (.nm 5) mYes s__law_covers_v2_2b_2y [5] = ML at il ⊢
    cases ff with
    | true => simp -implicitDefEqProofs [l4, l2, dEq_int, c, il, ea, truD]
    | false => simp -implicitDefEqProofs [l4, l2, dEq_int, c, il, ea, truD]
  · rw [decide_eq_false c, Bool.false_and]
    refine ⟨some (.ref h.length), h1, K1, ?_⟩
    rw [if_neg (by decide)]
    rw [ev_seq, b1]
    dsimp only
    rw [e2]
    generalize mLc (iRng1M (mCons (mApp dLen (mCons (mVar 2) mNil)) mNil)) (.nm 5) mYes s__law_covers_v2_2b_2y [5] = ML
    have c' : ¬ (W.length : Int) = (P.length : Int) := by omega
    simp -implicitDefEqProofs [l4, l2, dEq_int, c']
theorem cov2_ok {path : List Nat} {ps : List D} {h : LH} (hp : path.length ≤ 100) (hs : ∀ d ∈ ps, d = .str (cd d) ∧ (cd d).length ≤ 20) : ∃ h', Kp h h' ∧ f__law_covers_v2 [.tup ps, .str path] h = .ok (.bl (ps.any fun d => lcv path (cd d))) h' := by
  have s1 : S "/" = .str [47] := rfl
  have es := dSplit_one (s := path) (k := 47) (h := h) (by decide) (by omega)
  obtain ⟨h1, q1⟩ : ∃ h1, h1 = h ++ [LO.lst ((cut1 47 [] path).map D.str)] := ⟨_, rfl⟩
  rw [← q1] at es
  have K1 : Kp h h1 := by rw [q1]; exact Kp.push _ _
  have h2 : h1[h.length]? = some (.lst ((cut1 47 [] path).map D.str)) := by rw [q1]; simp
  have key := loopF_list (t := .nm 3) (body := s__law_covers_v2_2b) (xs := ps)
    (fun j e g => Kp h1 g ∧ (∃ v3 v4 v5, e = [some (.tup ps), some (.str path), some (.ref h.length), v3, v4, v5]) ∧ ((ps.take j).any fun d => lcv path (cd d)) = false)
    (fun r => ∃ g, Kp h1 g ∧ if (ps.any fun d => lcv path (cd d)) then r = .ret (.bl true) g else ∃ e, r = .next e g)
    (fun j d e g hd => by
      rintro ⟨K, ⟨v3, v4, v5, rfl⟩, hf⟩
      have hm := List.mem_of_getElem? hd
      obtain ⟨hs1, hs2⟩ := hs d hm
      obtain ⟨v4', g', K', eb⟩ := cov2_step (path := path) (w := cd d) (ps := .tup ps) (R2 := h.length) (v4 := v4) (v5 := v5) hs2 hp (K.get h2)
      have hset : ([some (.tup ps), some (.str path), some (.ref h.length), v3, v4, v5] : EN).set 3 (some d) = [some (.tup ps), some (.str path), some (.ref h.length), some (.str (cd d)), v4, v5] := by rw [← hs1]; rfl
      refine ⟨_, rfl, ?_⟩
      rw [hset, eb]
      cases q : lcv path (cd d) with
      | true =>
        rw [if_pos rfl]
        dsimp only
        refine ⟨g', K.trans K', ?_⟩
        rw [if_pos (List.any_eq_true.mpr ⟨d, hm, q⟩)]
      | false =>
        rw [if_neg (by decide)]
        dsimp only
        refine ⟨K.trans K', ⟨_, _, _, rfl⟩, ?_⟩
        rw [List.take_succ, hd, List.any_append, hf]
        show (false || (lcv path (cd d) || false)) = false
        rw [q]
        rfl)
    (fun e g => by
      rintro ⟨K, _, hf⟩
      rw [List.take_length] at hf
      refine ⟨g, K, ?_⟩
      rw [hf, if_neg (by decide)]
      exact ⟨e, rfl⟩) (e := [some (.tup ps), some (.str path), some (.ref h.length), none, none, none]) (h := h1) ⟨Kp.refl _, ⟨_, _, _, rfl⟩, by simp⟩
  obtain ⟨g, K, key⟩ := key
  refine ⟨g, K1.trans K, ?_⟩
  unfold f__law_covers_v2
  rw [mkF_eq (by rfl)]
  rw [show (List.map some [D.tup ps, .str path] ++ List.replicate (6 - 2) none : EN) = [some (.tup ps), some (.str path), none, none, none, none] from rfl]
  rw [show b__law_covers_v2 = sSeq s__law_covers_v2_1 (sSeq (sFor (iAny (mVar 0)) (.nm 3) s__law_covers_v2_2b) (sRet (mC (.bl false)))) from rfl]
  have b1 : s__law_covers_v2_1 [some (.tup ps), some (.str path), none, none, none, none] h = .next [some (.tup ps), some (.str path), some (.ref h.length), none, none, none] h1 := by
    have iS : isStr (.str path) h = true := rfl
    unfold s__law_covers_v2_1
    simp -implicitDefEqProofs [s1, es, iS]
  rw [ev_seq, b1]
  dsimp only
  rw [ev_seq, ev_for]
  have ia : iAny (mVar 0) [some (.tup ps), some (.str path), some (.ref h.length), none, none, none] h1 = .ok (itL ps, ps.length) h1 := by simp -implicitDefEqProofs []
  rw [ia, rs_ok]
  dsimp only
  cases q : (ps.any fun d => lcv path (cd d)) with
  | true =>
    rw [q, if_pos rfl] at key
    rw [key]
  | false =>
    rw [q, if_neg (by decide)] at key
    obtain ⟨e, ek⟩ := key
    rw [ek]
    rfl
end G
set_option Elab.async false
set_option linter.all false
set_option maxRecDepth 100000
set_option maxHeartbeats 4000000
namespace HM
open PySem L2
/-! ### how long the text of a spoilt value can be -/
mutual
def szD : D → Nat
  | .str s => s.length + 21
  | .int _ => 21
  | .tup xs => szL xs + 2
  | _ => 0
def szL : List D → Nat
  | [] => 0
  | x :: xs => szD x + szL xs
end
mutual
def ibD : D → Bool
  | .int i => decide (i.natAbs < 100000000000000000000)
  | .tup xs => ibL xs
  | _ => true
def ibL : List D → Bool
  | [] => true
  | x :: xs => ibD x && ibL xs
end
structure W (d d' : D) : Prop where
  l : szD d' ≤ 2 * szD d + 1000
  i : ibD d' = true
end HM
set_option Elab.async false
set_option linter.all false
set_option maxRecDepth 100000
set_option maxHeartbeats 4000000
namespace HM
open PySem L2
/-! the law's own test -/
/-! edits -/
end HM
set_option Elab.async false
set_option linter.all false
set_option maxRecDepth 100000
set_option maxHeartbeats 4000000
namespace HM
open PySem L2
/-! ### roles drawn -/
end HM
set_option Elab.async false
set_option linter.all false
set_option maxRecDepth 100000
set_option maxHeartbeats 4000000
namespace HM
open PySem L2
/-! ### objects made step by step -/
structure At (g0 h : LH) (i : Nat) (c : String) (fs : List (String × D)) : Prop where
  k : Kp g0 h
  l : g0.length ≤ i
  o : h[i]? = some (.ins c fs)
theorem At.new (g : LH) (c : String) : At g (g ++ [.ins c []]) g.length c [] := ⟨Kp.push _ _, Nat.le_refl _, by simp⟩
theorem At.kp {g0 h h' : LH} {i : Nat} {c : String} {fs : List (String × D)} (a : At g0 h i c fs) (K : Kp h h') : At g0 h' i c fs := ⟨a.k.trans K, a.l, K.get a.o⟩
theorem At.push {g0 h : LH} {i : Nat} {c : String} {fs : List (String × D)} (a : At g0 h i c fs) (o : LO) : At g0 (h ++ [o]) i c fs := a.kp (Kp.push _ _)
/-! ### roles and times that a workshop takes -/
def chD (v x roles : D) : D := .tup [.str kCr, v, x, roles]
end HM
set_option Elab.async false
set_option linter.all false
set_option maxRecDepth 100000
set_option maxHeartbeats 4000000
namespace HM
open PySem L2
/-! ### the law's own digest and seal -/
end HM
set_option Elab.async false
set_option linter.all false
set_option maxRecDepth 100000
set_option maxHeartbeats 4000000
namespace HM
open PySem L2
/-! ### the law's own seal -/
end HM
set_option Elab.async false
set_option linter.all false
set_option maxRecDepth 100000
set_option maxHeartbeats 4000000
namespace HM
open PySem L2
/-! ### a workshop publishes -/
abbrev wsF (o dr pb kc ks sn : Nat) (nw : D) : List (String × D) := [("office", .ref o), ("draft", .ref dr), ("published", .ref pb), ("known_charters", .ref kc), ("known_stamps", .ref ks), ("snapshots", .ref sn), ("newest", nw)]
end HM
set_option Elab.async false
set_option linter.all false
set_option maxRecDepth 100000
set_option maxHeartbeats 4000000
namespace HM
open PySem L2
/-! ### a new workshop -/
structure Shop (h : LH) (w o dr pb kc ks sn : Nat) (kvs : List (KD × D)) (docs : List D) : Prop where
  hw : h[w]? = some (.ins "Workshop" (wsF o dr pb kc ks sn .non))
  hp : h[pb]? = some (.dK kvs)
  hc : h[kc]? = some (.lst docs)
  hs : h[ks]? = some (.lst [])
  hn : h[sn]? = some (.lst [])
theorem Shop.kp {h g : LH} {w o dr pb kc ks sn : Nat} {kvs : List (KD × D)} {docs : List D} (s : Shop h w o dr pb kc ks sn kvs docs) (k : Kp h g) : Shop g w o dr pb kc ks sn kvs docs := ⟨k.get s.hw, k.get s.hp, k.get s.hc, k.get s.hs, k.get s.hn⟩
def n1C : List Nat := [49, 46, 99, 104, 97, 114, 116, 101, 114]
theorem nm1 {x ro : D} : nmD (chD (.int 1) x ro) = n1C := by
  unfold chD
  rw [nm4]
  have : ¬ kCr = kSt := by decide +kernel
  rw [if_neg this]
  decide +kernel
end HM
set_option Elab.async false
set_option linter.all false
set_option maxRecDepth 100000
set_option maxHeartbeats 4000000
namespace HM
open PySem L2
section
variable {h : LH} {w o dr pb kc ks sn : Nat} {kvs : List (KD × D)} {docs : List D}
end
end HM
set_option Elab.async false
set_option linter.all false
set_option maxRecDepth 100000
set_option maxHeartbeats 4000000
namespace HM
open PySem L2
def rolesB (d : D) : Bool := match d with
  | .tup rs => decide (rs.length = 4) && rs.all isRole
  | _ => false
end HM
set_option Elab.async false
set_option linter.all false
set_option maxRecDepth 100000
set_option maxHeartbeats 4000000
namespace HM
open PySem L2
/-! ### the next charters -/
end HM
set_option Elab.async false
set_option linter.all false
set_option maxRecDepth 100000
set_option maxHeartbeats 4000000
namespace HM
open PySem L2
/-! ### a new workshop with its draft -/
structure Dr (h : LH) (dr pg pa fl : Nat) (kvF : List (KD × D)) : Prop where
  d : h[dr]? = some (.ins "Draft" [("pages", .ref pg)])
  p : h[pg]? = some (.dK [(.inr kLi, .ref pa)])
  q : ∃ fs, h[pa]? = some (.ins "Page" fs) ∧ getF "files" fs = some (.ref fl) ∧ getF "put" fs = none
  f : h[fl]? = some (.dK kvF)
theorem Dr.of {h g : LH} {dr pg pa fl : Nat} {kvF : List (KD × D)} (a : Dr h dr pg pa fl kvF) (e1 : g[dr]? = h[dr]?) (e2 : g[pg]? = h[pg]?) (e3 : g[pa]? = h[pa]?) (e4 : g[fl]? = h[fl]?) : Dr g dr pg pa fl kvF :=
  ⟨e1.trans a.d, e2.trans a.p, by obtain ⟨fs, x, y⟩ := a.q; exact ⟨fs, e3.trans x, y⟩, e4.trans a.f⟩
end HM
set_option Elab.async false
set_option linter.all false
set_option maxRecDepth 100000
set_option maxHeartbeats 4000000
namespace HM
open PySem L2
/-! ### roles and times drawn -/
structure Rs (ro : D) : Prop where
  ex : ∃ r0 r1 r2 r3, ro = .tup [r0, r1, r2, r3] ∧ isRole r0 = true ∧ isRole r1 = true ∧ isRole r2 = true ∧ isRole r3 = true
theorem Rs.b {ro : D} (q : Rs ro) : rolesB ro = true := by
  obtain ⟨r0, r1, r2, r3, rfl, h0, h1, h2, h3⟩ := q.ex
  show (decide (4 = 4) && [r0, r1, r2, r3].all isRole) = true
  simp [h0, h1, h2, h3]
theorem Rs.of {ro : D} (h : rolesB ro = true) : Rs ro := by
  unfold rolesB at h
  split at h
  · rename_i rs
    simp only [Bool.and_eq_true, decide_eq_true_eq, List.all_eq_true] at h
    obtain ⟨h1, h2⟩ := h
    match rs, h1 with
    | [a, b, c, d], _ => exact ⟨a, b, c, d, rfl, h2 a (by simp), h2 b (by simp), h2 c (by simp), h2 d (by simp)⟩
  · cases h
end HM
set_option Elab.async false
set_option linter.all false
set_option maxRecDepth 100000
set_option maxHeartbeats 4000000
namespace HM
open PySem L2
/-! ### read and read_sealed -/
def kd (v : D) : List Nat := match v with
  | .tup (.str k :: _) => k
  | _ => []
def rdD (k : List Nat) (d : D) : Option D := match decD d with
  | some v => if isDoc v && decide (kd v = k) then some v else none
  | none => none
def rsD (k : List Nat) (d : D) : Option D := match opD d with
  | some (.tup (.str t :: _)) => rdD k (.str t)
  | _ => none
end HM
set_option Elab.async false
set_option linter.all false
set_option maxRecDepth 100000
set_option maxHeartbeats 4000000
namespace HM
open PySem L2
/-! ### the trusted set as an object -/
def trF (o tx dc li : Nat) (bel : D) : List (String × D) := [("office", .ref o), ("texts", .ref tx), ("documents", .ref dc), ("belongs", bel), ("lists", .ref li)]
structure Tr (h : LH) (t o tx dc li : Nat) (texts docs ls : List (KD × D)) (bel : D) : Prop where
  ht : h[t]? = some (.ins "Trusted" (trF o tx dc li bel))
  hx : h[tx]? = some (.dK texts)
  hd : h[dc]? = some (.dK docs)
  hl : h[li]? = some (.dK ls)
  ne : tx ≠ dc ∧ tx ≠ li ∧ dc ≠ li
theorem Tr.kp {h g : LH} {t o tx dc li : Nat} {texts docs ls : List (KD × D)} {bel : D} (s : Tr h t o tx dc li texts docs ls bel) (k : Kp h g) : Tr g t o tx dc li texts docs ls bel := ⟨k.get s.ht, k.get s.hx, k.get s.hd, k.get s.hl, s.ne⟩
section
variable {g : LH} {o m : Nat} {ps : List PR}
end
end HM
set_option Elab.async false
set_option linter.all false
set_option maxRecDepth 100000
set_option maxHeartbeats 4000000
namespace HM
open PySem L2
/-! ### what a trusted set tells -/
section
variable {h : LH} {t o tx dc li : Nat} {texts docs ls : List (KD × D)} {bel : D} (s : Tr h t o tx dc li texts docs ls bel)
include s
end
end HM
set_option Elab.async false
set_option linter.all false
set_option maxRecDepth 100000
set_option maxHeartbeats 4000000
namespace HM
open PySem L2
/-! ### keys, roles, times drawn (trusted laws) -/
def roD (th : Int) (ts : List (List Nat)) : D := .tup [.int th, .tup (ts.map D.str)]
structure Ro (th : Int) (ts : List (List Nat)) : Prop where
  k : ∀ k ∈ ts, isKey (.str k) = true
  a : ascL ts = true
  l0 : 1 ≤ ts.length
  l1 : ts.length ≤ 16
  t0 : 1 ≤ th
  t1 : th ≤ ts.length
theorem Ro.b {th : Int} {ts : List (List Nat)} (r : Ro th ts) : isRole (roD th ts) = true := by
  have mc : (ts.map D.str).map cd = ts := by
    rw [List.map_map]
    conv => rhs; rw [← List.map_id ts]
    exact List.map_congr_left fun x _ => rfl
  show (decide ((ts.map D.str).length ≤ 16) && ((ts.map D.str).all isKey && (ascL ((ts.map D.str).map cd) && isInt 1 (ts.map D.str).length (.int th)))) = true
  rw [mc, r.a, List.length_map]
  simp only [Bool.and_eq_true, decide_eq_true_eq, Bool.true_and]
  refine ⟨r.l1, ?_, isInt_of r.t0 r.t1⟩
  rw [List.all_eq_true]
  intro y hy
  obtain ⟨x, hx, rfl⟩ := List.mem_map.mp hy
  exact r.k x hx
end HM
set_option Elab.async false
set_option linter.all false
set_option maxRecDepth 100000
set_option maxHeartbeats 4000000
namespace HM
open PySem L2
/-! ### seals drawn for a text -/
def cntS (E : List (List Nat)) (t : List Nat) (ps xs : List PR) : Nat := (xs.filter (fun p => decide (p.1 ∈ E) && holdsV ps (.str p.1) (.str t) (.str p.2))).length
structure FmT (s m : Nat) (h g : LH) : Prop where
  le : h.length ≤ g.length
  keep : ∀ i, i < h.length → i ≠ s → i ≠ m → g[i]? = h[i]?
theorem FmT.refl {s m : Nat} (h : LH) : FmT s m h h := ⟨Nat.le_refl _, fun _ _ _ _ => rfl⟩
theorem FmT.trans {s m : Nat} {a b c : LH} (x : FmT s m a b) (y : FmT s m b c) : FmT s m a c := ⟨Nat.le_trans x.le y.le, fun i hi h1 h2 => (y.keep i (Nat.lt_of_lt_of_le hi x.le) h1 h2).trans (x.keep i hi h1 h2)⟩
theorem FmT.kp {s m : Nat} {h g : LH} (x : Kp h g) : FmT s m h g := ⟨x.le, fun i hi _ _ => x.keep i hi⟩
theorem FmT.get {s m i : Nat} {h g : LH} {o : LO} (x : FmT s m h g) (h1 : i ≠ s) (h2 : i ≠ m) (e : h[i]? = some o) : g[i]? = some o := (x.keep i (lt_of_get e) h1 h2).trans e
theorem FmT.setm {s m : Nat} {h : LH} {o : LO} : FmT s m h (h.set m o) := ⟨by simp, fun i _ _ h2 => List.getElem?_set_ne (Ne.symm h2)⟩
structure PSt (s o m P R : Nat) (t : List Nat) (E ts : List (List Nat)) (h0 : LH) (j : Nat) (g : LH) (ps xs : List PR) (good : Int) : Prop where
  st : StrAt g s
  of : Off g o m ps
  gP : g[P]? = some (.lst (xs.map pD))
  gR : g[R]? = some (.lst (ts.map D.str))
  f : FmT s m h0 g
  sub : (xs.map (·.1)).Sublist (ts.take j)
  c : ∀ p ∈ xs, allC p.2 = true ∧ p.2.length ≤ 40
  own : ∀ p ∈ ps, p.2 = t → p.1 ∈ ts.take j
  ln : ps.length ≤ j
  cnt : good = (cntS E t ps xs : Nat)
theorem cnt_add {E : List (List Nat)} {t : List Nat} {ps xs : List PR} {q : PR} (h : ∀ p ∈ xs, (p.1, t) ≠ q) : cntS E t (addP q ps) xs = cntS E t ps xs := by
  unfold cntS
  congr 1
  refine List.filter_congr fun p hp => ?_
  have e : decide ((p.1, t) ∈ addP q ps) = decide ((p.1, t) ∈ ps) := by
    unfold addP
    split
    · rfl
    · simp [h p hp]
  show (decide (p.1 ∈ E) && (decide ((p.1, t) ∈ addP q ps) && decide (mkS p.1 t = p.2))) = _
  rw [e]
  rfl
theorem mem_add {p q : PR} {ps : List PR} : p ∈ addP q ps ↔ p = q ∨ p ∈ ps := by
  unfold addP
  split
  · rename_i hq
    exact ⟨.inr, fun z => z.elim (fun e => by rw [e]; exact hq) id⟩
  · rw [List.mem_append, List.mem_singleton]
    exact ⟨fun z => z.symm, fun z => z.symm⟩
theorem len_add {q : PR} {ps : List PR} : (addP q ps).length ≤ ps.length + 1 := by
  unfold addP
  split
  · omega
  · simp

section
variable {s o m P R : Nat} {t : List Nat} {E ts : List (List Nat)} {h0 g : LH} {j : Nat} {ps xs : List PR} {good : Int}
theorem take_succ_mem {k : List Nat} (hk : ts[j]? = some k) : ts.take (j + 1) = ts.take j ++ [k] := by
  rw [List.take_add_one, hk]
  rfl
theorem not_take {k : List Nat} (hk : ts[j]? = some k) (nd : ts.Nodup) (h : k ∈ ts.take j) : False := by
  have q := nd.sublist (List.take_sublist (j + 1) ts)
  rw [take_succ_mem hk, List.nodup_append] at q
  exact q.2.2 k h k List.mem_cons_self rfl
theorem PSt.turn {k : List Nat} (w : PSt s o m P R t E ts h0 j g ps xs good) (hk : ts[j]? = some k) (nd : ts.Nodup) : ∀ p ∈ xs, p.1 ≠ k := by
  intro p hp e
  have i1 := w.sub.subset (List.mem_map_of_mem (f := (·.1)) hp)
  rw [e] at i1
  exact not_take hk nd i1
theorem PSt.fresh {k : List Nat} (w : PSt s o m P R t E ts h0 j g ps xs good) (hk : ts[j]? = some k) (nd : ts.Nodup) : (k, t) ∉ ps := by
  intro hp
  have i1 := w.own _ hp rfl
  exact not_take hk nd i1
theorem PSt.make {k u : List Nat} (w : PSt s o m P R t E ts h0 j g ps xs good) (hk : ts[j]? = some k) (nd : ts.Nodup) (gp : GPr (k, u)) (hj : j ≤ 1000) (so : o ≠ s) (sm : m ≠ s) (mP : P ≠ m) (mR : R ≠ m) (sl : s < g.length) :
    ∃ g', L.f_Seals_make [.ref o, .str k, .str u] g = .ok (.str (mkS k u)) g' ∧ StrAt g' s ∧ Off g' o m (addP (k, u) ps) ∧ g'[P]? = some (.lst (xs.map pD)) ∧ g'[R]? = some (.lst (ts.map D.str)) ∧ FmT s m h0 g' ∧
      (∀ p ∈ addP (k, u) ps, p.2 = t → p.1 ∈ ts.take (j + 1)) ∧ (addP (k, u) ps).length ≤ j + 1 ∧ good = (cntS E t (addP (k, u) ps) xs : Nat) := by
  have hln := w.ln
  obtain ⟨e1, o1⟩ := seal_make w.of gp (by omega)
  have tn := w.turn hk nd
  refine ⟨_, e1, StrAt.set w.st sm, o1, by rw [List.getElem?_set_ne (Ne.symm mP)]; exact w.gP, by rw [List.getElem?_set_ne (Ne.symm mR)]; exact w.gR, w.f.trans FmT.setm, fun p hp e => ?_, Nat.le_trans len_add (by omega), ?_⟩
  · rw [take_succ_mem hk]
    rcases mem_add.mp hp with q | q
    · rw [q]
      exact List.mem_append_right _ List.mem_cons_self
    · exact List.mem_append_left _ (w.own p q e)
  · rw [cnt_add fun p hp e => tn p hp (congrArg Prod.fst e)]
    exact w.cnt
end
end HM
set_option Elab.async false
set_option linter.all false
set_option maxRecDepth 100000
set_option maxHeartbeats 4000000
namespace HM
open PySem L2
section
variable {s o m P R : Nat} {t : List Nat} {E ts : List (List Nat)} {h0 g : LH} {j : Nat} {ps xs : List PR} {good th many : Int} {k : List Nat}
end
end HM
set_option Elab.async false
set_option linter.all false
set_option maxRecDepth 100000
set_option maxHeartbeats 4000000
namespace HM
open PySem L2
structure PR5 (s o m : Nat) (t : List Nat) (E : List (List Nat)) (h g : LH) (G : Nat) (ps xs : List PR) (good : Int) : Prop where
  r : g[G]? = some (.lst [.tup (xs.map pD), .int good])
  st : StrAt g s
  of : Off g o m ps
  f : FmT s m h g
  k : ∀ p ∈ xs, isKey (.str p.1) = true
  a : ascL (xs.map (·.1)) = true
  c : ∀ p ∈ xs, allC p.2 = true ∧ p.2.length ≤ 40
  l : xs.length ≤ 25
  cnt : good = (cntS E t ps xs : Nat)
  gn : h.length ≤ G
  pl : ps.length ≤ 30
end HM
set_option Elab.async false
set_option linter.all false
set_option maxRecDepth 100000
set_option maxHeartbeats 4000000
namespace HM
open PySem L2
/-! ### the first charter, drawn and sealed -/
structure R4 (ro : D) (t0 : Int) (E0 : List (List Nat)) : Prop where
  ex : ∃ r1 r2 r3, ro = .tup [roD t0 E0, r1, r2, r3] ∧ isRole r1 = true ∧ isRole r2 = true ∧ isRole r3 = true
  r : Ro t0 E0
  l : E0.length ≤ 5
theorem R4.bad {ro : D} {t0 : Int} {E0 : List (List Nat)} (q : R4 ro t0 E0) {x : Int} (x0 : 0 ≤ x) (x1 : x ≤ 1000000000000) : PE 4 2000 (chD (.int 0) (.int x) ro) := by
  obtain ⟨r1, r2, r3, rfl, h1, h2, h3⟩ := q.ex
  have hr : ∀ y ∈ [roD t0 E0, r1, r2, r3], PE 2 274 y := fun y hy => by
    simp only [List.mem_cons, List.not_mem_nil, or_false] at hy
    rcases hy with rfl | rfl | rfl | rfl
    · exact role_pe q.r.b
    · exact role_pe h1
    · exact role_pe h2
    · exact role_pe h3
  exact (pe4 (kind_pe (k := kCr) 3 (isS_self kCr) k_lens.1 k_all.1) (int_pe (lo := 0) (hi := 1000000000000) 3 (isInt_of (by decide) (by decide)) (by decide) (by decide)) (int_pe (lo := 0) (hi := 1000000000000) 3 (isInt_of x0 x1) (by decide) (by decide)) (pe_list (k := 4) (n := 274) (r := 2) (by simp) hr)).mono (by decide) (by decide)
structure FI (o m : Nat) (ps : List PR) (c d : D) (due : List Nat) : Prop where
  ch : isCharter c = true
  sl : ∀ s, d = .str s → s.length ≤ 1000000
  ty : (∃ s, d = .str s) ∨ d = .non ∨ d = .int 5
  w : (due = [102, 111, 114, 109] ∧ rsD kCr d = none) ∨ (∃ a b ro t0 E0 t xs, c = .tup [.str kCr, a, b, ro] ∧ R4 ro t0 E0 ∧ opD d = some (svD t xs) ∧ rsD kCr d = some c ∧ xs.length ≤ 25 ∧
    due = if t0 ≤ ((cntS E0 t ps xs : Nat) : Int) then [] else [115, 101, 97, 108, 115])
end HM
set_option Elab.async false
set_option linter.all false
set_option maxRecDepth 100000
set_option maxHeartbeats 4000000
namespace HM
open PySem L2
/-! ### what the first laws ask of a trusted set -/
theorem same_str {s : List Nat} (ha : allC s = true) (hl : s.length ≤ 1000000) {h : LH} : L.f__law_same [.str s, .str s] h = .ok (.bl true) h :=
  same_plain (r := 0) (by simpa [plainD] using ha) (by decide) (by
    have := strI_len (n := s.length) (by omega)
    rw [encD_str]
    simp
    omega)
section
variable {h : LH} {o : Nat} {d : D}
end
end HM
set_option Elab.async false
set_option linter.all false
set_option maxRecDepth 100000
set_option maxHeartbeats 4000000
namespace HM
open PySem L2
/-! ### a document kept -/
section
variable {h : LH} {t o tx dc li : Nat} {texts docs ls : List (KD × D)} {bel : D}
end
end HM
set_option Elab.async false
set_option linter.all false
set_option maxRecDepth 100000
set_option maxHeartbeats 4000000
namespace HM
open PySem L2
/-! ### == of plain values -/
theorem toP_tup' {n : Nat} {h : LH} {xs : List D} {p : PyData} (e : toP n h (.tup xs) = some p) : ∃ m ps, n = m + 1 ∧ toPs m h xs = some ps ∧ p = .tuple ps := by
  cases n with
  | zero => simp [toP] at e
  | succ m =>
    have e' : (toPs m h xs).map PyData.tuple = some p := e
    cases q : toPs m h xs with
    | none => rw [q] at e'; cases e'
    | some ps => rw [q] at e'; cases e'; exact ⟨m, ps, rfl, q, rfl⟩
theorem toP_int' {n : Nat} {h : LH} {i : Int} {p : PyData} (e : toP n h (.int i) = some p) : p = .int i := by
  cases n with
  | zero => simp [toP] at e
  | succ m => exact (Option.some.inj e).symm
theorem toP_str' {n : Nat} {h : LH} {s : List Nat} {p : PyData} (e : toP n h (.str s) = some p) : p = .str ⟨s.toArray⟩ := by
  cases n with
  | zero => simp [toP] at e
  | succ m => exact (Option.some.inj e).symm
theorem toPs_cons' {n : Nat} {h : LH} {x : D} {xs : List D} {ps : List PyData} (e : toPs n h (x :: xs) = some ps) : ∃ m p qs, n = m + 1 ∧ toP m h x = some p ∧ toPs m h xs = some qs ∧ ps = p :: qs := by
  cases n with
  | zero => simp [toPs] at e
  | succ m =>
    have e' : (match toP m h x, toPs m h xs with
      | some p, some ps => some (p :: ps)
      | _, _ => none) = some ps := e
    cases q1 : toP m h x with
    | none => rw [q1] at e'; cases e'
    | some p =>
      cases q2 : toPs m h xs with
      | none => rw [q1, q2] at e'; cases e'
      | some qs => rw [q1, q2] at e'; cases e'; exact ⟨m, p, qs, rfl, q1, q2, rfl⟩
theorem toPs_nil' {n : Nat} {h : LH} {ps : List PyData} (e : toPs n h [] = some ps) : ps = [] := by
  cases n with
  | zero => simp [toPs] at e
  | succ m => exact (Option.some.inj e).symm
theorem eqv_pl : ∀ (r : Nat) (a b : D), plainD r a = true → plainD r b = true → ∀ n m h g p q, toP n h a = some p → toP m g b = some q → PyData.eqv p q = eqD r a b := by
  have base : ∀ (r : Nat) (a b : D), plainD r a = true → plainD r b = true → (∀ xs ys, a = .tup xs → b = .tup ys → False) → ∀ n m h g p q, toP n h a = some p → toP m g b = some q → PyData.eqv p q = eqD r a b := by
    intro r a b ha hb ne n m h g p q ep eq
    cases a with
    | int i =>
      cases toP_int' ep
      cases b with
      | int j => cases toP_int' eq; cases r <;> simp [PyData.eqv, eqD, Bool.beq_eq_decide_eq]
      | str s => cases toP_str' eq; cases r <;> simp [PyData.eqv, eqD]
      | tup ys => obtain ⟨_, _, _, _, rfl⟩ := toP_tup' eq; cases r <;> simp [PyData.eqv, eqD]
      | _ => cases r <;> simp [plainD] at hb
    | str s =>
      cases toP_str' ep
      cases b with
      | int j => cases toP_int' eq; cases r <;> simp [PyData.eqv, eqD]
      | str s2 =>
        cases toP_str' eq
        have : (PyData.eqv (.str ⟨s.toArray⟩) (.str ⟨s2.toArray⟩)) = decide (s = s2) := by
          by_cases c : s = s2
          · subst c; simp [PyData.eqv]
          · rw [decide_eq_false c]
            simp [PyData.eqv, c]
        rw [this]
        cases r <;> simp [eqD]
      | tup ys => obtain ⟨_, _, _, _, rfl⟩ := toP_tup' eq; cases r <;> simp [PyData.eqv, eqD]
      | _ => cases r <;> simp [plainD] at hb
    | tup xs =>
      obtain ⟨_, _, _, _, rfl⟩ := toP_tup' ep
      cases b with
      | int j => cases toP_int' eq; cases r <;> simp [PyData.eqv, eqD]
      | str s => cases toP_str' eq; cases r <;> simp [PyData.eqv, eqD]
      | tup ys => exact (ne _ _ rfl rfl).elim
      | _ => cases r <;> simp [plainD] at hb
    | _ => cases r <;> simp [plainD] at ha
  intro r
  induction r with
  | zero =>
    intro a b ha hb
    exact base 0 a b ha hb fun xs ys z _ => by rw [z] at ha; simp [plainD] at ha
  | succ r ih =>
    intro a b ha hb n m h g p q ep eq
    by_cases c : ∃ xs ys, a = .tup xs ∧ b = .tup ys
    · obtain ⟨xs, ys, rfl, rfl⟩ := c
      have ha' : ∀ x ∈ xs, plainD r x = true := List.all_eq_true.mp ha
      have hb' : ∀ x ∈ ys, plainD r x = true := List.all_eq_true.mp hb
      obtain ⟨n1, ps, q1, e1, rfl⟩ := toP_tup' ep
      obtain ⟨m1, qs, q2, e2, rfl⟩ := toP_tup' eq
      show _ = (decide (xs.length = ys.length) && (xs.zip ys).all (fun p => eqD r p.1 p.2))
      rw [show PyData.eqv (.tuple ps) (.tuple qs) = PyData.eqvAll ps qs from by simp only [PyData.eqv]]
      clear ha hb ep eq q1 q2
      induction xs generalizing ys ps qs n1 m1 with
      | nil =>
        cases toPs_nil' e1
        cases ys with
        | nil => cases toPs_nil' e2; simp [PyData.eqvAll]
        | cons y ys => obtain ⟨_, _, _, _, _, _, rfl⟩ := toPs_cons' e2; simp [PyData.eqvAll]
      | cons x xs ihx =>
        obtain ⟨n2, p, ps', _, e3, e4, rfl⟩ := toPs_cons' e1
        cases ys with
        | nil => cases toPs_nil' e2; simp [PyData.eqvAll]
        | cons y ys =>
          obtain ⟨m2, q, qs', _, e5, e6, rfl⟩ := toPs_cons' e2
          have h1 := ih x y (ha' x (by simp)) (hb' y (by simp)) _ _ _ _ _ _ e3 e5
          have h2 := ihx ys (fun z hz => ha' z (List.mem_cons_of_mem _ hz)) (fun z hz => hb' z (List.mem_cons_of_mem _ hz)) n2 ps' e4 m2 qs' e6
          rw [show PyData.eqvAll (p :: ps') (q :: qs') = (PyData.eqv p q && PyData.eqvAll ps' qs') from by simp only [PyData.eqvAll], h1, h2]
          by_cases l : xs.length = ys.length
          · simp [l]
          · simp [l]
    · exact base (r + 1) a b ha hb (fun xs ys z w => c ⟨xs, ys, z, w⟩) _ _ _ _ _ _ ep eq
theorem pl_eq {r n : Nat} {a b : D} (pa : PE r n a) (pb : PE r n b) (hr : r ≤ 20) (hn : n ≤ 200000) (h : LH) : dEq a b h = .ok (.bl (eqD r a b)) h ∧ dNe a b h = .ok (.bl (!eqD r a b)) h := by
  have e : dEqB 10000000 a b h = some (eqD r a b) := by
    obtain ⟨p, e1, g1, _⟩ := clP (plain_cl (h := h) pa.p (Nat.le_trans pa.l hn)) 10000000 (by omega)
    obtain ⟨q, e2, g2, _⟩ := clP (plain_cl (h := h) pb.p (Nat.le_trans pb.l hn)) 10000000 (by omega)
    have sp := g1.shaped (by omega)
    have sq := g2.shaped (by omega)
    have ev := eqv_pl r a b pa.p pb.p _ _ _ _ _ _ e1 e2
    have ha := pa.p
    have hb := pb.p
    cases a with
    | int i =>
      cases b with
      | int j => unfold dEqB; cases r <;> simp [eqD]
      | str s => unfold dEqB; cases r <;> simp [eqD]
      | tup ys => unfold dEqB; simp only [e1, e2, sp, sq, Bool.and_self, if_true, ev]
      | _ => cases r <;> simp [plainD] at hb
    | str s =>
      cases b with
      | int j => unfold dEqB; cases r <;> simp [eqD]
      | str s2 => unfold dEqB; cases r <;> simp [eqD]
      | tup ys => unfold dEqB; simp only [e1, e2, sp, sq, Bool.and_self, if_true, ev]
      | _ => cases r <;> simp [plainD] at hb
    | tup xs =>
      unfold dEqB
      cases b with
      | int j => simp only [e1, e2, sp, sq, Bool.and_self, if_true, ev]
      | str s2 => simp only [e1, e2, sp, sq, Bool.and_self, if_true, ev]
      | tup ys => simp only [e1, e2, sp, sq, Bool.and_self, if_true, ev]
      | _ => cases r <;> simp [plainD] at hb
    | _ => cases r <;> simp [plainD] at ha
  unfold dEq dNe
  rw [e]
  exact ⟨rfl, rfl⟩
/-! ### support of a role by a sealed text, as a test -/
end HM
set_option Elab.async false
set_option linter.all false
set_option maxRecDepth 100000
set_option maxHeartbeats 4000000
namespace HM
open PySem L2
/-! ### the pure state of a trusted set -/
structure TSt where
  c : D
  zc : List Nat
  st : Option (D × List Nat)
  sh : Option (D × List Nat)
  bel : D
  ls : List (KD × D)
structure Foot where
  t : Nat
  o : Nat
  tx : Nat
  dc : Nat
  li : Nat
def opl (k : List Nat) (o : Option D) : List (KD × D) := match o with
  | none => []
  | some v => [(.inr k, v)]
def docsOf (S : TSt) : List (KD × D) := (.inr kCr, S.c) :: (opl kSt (S.st.map (·.1)) ++ opl kSh (S.sh.map (·.1)))
def txtsOf (S : TSt) : List (KD × D) := (.inr kCr, .str S.zc) :: (opl kSt (S.st.map fun p => .str p.2) ++ opl kSh (S.sh.map fun p => .str p.2))
def TrS (h : LH) (F : Foot) (S : TSt) : Prop := Tr h F.t F.o F.tx F.dc F.li (txtsOf S) (docsOf S) S.ls S.bel
structure FrT (F F' : Foot) (h g : LH) : Prop where
  le : h.length ≤ g.length
  keep : ∀ i, i < h.length → i ≠ F.t → i ≠ F.tx → i ≠ F.dc → i ≠ F.li → g[i]? = h[i]?
  t : F'.t = F.t
  o : F'.o = F.o
  new : ∀ x, x = F'.tx ∨ x = F'.dc ∨ x = F'.li → (x = F.tx ∨ x = F.dc ∨ x = F.li) ∨ h.length ≤ x
theorem FrT.kp {F : Foot} {h g : LH} (k : Kp h g) : FrT F F h g := ⟨k.le, fun i hi _ _ _ _ => k.keep i hi, rfl, rfl, fun x hx => .inl hx⟩
theorem FrT.trans {F F' F'' : Foot} {a b c : LH} (x : FrT F F' a b) (y : FrT F' F'' b c) : FrT F F'' a c := by
  have fr : ∀ i, i < a.length → i ≠ F.tx → i ≠ F.dc → i ≠ F.li → i ≠ F'.tx ∧ i ≠ F'.dc ∧ i ≠ F'.li := by
    intro i hi h1 h2 h3
    refine ⟨fun z => ?_, fun z => ?_, fun z => ?_⟩
    · rcases x.new i (.inl z) with h | h
      · rcases h with h | h | h <;> contradiction
      · omega
    · rcases x.new i (.inr (.inl z)) with h | h
      · rcases h with h | h | h <;> contradiction
      · omega
    · rcases x.new i (.inr (.inr z)) with h | h
      · rcases h with h | h | h <;> contradiction
      · omega
  refine ⟨Nat.le_trans x.le y.le, fun i hi h1 h2 h3 h4 => ?_, y.t.trans x.t, y.o.trans x.o, fun i hi => ?_⟩
  · obtain ⟨n1, n2, n3⟩ := fr i hi h2 h3 h4
    rw [y.keep i (Nat.lt_of_lt_of_le hi x.le) (by rw [x.t]; exact h1) n1 n2 n3]
    exact x.keep i hi h1 h2 h3 h4
  · rcases y.new i hi with h | h
    · exact x.new i h
    · exact .inr (Nat.le_trans x.le h)
theorem FrT.get {F F' : Foot} {h g : LH} {i : Nat} {o : LO} (x : FrT F F' h g) (h1 : i ≠ F.t) (h2 : i ≠ F.tx) (h3 : i ≠ F.dc) (h4 : i ≠ F.li) (e : h[i]? = some o) : g[i]? = some o := (x.keep i (lt_of_get e) h1 h2 h3 h4).trans e
/-! ### parts of documents -/
def rowsOf (d : D) : List D := match d with
  | .tup [_, _, _, .tup rs] => rs
  | _ => []
structure TOk (S : TSt) : Prop where
  c : isCharter S.c = true
  zc : allC S.zc = true ∧ S.zc.length ≤ 100000
  st : ∀ p, S.st = some p → isStamp p.1 = true ∧ allC p.2 = true ∧ p.2.length ≤ 100000
  sh : ∀ p, S.sh = some p → isShelf p.1 = true ∧ allC p.2 = true ∧ p.2.length ≤ 100000
  so : S.st = none → S.sh = none
  bel : S.st ≠ none → PE 4 2000 S.bel
  ls : ∀ p ∈ S.ls, ∃ n d r w, p = (.inr n, .tup [d, r]) ∧ isList d = true ∧ isRole r = true ∧ S.sh = some w ∧ n ∈ (rowsOf w.1).map fstC
  nd : (S.ls.map (·.1)).Nodup
section
variable {h : LH} {F : Foot} {S : TSt}
/-! ### what the set tells -/
def od (o : Option D) : D := o.getD .non
end
end HM
set_option Elab.async false
set_option linter.all false
set_option maxRecDepth 100000
set_option maxHeartbeats 4000000
namespace HM
open PySem L2
/-! ### what is read is a document of the kind -/
/-! ### belongs -/
section
variable {h : LH} {F : Foot} {S : TSt}
end
end HM
set_option Elab.async false
set_option linter.all false
set_option maxRecDepth 100000
set_option maxHeartbeats 4000000
namespace HM
open PySem L2
section
variable {h : LH} {F : Foot} {S : TSt}
end
end HM
set_option Elab.async false
set_option linter.all false
set_option maxRecDepth 100000
set_option maxHeartbeats 4000000
namespace HM
open PySem L2
/-! ### comprehensions over the keys of a dict -/
theorem putKD_new {k : KD} {v : D} {kvs : List (KD × D)} (h : k ∉ kvs.map (·.1)) : putKD k v kvs = kvs ++ [(k, v)] := by
  have : getKD k kvs = none := by
    cases q : getKD k kvs with
    | none => rfl
    | some w =>
      exfalso
      apply h
      clear h
      induction kvs with
      | nil => simp [getKD] at q
      | cons a l ih =>
        by_cases c : a.1 = k
        · simp [c]
        · have : getKD k l = some w := by simpa [getKD, c] using q
          exact List.mem_cons_of_mem _ (ih this)
  unfold putKD
  rw [this]
  rfl
theorem getKD_mem {k : KD} {v : D} {kvs : List (KD × D)} (nd : (kvs.map (·.1)).Nodup) (h : (k, v) ∈ kvs) : getKD k kvs = some v := by
  induction kvs with
  | nil => cases h
  | cons a l ih =>
    rw [List.map_cons, List.nodup_cons] at nd
    rcases List.mem_cons.mp h with rfl | h
    · simp [getKD]
    · have : a.1 ≠ k := fun z => nd.1 (z ▸ List.mem_map.mpr ⟨_, h, rfl⟩)
      simpa [getKD, this] using ih nd.2 h
/-! ### entries -/
end HM
set_option Elab.async false
set_option linter.all false
set_option maxRecDepth 100000
set_option maxHeartbeats 4000000
namespace HM
open PySem L2
def kS (k : KD) : List Nat := match k with
  | .inr s => s
  | .inl _ => []
section
variable {h : LH} {F : Foot} {S : TSt}
end
end HM
set_option Elab.async false
set_option linter.all false
set_option maxRecDepth 100000
set_option maxHeartbeats 4000000
namespace HM
open PySem L2
theorem unlock_eq {h : LH} {i : Nat} {ls : List (KD × D)} {x : LO} (hi : h[i]? = some (.dK ls)) : ((h.set i (.dL ls)) ++ [x]).set i (.dK ls) = h ++ [x] := by
  have l := lt_of_get hi
  rw [List.set_append_left _ _ (by simpa using l), List.set_set]
  congr 1
  apply List.ext_getElem?
  intro j
  by_cases c : i = j
  · subst c
    rw [List.getElem?_set_self l, hi]
  · rw [List.getElem?_set_ne c]
section
variable {h : LH} {F : Foot} {S : TSt}
end
end HM
set_option Elab.async false
set_option linter.all false
set_option maxRecDepth 100000
set_option maxHeartbeats 4000000
namespace HM
open PySem L2
theorem put_keys {k : KD} {v : D} : ∀ {l : List (KD × D)}, (∀ x ∈ (putKD k v l), x = (k, v) ∨ x ∈ l) ∧ ((l.map (·.1)).Nodup → ((putKD k v l).map (·.1)).Nodup) := by
  intro l
  by_cases c : k ∈ l.map (·.1)
  · have e : putKD k v l = l.map fun kv => if kv.1 = k then (kv.1, v) else kv := by
      unfold putKD
      cases q : getKD k l with
      | some w => rfl
      | none =>
        exfalso
        induction l with
        | nil => cases c
        | cons a l ih =>
          by_cases ca : a.1 = k
          · simp [getKD, ca] at q
          · have : getKD k l = none := by simpa [getKD, ca] using q
            refine ih ?_ this
            rcases List.mem_cons.mp c with h | h
            · exact (ca h.symm).elim
            · exact h
    rw [e]
    refine ⟨fun x hx => ?_, fun nd => ?_⟩
    · obtain ⟨kv, hm, rfl⟩ := List.mem_map.mp hx
      by_cases ck : kv.1 = k
      · left; rw [if_pos ck, ck]
      · right; rw [if_neg ck]; exact hm
    · rw [List.map_map]
      have : l.map ((·.1) ∘ fun kv => if kv.1 = k then (kv.1, v) else kv) = l.map (·.1) := List.map_congr_left fun kv _ => by
        show (if kv.1 = k then (kv.1, v) else kv).1 = kv.1
        by_cases ck : kv.1 = k
        · rw [if_pos ck]
        · rw [if_neg ck]
      rw [this]
      exact nd
  · rw [putKD_new c]
    refine ⟨fun x hx => ?_, fun nd => ?_⟩
    · rcases List.mem_append.mp hx with h | h
      · exact .inr h
      · exact .inl (by simpa using h)
    · rw [List.map_append, List.nodup_append]
      refine ⟨nd, by simp, fun a ha b hb => ?_⟩
      have : b = k := by simpa using hb
      rw [this]
      exact fun z => c (z ▸ ha)
section
variable {h : LH} {F : Foot} {S : TSt}
end
end HM
set_option Elab.async false
set_option linter.all false
set_option maxRecDepth 100000
set_option maxHeartbeats 4000000
namespace HM
open PySem L2
/-! ### signers and sealed texts of a law -/
structure Sg (ps : List PR) (d : D) (ks : List (List Nat)) (Z : List Nat) : Prop where
  ex : ∃ ts : List (List Nat), GS (encD d) (ts.map (pairK (encD d))) ∧ Z = encD (svD (encD d) (ts.map (pairK (encD d)))) ∧ (∀ x, x ∈ ts ↔ x ∈ ks) ∧ ts.Nodup
  pd : ∀ k ∈ ks, (k, encD d) ∈ ps
theorem Sg.mono {ps ps' : List PR} {d : D} {ks : List (List Nat)} {Z : List Nat} (x : Sg ps d ks Z) (h : ∀ p ∈ ps, p ∈ ps') : Sg ps' d ks Z := ⟨x.ex, fun k hk => h _ (x.pd k hk)⟩
theorem Sg.len {ps : List PR} {d : D} {ks : List (List Nat)} {Z : List Nat} (x : Sg ps d ks Z) : Z.length ≤ 20000 := by
  obtain ⟨ts, gs, rfl, _⟩ := x.ex
  exact gs.len
end HM
set_option Elab.async false
set_option linter.all false
set_option maxRecDepth 100000
set_option maxHeartbeats 4000000
namespace HM
open PySem L2
/-! ### has_expired -/
end HM
set_option Elab.async false
set_option linter.all false
set_option maxRecDepth 100000
set_option maxHeartbeats 4000000
namespace HM
open PySem L2
def SmE (x : D) : Prop := ∀ h, L.f__law_same [x, x] h = .ok (.bl true) h
theorem SmE.non : SmE .non := fun h => same_non
theorem SmE.pe {r n : Nat} {d : D} (p : PE r n d) (hr : r ≤ 20) (hn : n ≤ 16000000) : SmE d := fun h => same_pe p hr hn
theorem SmE.str {s : List Nat} (ha : allC s = true) (hl : s.length ≤ 100000) : SmE (.str s) := fun h => same_str ha (by omega)
theorem eqD_self {r n : Nat} {a : D} (p : PE r n a) : eqD r a a = true := (eqD_iff r a a p.p p.p).mpr rfl
theorem TrS.keep {h g : LH} {F : Foot} {S : TSt} (T : TrS h F S) (k : ∀ i, i = F.t ∨ i = F.tx ∨ i = F.dc ∨ i = F.li → g[i]? = h[i]?) : TrS g F S :=
  ⟨(k _ (.inl rfl)).trans T.ht, (k _ (.inr (.inl rfl))).trans T.hx, (k _ (.inr (.inr (.inl rfl)))).trans T.hd, (k _ (.inr (.inr (.inr rfl)))).trans T.hl, T.ne⟩
section
variable {h : LH} {F : Foot} {S : TSt}
end
end HM
set_option Elab.async false
set_option linter.all false
set_option maxRecDepth 100000
set_option maxHeartbeats 4000000
namespace HM
open PySem L2
theorem FmT.st {h g : LH} (x : FmT 0 2 h g) (s : StrAt g 0) : StrAt g 0 := s
structure SgS (h g : LH) (ps ps' : List PR) (th : Int) (E ks : List (List Nat)) (d : D) (Z : List Nat) : Prop where
  st : StrAt g 0
  of : Off g 1 2 ps'
  sg : Sg ps' d ks Z
  sub : ∀ k ∈ ks, k ∈ E
  nd : ks.Nodup
  th : th ≤ ks.length
  pss : ∀ p ∈ ps, p ∈ ps'
  len : ps'.length ≤ ps.length + 32
  fr : FmT 0 2 h g
structure FB (F : Foot) : Prop where
  t : 2 < F.t
  tx : 2 < F.tx
  dc : 2 < F.dc
  li : 2 < F.li
theorem FB.next {F F' : Foot} {h g : LH} (b : FB F) (f : FrT F F' h g) (l : 2 < h.length) : FB F' := by
  have n : ∀ x, x = F'.tx ∨ x = F'.dc ∨ x = F'.li → 2 < x := fun x hx => by
    rcases f.new x hx with h | h
    · have := b.tx
      have := b.dc
      have := b.li
      rcases h with h | h | h <;> omega
    · omega
  exact ⟨by rw [f.t]; exact b.t, n _ (.inl rfl), n _ (.inr (.inl rfl)), n _ (.inr (.inr rfl))⟩
theorem FB.st {h g : LH} {F F' : Foot} (b : FB F) (f : FrT F F' h g) (s : StrAt h 0) : StrAt g 0 := by
  obtain ⟨x, y, e⟩ := s
  have := b.t
  have := b.tx
  have := b.dc
  have := b.li
  exact ⟨x, y, f.get (by omega) (by omega) (by omega) (by omega) e⟩
/-! ### documents -/
def shD (v x pv : Int) (n z : List Nat) : D := .tup [.str kSh, .int v, .int x, .tup [.tup [.str n, .int pv, .int z.length, .str (hexL (dig z))]]]
end HM
set_option Elab.async false
set_option linter.all false
set_option maxRecDepth 100000
set_option maxHeartbeats 4000000
namespace DR
open PySem L2 HM
/-! ### the draws -/
theorem pow18 {h : LH} : dPow (.int 10) (.int 18) h = .ok (.int 1000000000000000000) h := by
  show (if (0 : Int) ≤ 18 ∧ (18 : Int) ≤ 1000000 ∧ (10 : Int).natAbs < 2 ^ 64 then Res.ok (D.int (10 ^ (18 : Int).toNat)) h else .bad) = _
  rw [if_pos ⟨by decide, by decide, by decide⟩]
  rfl
theorem abs_int {h : LH} {i : Int} : dAbs [.int i] h = .ok (.int (if i < 0 then -i else i)) h := rfl
theorem sl_ref' {h : LH} {r : Nat} {xs : List D} {lo hi : Option Int} (hr : h[r]? = some (.lst xs)) : dSl (.ref r) lo hi h = .ok (.ref h.length) (h ++ [.lst (cutD xs lo hi)]) := by
  unfold dSl seqD
  simp only [hr]
theorem sl_scr {h : LH} {ns : List Int} {lo hi : Option Int} : dSl (.scr ns) lo hi h = .ok (.ref h.length) (h ++ [.lst (cutD (ns.map D.int) lo hi)]) := rfl
structure Wr (r : Nat) (g0 g : LH) : Prop where
  le : g.length = g0.length
  ne : ∀ i, i ≠ r → g[i]? = g0[i]?
theorem Wr.set {r : Nat} {g0 g : LH} {o : LO} (w : Wr r g0 g) : Wr r g0 (g.set r o) := ⟨by simpa using w.le, fun i hi => by rw [List.getElem?_set_ne (Ne.symm hi)]; exact w.ne i hi⟩
def Nn (xs : List Int) : Prop := ∀ x ∈ xs, 0 ≤ x
theorem Nn.snoc {xs : List Int} {v : Int} (h : Nn xs) (hv : 0 ≤ v) : Nn (xs ++ [v]) := fun x hx => by
  rcases List.mem_append.mp hx with hx | hx
  · exact h x hx
  · rw [List.mem_singleton.mp hx]; exact hv
theorem app_int {h : LH} {r : Nat} {xs : List Int} {v : Int} (hr : h[r]? = some (.lst (xs.map D.int))) (hl : xs.length < 16777216) : dAppend (.ref r) [.int v] h = .ok .non (h.set r (.lst ((xs ++ [v]).map D.int))) := by
  rw [dAppend_ref hr (by simpa using hl)]
  simp
def IB : MS := (sSeq (sIf (mTst (mOp dGt (mVar 5) (mC (.int 0)))) (sExpr (mMet isLst dAppend (mVar 3) (mCons (mOp dMod (mApp dInt (mCons (mVar 5) mNil)) (mC (.int 1000000))) mNil))) sNil)
    (sSet 5 (mOp dDiv (mVar 5) (mC (.int 1000000)))))
theorem inner_ok {a b c d e f : Option D} {r : Nat} {n : Int} {xs : List Int} {g0 : LH} (h0 : 0 ≤ n) (hr : g0[r]? = some (.lst (xs.map D.int))) (hx : Nn xs) (hl : xs.length ≤ 100000) :
    ∃ m xs' v g, loopF (itN 24) (.nm 7) IB 24 0 [a, b, c, some (.ref r), d, some (.int n), e, f] g0 = .next [a, b, c, some (.ref r), d, some (.int m), e, v] g ∧ Wr r g0 g ∧ g[r]? = some (.lst (xs'.map D.int)) ∧ Nn xs' ∧ xs'.length ≤ xs.length + 24 := by
  refine loopF_gen (N := 24) (fun j => .int j) (fun j env g => ∃ m xs' v, env = [a, b, c, some (.ref r), d, some (.int m), e, v] ∧ 0 ≤ m ∧ Wr r g0 g ∧ g[r]? = some (.lst (xs'.map D.int)) ∧ Nn xs' ∧ xs'.length ≤ xs.length + j)
    (fun z => ∃ m xs' v g, z = .next [a, b, c, some (.ref r), d, some (.int m), e, v] g ∧ Wr r g0 g ∧ g[r]? = some (.lst (xs'.map D.int)) ∧ Nn xs' ∧ xs'.length ≤ xs.length + 24)
    (fun j e h hj _ => rfl) ?_ ?_ 24 0 _ _ (by omega) ⟨n, xs, f, rfl, h0, ⟨rfl, fun _ _ => rfl⟩, hr, hx, by omega⟩
  · rintro j env g hj ⟨m, xs', v, rfl, hm, hw, hg, hn, hl'⟩
    refine ⟨_, rfl, ?_⟩
    unfold IB
    have d0 : 0 ≤ m / 1000000 := Int.ediv_nonneg hm (by decide)
    by_cases q : 0 < m
    · have hm0 : 0 ≤ m % 1000000 := Int.emod_nonneg _ (by decide)
      simp -implicitDefEqProofs [ev_seq, dGt_int, q, dInt_int, dMod_int (show (0 : Int) < 1000000 by decide), isLst_ref hg, app_int hg (v := m % 1000000) (by omega), dDiv_int (show (0 : Int) < 1000000 by decide) (show (1000000 : Int).natAbs.log2 < 9000 by decide)]
      refine ⟨d0, hw.set, xs' ++ [m % 1000000], ?_, hn.snoc hm0, by simp; omega⟩
      rw [List.getElem?_set_self (lt_of_get hg)]
      simp
    · simp -implicitDefEqProofs [ev_seq, dGt_int, q, dInt_int, dDiv_int (show (0 : Int) < 1000000 by decide) (show (1000000 : Int).natAbs.log2 < 9000 by decide)]
      exact ⟨d0, hw, xs', hg, hn, by omega⟩
  · rintro env g ⟨m, xs', v, rfl, hm, hw, hg, hn, hl'⟩
    exact ⟨m, xs', v, g, rfl, hw, hg, hn, hl'⟩
def LBody : MS := (sSeq (sSet 5 (mApp dAbs (mCons (mApp dInt (mCons (mVar 4) mNil)) mNil)))
    (sIf (mTst (mOp dLt (mVar 5) (mOp dPow (mC (.int 10)) (mC (.int 18))))) (sSeq (sSet 6 (mOp dMod (mApp dInt (mCons (mOp dAdd (mOp dMul (mVar 5) (mC (.int 39373))) (mC (.int 23))) mNil)) (mC (.int 2147483647))))
    (sSeq (sExpr (mMet isLst dAppend (mVar 3) (mCons (mVar 5) mNil)))
    (sSeq (sExpr (mMet isLst dAppend (mVar 3) (mCons (mOp dDiv (mOp dMod (mApp dInt (mCons (mOp dAdd (mOp dAdd (mOp dMul (mVar 6) (mC (.int 16807))) (mOp dDiv (mVar 5) (mC (.int 6)))) (mC (.int 3))) mNil)) (mC (.int 2147483399))) (mC (.int 3))) mNil)))
    (sExpr (mMet isLst dAppend (mVar 3) (mCons (mOp dDiv (mOp dMod (mApp dInt (mCons (mOp dAdd (mOp dAdd (mOp dMul (mVar 6) (mC (.int 69621))) (mOp dDiv (mVar 5) (mC (.int 11)))) (mC (.int 8))) mNil)) (mC (.int 2147483629))) (mC (.int 7))) mNil)))))) (sFor (iRng1M (mCons (mC (.int 24)) mNil)) (.nm 7) (sSeq (sIf (mTst (mOp dGt (mVar 5) (mC (.int 0)))) (sExpr (mMet isLst dAppend (mVar 3) (mCons (mOp dMod (mApp dInt (mCons (mVar 5) mNil)) (mC (.int 1000000))) mNil))) sNil)
    (sSet 5 (mOp dDiv (mVar 5) (mC (.int 1000000))))))))
theorem draws_ok {ns : List Int} {mo : Nat} {h : LH} (hn : ns.length ≤ 63) : ∃ r xs h', L.f__law_draws [.scr ns, .int 1, .int (mo : Nat)] h = .ok (.ref r) h' ∧ h.length ≤ r ∧ h'[r]? = some (.lst (xs.map D.int)) ∧ xs.length ≤ mo ∧ Nn xs ∧ Kp h h' := by
  unfold L.f__law_draws
  rw [mkF_eq (by rfl)]
  rw [show L.b__law_draws = sSeq (sSet 3 (mLst mNil)) (sSeq (sFor (iAny (mSl (mVar 0) (mPart (mVar 1)) mNoP)) (.nm 4) LBody) (sRet (mSl (mVar 3) mNoP (mPart (mVar 2))))) from rfl]
  obtain ⟨ms, qms⟩ : ∃ ms, ms = ns.drop 1 := ⟨_, rfl⟩
  have hn : ms.length ≤ 63 := by rw [qms, List.length_drop]; omega
  have key := loopF_obj (r := h.length + 1) (xs := ms.map D.int) (t := .nm 4) (e := [some (.scr ns), some (.int 1), some (.int (mo : Nat)), some (.ref h.length), none, none, none, none]) (h := (h ++ [.lst []]) ++ [.lst (ms.map D.int)])
    (body := LBody)
    (fun j env g => ∃ xs v4 v5 v6 v7, env = [some (.scr ns), some (.int 1), some (.int (mo : Nat)), some (.ref h.length), v4, v5, v6, v7] ∧ Wr h.length ((h ++ [.lst []]) ++ [.lst (ms.map D.int)]) g ∧ g[h.length]? = some (.lst (xs.map D.int)) ∧ Nn xs ∧ xs.length ≤ 24 * j)
    (fun z => ∃ xs env g, z = .next env g ∧ env[3]? = some (some (.ref h.length)) ∧ env[2]? = some (some (.int (mo : Nat))) ∧ Wr h.length ((h ++ [.lst []]) ++ [.lst (ms.map D.int)]) g ∧ g[h.length]? = some (.lst (xs.map D.int)) ∧ Nn xs)
    (fun j e g ⟨_, _, _, _, _, _, hw, _⟩ => by rw [hw.ne _ (by omega)]; simp)
    (fun j d env g hd => by
      rintro ⟨xs, v4, v5, v6, v7, rfl, hw, hg, hx, hl⟩
      rw [List.getElem?_map] at hd
      cases ed : ms[j]? with
      | none => rw [ed] at hd; cases hd
      | some i =>
        rw [ed] at hd
        cases hd
        have hj := lt_of_get ed
        refine ⟨_, rfl, ?_⟩
        unfold LBody
        obtain ⟨n, en, n0⟩ : ∃ n, (if i < 0 then -i else i) = n ∧ 0 ≤ n := ⟨_, rfl, by split <;> omega⟩
        by_cases q : n < 1000000000000000000
        · have k1 : mulOk n 39373 = true := mulOk_r (by decide)
          obtain ⟨m, em, m0, m1⟩ : ∃ m, (n * 39373 + 23) % 2147483647 = m ∧ 0 ≤ m ∧ m < 2147483647 := ⟨_, rfl, Int.emod_nonneg _ (by decide), Int.emod_lt_of_pos _ (by decide)⟩
          have k2 : mulOk m 16807 = true := mulOk_r (by decide)
          have k3 : mulOk m 69621 = true := mulOk_r (by decide)
          obtain ⟨a, ea, a0⟩ : ∃ a, (m * 16807 + n / 6 + 3) % 2147483399 / 3 = a ∧ 0 ≤ a := ⟨_, rfl, Int.ediv_nonneg (Int.emod_nonneg _ (by decide)) (by decide)⟩
          obtain ⟨b, eb, b0⟩ : ∃ b, (m * 69621 + n / 11 + 8) % 2147483629 / 7 = b ∧ 0 ≤ b := ⟨_, rfl, Int.ediv_nonneg (Int.emod_nonneg _ (by decide)) (by decide)⟩
          have g1 : (g.set h.length (.lst ((xs ++ [n]).map D.int)))[h.length]? = some (.lst ((xs ++ [n]).map D.int)) := List.getElem?_set_self (lt_of_get hg)
          have g2 : ((g.set h.length (.lst ((xs ++ [n]).map D.int))).set h.length (.lst (((xs ++ [n]) ++ [a]).map D.int)))[h.length]? = some (.lst (((xs ++ [n]) ++ [a]).map D.int)) := List.getElem?_set_self (by simpa using lt_of_get hg)
          have e1 := isLst_ref hg
          have e2 := isLst_ref g1
          have e3 := isLst_ref g2
          have f1 := app_int hg (v := n) (by omega)
          have f2 := app_int g1 (v := a) (by simp; omega)
          have f3 := app_int g2 (v := b) (by simp; omega)
          generalize hG1 : g.set h.length (.lst ((xs ++ [n]).map D.int)) = G1 at g1 g2 e2 e3 f1 f2 f3
          generalize hG2 : G1.set h.length (.lst (((xs ++ [n]) ++ [a]).map D.int)) = G2 at g2 e3 f2 f3
          simp -implicitDefEqProofs [ev_seq, dInt_int, abs_int, en, dLt_int, pow18, q, dMul_int k1, dMul_int k2, dMul_int k3, dAdd_int, em, dMod_int (show (0 : Int) < 2147483647 by decide), dMod_int (show (0 : Int) < 2147483399 by decide), dMod_int (show (0 : Int) < 2147483629 by decide),
            dDiv_int (show (0 : Int) < 6 by decide) (show (6 : Int).natAbs.log2 < 9000 by decide), dDiv_int (show (0 : Int) < 11 by decide) (show (11 : Int).natAbs.log2 < 9000 by decide), dDiv_int (show (0 : Int) < 3 by decide) (show (3 : Int).natAbs.log2 < 9000 by decide),
            dDiv_int (show (0 : Int) < 7 by decide) (show (7 : Int).natAbs.log2 < 9000 by decide), ea, eb, e1, f1, e2, f2, e3, f3]
          have W3 : Wr h.length ((h ++ [.lst []]) ++ [.lst (ms.map D.int)]) (G2.set h.length (.lst ((((xs ++ [n]) ++ [a]) ++ [b]).map D.int))) := by rw [← hG2, ← hG1]; exact hw.set.set.set
          have V3 : (G2.set h.length (.lst ((((xs ++ [n]) ++ [a]) ++ [b]).map D.int)))[h.length]? = some (.lst ((((xs ++ [n]) ++ [a]) ++ [b]).map D.int)) := List.getElem?_set_self (lt_of_get g2)
          exact ⟨by simpa using W3, ((xs ++ [n]) ++ [a]) ++ [b], by simpa using V3, ((hx.snoc n0).snoc a0).snoc b0, by simp; omega⟩
        · obtain ⟨m, xs', v, g', e1, w1, g1, x1, l1⟩ := inner_ok (a := some (.scr ns)) (b := some (.int 1)) (c := some (.int (mo : Nat))) (d := some (.int i)) (e := v6) (f := v7) n0 hg hx (by omega)
          unfold IB at e1
          simp -implicitDefEqProofs [ev_seq, dInt_int, abs_int, en, dLt_int, pow18, q, rng1_nat (n := 24) (show (mCons (mC (.int 24)) mNil) [some (.scr ns), some (.int 1), some (.int (mo : Nat)), some (.ref h.length), some (.int i), some (.int n), v6, v7] g = .ok [.int (24 : Nat)] g from rfl) (by decide), e1]
          have W3 : Wr h.length ((h ++ [.lst []]) ++ [.lst (ms.map D.int)]) g' := ⟨w1.le.trans hw.le, fun k hk => (w1.ne k hk).trans (hw.ne k hk)⟩
          exact ⟨by simpa using W3, xs', g1, x1, by omega⟩)
    (fun env g => by
      rintro ⟨xs, v4, v5, v6, v7, rfl, hw, hg, hx, hl⟩
      exact ⟨xs, _, g, rfl, rfl, rfl, hw, hg, hx⟩)
    ⟨[], none, none, none, none, rfl, ⟨rfl, fun _ _ => rfl⟩, by simp, fun x hx => (by cases hx), by simp⟩
  obtain ⟨xs, env, g, e1, e3, e2, hw, hg, hx⟩ := key
  rw [List.length_map] at e1
  have c0 : cutD (ns.map D.int) (some 1) none = ms.map D.int := by rw [cut_from (by decide), qms, List.map_drop]; rfl
  have hl0 : (h ++ [LO.lst []]).length = h.length + 1 := by simp
  refine ⟨g.length, xs.take mo, g ++ [.lst ((xs.take mo).map D.int)], ?_, ?_, by simp, by simp; omega, fun x hm => hx x (List.mem_of_mem_take hm), ?_⟩
  · simp -implicitDefEqProofs [ev_seq, sl_scr, c0, hl0]
    simp -implicitDefEqProofs at e1
    simp -implicitDefEqProofs [e1, e3, e2, sl_ref' hg, cut_to (show (0 : Int) ≤ (mo : Int) by omega)]
  · have := hw.le; simp at this; omega
  · have hl := hw.le
    simp at hl
    refine ⟨by simp; omega, fun i hi => ?_⟩
    rw [List.getElem?_append_left (by omega), hw.ne i (by omega), List.append_assoc, List.getElem?_append_left hi]
theorem cell2_ok {ns : List Int} {h : LH} : ∃ c : Int, 0 ≤ c ∧ L.f__law_cell_v2 [.scr ns, .int 0] h = .ok (.int c) h := by
  unfold L.f__law_cell_v2
  rw [mkF_eq (by rfl)]
  rw [show (List.map some [D.scr ns, .int 0] ++ List.replicate (2 - 2) none : EN) = [some (.scr ns), some (.int 0)] from rfl]
  rw [show L.b__law_cell_v2 = sSeq L.s__law_cell_v2_1 L.s__law_cell_v2_2 from rfl]
  cases ns with
  | nil =>
    have d1 : ¬ (0 : Int) < (([] : List Int).length : Int) := by simp
    refine ⟨0, by decide, ?_⟩
    rw [ev_seq]; simp -implicitDefEqProofs [L.s__law_cell_v2_1, dLen_scr, dLt_int]
    rfl
  | cons n ns =>
    have ex : dIx (.scr (n :: ns)) (.int 0) h = .ok (.int n) h := dIx_scr (by decide) rfl
    have d1 : 0 < (n :: ns).length := by simp
    obtain ⟨c, qc, c0⟩ : ∃ c, (if n < 0 then -n else n) = c ∧ 0 ≤ c := ⟨_, rfl, by split <;> omega⟩
    refine ⟨c, c0, ?_⟩
    generalize n :: ns = ms at ex d1 ⊢
    rw [ev_seq]; simp -implicitDefEqProofs [L.s__law_cell_v2_1, dLen_scr, dLt_int, d1, ex, dInt_int, abs_int, qc]
end DR
set_option Elab.async false
set_option linter.all false
set_option maxRecDepth 100000
set_option maxHeartbeats 4000000
namespace HM
open PySem L2
/-! ### seal, without a stream in the heap -/
end HM
set_option Elab.async false
set_option linter.all false
set_option maxRecDepth 100000
set_option maxHeartbeats 4000000
namespace HM
open PySem L2
/-! ### lists of closed values compared -/
def SC (x : D) : Prop := ∀ h, Cl h 9 x
theorem SC.pe {r n : Nat} {d : D} (p : PE r n d) (hr : r ≤ 8) (hn : n ≤ 200000) : SC d := fun h => (plain_cl (h := h) p.p (Nat.le_trans p.l hn)).mono (by omega)
theorem SC.non : SC .non := fun h => (show Cl h 0 .non from trivial).mono (by decide)
theorem SC.bl (b : Bool) : SC (.bl b) := fun h => (show Cl h 0 (.bl b) from trivial).mono (by decide)
theorem SC.str {s : List Nat} (ha : allC s = true) (hl : s.length ≤ 100000) : SC (.str s) := by
  refine SC.pe (r := 0) (n := 100030) ⟨ha, ?_⟩ (by decide) (by decide)
  have := strI_len (n := s.length) (by omega)
  rw [encD_str]
  simp
  omega
/-! ### all that a set tells -/
section
variable {h : LH} {F : Foot} {S : TSt}
end
/-! ### two sets side by side -/
def Foot.c (F : Foot) (i : Nat) : Prop := i = F.t ∨ i = F.tx ∨ i = F.dc ∨ i = F.li
theorem FrT.out {F F' : Foot} {h g : LH} (f : FrT F F' h g) {i : Nat} (hi : ¬ F.c i) (l : i < h.length) : g[i]? = h[i]? :=
  f.keep i l (fun z => hi (.inl z)) (fun z => hi (.inr (.inl z))) (fun z => hi (.inr (.inr (.inl z)))) (fun z => hi (.inr (.inr (.inr z))))
theorem TrS.lt {h : LH} {F : Foot} {S : TSt} (T : TrS h F S) {i : Nat} (hi : F.c i) : i < h.length := by
  rcases hi with rfl | rfl | rfl | rfl
  · exact lt_of_get T.ht
  · exact lt_of_get T.hx
  · exact lt_of_get T.hd
  · exact lt_of_get T.hl
structure Duo (h : LH) (F1 F2 : Foot) (ps : List PR) (S1 S2 : TSt) : Prop where
  T1 : TrS h F1 S1
  T2 : TrS h F2 S2
  k1 : TOk S1
  k2 : TOk S2
  of : Off h 0 1 ps
  dj : ∀ i, F1.c i → ¬ F2.c i
  b1 : ∀ i, F1.c i → 1 < i
  b2 : ∀ i, F2.c i → 1 < i
  o1 : F1.o = 0
  o2 : F2.o = 0
section
variable {h g : LH} {F1 F2 F1' F2' : Foot} {ps ps' : List PR} {S1 S2 S1' S2' : TSt}
theorem Duo.kp (w : Duo h F1 F2 ps S1 S2) (K : Kp h g) : Duo g F1 F2 ps S1 S2 := ⟨Tr.kp w.T1 K, Tr.kp w.T2 K, w.k1, w.k2, w.of.kp K, w.dj, w.b1, w.b2, w.o1, w.o2⟩
end
end HM
set_option Elab.async false
set_option linter.all false
set_option maxRecDepth 100000
set_option maxHeartbeats 4000000
namespace HM
open PySem L2
def ky (n : Nat) : List Nat := [107, 48 + n]
def rK (n : Nat) : D := roD 1 [ky n]
/-! ### offers -/
section
variable {h g : LH} {t : Nat} {wh z : D}
end
def DN (x : D) : Prop := ∀ g, dNe x x g = .ok (.bl false) g
theorem DN.str (s : List Nat) : DN (.str s) := fun g => by rw [dNe_str]; simp
theorem DN.pe {r n : Nat} {d : D} (p : PE r n d) (hr : r ≤ 20) (hn : n ≤ 200000) : DN d := fun g => by
  have := (pl_eq p p hr hn g).2
  rw [eqD_self p] at this
  exact this
/-! ### shelves and stamps of the law -/
end HM
set_option Elab.async false
set_option linter.all false
set_option maxRecDepth 100000
set_option maxHeartbeats 4000000
namespace HM
open PySem L2
section
variable {h g : LH} {F : Foot} {S : TSt} {x : D}
end
end HM
set_option Elab.async false
set_option linter.all false
set_option maxRecDepth 100000
set_option maxHeartbeats 4000000
namespace HM
open PySem L2
/-! ### the disk -/
def dkF (tx : Nat) (left : D) (kept down : Bool) : List (String × D) := [("texts", .ref tx), ("left", left), ("kept", .bl kept), ("down", .bl down)]
structure Dk (h : LH) (d tx : Nat) (left : D) (kept down : Bool) (ts : List (KD × D)) : Prop where
  o : h[d]? = some (.ins "Disk" (dkF tx left kept down))
  x : h[tx]? = some (.dK ts)
section
variable {h g : LH} {d tx : Nat} {left : D} {kept down : Bool} {ts : List (KD × D)}
theorem Dk.kp (s : Dk h d tx left kept down ts) (K : Kp h g) : Dk g d tx left kept down ts := ⟨K.get s.o, K.get s.x⟩
theorem Dk.ne (s : Dk h d tx left kept down ts) : d ≠ tx := fun z => by have q := s.x; rw [← z, s.o] at q; cases q
end
end HM
set_option Elab.async false
set_option linter.all false
set_option maxRecDepth 100000
set_option maxHeartbeats 4000000
namespace HM
open PySem L2
section
variable {h g : LH} {d tx : Nat} {left : D} {kept down : Bool} {ts : List (KD × D)}
/-! ### stamp_parts -/
def isPr2 (v : D) : Option (D × D) := match v with
  | .tup [a, .tup [x, y]] => if isRole x && isRole y then some (a, .tup [x, y]) else none
  | _ => none
def partsD (t : D) : Option (D × D) := match decD t with
  | some v => isPr2 v
  | none => none
end
end HM
set_option Elab.async false
set_option linter.all false
set_option maxRecDepth 100000
set_option maxHeartbeats 4000000
namespace HM
open PySem L2
end HM
set_option Elab.async false
set_option linter.all false
set_option maxRecDepth 100000
set_option maxHeartbeats 4000000
namespace HM
open PySem L2
/-! ### load -/
end HM
set_option Elab.async false
set_option linter.all false
set_option maxRecDepth 100000
set_option maxHeartbeats 4000000
namespace HM
open PySem L2
/-! ### store -/
section
variable {h : LH} {d tx : Nat} {kept : Bool} {ts : List (KD × D)} {F : Foot} {S : TSt}
/-! ### discard -/
end
end HM
set_option Elab.async false
set_option linter.all false
set_option maxRecDepth 100000
set_option maxHeartbeats 4000000
namespace HM
open PySem L2
/-! ### told, with the three texts -/
section
variable {h : LH} {F : Foot} {S : TSt}
end
end HM
set_option Elab.async false
set_option linter.all false
set_option maxRecDepth 100000
set_option maxHeartbeats 4000000
namespace HM
open PySem L2
end HM
set_option Elab.async false
set_option linter.all false
set_option maxRecDepth 100000
set_option maxHeartbeats 4000000
namespace HM
open PySem L2
structure Bad (nm b : List Nat) : Prop where
  c : nm = kCr → rsD kCr (.str b) = none
  s : nm = kSt → partsD (.str b) = none ∨ ∃ p, partsD (.str b) = some p ∧ rsD kSt p.1 = none
  h : nm = kSh → rsD kSh (.str b) = none
end HM
set_option Elab.async false
set_option linter.all false
set_option maxRecDepth 100000
set_option maxHeartbeats 4000000
namespace HM
open PySem L2
end HM
set_option Elab.async false
set_option linter.all false
set_option maxRecDepth 100000
set_option maxHeartbeats 4000000
namespace HM
open PySem L2
end HM
set_option Elab.async false
set_option linter.all false
set_option maxRecDepth 100000
set_option maxHeartbeats 4000000
namespace HM
open PySem L2
/-! ### a filtered list, the test may make new objects -/
/-! ### names of a disk -/
theorem strKs_of {ts : List (KD × D)} (h : ∀ kv ∈ ts, ∃ n, kv.1 = .inr n) : strKs (ts.map (·.1)) = some (ts.map fun kv => kS kv.1) := by
  induction ts with
  | nil => rfl
  | cons a l ih =>
    obtain ⟨n, e⟩ := h a List.mem_cons_self
    have ih := ih fun kv hm => h kv (List.mem_cons_of_mem _ hm)
    rw [List.map_cons, List.map_cons, e]
    show (strKs (l.map (·.1))).map (fun l => n :: l) = _
    rw [ih]
    rfl
end HM
set_option Elab.async false
set_option linter.all false
set_option maxRecDepth 100000
set_option maxHeartbeats 4000000
namespace HM
open PySem L2
/-! ### a turn; a file put into the draft -/
section
variable {h : LH} {w o dr pb kc ks sn : Nat} {nw : D}
end
end HM
set_option Elab.async false
set_option linter.all false
set_option maxRecDepth 100000
set_option maxHeartbeats 4000000
namespace HM
open PySem L2
/-! ### what the workshop tells after each turn -/
end HM
set_option Elab.async false
set_option linter.all false
set_option maxRecDepth 100000
set_option maxHeartbeats 4000000
namespace WK
open PySem L2 HM
/-! ### cells of a heap: what stands where -/
structure Holds (h : LH) (l : List (Nat × LO)) : Prop where
  nd : (l.map (·.1)).Nodup
  at_ : ∀ p ∈ l, h[p.1]? = some p.2
section
variable {h g : LH} {l l1 l2 : List (Nat × LO)} {a : Nat} {x y : LO}
theorem Holds.get (H : Holds h l) (hm : (a, x) ∈ l) : h[a]? = some x := H.at_ _ hm
theorem Holds.lt (H : Holds h l) (hm : a ∈ l.map (·.1)) : a < h.length := by
  obtain ⟨p, hp, rfl⟩ := List.mem_map.mp hm
  exact lt_of_get (H.at_ p hp)
theorem Holds.keep (H : Holds h l) (k : ∀ i ∈ l.map (·.1), g[i]? = h[i]?) : Holds g l := ⟨H.nd, fun p hp => (k _ (List.mem_map_of_mem hp)).trans (H.at_ p hp)⟩
theorem Holds.kp (H : Holds h l) (K : Kp h g) : Holds g l := ⟨H.nd, fun p hp => K.get (H.at_ p hp)⟩
theorem Holds.set (H : Holds h (l1 ++ (a, x) :: l2)) (y : LO) : Holds (h.set a y) (l1 ++ (a, y) :: l2) := by
  have nd := H.nd
  rw [List.map_append, List.map_cons] at nd
  refine ⟨by rw [List.map_append, List.map_cons]; exact nd, fun p hp => ?_⟩
  have na : ∀ p ∈ l1 ++ l2, p.1 ≠ a := fun p hp e => by
    rw [List.nodup_append] at nd
    obtain ⟨n1, n2, n3⟩ := nd
    rcases List.mem_append.mp hp with hp | hp
    · exact n3 p.1 (List.mem_map_of_mem hp) a List.mem_cons_self e
    · exact (List.nodup_cons.mp n2).1 (List.mem_map.mpr ⟨p, hp, e⟩)
  have la := H.lt (a := a) (by simp)
  rcases List.mem_append.mp hp with hp | hp
  · rw [List.getElem?_set_ne (Ne.symm (na p (List.mem_append_left _ hp)))]
    exact H.at_ p (List.mem_append_left _ hp)
  · rcases List.mem_cons.mp hp with rfl | hp
    · exact List.getElem?_set_self la
    · rw [List.getElem?_set_ne (Ne.symm (na p (List.mem_append_right _ hp)))]
      exact H.at_ p (List.mem_append_right _ (List.mem_cons_of_mem _ hp))
theorem Holds.push (H : Holds h (l1 ++ l2)) (o : LO) : Holds (h ++ [o]) (l1 ++ (h.length, o) :: l2) := by
  have fr : ∀ p ∈ l1 ++ l2, p.1 ≠ h.length := fun p hp e => by
    have := lt_of_get (H.at_ p hp)
    omega
  constructor
  · have nd := H.nd
    rw [List.map_append] at nd
    rw [List.map_append, List.map_cons, List.nodup_append]
    rw [List.nodup_append] at nd
    obtain ⟨n1, n2, n3⟩ := nd
    refine ⟨n1, List.nodup_cons.mpr ⟨fun hm => ?_, n2⟩, fun i hi j hj e => ?_⟩
    · obtain ⟨p, hp, e⟩ := List.mem_map.mp hm
      exact fr p (List.mem_append_right _ hp) e
    · rcases List.mem_cons.mp hj with rfl | hj
      · obtain ⟨p, hp, e'⟩ := List.mem_map.mp hi
        exact fr p (List.mem_append_left _ hp) (e'.trans e)
      · exact n3 i hi j hj e
  · intro p hp
    rcases List.mem_append.mp hp with hp | hp
    · rw [List.getElem?_append_left (lt_of_get (H.at_ p (List.mem_append_left _ hp)))]
      exact H.at_ p (List.mem_append_left _ hp)
    · rcases List.mem_cons.mp hp with rfl | hp
      · simp
      · rw [List.getElem?_append_left (lt_of_get (H.at_ p (List.mem_append_right _ hp)))]
        exact H.at_ p (List.mem_append_right _ hp)
end
/-! ### a workshop's state, with the addresses of its objects -/
structure PgA where
  nm : List Nat
  a : Nat
  f : Nat
  g : Nat
  files : List (KD × D)
  grants : List D
  hold : List (List Nat)
  doc : D
  sea : D
  sig : List (List Nat)
def keyT (ks : List (List Nat)) : D := .tup (ks.map D.str)
def pgF (f g : Nat) (hold doc sea sig : D) : List (String × D) := [("files", .ref f), ("grants", .ref g), ("holders", hold), ("document", doc), ("sealed", sea), ("signers", sig)]
def PgA.cells (p : PgA) : List (Nat × LO) := [(p.a, .ins "Page" (pgF p.f p.g (keyT p.hold) p.doc p.sea (keyT p.sig))), (p.f, .dK p.files), (p.g, .lst p.grants)]
structure SnA where
  sh : D
  ad : Nat
  docs : List (KD × D)
structure Wk where
  w : Nat
  dr : Nat
  pg : Nat
  pb : Nat
  kc : Nat
  ks : Nat
  sn : Nat
  pages : List PgA
  pub : List (KD × D)
  chs : List D
  sts : List D
  sns : List SnA
  nw : D
def pgsD (ps : List PgA) : List (KD × D) := ps.map fun p => (.inr p.nm, .ref p.a)
def Wk.hd (o : Nat) (W : Wk) : List (Nat × LO) :=
  [(W.w, .ins "Workshop" (wsF o W.dr W.pb W.kc W.ks W.sn W.nw)), (W.dr, .ins "Draft" [("pages", .ref W.pg)]), (W.pg, .dK (pgsD W.pages)), (W.pb, .dK W.pub), (W.kc, .lst W.chs), (W.ks, .lst W.sts), (W.sn, .lst (W.sns.map fun s => .tup [s.sh, .ref s.ad]))]
def snC (l : List SnA) : List (Nat × LO) := l.map fun s => (s.ad, .dK s.docs)
def Wk.cells (o : Nat) (W : Wk) : List (Nat × LO) := W.hd o ++ (W.pages.flatMap PgA.cells ++ snC W.sns)
def Wk.ads (W : Wk) : List Nat := (W.cells 0).map (·.1)
structure FrW (W W' : Wk) (m : Nat) (h g : LH) : Prop where
  le : h.length ≤ g.length
  keep : ∀ i, i < h.length → i ∉ W.ads → i ≠ m → g[i]? = h[i]?
  new : ∀ i ∈ W'.ads, i ∈ W.ads ∨ h.length ≤ i
structure WkR (h : LH) (o m : Nat) (ps : List PR) (W : Wk) : Prop where
  H : Holds h (W.cells o)
  of : Off h o m ps
  no : o ∉ W.ads
  nm : m ∉ W.ads
section
variable {h g g2 : LH} {o m : Nat} {ps ps' : List PR} {W W' W2 : Wk}
theorem FrW.refl (h : LH) (W : Wk) (m : Nat) : FrW W W m h h := ⟨Nat.le_refl _, fun _ _ _ _ => rfl, fun _ hi => .inl hi⟩
theorem FrW.kp (K : Kp h g) : FrW W W m h g := ⟨K.le, fun i hi _ _ => K.keep i hi, fun _ hi => .inl hi⟩
theorem FrW.trans (x : FrW W W' m h g) (y : FrW W' W2 m g g2) : FrW W W2 m h g2 := ⟨Nat.le_trans x.le y.le, fun i hi ha hm => by
  rw [y.keep i (Nat.lt_of_lt_of_le hi x.le) (fun z => by rcases x.new i z with q | q; exact ha q; omega) hm, x.keep i hi ha hm], fun i hi => by
  rcases y.new i hi with q | q
  · exact x.new i q
  · exact .inr (Nat.le_trans x.le q)⟩
theorem FrW.get (x : FrW W W' m h g) {i : Nat} {ob : LO} (ha : i ∉ W.ads) (hm : i ≠ m) (e : h[i]? = some ob) : g[i]? = some ob := (x.keep i (lt_of_get e) ha hm).trans e
theorem FrW.out (x : FrW W W' m h g) {i : Nat} (hi : i < h.length) (ha : i ∉ W.ads) : i ∉ W'.ads := fun z => by
  rcases x.new i z with q | q
  · exact ha q
  · omega
theorem WkR.kp (R : WkR h o m ps W) (K : Kp h g) : WkR g o m ps W := ⟨R.H.kp K, R.of.kp K, R.no, R.nm⟩
theorem WkR.lt (R : WkR h o m ps W) {i : Nat} (hi : i ∈ W.ads) : i < h.length := R.H.lt hi
theorem WkR.hw (R : WkR h o m ps W) : h[W.w]? = some (.ins "Workshop" (wsF o W.dr W.pb W.kc W.ks W.sn W.nw)) := R.H.get (by simp [Wk.cells, Wk.hd])
theorem WkR.hd (R : WkR h o m ps W) : h[W.dr]? = some (.ins "Draft" [("pages", .ref W.pg)]) := R.H.get (by simp [Wk.cells, Wk.hd])
theorem WkR.hp (R : WkR h o m ps W) : h[W.pb]? = some (.dK W.pub) := R.H.get (by simp [Wk.cells, Wk.hd])
theorem WkR.hc (R : WkR h o m ps W) : h[W.kc]? = some (.lst W.chs) := R.H.get (by simp [Wk.cells, Wk.hd])
theorem WkR.hs (R : WkR h o m ps W) : h[W.ks]? = some (.lst W.sts) := R.H.get (by simp [Wk.cells, Wk.hd])
theorem WkR.hn (R : WkR h o m ps W) : h[W.sn]? = some (.lst (W.sns.map fun s => .tup [s.sh, .ref s.ad])) := R.H.get (by simp [Wk.cells, Wk.hd])
end
/-! ### one page is changed -/
def Wk.withP (W : Wk) (ps : List PgA) : Wk := { W with pages := ps }
section
variable {h g : LH} {o m : Nat} {ps : List PR} {W : Wk} {P1 P2 : List PgA} {p p' : PgA}
end
end WK
set_option Elab.async false
set_option linter.all false
set_option maxRecDepth 100000
set_option maxHeartbeats 4000000
namespace WK
open PySem L2 HM
/-! ### acts on the draft -/
def fnd (n : List Nat) (W : Wk) : Option PgA := W.pages.find? fun p => decide (p.nm = n)
def Wk.up (W : Wk) (n : List Nat) (f : PgA → PgA) : Wk := W.withP (W.pages.map fun p => if p.nm = n then f p else p)
inductive AcR where
  | no (s : String)
  | yes (W : Wk)
section
variable {h g : LH} {o m : Nat} {ps : List PR} {W : Wk}
end
end WK
set_option Elab.async false
set_option linter.all false
set_option maxRecDepth 100000
set_option maxHeartbeats 4000000
namespace WK
open PySem L2 HM
/-! ### comprehensions with two generators -/
/-! ### names, grants for a list, keys of grants -/
structure WkOk (W : Wk) : Prop where
  un : (W.pages.map (·.nm)).Nodup
  np : W.pages.length ≤ 32
  ln : ∀ p ∈ W.pages, isLN (.str p.nm) = true
  fl : ∀ p ∈ W.pages, p.files.length ≤ 64 ∧ ∀ kv ∈ p.files, ∃ a s, kv = (.inr a, .str s) ∧ isPa (.str a) = true ∧ allC s = true ∧ s.length ≤ 100000
  fn : ∀ p ∈ W.pages, (p.files.map (·.1)).Nodup
  gr : ∀ p ∈ W.pages, p.grants.length ≤ 32 ∧ (∀ z ∈ p.grants, isGrant z = true ∧ fstC z ≠ p.nm ∧ ∃ q ∈ W.pages, q.nm = fstC z) ∧ (p.grants.map fstC).Nodup
  hk : ∀ p ∈ W.pages, ascL p.hold = true ∧ p.hold.length ≤ 32 ∧ ∀ k ∈ p.hold, isKey (.str k) = true
section
variable {h g : LH} {o m : Nat} {ps : List PR} {W : Wk}
end
end WK
set_option Elab.async false
set_option linter.all false
set_option maxRecDepth 100000
set_option maxHeartbeats 4000000
namespace WK
open PySem L2 HM
/-! ### a new page -/
end WK
set_option Elab.async false
set_option linter.all false
set_option maxRecDepth 100000
set_option maxHeartbeats 4000000
namespace WK
open PySem L2 HM
theorem fnd_none {k : List Nat} {W : Wk} : fnd k W = none ↔ k ∉ W.pages.map (·.nm) := by
  unfold fnd
  rw [List.find?_eq_none, List.mem_map]
  constructor
  · rintro h ⟨p, hp, e⟩
    exact absurd e (by simpa using h p hp)
  · intro h p hp
    simp only [decide_eq_true_eq]
    exact fun e => h ⟨p, hp, e⟩
section
variable {h g : LH} {o m : Nat} {ps : List PR} {W : Wk}
end
end WK
set_option Elab.async false
set_option linter.all false
set_option maxRecDepth 100000
set_option maxHeartbeats 4000000
namespace WK
open PySem L2 HM
section
variable {h g : LH} {o m : Nat} {ps : List PR} {W : Wk}
end
end WK
set_option Elab.async false
set_option linter.all false
set_option maxRecDepth 100000
set_option maxHeartbeats 4000000
namespace WK
open PySem L2 HM
theorem mapH_ok {g : LH} {q i : Nat} {xs : List D} {e : EN} {y : M D} {f : D → D} (hq : g[q]? = some (.lst xs)) (hn : xs.length ≤ 1000000) (hy : ∀ x ∈ xs, ∀ acc, y (e.set i (some x)) (g ++ [.lst acc]) = .ok (f x) (g ++ [.lst acc])) :
    loopC (itO q) (.nm i) mYes y e g.length xs.length 0 (g ++ [.lst []]) = .ok (.ref g.length) (g ++ [.lst (xs.map f)]) := by
  have key := loopC_gen (g := itO q) (t := .nm i) (c := mYes) (y := y) (e := e) (k := g.length) (N := xs.length) (fun j => xs.getD j .non) (fun j acc h => acc = (xs.take j).map f ∧ h = g ++ [.lst acc])
    (fun j acc h hj hi => by
      have hh : h[q]? = some (.lst xs) := by rw [hi.2, List.getElem?_append_left (lt_of_get hq)]; exact hq
      rw [itO_get hh]
      by_cases c : j < xs.length
      · rw [if_pos c, List.getD_eq_getElem?_getD, List.getElem?_eq_getElem c]; rfl
      · rw [if_neg c, List.getElem?_eq_none (by omega)])
    (fun j acc h hj hi => by
      obtain ⟨_, rfl⟩ := hi
      simp)
    (fun j acc h hj hi => by
      obtain ⟨rfl, rfl⟩ := hi
      have e1 : xs[j]? = some (xs.getD j .non) := by rw [List.getD_eq_getElem?_getD, List.getElem?_eq_getElem hj]; rfl
      refine ⟨_, rfl, .inr ⟨_, _, _, _, rfl, hy _ (List.mem_of_getElem? e1) _, (by simp; rfl), by simp; omega, ?_⟩⟩
      rw [List.take_succ, e1, List.map_append]
      simp)
    xs.length 0 [] (g ++ [.lst []]) (by omega) ⟨by simp, rfl⟩
  obtain ⟨acc, h, e1, rfl, rfl⟩ := key
  rw [List.take_length] at e1
  exact e1
/-! ### the goods of a page, its next document -/
section
variable {h g : LH} {o m : Nat} {ps : List PR} {W : Wk} {p : PgA}
theorem grOk_of : ∀ {gs : List D} {seen : List (List Nat)}, (∀ z ∈ gs, isGrant z = true ∧ fstC z ∉ seen) → (gs.map fstC).Nodup → grOk seen gs = true
  | [], _, _, _ => by unfold grOk; rfl
  | z :: gs, seen, h, nd => by
    obtain ⟨h1, h2⟩ := h z List.mem_cons_self
    obtain ⟨n1, n2⟩ := List.nodup_cons.mp nd
    rw [grOk_cons, h1, grOk_of (gs := gs) (seen := seen ++ [fstC z]) (fun y hy => ⟨(h y (List.mem_cons_of_mem _ hy)).1, fun hm => by
      rcases List.mem_append.mp hm with hm | hm
      · exact (h y (List.mem_cons_of_mem _ hy)).2 hm
      · exact n1 (List.mem_map.mpr ⟨y, hy, List.mem_singleton.mp hm⟩)⟩) n2]
    have : (seen.any fun t => decide (t = fstC z)) = false := by
      rw [List.any_eq_false]
      intro t ht
      simp only [decide_eq_true_eq]
      exact fun e => h2 (by rw [← e]; exact ht)
    rw [this]
    rfl
end
end WK
set_option Elab.async false
set_option linter.all false
set_option maxRecDepth 100000
set_option maxHeartbeats 4000000
namespace G
open HM PySem L2 L
/-! ### names, paths, patterns -/
def NM : List (List Nat) := kLi :: [[97], [98], [99], [100], [101], [102], [103]]
def PTH : List (List Nat) := (["bin/x", "bin/y.tar", "doc/x", "x", "lib/a/x", "bin/b/y"].map S).map cd
def MN : List (List Nat) := (["*/*", "bin/*", "*", "*/x", "doc/*x*", "lib/*/*", "bin/*.tar", "b*n/*/y"].map S).map cd
theorem NM_ln : ∀ n ∈ NM, isLN (.str n) = true := by decide +kernel
theorem NM_nd : NM.Nodup := by decide +kernel
theorem NM_inj : ∀ i < 8, ∀ j < 8, NM.getD i [] = NM.getD j [] → i = j := by decide +kernel
theorem PTH_pa : ∀ p ∈ PTH, isPa (.str p) = true := by decide +kernel
theorem PTH_le : ∀ p ∈ PTH, p.length ≤ 100 := by decide +kernel
theorem MN_pt : ∀ p ∈ MN, isPt (.str p) = true := by decide +kernel
theorem MN_le : ∀ p ∈ MN, p.length ≤ 20 := by decide +kernel
theorem cov_eq : ∀ p ∈ PTH, ∀ w ∈ MN, lcv p w = mw p w := by decide +kernel
theorem lt_nat {i : Int} {n : Nat} (h0 : 0 ≤ i) (h : i < n) : ∃ k : Nat, k < n ∧ i = k := ⟨i.toNat, by omega, by omega⟩
theorem names_ok {h : LH} : f__law_names_v2 [] h = .ok (.ref h.length) (h ++ [.lst (NM.map D.str)]) := by
  unfold f__law_names_v2
  rw [mkF_eq (by rfl)]
  rfl
theorem ix_map {h : LH} {r : Nat} {xs : List (List Nat)} {i : Int} {k : Nat} (hr : h[r]? = some (.lst (xs.map D.str))) (hk : k < xs.length) (hi : i = (k : Nat)) : dIx (.ref r) (.int i) h = .ok (.str (xs.getD k [])) h := by
  subst hi
  exact strs_ix hr hk
theorem name_at {h : LH} {i : Int} {k : Nat} (hk : k < 8) (hi : i = (k : Nat)) : dIx (.ref h.length) (.int i) (h ++ [.lst (NM.map D.str)]) = .ok (.str (NM.getD k [])) (h ++ [.lst (NM.map D.str)]) :=
  ix_map (by simp) (by exact hk) hi
theorem getD_in {l : List (List Nat)} {k : Nat} (hk : k < l.length) : l.getD k [] ∈ l := by
  rw [List.getD_eq_getElem?_getD, List.getElem?_eq_getElem hk]
  exact List.getElem_mem hk
theorem path_ok {n : Int} {h : LH} : ∃ p h', f__law_path_v3 [.int n] h = .ok (.str p) h' ∧ p ∈ PTH ∧ Kp h h' := by
  obtain ⟨k, hk, ek⟩ := lt_nat (i := n % 6) (n := 6) (Int.emod_nonneg _ (by decide)) (Int.emod_lt_of_pos _ (by decide))
  obtain ⟨h1, q1⟩ : ∃ h1, h1 = h ++ [LO.lst (PTH.map D.str)] := ⟨_, rfl⟩
  have ix := ix_map (h := h1) (r := h.length) (xs := PTH) (k := k) (i := n % 6) (by rw [q1]; simp) (by exact hk) ek
  have hp : PTH.getD k [] ∈ PTH := getD_in (by exact hk)
  refine ⟨PTH.getD k [], h1, ?_, hp, by rw [q1]; exact Kp.push _ _⟩
  generalize PTH.getD k [] = p at ix
  have el : mLst (mCons (mC (S "bin/x")) (mCons (mC (S "bin/y.tar")) (mCons (mC (S "doc/x")) (mCons (mC (S "x")) (mCons (mC (S "lib/a/x")) (mCons (mC (S "bin/b/y")) mNil)))))) [some (.int n)] h = .ok (.ref h.length) h1 := by rw [q1]; rfl
  unfold f__law_path_v3
  rw [mkF_eq (by rfl)]
  rw [show (List.map some [D.int n] ++ List.replicate (1 - 1) none : EN) = [some (.int n)] from rfl]
  unfold b__law_path_v3
  generalize mLst (mCons (mC (S "bin/x")) (mCons (mC (S "bin/y.tar")) (mCons (mC (S "doc/x")) (mCons (mC (S "x")) (mCons (mC (S "lib/a/x")) (mCons (mC (S "bin/b/y")) mNil)))))) = ML at el
  simp -implicitDefEqProofs [el, dMod_int (show (0 : Int) < 6 by decide), ix]
def PsM (ps : List D) : Prop := ps.length ≤ 8 ∧ ps.isEmpty = false ∧ ∀ d ∈ ps, d = .str (cd d) ∧ cd d ∈ MN
theorem PsM.pt {ps : List D} (h : PsM ps) : ps.all isPt = true := by
  rw [List.all_eq_true]
  intro d hd
  obtain ⟨e, m⟩ := h.2.2 d hd
  rw [e]
  exact MN_pt _ m
theorem pats_ok {n : Int} {h : LH} : ∃ ps h', f__law_patterns [.int n] h = .ok (.tup ps) h' ∧ PsM ps ∧ Kp h h' := by
  obtain ⟨c, hc, ec⟩ := lt_nat (i := n % 3) (n := 3) (Int.emod_nonneg _ (by decide)) (Int.emod_lt_of_pos _ (by decide))
  obtain ⟨h1, q1⟩ : ∃ h1, h1 = h ++ [LO.lst (MN.map D.str)] := ⟨_, rfl⟩
  have K1 : Kp h h1 := by rw [q1]; exact Kp.push _ _
  have r1 : h1[h.length]? = some (.lst (MN.map D.str)) := by rw [q1]; simp
  obtain ⟨f, qf⟩ : ∃ f : Nat → D, f = fun j => .str (MN.getD ((n / (8 * (j : Nat) + 1)) % 8).toNat []) := ⟨_, rfl⟩
  have key := mapK_ok (g := h1) (n := 1 + c) (i := 2) (e := [some (.int n), some (.ref h.length), none]) (y := s__law_patterns_2y) (f := f) (by omega) (fun j g hj K => by
    have m1 : ∀ j < 3, mulOk 8 ((j : Nat) : Int) = true := by decide
    have m2 : ∀ j < 3, (8 * ((j : Nat) : Int) + 1).natAbs.log2 < 9000 := by decide
    have m1 := m1 j (by omega)
    have m2 := m2 j (by omega)
    obtain ⟨k, hk, ek⟩ := lt_nat (i := (n / (8 * (j : Nat) + 1)) % 8) (n := 8) (Int.emod_nonneg _ (by decide)) (Int.emod_lt_of_pos _ (by decide))
    have ix := ix_map (h := g) (r := h.length) (xs := MN) (k := k) (i := (n / (8 * (j : Nat) + 1)) % 8) (K.get r1) (by exact hk) ek
    refine ⟨g, ?_, Kp.refl g⟩
    have ef : f j = .str (MN.getD k []) := by rw [qf]; show D.str (MN.getD ((n / (8 * (j : Nat) + 1)) % 8).toNat []) = _; rw [ek, Int.toNat_natCast]
    rw [ef]
    generalize MN.getD k [] = p at ix ⊢
    have j0 : (0 : Int) < 8 * (j : Nat) + 1 := by omega
    generalize ((j : Nat) : Int) = ji at m1 m2 ix j0 ⊢
    unfold s__law_patterns_2y
    simp -implicitDefEqProofs [dMul_int m1, dAdd_int, dDiv_int j0 m2, dMod_int (show (0 : Int) < 8 by decide), ix])
  obtain ⟨g, el, hg, K⟩ := key
  have et := dTuple_ref hg
  have er := rng1_nat (n := 1 + c) (a := mCons (mOp dAdd (mC (.int 1)) (mOp dMod (mVar 0) (mC (.int 3)))) mNil) (e := [some (.int n), some (.ref h.length), none]) (h := h1) (h1 := h1) (by
    simp -implicitDefEqProofs [dMod_int (show (0 : Int) < 3 by decide), dAdd_int, ec]) (by omega)
  have il : mLc (iRng1M (mCons (mOp dAdd (mC (.int 1)) (mOp dMod (mVar 0) (mC (.int 3)))) mNil)) (.nm 2) mYes s__law_patterns_2y [2] [some (.int n), some (.ref h.length), none] h1 = .ok (.ref h1.length) g := by
    rw [ev_lc, er, bind_ok]
    exact el
  obtain ⟨ps, qps⟩ : ∃ ps, ps = (List.range (1 + c)).map f := ⟨_, rfl⟩
  rw [← qps] at et
  have hps : PsM ps := by
    refine ⟨by rw [qps]; simp; omega, ?_, fun d hd => ?_⟩
    · rw [qps, Nat.add_comm, List.range_succ]
      simp
    · rw [qps] at hd
      obtain ⟨j, _, rfl⟩ := List.mem_map.mp hd
      rw [qf]
      refine ⟨rfl, getD_in ?_⟩
      have a1 := Int.emod_nonneg (n / (8 * (j : Nat) + 1)) (show (8 : Int) ≠ 0 by decide)
      have a2 := Int.emod_lt_of_pos (n / (8 * (j : Nat) + 1)) (show (0 : Int) < 8 by decide)
      show _ < 8
      omega
  refine ⟨ps, g, ?_, hps, K1.trans K⟩
  unfold f__law_patterns
  rw [mkF_eq (by rfl)]
  rw [show (List.map some [D.int n] ++ List.replicate (3 - 1) none : EN) = [some (.int n), none, none] from rfl]
  unfold b__law_patterns
  have b1 : s__law_patterns_1 [some (.int n), none, none] h = .next [some (.int n), some (.ref h.length), none] h1 := by rw [q1]; rfl
  rw [ev_seq, b1]
  dsimp only
  unfold s__law_patterns_2
  generalize mLc (iRng1M (mCons (mOp dAdd (mC (.int 1)) (mOp dMod (mVar 0) (mC (.int 3)))) mNil)) (.nm 2) mYes s__law_patterns_2y [2] = ML at il ⊢
  simp -implicitDefEqProofs [il, et]
end G
set_option Elab.async false
set_option linter.all false
set_option maxRecDepth 100000
set_option maxHeartbeats 4000000
namespace G
open HM PySem L2 L
theorem put_len {k : KD} {x : D} {l : List (KD × D)} : (putKD k x l).length ≤ l.length + 1 := by
  unfold putKD
  split <;> simp
/-! ### a list as the law draws it -/
structure GdM (kv : KD × D) : Prop where
  ex : ∃ p l dg, kv = (.inr p, .tup [l, dg]) ∧ p ∈ PTH ∧ isGood (.tup [.str p, l, dg]) = true
structure GrM (nm : List Nat) (kv : KD × D) : Prop where
  ex : ∃ o rl ps l, kv = (.inr o, .tup [.str o, rl, .tup ps, l]) ∧ o ≠ nm ∧ isGrant (.tup [.str o, rl, .tup ps, l]) = true ∧ PsM ps
structure DocM (nm : List Nat) (d : D) : Prop where
  ls : LsD nm d
  ex : ∃ gs grs, d = .tup [.str kLi, .str nm, .int 1, .int 9, .tup gs, .tup grs] ∧ ∀ g ∈ grs, ∃ n rl ps l, g = .tup [.str n, rl, .tup ps, l] ∧ PsM ps
abbrev LE (nm : List Nat) (n k : Int) (A B : Nat) (v4 v6 v7 v8 v9 : Option D) : EN := [some (.str nm), some (.int n), some (.int k), some (.ref A), v4, some (.ref B), v6, v7, v8, v9]
theorem role_k : ∀ x < 90, isRole (.tup [.int 1, .tup [.str ([107] ++ strI ((x : Nat) : Int))]]) = true := by decide +kernel
theorem dg_k : ∀ x < 3, isDg (.str ((List.replicate 17 48) ++ strI ((x : Nat) : Int))) = true := by decide +kernel
theorem goods_loop {nm : List Nat} {n k : Int} {A : Nat} {h : LH} {c : Nat} (n0 : 0 ≤ n) (k0 : 0 ≤ k) (k1 : k < 8) (hc : c ≤ 2) (hA : h[A]? = some (.dK [])) :
    ∃ v4 kvs h', loopF (itN c) (.nm 4) s__law_list_v5_2b c 0 [some (.str nm), some (.int n), some (.int k), some (.ref A), none, none, none, none, none, none] h = .next [some (.str nm), some (.int n), some (.int k), some (.ref A), v4, none, none, none, none, none] h' ∧
      Fo [A] h h' ∧ h'[A]? = some (.dK kvs) ∧ kvs.length ≤ 2 ∧ (∀ kv ∈ kvs, GdM kv) ∧ (kvs.map (·.1)).Nodup := by
  refine loopF_gen (N := c) (fun j => .int (j : Nat)) (fun j e g => (∃ v4, e = [some (.str nm), some (.int n), some (.int k), some (.ref A), v4, none, none, none, none, none]) ∧ Fo [A] h g ∧ ∃ kvs, g[A]? = some (.dK kvs) ∧ kvs.length ≤ j ∧ (∀ kv ∈ kvs, GdM kv) ∧ (kvs.map (·.1)).Nodup)
    (fun z => ∃ v4 kvs h', z = .next [some (.str nm), some (.int n), some (.int k), some (.ref A), v4, none, none, none, none, none] h' ∧
      Fo [A] h h' ∧ h'[A]? = some (.dK kvs) ∧ kvs.length ≤ 2 ∧ (∀ kv ∈ kvs, GdM kv) ∧ (kvs.map (·.1)).Nodup)
    (fun j e g hj hi => rfl) ?_ ?_ c 0 _ _ (by omega) ⟨⟨none, rfl⟩, Fo.refl _ _, [], hA, by simp, fun kv hm => (nomatch hm), by simp⟩
  · rintro j e g hj ⟨⟨v4, rfl⟩, fo, kvs, hg, hl, hk, nd⟩
    have m1 : ∀ j < 2, mulOk 3 ((j : Nat) : Int) = true := by decide
    have m2 : ∀ j < 2, (5 + 3 * ((j : Nat) : Int)).natAbs.log2 < 9000 := by decide
    have m1 := m1 j (by omega)
    have m2 := m2 j (by omega)
    have ds := dStr_int (i := ((j : Nat) : Int)) (h := g) (by omega)
    have s17 : S "00000000000000000" = .str (List.replicate 17 48) := rfl
    obtain ⟨p, g1, ep, hp, K⟩ := path_ok (n := n / (5 + 3 * (j : Nat))) (h := g)
    obtain ⟨dg, qdg⟩ : ∃ dg, dg = (List.replicate 17 48) ++ strI ((j : Nat) : Int) := ⟨_, rfl⟩
    have hdg : isDg (.str dg) = true := by rw [qdg]; exact dg_k j (by omega)
    have ea : dAdd (.str (List.replicate 17 48)) (.str (strI ((j : Nat) : Int))) g = .ok (.str dg) g := by
      have : ∀ j < 3, (strI ((j : Nat) : Int)).length ≤ 100 := by decide +kernel
      have := this j (by omega)
      rw [dAdd_str (by simp; omega), qdg]
    have hg1 := K.get hg
    have a1 := Int.emod_nonneg (n / 7) (show (9 : Int) ≠ 0 by decide)
    have a2 := Int.emod_lt_of_pos (n / 7) (show (0 : Int) < 9 by decide)
    obtain ⟨am, qam⟩ : ∃ am, am = n / 7 % 9 + ((j : Nat) : Int) := ⟨_, rfl⟩
    have ham : isAm (.int am) = true := isInt_of (by omega) (by omega)
    have kp := kPut_ok (e := [some (.str nm), some (.int n), some (.int k), some (.ref A), some (.int (j : Nat)), none, none, none, none, none]) (v := .tup [.int am, .str dg]) (y := .str p) (k := .inr p) hg1 rfl (by omega)
    obtain ⟨g2, q2⟩ : ∃ g2, g2 = g1.set A (.dK (putKD (.inr p) (.tup [.int am, .str dg]) kvs)) := ⟨_, rfl⟩
    rw [← q2] at kp
    refine ⟨_, rfl, ?_⟩
    have hset : ([some (.str nm), some (.int n), some (.int k), some (.ref A), v4, none, none, none, none, none] : EN).set 4 (some (.int (j : Nat))) = [some (.str nm), some (.int n), some (.int k), some (.ref A), some (.int (j : Nat)), none, none, none, none, none] := rfl
    rw [hset]
    have eb : s__law_list_v5_2b [some (.str nm), some (.int n), some (.int k), some (.ref A), some (.int (j : Nat)), none, none, none, none, none] g = .next [some (.str nm), some (.int n), some (.int k), some (.ref A), some (.int (j : Nat)), none, none, none, none, none] g2 := by
      unfold s__law_list_v5_2b
      have j0 : (0 : Int) < 5 + 3 * (j : Nat) := by omega
      rw [s17]
      generalize strI ((j : Nat) : Int) = sj at ds ea
      generalize List.replicate 17 48 = z17 at ea ⊢
      generalize ((j : Nat) : Int) = ji at m1 m2 ds ep qam kp j0 ⊢
      simp -implicitDefEqProofs [dDiv_int (show (0 : Int) < 7 by decide) (show (7 : Int).natAbs.log2 < 9000 by decide), dMod_int (show (0 : Int) < 9 by decide), dAdd_int, ← qam, ds, ea, dMul_int m1, dDiv_int j0 m2, ep, kp]
    rw [eb]
    refine ⟨⟨_, rfl⟩, (fo.trans (Fo.kp K)).trans (by rw [q2]; exact (Fo.refl _ _).set (.inl (by simp))), _, by rw [q2]; exact List.getElem?_set_self (lt_of_get hg1), Nat.le_trans put_len (by omega), fun kv hm => ?_, put_keys.2 nd⟩
    rcases put_keys.1 kv hm with rfl | h2
    · refine ⟨p, _, _, rfl, hp, ?_⟩
      show (isPa (.str p) && (isAm (.int am) && isDg (.str dg))) = true
      rw [PTH_pa p hp, ham, hdg]
      rfl
    · exact hk kv h2
  · rintro e g ⟨⟨v4, rfl⟩, fo, kvs, hg, hl, hk, nd⟩
    exact ⟨v4, kvs, g, rfl, fo, hg, by omega, hk, nd⟩
theorem grants_loop {nm : List Nat} {n k : Int} {A B : Nat} {v4 : Option D} {h : LH} {c : Nat} (n0 : 0 ≤ n) (k0 : 0 ≤ k) (k1 : k < 8) (hc : c ≤ 4) (hB : h[B]? = some (.dK [])) :
    ∃ v4' v6 v7 kvs h', loopF (itN c) (.nm 4) s__law_list_v5_4b c 0 (LE nm n k A B v4 none none none none) h = .next (LE nm n k A B v4' v6 v7 none none) h' ∧
      Fo [B] h h' ∧ h'[B]? = some (.dK kvs) ∧ kvs.length ≤ 4 ∧ (∀ kv ∈ kvs, GrM nm kv) ∧ (kvs.map (·.1)).Nodup := by
  refine loopF_gen (N := c) (fun j => .int (j : Nat)) (fun j e g => (∃ v4 v6 v7, e = LE nm n k A B v4 v6 v7 none none) ∧ Fo [B] h g ∧ ∃ kvs, g[B]? = some (.dK kvs) ∧ kvs.length ≤ j ∧ (∀ kv ∈ kvs, GrM nm kv) ∧ (kvs.map (·.1)).Nodup)
    (fun z => ∃ v4' v6 v7 kvs h', z = .next (LE nm n k A B v4' v6 v7 none none) h' ∧
      Fo [B] h h' ∧ h'[B]? = some (.dK kvs) ∧ kvs.length ≤ 4 ∧ (∀ kv ∈ kvs, GrM nm kv) ∧ (kvs.map (·.1)).Nodup)
    (fun j e g hj hi => rfl) ?_ ?_ c 0 _ _ (by omega) ⟨⟨_, _, _, rfl⟩, Fo.refl _ _, [], hB, by simp, fun kv hm => (nomatch hm), by simp⟩
  · rintro j e g hj ⟨⟨v4, v6, v7, rfl⟩, fo, kvs, hg, hl, hk, nd⟩
    have m1 : ∀ j < 4, mulOk 11 ((j : Nat) : Int) = true ∧ mulOk 5 ((j : Nat) : Int) = true := by decide
    have m2 : ∀ j < 4, (11 * ((j : Nat) : Int) + 13).natAbs.log2 < 9000 ∧ (17 + ((j : Nat) : Int)).natAbs.log2 < 9000 ∧ (19 + 5 * ((j : Nat) : Int)).natAbs.log2 < 9000 := by decide
    obtain ⟨m11, m5⟩ := m1 j (by omega)
    obtain ⟨l11, l17, l19⟩ := m2 j (by omega)
    have b1 := Int.emod_nonneg (n / (11 * ((j : Nat) : Int) + 13)) (show (7 : Int) ≠ 0 by decide)
    have b2 := Int.emod_lt_of_pos (n / (11 * ((j : Nat) : Int) + 13)) (show (0 : Int) < 7 by decide)
    obtain ⟨oi, hoi, eoi⟩ := lt_nat (i := 1 + n / (11 * ((j : Nat) : Int) + 13) % 7) (n := 8) (by omega) (by omega)
    have oi1 : 1 ≤ oi := by omega
    obtain ⟨o, qo⟩ : ∃ o, o = NM.getD oi [] := ⟨_, rfl⟩
    have ho : o ∈ NM := by rw [qo]; exact getD_in (by exact hoi)
    have hol : o ≠ kLi := fun z => by
      have := NM_inj oi hoi 0 (by decide) (by rw [← qo, z]; rfl)
      omega
    obtain ⟨g1, q1⟩ : ∃ g1, g1 = g ++ [LO.lst (NM.map D.str)] := ⟨_, rfl⟩
    have K1 : Kp g g1 := by rw [q1]; exact Kp.push _ _
    have en := names_ok (h := g)
    rw [← q1] at en
    have ix := name_at (h := g) hoi eoi
    rw [← q1, ← qo] at ix
    have hset : (LE nm n k A B v4 v6 v7 none none).set 4 (some (.int (j : Nat))) = LE nm n k A B (some (.int (j : Nat))) v6 v7 none none := rfl
    have eb1 : s__law_list_v5_4b_1 (LE nm n k A B (some (.int (j : Nat))) v6 v7 none none) g = .next (LE nm n k A B (some (.int (j : Nat))) (some (.str o)) v7 none none) g1 := by
      unfold s__law_list_v5_4b_1
      have j0 : (0 : Int) < 11 * ((j : Nat) : Int) + 13 := by omega
      generalize ((j : Nat) : Int) = ji at m11 l11 ix j0 ⊢
      simp -implicitDefEqProofs [en, dMul_int m11, dAdd_int, dDiv_int j0 l11, dMod_int (show (0 : Int) < 7 by decide), ix]
    refine ⟨_, rfl, ?_⟩
    rw [hset]
    rw [show s__law_list_v5_4b = sSeq s__law_list_v5_4b_1 s__law_list_v5_4b_2 from rfl, ev_seq, eb1]
    dsimp only
    by_cases c : o = nm
    · have eb2 : s__law_list_v5_4b_2 (LE nm n k A B (some (.int (j : Nat))) (some (.str o)) v7 none none) g1 = .next (LE nm n k A B (some (.int (j : Nat))) (some (.str o)) v7 none none) g1 := by
        rw [show s__law_list_v5_4b_2 = sIf (mTst (mOp dNe (mVar 6) (mVar 0))) s__law_list_v5_4b_2t sNil from rfl]
        simp -implicitDefEqProofs [dNe_str, c]
      rw [eb2]
      exact ⟨⟨_, _, _, rfl⟩, fo.trans (Fo.kp K1), kvs, K1.get hg, by omega, hk, nd⟩
    · obtain ⟨ps, g2, ep, hps, K2⟩ := pats_ok (n := n / (17 + ((j : Nat) : Int))) (h := g1)
      obtain ⟨x, qx⟩ : ∃ x : Nat, k * 10 + ((j : Nat) : Int) + 1 = (x : Nat) ∧ x < 90 := ⟨(k * 10 + ((j : Nat) : Int) + 1).toNat, by omega, by omega⟩
      obtain ⟨qx, hx⟩ := qx
      have ds := dStr_int (i := ((x : Nat) : Int)) (h := g1) (by omega)
      have hrl := role_k x hx
      have lx : ∀ x < 90, (strI ((x : Nat) : Int)).length ≤ 100 := by decide +kernel
      have ea : dAdd (.str [107]) (.str (strI ((x : Nat) : Int))) g1 = .ok (.str ([107] ++ strI ((x : Nat) : Int))) g1 := dAdd_str (by have := lx x hx; simp; omega)
      obtain ⟨rl, qrl⟩ : ∃ rl, rl = D.tup [.int 1, .tup [.str ([107] ++ strI ((x : Nat) : Int))]] := ⟨_, rfl⟩
      have m10 : ∀ g, dMulX (.int k) (.int 10) g = .ok (.int (k * 10)) g := fun g => by
        show dMul (.int k) (.int 10) g = _
        exact dMul_int (mulOk_r (by decide))
      obtain ⟨bb, qbb⟩ : ∃ bb, bb = decide (n / (19 + 5 * ((j : Nat) : Int)) % 6 = 0) := ⟨_, rfl⟩
      obtain ⟨la, qla⟩ : ∃ la : Int, la = if bb then 1 else 0 := ⟨_, rfl⟩
      have hg2 := K2.get (K1.get hg)
      obtain ⟨v, qv⟩ : ∃ v, v = D.tup [.str o, rl, .tup ps, .int la] := ⟨_, rfl⟩
      have kp := kPut_ok (e := LE nm n k A B (some (.int (j : Nat))) (some (.str o)) (some rl) none none) (v := v) (y := .str o) (k := .inr o) hg2 rfl (by omega)
      obtain ⟨g3, q3⟩ : ∃ g3, g3 = g2.set B (.dK (putKD (.inr o) v kvs)) := ⟨_, rfl⟩
      rw [← q3] at kp
      have sk : S "k" = .str [107] := rfl
      have ebt1 : s__law_list_v5_4b_2t_1 (LE nm n k A B (some (.int (j : Nat))) (some (.str o)) v7 none none) g1 = .next (LE nm n k A B (some (.int (j : Nat))) (some (.str o)) (some rl) none none) g1 := by
        unfold s__law_list_v5_4b_2t_1
        rw [qrl]
        generalize [107] ++ strI ((x : Nat) : Int) = kx at ea
        generalize strI ((x : Nat) : Int) = sx at ds ea
        generalize ((x : Nat) : Int) = xi at qx ds
        generalize ((j : Nat) : Int) = ji at qx ⊢
        simp -implicitDefEqProofs [sk, m10, dAdd_int, qx, ds, ea]
      have ebt2 : s__law_list_v5_4b_2t_2 (LE nm n k A B (some (.int (j : Nat))) (some (.str o)) (some rl) none none) g1 = .next (LE nm n k A B (some (.int (j : Nat))) (some (.str o)) (some rl) none none) g3 := by
        unfold s__law_list_v5_4b_2t_2
        have j17 : (0 : Int) < 17 + ((j : Nat) : Int) := by omega
        have j19 : (0 : Int) < 19 + 5 * ((j : Nat) : Int) := by omega
        have di : ∀ g, dInt [.bl bb] g = .ok (.int la) g := fun g => by rw [qla]; rfl
        generalize ((j : Nat) : Int) = ji at m5 l17 l19 ep kp qbb j17 j19 ⊢
        rw [qv] at kp
        simp -implicitDefEqProofs [dAdd_int, dDiv_int j17 l17, ep, dMul_int m5, dDiv_int j19 l19, dMod_int (show (0 : Int) < 6 by decide), dEq_int, ← qbb, di, kp]
      have eb2 : s__law_list_v5_4b_2 (LE nm n k A B (some (.int (j : Nat))) (some (.str o)) v7 none none) g1 = .next (LE nm n k A B (some (.int (j : Nat))) (some (.str o)) (some rl) none none) g3 := by
        rw [show s__law_list_v5_4b_2 = sIf (mTst (mOp dNe (mVar 6) (mVar 0))) (sSeq s__law_list_v5_4b_2t_1 s__law_list_v5_4b_2t_2) sNil from rfl, ev_if]
        have et : (mTst (mOp dNe (mVar 6) (mVar 0))) (LE nm n k A B (some (.int (j : Nat))) (some (.str o)) v7 none none) g1 = .ok true g1 := by
          simp -implicitDefEqProofs [dNe_str, c]
        rw [et, rs_ok, if_pos rfl, ev_seq, ebt1]
        dsimp only
        rw [ebt2]
      rw [eb2]
      refine ⟨⟨_, _, _, rfl⟩, (fo.trans (Fo.kp (K1.trans K2))).trans (by rw [q3]; exact (Fo.refl _ _).set (.inl (by simp))), _, by rw [q3]; exact List.getElem?_set_self (lt_of_get hg2), Nat.le_trans put_len (by omega), fun kv hm => ?_, put_keys.2 nd⟩
      rcases put_keys.1 kv hm with rfl | h2
      · refine ⟨o, rl, ps, .int la, by rw [qv], c, ?_, hps⟩
        show (isLN (.str o) && (!isS kLi (.str o) && (isRole rl && (decide (ps.length ≤ 8) && (!ps.isEmpty && (ps.all isPt && isInt 0 1 (.int la))))))) = true
        have hs : isS kLi (.str o) = false := by simpa [isS] using hol
        have hla : isInt 0 1 (.int la) = true := by rw [qla]; cases bb <;> rfl
        rw [NM_ln o ho, hs, qrl, hrl, decide_eq_true hps.1, hps.2.1, hps.pt, hla]
        rfl
      · exact hk kv h2
  · rintro e g ⟨⟨v4, v6, v7, rfl⟩, fo, kvs, hg, hl, hk, nd⟩
    exact ⟨v4, v6, v7, kvs, g, rfl, fo, hg, by omega, hk, nd⟩
end G
set_option Elab.async false
set_option linter.all false
set_option maxRecDepth 100000
set_option maxHeartbeats 4000000
namespace G
open HM PySem L2 L
theorem ixA_L {h : LH} {i : Nat} {kvs : List (KD × D)} {y d : D} {k : KD} (hi : h[i]? = some (.dL kvs)) (hk : keyD y = some k) (hd : getKD k kvs = some d) : dIxA (.ref i) y h = .ok d h := by
  unfold dIxA dGetK dctR
  simp only [hi, hk, hd]
theorem mapKL_ok {g : LH} {q i : Nat} {kvs : List (KD × D)} {e : EN} {y : M D} {f : KD × D → D} (hq : g[q]? = some (.dL kvs)) (hn : kvs.length ≤ 1000000) (hy : ∀ x ∈ kvs, ∀ acc, y (e.set i (some (kD x.1))) (g ++ [.lst acc]) = .ok (f x) (g ++ [.lst acc])) :
    loopC (itK q) (.nm i) mYes y e g.length kvs.length 0 (g ++ [.lst []]) = .ok (.ref g.length) (g ++ [.lst (kvs.map f)]) := by
  have key := loopC_gen (g := itK q) (t := .nm i) (c := mYes) (y := y) (e := e) (k := g.length) (N := kvs.length) (fun j => ((kvs[j]?).map fun kv => kD kv.1).getD .non) (fun j acc h => acc = (kvs.take j).map f ∧ h = g ++ [.lst acc])
    (fun j acc h hj hi => by
      have hh : h[q]? = some (.dL kvs) := by rw [hi.2, List.getElem?_append_left (lt_of_get hq)]; exact hq
      unfold itK
      rw [hh]
      dsimp only
      by_cases c : j < kvs.length
      · rw [if_pos c, List.getElem?_eq_getElem c]; rfl
      · rw [if_neg c, List.getElem?_eq_none (by omega)]; rfl)
    (fun j acc h hj hi => by
      obtain ⟨_, rfl⟩ := hi
      simp)
    (fun j acc h hj hi => by
      obtain ⟨rfl, rfl⟩ := hi
      have e1 : kvs[j]? = some kvs[j] := List.getElem?_eq_getElem hj
      refine ⟨_, rfl, .inr ⟨_, f kvs[j], g ++ [.lst ((kvs.take j).map f)], (kvs.take j).map f, rfl, ?_, (by simp), by simp; omega, ?_⟩⟩
      · rw [e1]
        exact hy _ (List.getElem_mem hj) _
      · rw [List.take_succ, e1, List.map_append]
        simp)
    kvs.length 0 [] (g ++ [.lst []]) (by omega) ⟨by simp, rfl⟩
  obtain ⟨acc, h, e1, rfl, rfl⟩ := key
  rw [List.take_length] at e1
  exact e1
def rowF (kvs : List (KD × D)) (d : D) : D := match getKD (.inr (cd d)) kvs with
  | some (.tup xs) => .tup (d :: xs)
  | _ => .non
theorem list_ok {nm : List Nat} {n k : Int} {h : LH} (hnm : nm ∈ NM) (n0 : 0 ≤ n) (k0 : 0 ≤ k) (k1 : k < 8) : ∃ d h', f__law_list_v5 [.str nm, .int n, .int k] h = .ok d h' ∧ DocM nm d ∧ Kp h h' := by
  obtain ⟨A, qA⟩ : ∃ A, A = h.length := ⟨_, rfl⟩
  obtain ⟨h1, q1⟩ : ∃ h1, h1 = h ++ [LO.dK []] := ⟨_, rfl⟩
  have K1 : Kp h h1 := by rw [q1]; exact Kp.push _ _
  have hA1 : h1[A]? = some (.dK []) := by rw [q1, qA]; simp
  have l1 : h1.length = A + 1 := by rw [q1, qA]; simp
  obtain ⟨c, hc, ec⟩ := lt_nat (i := n % 3) (n := 3) (Int.emod_nonneg _ (by decide)) (Int.emod_lt_of_pos _ (by decide))
  obtain ⟨v4, gk, h2, el2, fo2, hA2, lg, hgk, ndg⟩ := goods_loop (nm := nm) (n := n) (k := k) (A := A) (h := h1) (c := c) n0 k0 k1 (by omega) hA1
  obtain ⟨B, qB⟩ : ∃ B, B = h2.length := ⟨_, rfl⟩
  obtain ⟨h3, q3⟩ : ∃ h3, h3 = h2 ++ [LO.dK []] := ⟨_, rfl⟩
  have K3 : Kp h2 h3 := by rw [q3]; exact Kp.push _ _
  have hB3 : h3[B]? = some (.dK []) := by rw [q3, qB]; simp
  have lA := lt_of_get hA2
  obtain ⟨c4, hc4, ec4⟩ := lt_nat (i := n / 3 % 5) (n := 5) (Int.emod_nonneg _ (by decide)) (Int.emod_lt_of_pos _ (by decide))
  obtain ⟨v4', v6, v7, rk, h4, el4, fo4, hB4, lr, hrk, ndr⟩ := grants_loop (nm := nm) (n := n) (k := k) (A := A) (B := B) (v4 := v4) (h := h3) (c := c4) n0 k0 k1 (by omega) hB3
  have hA4 : h4[A]? = some (.dK gk) := fo4.get (by simp; omega) (K3.get hA2)
  -- the rows
  have so := sortedA_n hA4 (strKs_of fun kv hm => by
    obtain ⟨p, _, _, e, _⟩ := (hgk kv hm).ex
    exact ⟨p, by rw [e]⟩) (by rw [List.length_map]; omega)
  obtain ⟨ss, qss⟩ : ∃ ss, ss = sortS (gk.map fun kv => kS kv.1) := ⟨_, rfl⟩
  rw [← qss] at so
  have mss : ∀ a ∈ ss, ∃ p l dg, (Sum.inr p, D.tup [l, dg]) ∈ gk ∧ a = p ∧ isGood (.tup [.str p, l, dg]) = true := fun a ha => by
    rw [qss, (sortS_perm _).mem_iff, List.mem_map] at ha
    obtain ⟨kv, hm, rfl⟩ := ha
    obtain ⟨p, l, dg, e, _, hg⟩ := (hgk kv hm).ex
    exact ⟨p, l, dg, by rw [← e]; exact hm, by rw [e]; rfl, hg⟩
  have ass : ascL ss = true := by
    rw [qss]
    refine asc_of (sortS_pw _) ((sortS_perm _).nodup_iff.mpr ?_)
    have e : gk.map (fun kv => kS kv.1) = (gk.map (·.1)).map kS := by rw [List.map_map]; rfl
    rw [e]
    refine nd_mapOn (fun a ha b hb hab => ?_) ndg
    obtain ⟨kv, hm, rfl⟩ := List.mem_map.mp ha
    obtain ⟨kv', hm', rfl⟩ := List.mem_map.mp hb
    obtain ⟨p, l, dg, e1, _⟩ := (hgk kv hm).ex
    obtain ⟨p', l', dg', e2, _⟩ := (hgk kv' hm').ex
    rw [e1, e2] at hab ⊢
    have : p = p' := hab
    rw [this]
  have lss : ss.length ≤ 2 := by rw [qss, (sortS_perm _).length_eq, List.length_map]; exact lg
  obtain ⟨h5, q5⟩ : ∃ h5, h5 = h4 ++ [LO.lst (ss.map D.str)] := ⟨_, rfl⟩
  rw [← q5] at so
  have K5 : Kp h4 h5 := by rw [q5]; exact Kp.push _ _
  have r5 : h5[h4.length]? = some (.lst (ss.map D.str)) := by rw [q5]; simp
  have key5 := WK.mapH_ok (g := h5) (q := h4.length) (i := 9) (xs := ss.map D.str) (e := LE nm n k A B v4' v6 v7 none none) (y := s__law_list_v5_5y) (f := rowF gk) r5 (by rw [List.length_map]; omega) (fun d hd acc => by
    obtain ⟨a, ha, rfl⟩ := List.mem_map.mp hd
    obtain ⟨p, l, dg, hm, rfl, _⟩ := mss a ha
    have gm := getKD_mem ndg hm
    have ix := ixA_at (h := h5 ++ [LO.lst acc]) (y := .str a) (k := .inr a) ((K5.trans (Kp.push h5 [LO.lst acc])).get hA4) rfl gm
    have er : rowF gk (.str a) = .tup [.str a, l, dg] := by
      unfold rowF
      rw [show cd (D.str a) = a from rfl, gm]
    rw [er]
    have ad : dAdd (.tup [.str a]) (.tup [l, dg]) (h5 ++ [LO.lst acc]) = .ok (.tup [.str a, l, dg]) (h5 ++ [LO.lst acc]) := by rw [dAdd_tup (by simp)]; rfl
    have hset : (LE nm n k A B v4' v6 v7 none none).set 9 (some (.str a)) = LE nm n k A B v4' v6 v7 none (some (.str a)) := rfl
    rw [hset]
    unfold s__law_list_v5_5y
    simp -implicitDefEqProofs [ix, ad])
  obtain ⟨gs, qgs⟩ : ∃ gs, gs = (ss.map D.str).map (rowF gk) := ⟨_, rfl⟩
  rw [← qgs] at key5
  have row_is : ∀ a ∈ ss, isGood (rowF gk (.str a)) = true ∧ fstC (rowF gk (.str a)) = a := fun a ha => by
    obtain ⟨p, l, dg, hm, rfl, hg⟩ := mss a ha
    have gm := getKD_mem ndg hm
    have er : rowF gk (.str a) = .tup [.str a, l, dg] := by
      unfold rowF
      rw [show cd (D.str a) = a from rfl, gm]
    rw [er]
    exact ⟨hg, rfl⟩
  have ags : areGoods (.tup gs) = true := by
    show (decide (gs.length ≤ 64) && (gs.all isGood && ascL (gs.map fstC))) = true
    have e : gs.map fstC = ss := by
      rw [qgs, List.map_map, List.map_map]
      conv => rhs; rw [← List.map_id ss]
      exact List.map_congr_left fun a ha => (row_is a ha).2
    rw [e, ass, Bool.and_true, decide_eq_true (show gs.length ≤ 64 by rw [qgs]; simp; omega), Bool.true_and, List.all_eq_true]
    intro z hz
    rw [qgs] at hz
    obtain ⟨d, hd, rfl⟩ := List.mem_map.mp hz
    obtain ⟨a, ha, rfl⟩ := List.mem_map.mp hd
    exact (row_is a ha).1
  obtain ⟨h6, q6⟩ : ∃ h6, h6 = h5 ++ [LO.lst gs] := ⟨_, rfl⟩
  have K6 : Kp h5 h6 := by rw [q6]; exact Kp.push _ _
  have il5 : mLc (iAny (mApp dSortedA (mCons (mVar 3) mNil))) (.nm 9) mYes s__law_list_v5_5y [9] (LE nm n k A B v4' v6 v7 none none) h4 = .ok (.ref h5.length) h6 := by
    have ia : ∀ Y, h5[h4.length]? = some (.lst Y) → iAny (mApp dSortedA (mCons (mVar 3) mNil)) (LE nm n k A B v4' v6 v7 none none) h4 = .ok (itO h4.length, Y.length) h5 := fun Y hY => by
      simp -implicitDefEqProofs [so, hY]
    rw [ev_lc, ia _ r5, bind_ok, q6]
    exact key5
  have et5 := dTuple_ref (h := h6) (R := h5.length) (xs := gs) (by rw [q6]; simp)
  have b5 : s__law_list_v5_5 (LE nm n k A B v4' v6 v7 none none) h4 = .next (LE nm n k A B v4' v6 v7 (some (.tup gs)) none) h6 := by
    unfold s__law_list_v5_5
    generalize mLc (iAny (mApp dSortedA (mCons (mVar 3) mNil))) (.nm 9) mYes s__law_list_v5_5y [9] = ML at il5
    simp -implicitDefEqProofs [il5, et5]
  -- the grants
  have hB6 : h6[B]? = some (.dK rk) := K6.get (K5.get hB4)
  obtain ⟨hL, qL⟩ : ∃ hL, hL = h6.set B (.dL rk) := ⟨_, rfl⟩
  have hBL : hL[B]? = some (.dL rk) := by rw [qL]; exact List.getElem?_set_self (lt_of_get hB6)
  have lL : hL.length = h6.length := by rw [qL]; simp
  have key6 := mapKL_ok (g := hL) (q := B) (i := 6) (kvs := rk) (e := LE nm n k A B v4' none v7 (some (.tup gs)) none) (y := s__law_list_v5_6y) (f := (·.2)) hBL (by omega) (fun kv hm acc => by
    obtain ⟨o, rl, ps, l, e, _⟩ := (hrk kv hm).ex
    have gm : getKD kv.1 rk = some kv.2 := getKD_mem ndr (by simpa using hm)
    have ix := ixA_L (h := hL ++ [LO.lst acc]) (y := kD kv.1) (k := kv.1) ((Kp.push hL [LO.lst acc]).get hBL) (by rw [e]; rfl) gm
    have hset : (LE nm n k A B v4' none v7 (some (.tup gs)) none).set 6 (some (kD kv.1)) = LE nm n k A B v4' (some (kD kv.1)) v7 (some (.tup gs)) none := rfl
    rw [hset]
    unfold s__law_list_v5_6y
    generalize kD kv.1 = y at ix ⊢
    simp -implicitDefEqProofs [ix])
  obtain ⟨grs, qgr⟩ : ∃ grs, grs = rk.map (·.2) := ⟨_, rfl⟩
  rw [← qgr] at key6
  obtain ⟨h7, q7⟩ : ∃ h7, h7 = h6 ++ [LO.lst grs] := ⟨_, rfl⟩
  have K7 : Kp h6 h7 := by rw [q7]; exact Kp.push _ _
  have il6 : mLock (mVar 5) (mLc (iKeyM (mVar 5)) (.nm 6) mYes s__law_list_v5_6y [6]) (LE nm n k A B v4' v6 v7 (some (.tup gs)) none) h6 = .ok (.ref h6.length) h7 := by
    have inner : mLc (iKeyM (mVar 5)) (.nm 6) mYes s__law_list_v5_6y [6] (LE nm n k A B v4' v6 v7 (some (.tup gs)) none) hL = .ok (.ref h6.length) (hL ++ [LO.lst grs]) := by
      have ik : iKeyM (mVar 5) (LE nm n k A B v4' v6 v7 (some (.tup gs)) none) hL = .ok (itK B, rk.length) hL := by
        unfold iKeyM
        rw [show (mVar 5) (LE nm n k A B v4' v6 v7 (some (.tup gs)) none) hL = .ok (.ref B) hL from rfl, bind_ok]
        dsimp only
        rw [hBL]
      rw [ev_lc, ik, bind_ok]
      rw [← lL]
      exact key6
    unfold mLock
    rw [show (mVar 5) (LE nm n k A B v4' v6 v7 (some (.tup gs)) none) h6 = .ok (.ref B) h6 from rfl]
    dsimp only
    rw [hB6]
    dsimp only
    rw [← qL, inner]
    dsimp only
    rw [List.getElem?_append_left (lt_of_get hBL), hBL]
    dsimp only
    rw [qL, unlock_eq hB6, ← q7]
  have et7 := dTuple_ref (h := h7) (R := h6.length) (xs := grs) (by rw [q7]; simp)
  obtain ⟨d, qd⟩ : ∃ d, d = D.tup [.str kLi, .str nm, .int 1, .int 9, .tup gs, .tup grs] := ⟨_, rfl⟩
  have sl : S "list" = .str kLi := rfl
  have b6 : s__law_list_v5_6 (LE nm n k A B v4' v6 v7 (some (.tup gs)) none) h6 = .ret d h7 := by
    unfold s__law_list_v5_6
    generalize mLock (mVar 5) (mLc (iKeyM (mVar 5)) (.nm 6) mYes s__law_list_v5_6y [6]) = ML at il6 ⊢
    rw [qd]
    simp -implicitDefEqProofs [sl, il6, et7]
  have b2 : s__law_list_v5_2 [some (.str nm), some (.int n), some (.int k), some (.ref A), none, none, none, none, none, none] h1 = .next [some (.str nm), some (.int n), some (.int k), some (.ref A), v4, none, none, none, none, none] h2 := by
    rw [show s__law_list_v5_2 = sFor (iRng1M (mCons (mOp dMod (mVar 1) (mC (.int 3))) mNil)) (.nm 4) s__law_list_v5_2b from rfl, ev_for]
    have er := rng1_nat (n := c) (a := mCons (mOp dMod (mVar 1) (mC (.int 3))) mNil) (e := [some (.str nm), some (.int n), some (.int k), some (.ref A), none, none, none, none, none, none]) (h := h1) (h1 := h1) (by
      simp -implicitDefEqProofs [dMod_int (show (0 : Int) < 3 by decide), ec]) (by omega)
    rw [er, rs_ok]
    exact el2
  have b4 : s__law_list_v5_4 (LE nm n k A B v4 none none none none) h3 = .next (LE nm n k A B v4' v6 v7 none none) h4 := by
    rw [show s__law_list_v5_4 = sFor (iRng1M (mCons (mOp dMod (mOp dDiv (mVar 1) (mC (.int 3))) (mC (.int 5))) mNil)) (.nm 4) s__law_list_v5_4b from rfl, ev_for]
    have er := rng1_nat (n := c4) (a := mCons (mOp dMod (mOp dDiv (mVar 1) (mC (.int 3))) (mC (.int 5))) mNil) (e := LE nm n k A B v4 none none none none) (h := h3) (h1 := h3) (by
      simp -implicitDefEqProofs [dMod_int (show (0 : Int) < 5 by decide), dDiv_int (show (0 : Int) < 3 by decide) (show (3 : Int).natAbs.log2 < 9000 by decide), ec4]) (by omega)
    rw [er, rs_ok]
    exact el4
  have hdoc : DocM nm d := by
    have hg1 : ∀ g ∈ grs, isGrant g = true := fun g hg => by
      rw [qgr] at hg
      obtain ⟨kv, hm, rfl⟩ := List.mem_map.mp hg
      obtain ⟨o, rl, ps, l, e, _, hi, _⟩ := (hrk kv hm).ex
      rw [e]
      exact hi
    have hfs : grs.map fstC = rk.map fun kv => kS kv.1 := by
      rw [qgr, List.map_map]
      refine List.map_congr_left fun kv hm => ?_
      obtain ⟨o, rl, ps, l, e, _⟩ := (hrk kv hm).ex
      rw [e]
      rfl
    have hnd : ([nm] ++ grs.map fstC).Nodup := by
      rw [hfs]
      refine List.nodup_append.mpr ⟨by simp, ?_, ?_⟩
      · have e : rk.map (fun kv => kS kv.1) = (rk.map (·.1)).map kS := by rw [List.map_map]; rfl
        rw [e]
        refine nd_mapOn (fun a ha b hb hab => ?_) ndr
        obtain ⟨kv, hm, rfl⟩ := List.mem_map.mp ha
        obtain ⟨kv', hm', rfl⟩ := List.mem_map.mp hb
        obtain ⟨o, rl, ps, l, e1, _⟩ := (hrk kv hm).ex
        obtain ⟨o', rl', ps', l', e2, _⟩ := (hrk kv' hm').ex
        rw [e1, e2] at hab ⊢
        have : o = o' := hab
        rw [this]
      · intro x hx y hy exy
        simp only [List.mem_singleton] at hx
        obtain ⟨kv, hm, q⟩ := List.mem_map.mp hy
        obtain ⟨o, rl, ps, l, e, ho, _⟩ := (hrk kv hm).ex
        rw [e] at q
        have : o = y := q
        exact ho (this.trans (exy.symm.trans hx))
    refine ⟨⟨?_, .int 1, .int 9, .tup gs, .tup grs, qd⟩, gs, grs, qd, fun g hg => ?_⟩
    · rw [qd]
      show (isS kLi (.str kLi) && (isVer (.int 1) && (isAm (.int 9) && (isLN (.str nm) && (areGoods (.tup gs) && areGrants nm (.tup grs)))))) = true
      have hgr : areGrants nm (.tup grs) = true := by
        show (decide (grs.length ≤ 32) && grOk [nm] grs) = true
        rw [HM.grOk_of hg1 hnd, decide_eq_true (show grs.length ≤ 32 by rw [qgr]; simp; omega)]
        rfl
      rw [isS_self, NM_ln nm hnm, ags, hgr]
      rfl
    · rw [qgr] at hg
      obtain ⟨kv, hm, rfl⟩ := List.mem_map.mp hg
      obtain ⟨o, rl, ps, l, e, _, _, hp⟩ := (hrk kv hm).ex
      exact ⟨o, rl, ps, l, by rw [e], hp⟩
  refine ⟨d, h7, ?_, hdoc, ?_⟩
  · unfold f__law_list_v5
    rw [mkF_eq (by rfl)]
    rw [show (List.map some [D.str nm, .int n, .int k] ++ List.replicate (10 - 3) none : EN) = [some (.str nm), some (.int n), some (.int k), none, none, none, none, none, none, none] from rfl]
    rw [show b__law_list_v5 = sSeq s__law_list_v5_1 (sSeq s__law_list_v5_2 (sSeq s__law_list_v5_3 (sSeq s__law_list_v5_4 (sSeq s__law_list_v5_5 s__law_list_v5_6)))) from rfl]
    have b1 : s__law_list_v5_1 [some (.str nm), some (.int n), some (.int k), none, none, none, none, none, none, none] h = .next [some (.str nm), some (.int n), some (.int k), some (.ref A), none, none, none, none, none, none] h1 := by rw [q1, qA]; rfl
    have b3 : s__law_list_v5_3 [some (.str nm), some (.int n), some (.int k), some (.ref A), v4, none, none, none, none, none] h2 = .next (LE nm n k A B v4 none none none none) h3 := by rw [q3, qB]; rfl
    rw [ev_seq, b1]
    dsimp only
    rw [ev_seq, b2]
    dsimp only
    rw [ev_seq, b3]
    dsimp only
    rw [ev_seq, b4]
    dsimp only
    rw [ev_seq, b5]
    dsimp only
    rw [b6]
  · have lh : h.length = A := qA.symm
    refine ⟨Nat.le_trans K1.le (Nat.le_trans fo2.le (Nat.le_trans K3.le (Nat.le_trans fo4.le (Nat.le_trans K5.le (Nat.le_trans K6.le K7.le))))), fun i hi => ?_⟩
    have a1 := K1.le
    have a2 := fo2.le
    have a3 := K3.le
    have a4 := fo4.le
    have a5 := K5.le
    have a6 := K6.le
    rw [K7.keep i (by omega), K6.keep i (by omega), K5.keep i (by omega), fo4.k i (by omega) (by simp; omega), K3.keep i (by omega), fo2.k i (by omega) (by simp; omega), K1.keep i hi]
end G
set_option Elab.async false
set_option linter.all false
set_option maxRecDepth 100000
set_option maxHeartbeats 4000000
namespace G
open HM PySem L2 L
/-! ### the walk of the law -/
structure World0 (g : LH) (path : List Nat) (rs : List D) (names : List (List Nat)) (dm : List Nat → D) (Dk Nm : Nat) : Prop where
  hp : path ∈ PTH
  hrs : ∀ r ∈ rs, isEnt r = true
  hn : ∀ w, (rs.any fun r => decide (fstC r = w)) = decide (w ∈ names)
  ln : names.length ≤ 32
  hk : g[Dk]? = some (.dK (dk dm NM))
  hN : g[Nm]? = some (.lst (names.map D.str))
  hs : ∀ n ∈ names, n ∈ NM
  dk : ∀ n ∈ NM, DocM n (dm n)
theorem World0.kp {g h : LH} {path : List Nat} {rs : List D} {names : List (List Nat)} {dm : List Nat → D} {Dk Nm : Nat} (w : World0 g path rs names dm Dk Nm) (k : Kp g h) : World0 h path rs names dm Dk Nm :=
  ⟨w.hp, w.hrs, w.hn, w.ln, k.get w.hk, k.get w.hN, w.hs, w.dk⟩
theorem cov3_ok {path : List Nat} {ps : List D} {h : LH} (hp : path ∈ PTH) (hs : PsM ps) : ∃ h', Kp h h' ∧ f__law_covers_v2 [.tup ps, .str path] h = .ok (.bl (ps.any fun d => mw path (cd d))) h' := by
  obtain ⟨h', K, e⟩ := cov2_ok (path := path) (ps := ps) (h := h) (PTH_le _ hp) fun d hd => ⟨(hs.2.2 d hd).1, MN_le _ (hs.2.2 d hd).2⟩
  have q : (ps.any fun d => lcv path (cd d)) = (ps.any fun d => mw path (cd d)) := by
    rw [Bool.eq_iff_iff, List.any_eq_true, List.any_eq_true]
    exact ⟨fun ⟨d, hd, x⟩ => ⟨d, hd, by rw [← cov_eq path hp _ (hs.2.2 d hd).2]; exact x⟩, fun ⟨d, hd, x⟩ => ⟨d, hd, by rw [cov_eq path hp _ (hs.2.2 d hd).2]; exact x⟩⟩
  rw [q] at e
  exact ⟨h', K, e⟩
abbrev WE (role : D) (Dk Nm : Nat) (path : List Nat) (W RD : Nat) (v6 v7 v8 v9 v10 v11 : Option D) : EN := [some role, some (.ref Dk), some (.ref Nm), some (.str path), some (.ref W), some (.ref RD), v6, v7, v8, v9, v10, v11]
theorem seen_lc {y : M D} (hy : y = mOp dIx (mVar 11) (mC (.int 0))) {role : D} {Dk Nm W RD : Nat} {path : List Nat} {rd : List NR} {v6 v7 v8 v9 v10 v11 : Option D} {h : LH} (hR : h[RD]? = some (.lst (rd.map nrD))) (lr : rd.length ≤ 100) :
    mLc (iAny (mVar 5)) (.nm 11) mYes y [11] (WE role Dk Nm path W RD v6 v7 v8 v9 v10 v11) h = .ok (.ref h.length) (h ++ [.lst ((rd.map (·.1)).map D.str)]) := by
  subst hy
  have key := mapO_ok (g := h) (q := RD) (i := 11) (e := WE role Dk Nm path W RD v6 v7 v8 v9 v10 none) (y := mOp dIx (mVar 11) (mC (.int 0))) (f := fun x => fst' x) hR (by rw [List.length_map]; omega) (fun x hx g => by
    obtain ⟨p, _, rfl⟩ := List.mem_map.mp hx
    have i0 : dIx (nrD p) (.int 0) g = .ok (fst' (nrD p)) g := rfl
    have hset : (WE role Dk Nm path W RD v6 v7 v8 v9 v10 none).set 11 (some (nrD p)) = WE role Dk Nm path W RD v6 v7 v8 v9 v10 (some (nrD p)) := rfl
    rw [hset]
    generalize nrD p = z at i0 ⊢
    simp -implicitDefEqProofs [i0])
  have ia : ∀ Y, h[RD]? = some (.lst Y) → iAny (mVar 5) (WE role Dk Nm path W RD v6 v7 v8 v9 v10 v11) h = .ok (itO RD, Y.length) h := fun Y hY => by
    simp -implicitDefEqProofs [hY]
  rw [ev_lc, ia _ hR, bind_ok]
  have e : ((rd.map nrD).map fun x => fst' x) = (rd.map (·.1)).map D.str := by
    rw [List.map_map, List.map_map]
    rfl
  rw [e] at key
  exact key
theorem wgrants_loop {g : LH} {role : D} {Dk Nm W RD A : Nat} {path : List Nat} {rs : List D} {names : List (List Nat)} {wl rd : List NR} {grs : List D} {v6 v7 v8 u10 u11 : Option D} (hpa : path ∈ PTH) (hrs : ∀ w, (rs.any fun r => decide (fstC r = w)) = decide (w ∈ names))
    (hg : ∀ g ∈ grs, ∃ n rl ps l, g = .tup [.str n, rl, .tup ps, .int l] ∧ PsM ps ∧ (l = 0 ∨ l = 1)) (lg : grs.length ≤ 100) (ld : rd.length ≤ 100) (hN : g[Nm]? = some (.lst (names.map D.str))) (hR : g[RD]? = some (.lst (rd.map nrD))) (hW : g[W]? = some (.lst (wl.map nrD))) (hA : g[A]? = some (.lst [])) (n1 : Nm ≠ A) (n2 : RD ≠ A) (n3 : W ≠ A) :
    ∃ v10 v11 h W', loopF (itL grs) (.nm 10) s__law_walk_v2_3b_8b grs.length 0 (WE role Dk Nm path W RD v6 v7 v8 (some (.ref A)) u10 u11) g = .next (WE role Dk Nm path W' RD v6 v7 v8 (some (.ref A)) v10 v11) h ∧ Fo [A] g h ∧
      h[A]? = some (.lst ((addG path rs (rd.map (·.1)) grs).1.map nrD)) ∧ h[W']? = some (.lst ((if (addG path rs (rd.map (·.1)) grs).2 then [] else wl).map nrD)) ∧ (W' = W ∨ g.length ≤ W') ∧ W' ≠ A := by
  obtain ⟨seen, qsn⟩ : ∃ seen, seen = rd.map (·.1) := ⟨_, rfl⟩
  rw [← qsn]
  have key := loopF_list (t := .nm 10) (body := s__law_walk_v2_3b_8b) (xs := grs)
    (fun j e h => (∃ v10 v11, e = WE role Dk Nm path W RD v6 v7 v8 (some (.ref A)) v10 v11) ∧ Fo [A] g h ∧ ∃ acc, h[A]? = some (.lst (acc.map nrD)) ∧ acc.length ≤ j ∧ acc ++ (addG path rs seen (grs.drop j)).1 = (addG path rs seen grs).1 ∧ (addG path rs seen (grs.drop j)).2 = (addG path rs seen grs).2)
    (fun r => ∃ v10 v11 h W', r = .next (WE role Dk Nm path W' RD v6 v7 v8 (some (.ref A)) v10 v11) h ∧ Fo [A] g h ∧
      h[A]? = some (.lst ((addG path rs seen grs).1.map nrD)) ∧ h[W']? = some (.lst ((if (addG path rs seen grs).2 then [] else wl).map nrD)) ∧ (W' = W ∨ g.length ≤ W') ∧ W' ≠ A)
    (fun j d e h hd => by
      rintro ⟨⟨v10, v11, rfl⟩, fo, acc, hac, lac, ha1, ha2⟩
      have hj := lt_of_get hd
      obtain ⟨n, rl, ps, l, rfl, hps, hl⟩ := hg d (List.mem_of_getElem? hd)
      have edrop : grs.drop j = .tup [.str n, rl, .tup ps, .int l] :: grs.drop (j + 1) := by
        rw [List.drop_eq_getElem_cons hj]
        congr 1
        rw [List.getElem?_eq_getElem hj] at hd
        exact Option.some.inj hd
      rw [edrop] at ha1 ha2
      refine ⟨_, rfl, ?_⟩
      have hset : (WE role Dk Nm path W RD v6 v7 v8 (some (.ref A)) v10 v11).set 10 (some (.tup [.str n, rl, .tup ps, .int l])) = WE role Dk Nm path W RD v6 v7 v8 (some (.ref A)) (some (.tup [.str n, rl, .tup ps, .int l])) v11 := rfl
      rw [hset]
      have i0 : ∀ z, dIx (.tup [.str n, rl, .tup ps, .int l]) (.int 0) z = .ok (.str n) z := fun _ => rfl
      have i1 : ∀ z, dIx (.tup [.str n, rl, .tup ps, .int l]) (.int 1) z = .ok rl z := fun _ => rfl
      have i2 : ∀ z, dIx (.tup [.str n, rl, .tup ps, .int l]) (.int 2) z = .ok (.tup ps) z := fun _ => rfl
      have i3 : ∀ z, dIx (.tup [.str n, rl, .tup ps, .int l]) (.int 3) z = .ok (.int l) z := fun _ => rfl
      have htk : takeG path rs seen (.tup [.str n, rl, .tup ps, .int l]) = ((ps.any fun d => mw path (cd d)) && (!decide (n ∈ seen) && (rs.any fun r => decide (fstC r = n)))) := rfl
      have hfst : fstC (.tup [.str n, rl, .tup ps, .int l]) = n := rfl
      have hrl : rlG (.tup [.str n, rl, .tup ps, .int l]) = rl := rfl
      have hla : laG (.tup [.str n, rl, .tup ps, .int l]) = decide (l = 1) := rfl
      rw [addG_cons, htk, hfst, hrl, hla, hrs] at ha1 ha2
      obtain ⟨hc, Kc, ec⟩ := cov3_ok (path := path) (ps := ps) (h := h) hpa hps
      generalize (ps.any fun d => mw path (cd d)) = cv at ec ha1 ha2
      have foc := fo.trans (Fo.kp Kc)
      have d1 := (notIn_L (w := n) (foc.get (by simpa using n1) hN)).2
      have hRc := foc.get (by simpa using n2) hR
      have lc := seen_lc (y := s__law_walk_v2_3b_8by) rfl (role := role) (Dk := Dk) (Nm := Nm) (W := W) (RD := RD) (path := path) (v6 := v6) (v7 := v7) (v8 := v8) (v9 := some (.ref A)) (v10 := some (.tup [.str n, rl, .tup ps, .int l])) (v11 := v11) hRc ld
      rw [← qsn] at lc
      obtain ⟨h2, qh2⟩ : ∃ h2, h2 = hc ++ [LO.lst (seen.map D.str)] := ⟨_, rfl⟩
      rw [← qh2] at lc
      have K2 : Kp hc h2 := by rw [qh2]; exact Kp.push _ _
      have fo2 := foc.trans (Fo.kp K2)
      have d2 := (notIn_L (w := n) (show h2[hc.length]? = some (.lst (seen.map D.str)) from by rw [qh2]; simp)).1
      obtain ⟨x, qx⟩ : ∃ x, x = D.tup [.str n, rl, .tup ps, .int l] := ⟨_, rfl⟩
      rw [← qx] at i0 i1 i2 i3 lc ⊢
      have hac2 := K2.get (Kc.get hac)
      rw [show s__law_walk_v2_3b_8b = sIf (mTAnd (mTru (mApp f__law_covers_v2 (mCons (mOp dIx (mVar 10) (mC (.int 2))) (mCons (mVar 3) mNil)))) (mTAnd (mTst (mOp dIn (mOp dIx (mVar 10) (mC (.int 0))) (mVar 2))) (mTst (mOp dNotIn (mOp dIx (mVar 10) (mC (.int 0))) (mLc (iAny (mVar 5)) (.nm 11) mYes s__law_walk_v2_3b_8by [11]))))) (sSeq s__law_walk_v2_3b_8b_t_1 s__law_walk_v2_3b_8b_t_2) sNil from rfl]
      generalize mLc (iAny (mVar 5)) (.nm 11) mYes s__law_walk_v2_3b_8by [11] = ML at lc ⊢
      by_cases c : cv = true ∧ n ∈ names ∧ n ∉ seen
      · obtain ⟨c1, c2, c3⟩ := c
        subst c1
        rw [decide_eq_true c2] at d1 ha1 ha2
        rw [decide_eq_false c3] at d2 ha1 ha2
        simp only [Bool.not_false, Bool.and_self, if_true] at d2 ha1 ha2
        have il := isLst_ref hac2
        have ap := dAppend_ref (y := .tup [.str n, rl]) hac2 (by simp; omega)
        obtain ⟨h3, q3⟩ : ∃ h3, h3 = h2.set A (.lst (acc.map nrD ++ [.tup [.str n, rl]])) := ⟨_, rfl⟩
        rw [← q3] at ap
        have fo3 : Fo [A] g h3 := by rw [q3]; exact fo2.set (.inl (by simp))
        have hac3 : h3[A]? = some (.lst ((acc ++ [(n, rl)]).map nrD)) := by
          rw [q3, List.getElem?_set_self (lt_of_get hac2), List.map_append]
          rfl
        have et1 : s__law_walk_v2_3b_8b_t_1 (WE role Dk Nm path W RD v6 v7 v8 (some (.ref A)) (some x) v11) h2 = .next (WE role Dk Nm path W RD v6 v7 v8 (some (.ref A)) (some x) v11) h3 := by
          unfold s__law_walk_v2_3b_8b_t_1
          simp -implicitDefEqProofs [il, i0, i1, ap]
        have ec2 : (mTAnd (mTru (mApp f__law_covers_v2 (mCons (mOp dIx (mVar 10) (mC (.int 2))) (mCons (mVar 3) mNil)))) (mTAnd (mTst (mOp dIn (mOp dIx (mVar 10) (mC (.int 0))) (mVar 2))) (mTst (mOp dNotIn (mOp dIx (mVar 10) (mC (.int 0))) ML)))) (WE role Dk Nm path W RD v6 v7 v8 (some (.ref A)) (some x) v11) h = .ok true h2 := by
          simp -implicitDefEqProofs [i2, ec, truD, i0, d1, lc, d2]
        rcases hl with rfl | rfl
        · have et2 : s__law_walk_v2_3b_8b_t_2 (WE role Dk Nm path W RD v6 v7 v8 (some (.ref A)) (some x) v11) h3 = .next (WE role Dk Nm path W RD v6 v7 v8 (some (.ref A)) (some x) v11) h3 := by
            unfold s__law_walk_v2_3b_8b_t_2
            simp -implicitDefEqProofs [i3, dEq_int]
          rw [ev_if, ec2, rs_ok, if_pos rfl, ev_seq, et1]
          dsimp only
          rw [et2]
          rw [if_neg (by decide)] at ha1 ha2
          exact ⟨⟨_, _, rfl⟩, fo3, acc ++ [(n, rl)], hac3, by simp; omega, by rw [← ha1]; simp, ha2⟩
        · obtain ⟨h4, q4⟩ : ∃ h4, h4 = h3 ++ [LO.lst []] := ⟨_, rfl⟩
          have et2 : s__law_walk_v2_3b_8b_t_2 (WE role Dk Nm path W RD v6 v7 v8 (some (.ref A)) (some x) v11) h3 = .brk (WE role Dk Nm path h3.length RD v6 v7 v8 (some (.ref A)) (some x) v11) h4 := by
            rw [show s__law_walk_v2_3b_8b_t_2 = sIf (mTst (mOp dEq (mOp dIx (mVar 10) (mC (.int 3))) (mC (.int 1)))) (sSeq s__law_walk_v2_3b_8b_t_2t_1 sBrk) sNil from rfl]
            rw [ev_if]
            simp -implicitDefEqProofs [i3, dEq_int]
            rw [ev_seq]; simp -implicitDefEqProofs [s__law_walk_v2_3b_8b_t_2t_1, q4]
          rw [ev_if, ec2, rs_ok, if_pos rfl, ev_seq, et1]
          dsimp only
          rw [et2]
          rw [if_pos (by decide)] at ha1 ha2
          have al := lt_of_get hac3
          have gl := fo3.le
          refine ⟨_, _, h4, h3.length, rfl, fo3.trans (by rw [q4]; exact Fo.kp (Kp.push _ _)), ?_, ?_, .inr gl, by omega⟩
          · rw [q4, List.getElem?_append_left al, ← ha1]
            exact hac3
          · rw [← ha2, q4]
            simp
      · have hf : (cv && (!decide (n ∈ seen) && decide (n ∈ names))) = false := by
          cases cv with
          | false => rfl
          | true =>
            by_cases c2 : n ∈ names
            · by_cases c3 : n ∈ seen
              · simp [c3]
              · exact absurd ⟨rfl, c2, c3⟩ c
            · simp [c2]
        rw [hf, if_neg (by decide)] at ha1 ha2
        have ecF : ∃ hz, Kp hc hz ∧ (mTAnd (mTru (mApp f__law_covers_v2 (mCons (mOp dIx (mVar 10) (mC (.int 2))) (mCons (mVar 3) mNil)))) (mTAnd (mTst (mOp dIn (mOp dIx (mVar 10) (mC (.int 0))) (mVar 2))) (mTst (mOp dNotIn (mOp dIx (mVar 10) (mC (.int 0))) ML)))) (WE role Dk Nm path W RD v6 v7 v8 (some (.ref A)) (some x) v11) h = .ok false hz := by
          cases cv with
          | false => exact ⟨hc, Kp.refl _, by simp -implicitDefEqProofs [i2, ec, truD]⟩
          | true =>
            by_cases c2 : n ∈ names
            · have c3 : n ∈ seen := by
                by_cases c3 : n ∈ seen
                · exact c3
                · exact absurd ⟨rfl, c2, c3⟩ c
              exact ⟨h2, K2, by simp -implicitDefEqProofs [i2, ec, truD, i0, d1, c2, lc, d2, c3]⟩
            · exact ⟨hc, Kp.refl _, by simp -implicitDefEqProofs [i2, ec, truD, i0, d1, c2]⟩
        obtain ⟨hz, Kz, ecz⟩ := ecF
        rw [ev_if, ecz, rs_ok, if_neg (by decide)]
        exact ⟨⟨_, _, rfl⟩, foc.trans (Fo.kp Kz), acc, Kz.get (Kc.get hac), by omega, ha1, ha2⟩)
    (fun e h => by
      rintro ⟨⟨v10, v11, rfl⟩, fo, acc, hac, lac, ha1, ha2⟩
      rw [List.drop_length] at ha1 ha2
      refine ⟨v10, v11, h, W, rfl, fo, ?_, ?_, .inl rfl, n3⟩
      · rw [← ha1]
        unfold addG
        simpa using hac
      · rw [← ha2]
        exact fo.get (by simpa using n3) hW) (e := WE role Dk Nm path W RD v6 v7 v8 (some (.ref A)) u10 u11) (h := g) ⟨⟨_, _, rfl⟩, Fo.refl _ _, [], hA, Nat.le_refl _, by simp, by simp⟩
  exact key
theorem wgoods_loop {g : LH} {role : D} {Dk Nm W RD : Nat} {path nm : List Nat} {gs : List D} {v7 v9 v10 v11 u8 : Option D} (hg : ∀ r ∈ gs, isGood r = true) (hpl : path.length ≤ 100) :
    match gs.find? (fun r => decide (fstC r = path)) with
    | some r => ∃ l dg, tlD r = .tup [l, dg] ∧ loopF (itL gs) (.nm 8) s__law_walk_v2_3b_6b gs.length 0 (WE role Dk Nm path W RD (some (.str nm)) v7 u8 v9 v10 v11) g = .ret (.tup [.ref RD, .tup [S "found", .str nm, l, dg]]) g
    | none => ∃ v8, loopF (itL gs) (.nm 8) s__law_walk_v2_3b_6b gs.length 0 (WE role Dk Nm path W RD (some (.str nm)) v7 u8 v9 v10 v11) g = .next (WE role Dk Nm path W RD (some (.str nm)) v7 v8 v9 v10 v11) g := by
  refine loopF_list (t := .nm 8) (body := s__law_walk_v2_3b_6b) (xs := gs)
    (fun j e h => h = g ∧ (∃ v8, e = WE role Dk Nm path W RD (some (.str nm)) v7 v8 v9 v10 v11) ∧ gs.find? (fun r => decide (fstC r = path)) = (gs.drop j).find? (fun r => decide (fstC r = path)))
    (fun z => match gs.find? (fun r => decide (fstC r = path)) with
      | some r => ∃ l dg, tlD r = .tup [l, dg] ∧ z = .ret (.tup [.ref RD, .tup [S "found", .str nm, l, dg]]) g
      | none => ∃ v8, z = .next (WE role Dk Nm path W RD (some (.str nm)) v7 v8 v9 v10 v11) g)
    (fun j d e h hd => by
      rintro ⟨rfl, ⟨v8, rfl⟩, hfd⟩
      have hj := lt_of_get hd
      have hgd := hg d (List.mem_of_getElem? hd)
      have edrop : gs.drop j = d :: gs.drop (j + 1) := by
        rw [List.drop_eq_getElem_cons hj]
        congr 1
        rw [List.getElem?_eq_getElem hj] at hd
        exact Option.some.inj hd
      obtain ⟨p, l, dg, rfl⟩ : ∃ p l dg, d = .tup [.str p, l, dg] := by
        unfold isGood at hgd
        split at hgd
        · rename_i p l dg
          rw [Bool.and_eq_true] at hgd
          cases p with
          | str p => exact ⟨p, l, dg, rfl⟩
          | _ => exact absurd hgd.1 (by simp [isPa, hasD])
        · cases hgd
      rw [edrop, List.find?_cons] at hfd
      refine ⟨_, rfl, ?_⟩
      have hset : (WE role Dk Nm path W RD (some (.str nm)) v7 v8 v9 v10 v11).set 8 (some (.tup [.str p, l, dg])) = WE role Dk Nm path W RD (some (.str nm)) v7 (some (.tup [.str p, l, dg])) v9 v10 v11 := rfl
      rw [hset]
      have i0 : ∀ z, dIx (.tup [.str p, l, dg]) (.int 0) z = .ok (.str p) z := fun _ => rfl
      have i1 : ∀ z, dIx (.tup [.str p, l, dg]) (.int 1) z = .ok l z := fun _ => rfl
      have i2 : ∀ z, dIx (.tup [.str p, l, dg]) (.int 2) z = .ok dg z := fun _ => rfl
      have hfst : fstC (.tup [.str p, l, dg]) = p := rfl
      have htl : tlD (.tup [.str p, l, dg]) = .tup [l, dg] := rfl
      rw [hfst] at hfd
      generalize hx : D.tup [.str p, l, dg] = x at *
      by_cases c : p = path
      · have eb : s__law_walk_v2_3b_6b (WE role Dk Nm path W RD (some (.str nm)) v7 (some x) v9 v10 v11) h = .ret (.tup [.ref RD, .tup [S "found", .str nm, l, dg]]) h := by
          unfold s__law_walk_v2_3b_6b
          simp -implicitDefEqProofs [i0, dEq_str, c, i1, i2]
        rw [eb]
        rw [decide_eq_true c] at hfd
        dsimp only at hfd ⊢
        rw [hfd]
        exact ⟨l, dg, htl, rfl⟩
      · have eb : s__law_walk_v2_3b_6b (WE role Dk Nm path W RD (some (.str nm)) v7 (some x) v9 v10 v11) h = .next (WE role Dk Nm path W RD (some (.str nm)) v7 (some x) v9 v10 v11) h := by
          unfold s__law_walk_v2_3b_6b
          simp -implicitDefEqProofs [i0, dEq_str, c]
        rw [eb]
        rw [decide_eq_false c] at hfd
        exact ⟨rfl, ⟨_, rfl⟩, hfd⟩)
    (fun e h => by
      rintro ⟨rfl, ⟨v8, rfl⟩, hfd⟩
      rw [List.drop_length, List.find?_nil] at hfd
      rw [hfd]
      exact ⟨v8, rfl⟩) ⟨rfl, ⟨_, rfl⟩, rfl⟩
end G
set_option Elab.async false
set_option linter.all false
set_option maxRecDepth 100000
set_option maxHeartbeats 4000000
namespace G
open HM PySem L2 L
theorem docM_facts {nm : List Nat} {d : D} (h : DocM nm d) : ∃ gs grs, d = .tup [.str kLi, .str nm, .int 1, .int 9, .tup gs, .tup grs] ∧ (∀ r ∈ gs, isGood r = true) ∧ (∀ g ∈ grs, isGrant g = true) ∧ grs.length ≤ 32 ∧ (∀ g ∈ grs, ∃ n rl ps l, g = .tup [.str n, rl, .tup ps, .int l] ∧ PsM ps ∧ (l = 0 ∨ l = 1)) := by
  obtain ⟨gs, grs, rfl, hgr⟩ := h.ex
  obtain ⟨v, e, gs', grs', q, h1, h2, h3⟩ := lsd_facts h.ls
  injection q with q
  simp at q
  obtain ⟨_, _, rfl, rfl⟩ := q
  refine ⟨gs, grs, rfl, h3, h1, h2, fun g hm => ?_⟩
  obtain ⟨n, rl, ps, l, e, hp⟩ := hgr g hm
  obtain ⟨n', rl', ps', l', e', _, _, _, _, hl⟩ := grant_shape (h1 g hm)
  rw [e] at e'
  injection e' with e'
  simp at e'
  obtain ⟨rfl, rfl, rfl, rfl⟩ := e'
  exact ⟨n, rl, ps, l', e, hp, hl⟩
def lstL (h : LH) (r : Nat) : Nat := match h[r]? with
  | some (.lst xs) => xs.length
  | _ => 0
theorem lstL_at {h : LH} {r : Nat} {xs : List D} (hr : h[r]? = some (.lst xs)) : lstL h r = xs.length := by
  unfold lstL
  rw [hr]
def refE (e : EN) : Nat := match e[4]? with
  | some (some (D.ref w)) => w
  | _ => 0
structure WI (g : LH) (path : List Nat) (rs : List D) (names : List (List Nat)) (dm : List Nat → D) (Dk Nm RD : Nat) (role : D) (e : EN) (h : LH) : Prop where
  k : Kp g h
  x : ∃ W v6 v7 v8 v9 v10 v11 n wl rd, e = WE role Dk Nm path W RD v6 v7 v8 v9 v10 v11 ∧ h[W]? = some (.lst (wl.map nrD)) ∧ h[RD]? = some (.lst (rd.map nrD)) ∧ (PS path rs dm role n).seen = rd.map (·.1) ∧ RdOk path rs dm role n rd ∧
    (PS path rs dm role n).out = none ∧ SI names (PS path rs dm role n) ∧ filt (PS path rs dm role n).seen wl = filt (PS path rs dm role n).seen (PS path rs dm role n).wait ∧ (∀ x ∈ wl, x.1 ∈ names ∧ isRole x.2 = true) ∧ wl.length ≤ 1 + 32 * n ∧ W ≠ RD
def WF (g : LH) (path : List Nat) (rs : List D) (dm : List Nat → D) (RD : Nat) (role : D) (res : D) (h : LH) : Prop := Kp g h ∧ ∃ N rd, h[RD]? = some (.lst (rd.map nrD)) ∧ RdOk path rs dm role N rd ∧ wantS (PS path rs dm role N) = none ∧ resD (PS path rs dm role N) = res
theorem walk_step {g : LH} {path : List Nat} {rs : List D} {names : List (List Nat)} {dm : List Nat → D} {Dk Nm RD : Nat} {role : D} (w0 : World0 g path rs names dm Dk Nm) (hRD : g.length ≤ RD) {e : EN} {h : LH} (hi : WI g path rs names dm Dk Nm RD role e h) :
    (∃ h1, (mTst (mOp dGt (mApp dLen (mCons (mVar 4) mNil)) (mC (.int 0)))) e h = .ok false h1 ∧ ∃ W v6 v7 v8 v9 v10 v11, e = WE role Dk Nm path W RD v6 v7 v8 v9 v10 v11 ∧ WF g path rs dm RD role (.tup [S "none"]) h1) ∨
    (∃ h1, (mTst (mOp dGt (mApp dLen (mCons (mVar 4) mNil)) (mC (.int 0)))) e h = .ok true h1 ∧ match s__law_walk_v2_3b e h1 with
    | .next e2 h2 => WI g path rs names dm Dk Nm RD role e2 h2 ∧ (40 - lstL h2 RD) * 40 + lstL h2 (refE e2) < (40 - lstL h RD) * 40 + lstL h (refE e)
    | .cnt e2 h2 => WI g path rs names dm Dk Nm RD role e2 h2 ∧ (40 - lstL h2 RD) * 40 + lstL h2 (refE e2) < (40 - lstL h RD) * 40 + lstL h (refE e)
    | .brk e2 h2 => False
    | .ret d h2 => ∃ res, d = .tup [.ref RD, res] ∧ WF g path rs dm RD role res h2
    | .exc x e2 h2 => False
    | .bad => False) := by
  obtain ⟨K, W, v6, v7, v8, v9, v10, v11, n, wl, rd, rfl, hW, hr, hsn, rdo, ho, I, hf, hwl, hlen, WRD⟩ := hi
  have hn32 : n ≤ 32 := by
    have := names_full I w0.ln
    rw [hsn, List.length_map, rdo.1] at this
    exact this
  have lrd : rd.length ≤ 100 := by rw [rdo.1]; omega
  have ll := dLen_ref hW
  rw [List.length_map] at ll
  have m1 : lstL h RD = n := by rw [lstL_at hr, List.length_map, rdo.1]
  have m2 : lstL h (refE (WE role Dk Nm path W RD v6 v7 v8 v9 v10 v11)) = wl.length := by
    show lstL h W = _
    rw [lstL_at hW, List.length_map]
  cases wl with
  | nil =>
    have hwn : wantS (PS path rs dm role n) = none := by
      rw [want_head I w0.ln ho, ← hf]
      rfl
    refine .inl ⟨h, by simp -implicitDefEqProofs [ll, dGt_int], W, _, _, _, _, _, _, rfl, K, n, rd, hr, rdo, hwn, ?_⟩
    unfold resD
    rw [ho, hwn, if_pos ⟨rfl, rfl⟩]
  | cons x t =>
    refine .inr ⟨h, by
      have c : (0 : Int) < (((x :: t).length : Nat) : Int) := by simp
      generalize (((x :: t).length : Nat) : Int) = L at ll c
      simp -implicitDefEqProofs [ll, dGt_int, c], ?_⟩
    rw [m1, m2]
    obtain ⟨nm, rl⟩ := x
    have ix : dIx (.ref W) (.int 0) h = .ok (.tup [.str nm, rl]) h := dIx_ref hW (atI_of (by decide) rfl)
    have i0 : ∀ z, dIx (.tup [.str nm, rl]) (.int 0) z = .ok (.str nm) z := fun _ => rfl
    have esl : dSl (.ref W) (some 1) none h = .ok (.ref h.length) (h ++ [.lst (t.map nrD)]) := by
      unfold dSl
      have : seqD (.ref W) h = some (((nm, rl) :: t).map nrD) := by unfold seqD; simp only [hW]
      simp only [this]
      congr 4
      rw [List.map_cons]
      exact cut_from (s := nrD (nm, rl) :: t.map nrD) (p := 1) (by decide)
    obtain ⟨W2, qW2⟩ : ∃ W2, W2 = h.length := ⟨_, rfl⟩
    obtain ⟨h2, q2⟩ : ∃ h2, h2 = h ++ [LO.lst (t.map nrD)] := ⟨_, rfl⟩
    rw [← qW2, ← q2] at esl
    have K2 : Kp h h2 := by rw [q2]; exact Kp.push _ _
    have hW2 : h2[W2]? = some (.lst (t.map nrD)) := by rw [q2, qW2]; simp
    have hr2 := K2.get hr
    have gl := K.le
    have RDl := lt_of_get hr
    have lc := seen_lc (y := s__law_walk_v2_3b_4y) rfl (role := role) (Dk := Dk) (Nm := Nm) (W := W2) (RD := RD) (path := path) (v6 := some (.str nm)) (v7 := some (.tup [.str nm, rl])) (v8 := v8) (v9 := v9) (v10 := v10) (v11 := v11) hr2 lrd
    obtain ⟨h3, q3⟩ : ∃ h3, h3 = h2 ++ [LO.lst ((rd.map (·.1)).map D.str)] := ⟨_, rfl⟩
    rw [← q3] at lc
    have K3 : Kp h2 h3 := by rw [q3]; exact Kp.push _ _
    have d1 := (notIn_L (w := nm) (show h3[h2.length]? = some (.lst ((rd.map (·.1)).map D.str)) from by rw [q3]; simp)).2
    have b1 : s__law_walk_v2_3b_1 (WE role Dk Nm path W RD v6 v7 v8 v9 v10 v11) h = .next (WE role Dk Nm path W RD (some (.str nm)) v7 v8 v9 v10 v11) h := by
      unfold s__law_walk_v2_3b_1
      simp -implicitDefEqProofs [ix, i0]
    have b2 : s__law_walk_v2_3b_2 (WE role Dk Nm path W RD (some (.str nm)) v7 v8 v9 v10 v11) h = .next (WE role Dk Nm path W RD (some (.str nm)) (some (.tup [.str nm, rl])) v8 v9 v10 v11) h := by
      unfold s__law_walk_v2_3b_2
      simp -implicitDefEqProofs [ix]
    have b3 : s__law_walk_v2_3b_3 (WE role Dk Nm path W RD (some (.str nm)) (some (.tup [.str nm, rl])) v8 v9 v10 v11) h = .next (WE role Dk Nm path W2 RD (some (.str nm)) (some (.tup [.str nm, rl])) v8 v9 v10 v11) h2 := by
      unfold s__law_walk_v2_3b_3
      simp -implicitDefEqProofs [mPart, esl]
    rw [show s__law_walk_v2_3b = sSeq s__law_walk_v2_3b_1 (sSeq s__law_walk_v2_3b_2 (sSeq s__law_walk_v2_3b_3 (sSeq s__law_walk_v2_3b_4 (sSeq s__law_walk_v2_3b_5 (sSeq s__law_walk_v2_3b_6 (sSeq s__law_walk_v2_3b_7 (sSeq s__law_walk_v2_3b_8 s__law_walk_v2_3b_9))))))) from rfl]
    rw [ev_seq, b1]; dsimp only
    rw [ev_seq, b2]; dsimp only
    rw [ev_seq, b3]; dsimp only
    rw [← hsn] at d1
    by_cases c : nm ∈ (PS path rs dm role n).seen
    · rw [decide_eq_true c] at d1
      have b4 : s__law_walk_v2_3b_4 (WE role Dk Nm path W2 RD (some (.str nm)) (some (.tup [.str nm, rl])) v8 v9 v10 v11) h2 = .cnt (WE role Dk Nm path W2 RD (some (.str nm)) (some (.tup [.str nm, rl])) v8 v9 v10 v11) h3 := by
        unfold s__law_walk_v2_3b_4
        generalize mLc (iAny (mVar 5)) (.nm 11) mYes s__law_walk_v2_3b_4y [11] = ML at lc ⊢
        simp -implicitDefEqProofs [lc, d1]
      rw [ev_seq, b4]
      dsimp only
      have hW3 := K3.get hW2
      have hr3 := K3.get hr2
      refine ⟨⟨K.trans (K2.trans K3), W2, _, _, _, _, _, _, n, t, rd, rfl, hW3, hr3, hsn, rdo, ho, I, ?_, fun x hx => hwl x (List.mem_cons_of_mem _ hx), by simp at hlen; omega, by omega⟩, ?_⟩
      · rw [← hf]
        unfold filt
        rw [List.filter_cons_of_neg (by simp [c])]
      · rw [lstL_at hr3, List.length_map, rdo.1]
        show (40 - n) * 40 + lstL h3 W2 < _
        rw [lstL_at hW3, List.length_map]
        simp
    · rw [decide_eq_false c] at d1
      obtain ⟨hhd, hfl⟩ := filt_head (x := (nm, rl)) (t := t) (l := (PS path rs dm role n).wait) c hf nm rfl
      have hwn : wantS (PS path rs dm role n) = some (nm, rl) := by rw [want_head I w0.ln ho]; exact hhd
      obtain ⟨hnn, hrl⟩ := hwl (nm, rl) List.mem_cons_self
      have hdk := w0.dk nm (w0.hs nm hnn)
      have hls := hdk.ls
      have hxs : PS path rs dm role (n + 1) = readS path rs (dm nm) (PS path rs dm role n) := by
        show nextS path rs dm (PS path rs dm role n) = _
        unfold nextS
        rw [hwn]
      obtain ⟨seen, qseen⟩ : ∃ s, s = (PS path rs dm role n).seen := ⟨_, rfl⟩
      have hseen1 : (PS path rs dm role (n + 1)).seen = seen ++ [nm] := by rw [hxs, (read_seen hls).1, qseen]
      rw [← qseen] at c hfl hsn
      have hsn1 : seen ++ [nm] = (rd ++ [(nm, rl)]).map (·.1) := by rw [List.map_append, ← hsn]; rfl
      have b4 : s__law_walk_v2_3b_4 (WE role Dk Nm path W2 RD (some (.str nm)) (some (.tup [.str nm, rl])) v8 v9 v10 v11) h2 = .next (WE role Dk Nm path W2 RD (some (.str nm)) (some (.tup [.str nm, rl])) v8 v9 v10 v11) h3 := by
        unfold s__law_walk_v2_3b_4
        generalize mLc (iAny (mVar 5)) (.nm 11) mYes s__law_walk_v2_3b_4y [11] = ML at lc ⊢
        simp -implicitDefEqProofs [lc, d1]
      have hr3 := K3.get hr2
      have il5 := isLst_ref hr3
      have ap5 := dAppend_ref (y := .tup [.str nm, rl]) hr3 (by rw [List.length_map, rdo.1]; omega)
      obtain ⟨h4, q4⟩ : ∃ h4, h4 = h3.set RD (.lst (rd.map nrD ++ [.tup [.str nm, rl]])) := ⟨_, rfl⟩
      rw [← q4] at ap5
      have hr4 : h4[RD]? = some (.lst ((rd ++ [(nm, rl)]).map nrD)) := by
        rw [q4, List.getElem?_set_self (lt_of_get hr3), List.map_append]
        rfl
      have hW4 : h4[W2]? = some (.lst (t.map nrD)) := by
        rw [q4, List.getElem?_set_ne (by omega)]
        exact K3.get hW2
      have K4 : Kp g h4 := by
        rw [q4]
        exact (K.trans (K2.trans K3)).set hRD
      have b5 : s__law_walk_v2_3b_5 (WE role Dk Nm path W2 RD (some (.str nm)) (some (.tup [.str nm, rl])) v8 v9 v10 v11) h3 = .next (WE role Dk Nm path W2 RD (some (.str nm)) (some (.tup [.str nm, rl])) v8 v9 v10 v11) h4 := by
        unfold s__law_walk_v2_3b_5
        simp -implicitDefEqProofs [il5, ap5]
      have W4 := w0.kp K4
      have ig := ixA_at (y := .str nm) (k := .inr nm) W4.hk rfl (by rw [dk_get, if_pos (w0.hs nm hnn)])
      obtain ⟨gs, grs, hdm, hgo, hgr, lgr, hgg⟩ := docM_facts hdk
      have rdo1 : RdOk path rs dm role (n + 1) (rd ++ [(nm, rl)]) := ⟨by simp [rdo.1], fun i hi => by
        by_cases c' : i < n
        · rw [List.getElem?_append_left (by rw [rdo.1]; exact c')]
          exact rdo.2 i c'
        · have : i = n := by omega
          subst this
          rw [hwn, ← rdo.1]
          simp⟩
      have i4 : ∀ z, dIx (dm nm) (.int 4) z = .ok (.tup gs) z := fun z => by rw [hdm]; rfl
      have i5 : ∀ z, dIx (dm nm) (.int 5) z = .ok (.tup grs) z := fun z => by rw [hdm]; rfl
      have wg := wgoods_loop (g := h4) (role := role) (Dk := Dk) (Nm := Nm) (W := W2) (RD := RD) (nm := nm) (gs := gs) (v7 := some (.tup [.str nm, rl])) (v9 := v9) (v10 := v10) (v11 := v11) (u8 := v8) hgo (PTH_le _ w0.hp)
      have e6 : s__law_walk_v2_3b_6 (WE role Dk Nm path W2 RD (some (.str nm)) (some (.tup [.str nm, rl])) v8 v9 v10 v11) h4 = loopF (itL gs) (.nm 8) s__law_walk_v2_3b_6b gs.length 0 (WE role Dk Nm path W2 RD (some (.str nm)) (some (.tup [.str nm, rl])) v8 v9 v10 v11) h4 := by
        rw [show s__law_walk_v2_3b_6 = sFor (iAny (mOp dIx (mOp dIxA (mVar 1) (mVar 6)) (mC (.int 4)))) (.nm 8) s__law_walk_v2_3b_6b from rfl, ev_for]
        have ia : iAny (mOp dIx (mOp dIxA (mVar 1) (mVar 6)) (mC (.int 4))) (WE role Dk Nm path W2 RD (some (.str nm)) (some (.tup [.str nm, rl])) v8 v9 v10 v11) h4 = .ok (itL gs, gs.length) h4 := by
          simp -implicitDefEqProofs [ig, i4]
        rw [ia, rs_ok]
      rw [ev_seq, b4]; dsimp only
      rw [ev_seq, b5]; dsimp only
      rw [ev_seq, e6]
      have hg0 : giveS path rs gs grs nm (PS path rs dm role n) = PS path rs dm role (n + 1) := by
        rw [hxs, hdm]
        rfl
      unfold giveS at hg0
      rw [← qseen] at hg0
      cases qf : gs.find? (fun r => decide (fstC r = path)) with
      | some r =>
        rw [qf] at wg hg0
        dsimp only at wg hg0
        obtain ⟨l, dg, etl, el⟩ := wg
        rw [el]
        rw [etl] at hg0
        dsimp only at hg0 ⊢
        refine ⟨_, rfl, K4, n + 1, rd ++ [(nm, rl)], hr4, rdo1, ?_, ?_⟩
        · rw [← hg0]
          rfl
        · rw [← hg0]
          rfl
      | none =>
        rw [qf] at wg hg0
        dsimp only at wg hg0
        obtain ⟨u8, el⟩ := wg
        rw [el]
        dsimp only
        obtain ⟨A, qA⟩ : ∃ A, A = h4.length := ⟨_, rfl⟩
        obtain ⟨h5, q5⟩ : ∃ h5, h5 = h4 ++ [LO.lst []] := ⟨_, rfl⟩
        have K5 : Kp h4 h5 := by rw [q5]; exact Kp.push _ _
        have hA5 : h5[A]? = some (.lst []) := by rw [q5, qA]; simp
        have l4 : h4.length = h3.length := by rw [q4]; simp
        have W5 := W4.kp K5
        have Nml := lt_of_get W4.hN
        have RD4 := lt_of_get hr4
        have W24 := lt_of_get hW4
        have ig5 := ixA_at (y := .str nm) (k := .inr nm) W5.hk rfl (by rw [dk_get, if_pos (w0.hs nm hnn)])
        obtain ⟨w10, w11, h6, W6, ek, fo, hA6, hW6, hWW, hWA⟩ := wgrants_loop (g := h5) (role := role) (Dk := Dk) (RD := RD) (rd := rd ++ [(nm, rl)]) (v6 := some (.str nm)) (v7 := some (.tup [.str nm, rl])) (v8 := u8) (u10 := v10) (u11 := v11) w0.hp w0.hn hgg (by omega) (by simp [rdo.1]; omega) W5.hN (K5.get hr4) (K5.get hW4) hA5 (by omega) (by omega) (by omega)
        rw [← hsn1] at hA6 hW6
        generalize qadd : addG path rs (seen ++ [nm]) grs = AD at hA6 hW6 hg0
        obtain ⟨ad, fl⟩ := AD
        dsimp only at hA6 hW6 hg0
        have had : ∀ x ∈ ad, x.1 ∈ names ∧ isRole x.2 = true := fun x hx => by
          have e : ad = (addG path rs (seen ++ [nm]) grs).1 := by rw [qadd]
          rw [e] at hx
          exact ⟨addG_names w0.hn grs x hx, addG_role grs hgr x hx⟩
        have lad : ad.length ≤ 32 := by
          have := addG_len (p := path) (rs := rs) (seen := seen ++ [nm]) grs
          rw [qadd] at this
          exact Nat.le_trans this lgr
        obtain ⟨t2, qt2⟩ : ∃ t2, t2 = (if fl = true then [] else t) := ⟨_, rfl⟩
        rw [← qt2] at hW6
        have lt2 : t2.length ≤ t.length := by rw [qt2]; split <;> simp
        have mt2 : ∀ x ∈ t2, x ∈ t := fun x hx => by
          rw [qt2] at hx
          split at hx
          · cases hx
          · exact hx
        have ea := dAdd_refs hA6 hW6 (by simp at hlen ⊢; omega)
        rw [← List.map_append] at ea
        obtain ⟨h7, q7⟩ : ∃ h7, h7 = h6 ++ [LO.lst ((ad ++ t2).map nrD)] := ⟨_, rfl⟩
        rw [← q7] at ea
        have K7 : Kp h6 h7 := by rw [q7]; exact Kp.push _ _
        have b7 : s__law_walk_v2_3b_7 (WE role Dk Nm path W2 RD (some (.str nm)) (some (.tup [.str nm, rl])) u8 v9 v10 v11) h4 = .next (WE role Dk Nm path W2 RD (some (.str nm)) (some (.tup [.str nm, rl])) u8 (some (.ref A)) v10 v11) h5 := by
          rw [q5, qA]; rfl
        have b8 : s__law_walk_v2_3b_8 (WE role Dk Nm path W2 RD (some (.str nm)) (some (.tup [.str nm, rl])) u8 (some (.ref A)) v10 v11) h5 = .next (WE role Dk Nm path W6 RD (some (.str nm)) (some (.tup [.str nm, rl])) u8 (some (.ref A)) w10 w11) h6 := by
          rw [show s__law_walk_v2_3b_8 = sFor (iAny (mOp dIx (mOp dIxA (mVar 1) (mVar 6)) (mC (.int 5)))) (.nm 10) s__law_walk_v2_3b_8b from rfl, ev_for]
          have ia : iAny (mOp dIx (mOp dIxA (mVar 1) (mVar 6)) (mC (.int 5))) (WE role Dk Nm path W2 RD (some (.str nm)) (some (.tup [.str nm, rl])) u8 (some (.ref A)) v10 v11) h5 = .ok (itL grs, grs.length) h5 := by
            simp -implicitDefEqProofs [ig5, i5]
          rw [ia, rs_ok]
          exact ek
        have b9 : s__law_walk_v2_3b_9 (WE role Dk Nm path W6 RD (some (.str nm)) (some (.tup [.str nm, rl])) u8 (some (.ref A)) w10 w11) h6 = .next (WE role Dk Nm path h6.length RD (some (.str nm)) (some (.tup [.str nm, rl])) u8 (some (.ref A)) w10 w11) h7 := by
          unfold s__law_walk_v2_3b_9
          simp -implicitDefEqProofs [ea]
        rw [ev_seq, b7]; dsimp only
        rw [ev_seq, b8]; dsimp only
        rw [b9]
        dsimp only
        have hlm := hlen
        simp at hlm
        have hr7 : h7[RD]? = some (.lst ((rd ++ [(nm, rl)]).map nrD)) := K7.get (fo.get (by simp; omega) (K5.get hr4))
        refine ⟨⟨⟨Nat.le_trans K4.le (Nat.le_trans K5.le (Nat.le_trans fo.le K7.le)), fun i hi => ?_⟩, h6.length, _, _, _, _, _, _, n + 1, ad ++ t2, rd ++ [(nm, rl)], rfl, by rw [q7]; simp, hr7, by rw [hseen1, hsn1], rdo1, by rw [← hg0]; exact ho, ?_, ?_, fun x hx => ?_, by simp; omega, ?_⟩, ?_⟩
        · rw [K7.keep i (by have := K4.le; have := K5.le; have := fo.le; omega), fo.k i (by have := K4.le; have := K5.le; omega) (by have := K4.le; simp; omega), K5.keep i (by have := K4.le; omega), K4.keep i hi]
        · rw [← hg0]
          refine ⟨fun x hx => ?_, ?_, fun x hx => ?_⟩
          · rcases List.mem_append.mp hx with h' | h'
            · exact (had x h').1
            · have := (List.mem_filter.mp h').1
              split at this
              · cases this
              · exact I.w x this
          · have := I.n
            rw [← qseen] at this
            exact List.nodup_append.mpr ⟨this, by simp, fun x hx y hy e => by
              simp at hy
              subst hy
              subst e
              exact c hx⟩
          · have := I.m
            rw [← qseen] at this
            rcases List.mem_append.mp hx with h' | h'
            · exact this x h'
            · simp at h'
              rw [h']
              exact hnn
        · rw [← hg0]
          dsimp only
          have fa : ∀ (s : List (List Nat)) (a b : List NR), filt s (a ++ b) = filt s a ++ filt s b := fun s a b => List.filter_append ..
          have fi : ∀ (s : List (List Nat)) (a : List NR), filt s (a.filter fun x => !decide (x.1 ∈ s)) = filt s a := fun s a => by
            unfold filt
            rw [List.filter_filter]
            refine List.filter_congr fun x _ => ?_
            cases decide (x.1 ∈ s) <;> rfl
          rw [fa, fa, fi]
          congr 1
          rw [qt2]
          cases fl with
          | true => rfl
          | false => exact hfl
        · rcases List.mem_append.mp hx with h' | h'
          · exact had x h'
          · exact hwl x (List.mem_cons_of_mem _ (mt2 x h'))
        · have := K5.le
          have := fo.le
          omega
        · rw [lstL_at hr7, List.length_map]
          show (40 - (rd ++ [(nm, rl)]).length) * 40 + lstL h7 h6.length < _
          rw [lstL_at (show h7[h6.length]? = some (.lst ((ad ++ t2).map nrD)) from by rw [q7]; simp), List.length_map]
          simp only [List.length_append, List.length_cons, List.length_nil, rdo.1]
          omega
theorem walk_ok {g : LH} {path : List Nat} {rs : List D} {names : List (List Nat)} {dm : List Nat → D} {Dk Nm : Nat} {role : D} (w0 : World0 g path rs names dm Dk Nm) (hrl : isRole role = true) (hli : kLi ∈ names) :
    ∃ RD res h, f__law_walk_v2 [role, .ref Dk, .ref Nm, .str path] g = .ok (.tup [.ref RD, res]) h ∧ g.length ≤ RD ∧ WF g path rs dm RD role res h := by
  suffices hP : ∀ P : Res D → Prop, (∀ RD res h, g.length ≤ RD → WF g path rs dm RD role res h → P (.ok (.tup [.ref RD, res]) h)) → P (f__law_walk_v2 [role, .ref Dk, .ref Nm, .str path] g) from
    hP (fun r => ∃ RD res h, r = .ok (.tup [.ref RD, res]) h ∧ g.length ≤ RD ∧ WF g path rs dm RD role res h) fun RD res h a b => ⟨RD, res, h, rfl, a, b⟩
  intro P fin
  have sl : S "list" = .str kLi := rfl
  obtain ⟨g1, q1⟩ : ∃ g1, g1 = g ++ [LO.lst [nrD (kLi, role)]] := ⟨_, rfl⟩
  obtain ⟨g2, q2⟩ : ∃ g2, g2 = g1 ++ [LO.lst []] := ⟨_, rfl⟩
  have l1 : g1.length = g.length + 1 := by rw [q1]; simp
  have K2 : Kp g g2 := by rw [q2, q1]; exact (Kp.push _ _).trans (Kp.push _ _)
  have hW : g2[g.length]? = some (.lst ([(kLi, role)].map nrD)) := by rw [q2, q1]; simp
  have hR : g2[g.length + 1]? = some (.lst []) := by rw [q2, ← l1]; simp
  obtain ⟨o, qo⟩ : ∃ o, o = g.length := ⟨_, rfl⟩
  rw [← qo] at hW hR l1
  have hWI : WI g path rs names dm Dk Nm (o + 1) role (WE role Dk Nm path o (o + 1) none none none none none none) g2 :=
    ⟨K2, o, _, _, _, _, _, _, 0, [(kLi, role)], [], rfl, hW, hR, rfl, ⟨rfl, fun i hi => absurd hi (by omega)⟩, rfl, ⟨fun x hx => by
        have : x = (kLi, role) := by simpa [HM.PS] using hx
        rw [this]
        exact hli, List.nodup_nil, fun x hx => by cases hx⟩, rfl, fun x hx => by
        have : x = (kLi, role) := by simpa using hx
        rw [this]
        exact ⟨hli, hrl⟩, by simp, by omega⟩
  have key := loopW_gen (c := mTst (mOp dGt (mApp dLen (mCons (mVar 4) mNil)) (mC (.int 0)))) (b := s__law_walk_v2_3b) (WI g path rs names dm Dk Nm (o + 1) role)
    (fun r => (∃ W v6 v7 v8 v9 v10 v11 h, r = .next (WE role Dk Nm path W (o + 1) v6 v7 v8 v9 v10 v11) h ∧ WF g path rs dm (o + 1) role (.tup [S "none"]) h) ∨ ∃ res h, r = .ret (.tup [.ref (o + 1), res]) h ∧ WF g path rs dm (o + 1) role res h)
    (fun e h => (40 - lstL h (o + 1)) * 40 + lstL h (refE e))
    (fun e h hi => by
      rcases walk_step w0 (by omega) hi with ⟨h1, e1, W, v6, v7, v8, v9, v10, v11, rfl, wf⟩ | ⟨h1, e1, st⟩
      · exact .inl ⟨h1, e1, .inl ⟨W, v6, v7, v8, v9, v10, v11, h1, rfl, wf⟩⟩
      · refine .inr ⟨h1, e1, ?_⟩
        revert st
        cases s__law_walk_v2_3b e h1 with
        | next e2 h2 => exact fun z => z
        | cnt e2 h2 => exact fun z => z
        | brk e2 h2 => exact fun z => z.elim
        | ret d h2 => exact fun ⟨res, z, y⟩ => .inr ⟨res, h2, by rw [z], y⟩
        | exc x e2 h2 => exact fun z => z.elim
        | bad => exact fun z => z.elim) fuel (WE role Dk Nm path o (o + 1) none none none none none none) g2 hWI (by
      rw [lstL_at hR]
      show (40 - 0) * 40 + lstL g2 o < _
      rw [lstL_at hW, List.length_map]
      show (40 - 0) * 40 + 1 < fuel
      decide)
  unfold f__law_walk_v2
  rw [mkF_eq (by rfl)]
  rw [show (List.map some [role, D.ref Dk, .ref Nm, .str path] ++ List.replicate (12 - 4) none : EN) = [some role, some (.ref Dk), some (.ref Nm), some (.str path), none, none, none, none, none, none, none, none] from rfl]
  rw [show b__law_walk_v2 = sSeq s__law_walk_v2_1 (sSeq s__law_walk_v2_2 (sSeq s__law_walk_v2_3 s__law_walk_v2_4)) from rfl]
  have w0' : D.tup [.str kLi, role] = nrD (kLi, role) := rfl
  rw [ev_seq]; simp -implicitDefEqProofs [s__law_walk_v2_1, sl, w0', ← q1, ← qo]
  rw [ev_seq]; simp -implicitDefEqProofs [s__law_walk_v2_2, ← q2, l1]
  rw [ev_seq]
  rw [show s__law_walk_v2_3 = sWhile fuel (mTst (mOp dGt (mApp dLen (mCons (mVar 4) mNil)) (mC (.int 0)))) s__law_walk_v2_3b from rfl, ev_while]
  rcases key with ⟨W, v6, v7, v8, v9, v10, v11, h, ek, wf⟩ | ⟨res, h, ek, wf⟩
  · rw [ek]
    dsimp only
    have fin' := fin (o + 1) (.tup [S "none"]) h (by omega) wf
    simp -implicitDefEqProofs [s__law_walk_v2_4]
    exact fin'
  · rw [ek]
    dsimp only
    exact fin (o + 1) res h (by omega) wf
end G
set_option Elab.async false
set_option linter.all false
set_option maxRecDepth 100000
set_option maxHeartbeats 4000000
namespace G
open HM PySem L2 L
/-! ### one round of questions -/
theorem same_eq {r n : Nat} {d : D} (p : PE r n d) (hr : r ≤ 20) (hn : n ≤ 200000) (h : LH) : dEq d d h = .ok (.bl true) h ∧ dNe d d h = .ok (.bl false) h := by
  have e : eqD r d d = true := (eqD_iff r d d p.p p.p).mpr rfl
  have q := pl_eq p p hr hn h
  rw [e] at q
  exact q
abbrev AE (u0 u1 u2 : Option D) (Dk : Nat) (u4 u5 u6 u7 u8 u9 : Option D) (ch sh : D) (path : List Nat) (u13 u14 : Option D) (o : Nat) (u16 u17 u18 u19 u20 : Option D) : EN :=
  [u0, u1, u2, some (.ref Dk), u4, u5, u6, u7, u8, u9, some ch, some sh, some (.str path), u13, u14, some (.ref o), u16, u17, u18, u19, u20]
def rK (s : String) : D := .tup [.int 1, .tup [S s]]
def chD : D := .tup [.str kCr, .int 1, .int 9, .tup [rK "k1", rK "k2", rK "k3", rK "k4"]]
theorem chD_ok : isCharter chD = true := by decide +kernel
theorem chD_nl : isList chD = false := by decide +kernel
section
variable {u0 u1 u2 u4 u5 u6 u7 u8 u9 u13 u14 u16 u17 u18 u19 u20 : Option D} {Dk o W V : Nat} {path : List Nat} {rs : List D} {names : List (List Nat)} {dm : List Nat → D} {x y z sh : D} {s : SS} {w : NR} {h : LH}
theorem nr_same (h1 : isLN (.str w.1) = true) (h2 : isRole w.2 = true) (h : LH) : dEq (nrD w) (nrD w) h = .ok (.bl true) h ∧ dNe (nrD w) (nrD w) h = .ok (.bl false) h :=
  same_eq (nr_pe h1 h2) (by decide) (by decide) h
def strL (dm : List Nat → D) : List D := [.non, dm [97], dm [98], .tup [S "list"], chD]
theorem strange_loop {R : Nat} (hR : h[R]? = some (.lst (strL dm))) (a : SeAt h o sh path W V s) (hw : wantS s = some w) (h1 : isLN (.str w.1) = true) (h2 : isRole w.2 = true) (hd : ∀ n ∈ NM, DocM n (dm n)) :
    ∃ v18 h', loopF (itO R) (.nm 18) s_law_13b_3b (strL dm).length 0 (AE u0 u1 u2 Dk u4 u5 u6 u7 u8 u9 chD sh path u13 u14 o (some (nrD w)) (some (.ref R)) u18 u19 u20) h = .next (AE u0 u1 u2 Dk u4 u5 u6 u7 u8 u9 chD sh path u13 u14 o (some (nrD w)) (some (.ref R)) v18 u19 u20) h' ∧ Kp h h' := by
  refine loopF_obj (t := .nm 18) (body := s_law_13b_3b) (r := R) (xs := strL dm)
    (fun j e g => Kp h g ∧ ∃ v18, e = AE u0 u1 u2 Dk u4 u5 u6 u7 u8 u9 chD sh path u13 u14 o (some (nrD w)) (some (.ref R)) v18 u19 u20)
    (fun r => ∃ v18 h', r = .next (AE u0 u1 u2 Dk u4 u5 u6 u7 u8 u9 chD sh path u13 u14 o (some (nrD w)) (some (.ref R)) v18 u19 u20) h' ∧ Kp h h')
    (fun j e g hi => hi.1.get hR)
    (fun j d e g hdj => by
      rintro ⟨K, v18, rfl⟩
      have a1 := a.kp K
      have hset : (AE u0 u1 u2 Dk u4 u5 u6 u7 u8 u9 chD sh path u13 u14 o (some (nrD w)) (some (.ref R)) v18 u19 u20).set 18 (some d) = AE u0 u1 u2 Dk u4 u5 u6 u7 u8 u9 chD sh path u13 u14 o (some (nrD w)) (some (.ref R)) (some d) u19 u20 := rfl
      refine ⟨_, rfl, ?_⟩
      rw [hset]
      have mw1 : ∀ e g', SeAt g' o sh path W V s → kMeth "Search" "wanted" L.f_Search_wanted mNil e (.ref o) g' = .ok (nrD w) g' := fun e g' ag => by
        rw [mwant ag]; unfold wantD; rw [hw]; try rfl
      have nn := fun g => (nr_same (w := w) h1 h2 g).2
      have i0 : ∀ g, dIx (nrD w) (.int 0) g = .ok (.str w.1) g := fun _ => rfl
      -- a value that is refused
      have no : ∀ {r : Nat}, Cl g r d → r ≤ 40 → badG d s → ∃ g1, Kp g g1 ∧ f__law_refused [.ref o, d] g = .ok (.bl true) g1 ∧ SeAt g1 o sh path W V s := fun cd hr bd => by
        obtain ⟨g1, K1, e1⟩ := give_no a1 cd hr bd
        exact ⟨g1, K1, refused_ok a1.o rfl e1, a1.kp K1⟩
      rw [show s_law_13b_3b = sIf (mTOr (mTNot (mTru (mIsI .tuple (mVar 18)))) (mTOr (mTst (mOp dLt (mApp dLen (mCons (mVar 18) mNil)) (mC (.int 6)))) (mTst (mOp dNe (mOp dIx (mVar 18) (mC (.int 1))) (mOp dIx (mVar 16) (mC (.int 0))))))) (sIf (mTOr (mTNot (mTru (mApp f__law_refused (mCons (mVar 15) (mCons (mVar 18) mNil))))) (mTst (mOp dNe (mMeth "Search" "wanted" f_Search_wanted (mVar 15) mNil) (mVar 16)))) (sRet (mC (.bl false))) sNil) sNil from rfl]
      have inner : ∀ g1, Kp g g1 → f__law_refused [.ref o, d] g = .ok (.bl true) g1 → SeAt g1 o sh path W V s →
          (sIf (mTOr (mTNot (mTru (mApp f__law_refused (mCons (mVar 15) (mCons (mVar 18) mNil))))) (mTst (mOp dNe (mMeth "Search" "wanted" f_Search_wanted (mVar 15) mNil) (mVar 16)))) (sRet (mC (.bl false))) sNil) (AE u0 u1 u2 Dk u4 u5 u6 u7 u8 u9 chD sh path u13 u14 o (some (nrD w)) (some (.ref R)) (some d) u19 u20) g = .next (AE u0 u1 u2 Dk u4 u5 u6 u7 u8 u9 chD sh path u13 u14 o (some (nrD w)) (some (.ref R)) (some d) u19 u20) g1 := fun g1 K1 er ag => by
        have mw2 := fun e => mw1 e g1 ag
        have nn1 := nn g1
        generalize nrD w = q at mw2 nn1 ⊢
        simp -implicitDefEqProofs [er, truD, mw2, nn1]
      have yes : ∀ g1, Kp g g1 → f__law_refused [.ref o, d] g = .ok (.bl true) g1 → SeAt g1 o sh path W V s →
          (mTOr (mTNot (mTru (mIsI .tuple (mVar 18)))) (mTOr (mTst (mOp dLt (mApp dLen (mCons (mVar 18) mNil)) (mC (.int 6)))) (mTst (mOp dNe (mOp dIx (mVar 18) (mC (.int 1))) (mOp dIx (mVar 16) (mC (.int 0))))))) (AE u0 u1 u2 Dk u4 u5 u6 u7 u8 u9 chD sh path u13 u14 o (some (nrD w)) (some (.ref R)) (some d) u19 u20) g = .ok true g →
          match (sIf (mTOr (mTNot (mTru (mIsI .tuple (mVar 18)))) (mTOr (mTst (mOp dLt (mApp dLen (mCons (mVar 18) mNil)) (mC (.int 6)))) (mTst (mOp dNe (mOp dIx (mVar 18) (mC (.int 1))) (mOp dIx (mVar 16) (mC (.int 0))))))) (sIf (mTOr (mTNot (mTru (mApp f__law_refused (mCons (mVar 15) (mCons (mVar 18) mNil))))) (mTst (mOp dNe (mMeth "Search" "wanted" f_Search_wanted (mVar 15) mNil) (mVar 16)))) (sRet (mC (.bl false))) sNil) sNil) (AE u0 u1 u2 Dk u4 u5 u6 u7 u8 u9 chD sh path u13 u14 o (some (nrD w)) (some (.ref R)) (some d) u19 u20) g with
          | .next e2 h2 => Kp h h2 ∧ ∃ v18, e2 = AE u0 u1 u2 Dk u4 u5 u6 u7 u8 u9 chD sh path u13 u14 o (some (nrD w)) (some (.ref R)) v18 u19 u20
          | _ => False := fun g1 K1 er ag et => by
        rw [ev_if, et, rs_ok, if_pos rfl, inner g1 K1 er ag]
        exact ⟨K.trans K1, _, rfl⟩
      have fin : ∀ z, (match z with
          | RSt.next e2 h2 => Kp h h2 ∧ ∃ v18, e2 = AE u0 u1 u2 Dk u4 u5 u6 u7 u8 u9 chD sh path u13 u14 o (some (nrD w)) (some (.ref R)) v18 u19 u20
          | _ => False) → (match z with
          | RSt.next e2 h2 => Kp h h2 ∧ ∃ v18, e2 = AE u0 u1 u2 Dk u4 u5 u6 u7 u8 u9 chD sh path u13 u14 o (some (nrD w)) (some (.ref R)) v18 u19 u20
          | .cnt e2 h2 => Kp h h2 ∧ ∃ v18, e2 = AE u0 u1 u2 Dk u4 u5 u6 u7 u8 u9 chD sh path u13 u14 o (some (nrD w)) (some (.ref R)) v18 u19 u20
          | .brk e2 h2 => ∃ v18 h', RSt.next e2 h2 = .next (AE u0 u1 u2 Dk u4 u5 u6 u7 u8 u9 chD sh path u13 u14 o (some (nrD w)) (some (.ref R)) v18 u19 u20) h' ∧ Kp h h'
          | .ret x h2 => ∃ v18 h', RSt.ret x h2 = .next (AE u0 u1 u2 Dk u4 u5 u6 u7 u8 u9 chD sh path u13 u14 o (some (nrD w)) (some (.ref R)) v18 u19 u20) h' ∧ Kp h h'
          | .exc x e2 h2 => ∃ v18 h', RSt.exc x e2 h2 = .next (AE u0 u1 u2 Dk u4 u5 u6 u7 u8 u9 chD sh path u13 u14 o (some (nrD w)) (some (.ref R)) v18 u19 u20) h' ∧ Kp h h'
          | .bad => False) := fun z hz => by
        cases z with
        | next e2 h2 => exact hz
        | _ => exact hz.elim
      refine fin _ ?_
      -- a list under another name
      have other : ∀ n ∈ NM, d = dm n → (match (sIf (mTOr (mTNot (mTru (mIsI .tuple (mVar 18)))) (mTOr (mTst (mOp dLt (mApp dLen (mCons (mVar 18) mNil)) (mC (.int 6)))) (mTst (mOp dNe (mOp dIx (mVar 18) (mC (.int 1))) (mOp dIx (mVar 16) (mC (.int 0))))))) (sIf (mTOr (mTNot (mTru (mApp f__law_refused (mCons (mVar 15) (mCons (mVar 18) mNil))))) (mTst (mOp dNe (mMeth "Search" "wanted" f_Search_wanted (mVar 15) mNil) (mVar 16)))) (sRet (mC (.bl false))) sNil) sNil) (AE u0 u1 u2 Dk u4 u5 u6 u7 u8 u9 chD sh path u13 u14 o (some (nrD w)) (some (.ref R)) (some d) u19 u20) g with
          | .next e2 h2 => Kp h h2 ∧ ∃ v18, e2 = AE u0 u1 u2 Dk u4 u5 u6 u7 u8 u9 chD sh path u13 u14 o (some (nrD w)) (some (.ref R)) v18 u19 u20
          | _ => False) := fun n hn hdn => by
        have hD := hd n hn
        rw [← hdn] at hD
        obtain ⟨gs, grs, e, _⟩ := hD.ex
        have ii : mIsI .tuple (mVar 18) (AE u0 u1 u2 Dk u4 u5 u6 u7 u8 u9 chD sh path u13 u14 o (some (nrD w)) (some (.ref R)) (some d) u19 u20) g = .ok (.bl true) g := by rw [e]; rfl
        have ln : dLen [d] g = .ok (.int 6) g := by rw [e]; rfl
        have j1 : dIx d (.int 1) g = .ok (.str n) g := by rw [e]; rfl
        have i0' := i0 g
        by_cases c : n = w.1
        · have et : (mTOr (mTNot (mTru (mIsI .tuple (mVar 18)))) (mTOr (mTst (mOp dLt (mApp dLen (mCons (mVar 18) mNil)) (mC (.int 6)))) (mTst (mOp dNe (mOp dIx (mVar 18) (mC (.int 1))) (mOp dIx (mVar 16) (mC (.int 0))))))) (AE u0 u1 u2 Dk u4 u5 u6 u7 u8 u9 chD sh path u13 u14 o (some (nrD w)) (some (.ref R)) (some d) u19 u20) g = .ok false g := by
            generalize nrD w = q at i0' ii ⊢
            generalize mIsI .tuple (mVar 18) = MI at ii ⊢
            simp -implicitDefEqProofs [ii, truD, ln, dLt_int, j1, i0', dNe_str, c]
          rw [ev_if, et, rs_ok, if_neg (by decide)]
          exact ⟨K, _, rfl⟩
        · obtain ⟨g1, K1, er, ag⟩ := no (hD.ls.cl (h := g)) (by decide) (by
            unfold badG
            rw [hw]
            exact fun _ => ⟨n, _, _, _, _, e, c⟩)
          refine yes g1 K1 er ag ?_
          generalize nrD w = q at i0' ii ⊢
          generalize mIsI .tuple (mVar 18) = MI at ii ⊢
          simp -implicitDefEqProofs [ii, truD, ln, dLt_int, j1, i0', dNe_str, c]
      have hm := List.mem_of_getElem? hdj
      unfold strL at hm
      simp only [List.mem_cons, List.not_mem_nil, or_false] at hm
      rcases hm with e | e | e | e | e
      · obtain ⟨g1, K1, er, ag⟩ := no (r := 1) (by rw [e]; trivial) (by decide) (bad_of (by rw [e]; rfl))
        exact yes g1 K1 er ag (by rw [e]; rfl)
      · exact other [97] (by decide) e
      · exact other [98] (by decide) e
      · obtain ⟨g1, K1, er, ag⟩ := no (r := 4) (by rw [e]; exact ⟨by simp, fun y hy => by
            have : y = S "list" := by simpa using hy
            rw [this]
            exact ⟨by decide, by decide⟩⟩) (by decide) (bad_of (by rw [e]; rfl))
        exact yes g1 K1 er ag (by rw [e]; rfl)
      · obtain ⟨g1, K1, er, ag⟩ := no (r := 6) (by rw [e]; exact (doc_sm (by unfold isDoc; rw [chD_ok]; rfl)).cl) (by decide) (bad_of (by rw [e]; exact chD_nl))
        exact yes g1 K1 er ag (by rw [e]; rfl))
    (fun e g hi => by
      obtain ⟨K, v18, rfl⟩ := hi
      exact ⟨v18, g, rfl, K⟩) ⟨Kp.refl h, _, rfl⟩
theorem ask_step (hp : path ∈ PTH) (hrs : ∀ r ∈ rs, isEnt r = true) (qsh : sh = .tup [x, y, z, .tup rs]) (a : SeAt h o sh path W V s) (hw : wantS s = some w) (h2 : isRole w.2 = true) (hd : ∀ n ∈ NM, DocM n (dm n)) (hk : h[Dk]? = some (.dK (dk dm NM))) (hm : w.1 ∈ NM) (lw : s.wait.length ≤ 10000) :
    ∃ v17 v18 h' W', s_law_13b (AE u0 u1 u2 Dk u4 u5 u6 u7 u8 u9 chD sh path u13 u14 o (some (nrD w)) u17 u18 u19 u20) h = .next (AE u0 u1 u2 Dk u4 u5 u6 u7 u8 u9 chD sh path u13 u14 o (some (nrD w)) v17 v18 u19 u20) h' ∧
      SeAt h' o sh path W' V (readS path rs (dm w.1) s) ∧ Fo [o, V] h h' := by
  have h1 := NM_ln _ hm
  have hwd : wantD s = nrD w := by unfold wantD; rw [hw]
  have hres := resD_some hw
  have nn := fun g => (nr_same (w := w) h1 h2 g).2
  have i0 : ∀ g, dIx (nrD w) (.int 0) g = .ok (.str w.1) g := fun _ => rfl
  have gd : ∀ n ∈ NM, getKD (.inr n) (dk dm NM) = some (dm n) := fun n hn => by rw [dk_get, if_pos hn]
  have hls := (hd w.1 hm).ls
  have mw : ∀ e g, SeAt g o sh path W V s → kMeth "Search" "wanted" L.f_Search_wanted mNil e (.ref o) g = .ok (nrD w) g := fun e g ag => by
    rw [mwant ag, hwd]
  have mr : ∀ e, kMeth "Search" "result" L.f_Search_result mNil e (.ref o) h = .ok .non h := fun e => by
    rw [meth_s a rfl]
    have := result_ok a
    rw [hres] at this
    exact this
  have b1 : s_law_13b_1 (AE u0 u1 u2 Dk u4 u5 u6 u7 u8 u9 chD sh path u13 u14 o (some (nrD w)) u17 u18 u19 u20) h = .next (AE u0 u1 u2 Dk u4 u5 u6 u7 u8 u9 chD sh path u13 u14 o (some (nrD w)) u17 u18 u19 u20) h := by
    have mw1 := fun e => mw e h a
    have nn1 := nn h
    unfold s_law_13b_1
    generalize nrD w = q at mw1 nn1 ⊢
    simp -implicitDefEqProofs [mw1, nn1, mr, dIsNot_n, dIsN]
  obtain ⟨R, qR⟩ : ∃ R, R = h.length := ⟨_, rfl⟩
  obtain ⟨g1, q1⟩ : ∃ g1, g1 = h ++ [LO.lst (strL dm)] := ⟨_, rfl⟩
  have K1 : Kp h g1 := by rw [q1]; exact Kp.push _ _
  have hR : g1[R]? = some (.lst (strL dm)) := by rw [q1, qR]; simp
  have b2 : s_law_13b_2 (AE u0 u1 u2 Dk u4 u5 u6 u7 u8 u9 chD sh path u13 u14 o (some (nrD w)) u17 u18 u19 u20) h = .next (AE u0 u1 u2 Dk u4 u5 u6 u7 u8 u9 chD sh path u13 u14 o (some (nrD w)) (some (.ref R)) u18 u19 u20) g1 := by
    have ia := ixA_at (y := .str [97]) (k := .inr [97]) hk rfl (gd _ (by decide))
    have ib := ixA_at (y := .str [98]) (k := .inr [98]) hk rfl (gd _ (by decide))
    have sa : S "a" = .str [97] := rfl
    have sb : S "b" = .str [98] := rfl
    unfold s_law_13b_2
    rw [q1, qR]
    unfold strL
    generalize chD = cc
    generalize S "list" = sl
    simp -implicitDefEqProofs [sa, sb, ia, ib]
  obtain ⟨v18, g2, el, K2⟩ := strange_loop (u0 := u0) (u1 := u1) (u2 := u2) (u4 := u4) (u5 := u5) (u6 := u6) (u7 := u7) (u8 := u8) (u9 := u9) (u13 := u13) (u14 := u14) (u18 := u18) (u19 := u19) (u20 := u20) (Dk := Dk) (w := w) hR (a.kp K1) hw h1 h2 hd
  have b3 : s_law_13b_3 (AE u0 u1 u2 Dk u4 u5 u6 u7 u8 u9 chD sh path u13 u14 o (some (nrD w)) (some (.ref R)) u18 u19 u20) g1 = .next (AE u0 u1 u2 Dk u4 u5 u6 u7 u8 u9 chD sh path u13 u14 o (some (nrD w)) (some (.ref R)) v18 u19 u20) g2 := by
    rw [show s_law_13b_3 = sFor (iAny (mVar 17)) (.nm 18) s_law_13b_3b from rfl, ev_for]
    have ia : ∀ Y, g1[R]? = some (.lst Y) → iAny (mVar 17) (AE u0 u1 u2 Dk u4 u5 u6 u7 u8 u9 chD sh path u13 u14 o (some (nrD w)) (some (.ref R)) u18 u19 u20) g1 = .ok (itO R, Y.length) g1 := fun Y hY => by
      generalize nrD w = q
      simp -implicitDefEqProofs [hY]
    rw [ia _ hR, rs_ok]
    exact el
  have a2 := (a.kp K1).kp K2
  have a2' := a2
  rw [qsh] at a2'
  obtain ⟨g3, W3, eg, a3, fo⟩ := give_doc a2' hw hls hrs (by have := PTH_le _ hp; omega) lw
  rw [← qsh] at a3
  have ig2 := ixA_at (y := .str w.1) (k := .inr w.1) (K2.get (K1.get hk)) rfl (gd _ hm)
  have b4 : s_law_13b_4 (AE u0 u1 u2 Dk u4 u5 u6 u7 u8 u9 chD sh path u13 u14 o (some (nrD w)) (some (.ref R)) v18 u19 u20) g2 = .next (AE u0 u1 u2 Dk u4 u5 u6 u7 u8 u9 chD sh path u13 u14 o (some (nrD w)) (some (.ref R)) v18 u19 u20) g3 := by
    have mg : kMeth "Search" "give" L.f_Search_give (mCons (mOp dIxA (mVar 3) (mOp dIx (mVar 16) (mC (.int 0)))) mNil) (AE u0 u1 u2 Dk u4 u5 u6 u7 u8 u9 chD sh path u13 u14 o (some (nrD w)) (some (.ref R)) v18 u19 u20) (.ref o) g2 = .ok .non g3 := by
      rw [meth_s a2 rfl]
      have i0' := i0 g2
      generalize nrD w = q at i0' ⊢
      simp -implicitDefEqProofs [i0', ig2, eg]
    unfold s_law_13b_4
    generalize nrD w = q at mg ⊢
    simp -implicitDefEqProofs [mg, dIsNot_n, dIsN]
  refine ⟨some (.ref R), v18, g3, W3, ?_, a3, (Fo.kp (K1.trans K2)).trans fo⟩
  rw [show s_law_13b = sSeq s_law_13b_1 (sSeq s_law_13b_2 (sSeq s_law_13b_3 s_law_13b_4)) from rfl]
  rw [ev_seq, b1]
  dsimp only
  rw [ev_seq, b2]
  dsimp only
  rw [ev_seq, b3]
  dsimp only
  exact b4
end
end G
set_option Elab.async false
set_option linter.all false
set_option maxRecDepth 100000
set_option maxHeartbeats 4000000
namespace G
open HM PySem L2 L
section
variable {u0 u1 u2 u4 u5 u6 u7 u8 u9 u13 u14 u17 u18 u19 u20 : Option D} {Dk o V : Nat} {path : List Nat} {rs : List D} {names : List (List Nat)} {dm : List Nat → D} {x y z sh role : D} {h : LH}
theorem ask_loop {RD W N : Nat} {rd : List NR} (hp : path ∈ PTH) (hrs : ∀ r ∈ rs, isEnt r = true) (hn : ∀ w, (rs.any fun r => decide (fstC r = w)) = decide (w ∈ names)) (qsh : sh = .tup [x, y, z, .tup rs]) (hd : ∀ n ∈ NM, DocM n (dm n)) (hr : isRole role = true) (hli : kLi ∈ names) (hnm : ∀ n ∈ names, n ∈ NM)
    (ro : RdOk path rs dm role N rd) (a : SeAt h o sh path W V (HM.PS path rs dm role 0)) (hk : h[Dk]? = some (.dK (dk dm NM))) (hR : h[RD]? = some (.lst (rd.map nrD))) (n1 : Dk ≠ o) (n2 : Dk ≠ V) (n3 : RD ≠ o) (n4 : RD ≠ V) :
    ∃ v16 v17 v18 h' W', loopF (itO RD) (.nm 16) s_law_13b (rd.map nrD).length 0 (AE u0 u1 u2 Dk u4 u5 u6 u7 u8 u9 chD sh path u13 u14 o none u17 u18 u19 u20) h = .next (AE u0 u1 u2 Dk u4 u5 u6 u7 u8 u9 chD sh path u13 u14 o v16 v17 v18 u19 u20) h' ∧
      SeAt h' o sh path W' V (HM.PS path rs dm role N) ∧ Fo [o, V] h h' := by
  have hdl : ∀ n ∈ names, LsD n (dm n) := fun n hn' => (hd n (hnm n hn')).ls
  refine loopF_obj (t := .nm 16) (body := s_law_13b) (r := RD) (xs := rd.map nrD)
    (fun j e g => (∃ v16 v17 v18, e = AE u0 u1 u2 Dk u4 u5 u6 u7 u8 u9 chD sh path u13 u14 o v16 v17 v18 u19 u20) ∧ Fo [o, V] h g ∧ ∃ W', SeAt g o sh path W' V (HM.PS path rs dm role j))
    (fun r => ∃ v16 v17 v18 h' W', r = .next (AE u0 u1 u2 Dk u4 u5 u6 u7 u8 u9 chD sh path u13 u14 o v16 v17 v18 u19 u20) h' ∧ SeAt h' o sh path W' V (HM.PS path rs dm role N) ∧ Fo [o, V] h h')
    (fun j e g hi => hi.2.1.get (by simp; omega) hR)
    (fun j d e g hdj => by
      rintro ⟨⟨v16, v17, v18, rfl⟩, fo, W1, a1⟩
      rw [List.getElem?_map] at hdj
      cases ex : rd[j]? with
      | none => rw [ex] at hdj; cases hdj
      | some w =>
        rw [ex] at hdj
        cases hdj
        obtain ⟨hj, hw, hm, hrl, hj32, _⟩ := rd_mem hn hdl hr hli ro ex
        have I := ps_inv hn hdl hr hli ro j (by omega)
        obtain ⟨v17', v18', g1, W2, eb, a2, fo2⟩ := ask_step (u0 := u0) (u1 := u1) (u2 := u2) (u4 := u4) (u5 := u5) (u6 := u6) (u7 := u7) (u8 := u8) (u9 := u9) (u13 := u13) (u14 := u14) (u17 := v17) (u18 := v18) (u19 := u19) (u20 := u20) (Dk := Dk) (dm := dm) hp hrs qsh a1 hw hrl hd (fo.get (by simp; omega) hk) (hnm _ hm) (by have := I.l; omega)
        have hset : (AE u0 u1 u2 Dk u4 u5 u6 u7 u8 u9 chD sh path u13 u14 o v16 v17 v18 u19 u20).set 16 (some (nrD w)) = AE u0 u1 u2 Dk u4 u5 u6 u7 u8 u9 chD sh path u13 u14 o (some (nrD w)) v17 v18 u19 u20 := rfl
        refine ⟨_, rfl, ?_⟩
        rw [hset, eb]
        rw [← ps_next hw] at a2
        exact ⟨⟨_, _, _, rfl⟩, fo.trans fo2, W2, a2⟩)
    (fun e g hi => by
      obtain ⟨⟨v16, v17, v18, rfl⟩, fo, W1, a1⟩ := hi
      rw [List.length_map, ro.1] at a1
      exact ⟨v16, v17, v18, g, W1, rfl, a1, fo⟩) ⟨⟨_, _, _, rfl⟩, Fo.refl _ _, W, a⟩
theorem copy_loop {Gv : Nat} {out : List Nat} {u15 u16 : Option D} {e12 : D} (hk : h[Dk]? = some (.dK (dk dm NM))) (hG : h[Gv]? = some (.dK [])) (n2 : Dk ≠ Gv) :
    ∃ v6 h', s_law_18 [u0, u1, u2, some (.ref Dk), u4, u5, u6, u7, u8, u9, some chD, some sh, some e12, u13, u14, u15, u16, u17, u18, some (.str out), some (.ref Gv)] h = .next [u0, u1, u2, some (.ref Dk), u4, u5, v6, u7, u8, u9, some chD, some sh, some e12, u13, u14, u15, u16, u17, u18, some (.str out), some (.ref Gv)] h' ∧
      h'[Gv]? = some (.dK (dk dm (NM.filter fun n => !decide (n = out)))) := by
  obtain ⟨hL, qL⟩ : ∃ hL, hL = h.set Dk (.dL (dk dm NM)) := ⟨_, rfl⟩
  have lL : hL[Dk]? = some (.dL (dk dm NM)) := by rw [qL]; exact List.getElem?_set_self (lt_of_get hk)
  have gL : hL[Gv]? = some (.dK []) := by rw [qL, List.getElem?_set_ne n2]; exact hG
  obtain ⟨B, qB⟩ : ∃ B : MS, B = sIf (mTst (mOp dNe (mVar 6) (mVar 19))) (sPutK (mVar 20) (mVar 6) (mOp dIxA (mVar 3) (mVar 6))) sNil := ⟨_, rfl⟩
  have key := loopF_gen (g := itK Dk) (t := .nm 6) (body := B) (N := NM.length) (fun j => .str (NM.getD j []))
    (fun j e g => (∃ v6, e = [u0, u1, u2, some (.ref Dk), u4, u5, v6, u7, u8, u9, some chD, some sh, some e12, u13, u14, u15, u16, u17, u18, some (.str out), some (.ref Gv)]) ∧ g[Dk]? = some (.dL (dk dm NM)) ∧ g[Gv]? = some (.dK (dk dm ((NM.take j).filter fun n => !decide (n = out)))))
    (fun z => ∃ v6 g, z = .next [u0, u1, u2, some (.ref Dk), u4, u5, v6, u7, u8, u9, some chD, some sh, some e12, u13, u14, u15, u16, u17, u18, some (.str out), some (.ref Gv)] g ∧ g[Dk]? = some (.dL (dk dm NM)) ∧ g[Gv]? = some (.dK (dk dm (NM.filter fun n => !decide (n = out)))))
    (fun j e g hj hi => by
      unfold itK
      rw [hi.2.1]
      dsimp only
      unfold dk
      rw [List.getElem?_map]
      by_cases c : j < NM.length
      · rw [if_pos c, List.getD_eq_getElem?_getD, List.getElem?_eq_getElem c]; rfl
      · rw [if_neg c, List.getElem?_eq_none (by omega)]; rfl)
    (fun j e g hj hi => by
      obtain ⟨⟨v6, rfl⟩, hl, hg⟩ := hi
      refine ⟨_, rfl, ?_⟩
      obtain ⟨n, qn⟩ : ∃ n, n = NM.getD j [] := ⟨_, rfl⟩
      rw [← qn]
      have hm : n ∈ NM := by rw [qn]; exact getD_in hj
      have ex : NM[j]? = some n := by rw [qn, List.getD_eq_getElem?_getD, List.getElem?_eq_getElem hj]; rfl
      have hset : ([u0, u1, u2, some (.ref Dk), u4, u5, v6, u7, u8, u9, some chD, some sh, some e12, u13, u14, u15, u16, u17, u18, some (.str out), some (.ref Gv)] : EN).set 6 (some (.str n)) = [u0, u1, u2, some (.ref Dk), u4, u5, some (.str n), u7, u8, u9, some chD, some sh, some e12, u13, u14, u15, u16, u17, u18, some (.str out), some (.ref Gv)] := rfl
      rw [hset]
      have ht : NM.take (j + 1) = NM.take j ++ [n] := by rw [List.take_succ, ex]; rfl
      by_cases c : n = out
      · have eb : B [u0, u1, u2, some (.ref Dk), u4, u5, some (.str n), u7, u8, u9, some chD, some sh, some e12, u13, u14, u15, u16, u17, u18, some (.str out), some (.ref Gv)] g = .next [u0, u1, u2, some (.ref Dk), u4, u5, some (.str n), u7, u8, u9, some chD, some sh, some e12, u13, u14, u15, u16, u17, u18, some (.str out), some (.ref Gv)] g := by
          rw [qB]
          generalize chD = cc
          simp -implicitDefEqProofs [dNe_str, c]
        rw [eb]
        refine ⟨⟨_, rfl⟩, hl, ?_⟩
        rw [ht, List.filter_append, hg]
        simp [c]
      · have ig := ixA_L (y := .str n) (k := .inr n) hl rfl (show getKD (.inr n) (dk dm NM) = some (dm n) from by rw [dk_get, if_pos hm])
        have hnt : n ∉ (NM.take j).filter fun n => !decide (n = out) := fun q => by
          have q := (List.mem_filter.mp q).1
          obtain ⟨i, hi⟩ := List.mem_iff_getElem?.mp q
          have hij : i < j := by
            have := lt_of_get hi
            simp at this
            omega
          rw [List.getElem?_take_of_lt hij] at hi
          have := (List.getElem?_inj (lt_of_get hi) NM_nd).mp (hi.trans ex.symm)
          omega
        have ep := kPut_ok (e := [u0, u1, u2, some (.ref Dk), u4, u5, some (.str n), u7, u8, u9, some chD, some sh, some e12, u13, u14, u15, u16, u17, u18, some (.str out), some (.ref Gv)]) (v := dm n) (y := .str n) (k := .inr n) hg rfl (by
          have l8 : NM.length = 8 := rfl
          rw [dk_len]
          refine Nat.lt_of_le_of_lt (List.length_filter_le _ _) ?_
          rw [List.length_take]
          omega)
        rw [dk_put hnt] at ep
        have hc : dk (fun m => if m = n then dm n else dm m) (((NM.take j).filter fun n => !decide (n = out)) ++ [n]) = dk dm ((NM.take (j + 1)).filter fun n => !decide (n = out)) := by
          rw [ht, List.filter_append]
          have : [n].filter (fun n => !decide (n = out)) = [n] := by simp [c]
          rw [this]
          refine dk_congr fun m _ => ?_
          split
          · rename_i c
            rw [c]
          · rfl
        rw [hc] at ep
        have eb : B [u0, u1, u2, some (.ref Dk), u4, u5, some (.str n), u7, u8, u9, some chD, some sh, some e12, u13, u14, u15, u16, u17, u18, some (.str out), some (.ref Gv)] g = .next [u0, u1, u2, some (.ref Dk), u4, u5, some (.str n), u7, u8, u9, some chD, some sh, some e12, u13, u14, u15, u16, u17, u18, some (.str out), some (.ref Gv)] (g.set Gv (.dK (dk dm ((NM.take (j + 1)).filter fun n => !decide (n = out))))) := by
          rw [qB]
          generalize chD = cc at ep ⊢
          simp -implicitDefEqProofs [dNe_str, c, ig]
          exact ep
        rw [eb]
        exact ⟨⟨_, rfl⟩, by rw [List.getElem?_set_ne (Ne.symm n2)]; exact hl, List.getElem?_set_self (lt_of_get hg)⟩)
    (fun e g hi => by
      obtain ⟨⟨v6, rfl⟩, hl, hg⟩ := hi
      rw [List.take_length] at hg
      exact ⟨v6, g, rfl, hl, hg⟩) NM.length 0 [u0, u1, u2, some (.ref Dk), u4, u5, u6, u7, u8, u9, some chD, some sh, some e12, u13, u14, u15, u16, u17, u18, some (.str out), some (.ref Gv)] hL (by omega) ⟨⟨_, rfl⟩, lL, gL⟩
  obtain ⟨v6, g, el, hl, hg⟩ := key
  refine ⟨v6, g.set Dk (.dK (dk dm NM)), ?_, by rw [List.getElem?_set_ne n2]; exact hg⟩
  rw [show s_law_18 = sLock (mVar 3) (sFor (iKeyM (mVar 3)) (.nm 6) (sIf (mTst (mOp dNe (mVar 6) (mVar 19))) (sPutK (mVar 20) (mVar 6) (mOp dIxA (mVar 3) (mVar 6))) sNil)) from rfl, ← qB]
  unfold sLock
  rw [show (mVar 3) [u0, u1, u2, some (.ref Dk), u4, u5, u6, u7, u8, u9, some chD, some sh, some e12, u13, u14, u15, u16, u17, u18, some (.str out), some (.ref Gv)] h = .ok (.ref Dk) h from rfl]
  dsimp only
  rw [hk]
  dsimp only
  rw [← qL, ev_for]
  have ik : iKeyM (mVar 3) [u0, u1, u2, some (.ref Dk), u4, u5, u6, u7, u8, u9, some chD, some sh, some e12, u13, u14, u15, u16, u17, u18, some (.str out), some (.ref Gv)] hL = .ok (itK Dk, NM.length) hL := by
    unfold iKeyM
    rw [show (mVar 3) [u0, u1, u2, some (.ref Dk), u4, u5, u6, u7, u8, u9, some chD, some sh, some e12, u13, u14, u15, u16, u17, u18, some (.str out), some (.ref Gv)] hL = .ok (.ref Dk) hL from rfl, bind_ok]
    dsimp only
    rw [lL]
    dsimp only
    rw [dk_len]
  rw [ik, rs_ok, el]
  unfold unlS
  dsimp only
  rw [hl]
end
/-! ### how the law begins -/
abbrev BE (ns : List Int) (c : Int) (r Dk Nm : Nat) (u5 u6 u7 : Option D) : EN := [some (.scr ns), some (.int c), some (.ref r), some (.ref Dk), some (.ref Nm), u5, u6, u7, none, none, none, none, none, none, none, none, none, none, none, none, none]
theorem build_loop {ns : List Int} {c : Int} {r Dk Nm : Nat} {xs : List Int} {h : LH} (c0 : 0 ≤ c) (hr : h[r]? = some (.lst (xs.map D.int))) (hx : Nn xs) (lx : xs.length ≤ 8) (hk : h[Dk]? = some (.dK [])) (hN : h[Nm]? = some (.lst [.str kLi])) (n1 : r ≠ Dk) (n2 : r ≠ Nm) (n3 : Dk ≠ Nm) :
    ∃ (f : List Nat → D) (names : List (List Nat)) (u5 u6 u7 : Option D) (h' : LH), s_law_5 (BE ns c r Dk Nm none none none) h = .next (BE ns c r Dk Nm u5 u6 u7) h' ∧ h'[Dk]? = some (.dK (dk f NM)) ∧ h'[Nm]? = some (.lst (names.map D.str)) ∧ kLi ∈ names ∧ (∀ n ∈ names, n ∈ NM) ∧ names.length ≤ 9 ∧ ∀ n ∈ NM, DocM n (f n) := by
  have key := loopF_gen (g := itN 8) (t := .nm 5) (body := s_law_5b) (N := 8) (fun j => .int (j : Nat))
    (fun j e g => (∃ u5 u6 u7, e = BE ns c r Dk Nm u5 u6 u7) ∧ Fo [Dk, Nm] h g ∧ ∃ (f : List Nat → D) (names : List (List Nat)), g[Dk]? = some (.dK (dk f (NM.take j))) ∧ g[Nm]? = some (.lst (names.map D.str)) ∧ kLi ∈ names ∧ (∀ n ∈ names, n ∈ NM) ∧ names.length ≤ 1 + j ∧ ∀ n ∈ NM.take j, DocM n (f n))
    (fun z => ∃ (f : List Nat → D) (names : List (List Nat)) (u5 u6 u7 : Option D) (h' : LH), z = .next (BE ns c r Dk Nm u5 u6 u7) h' ∧ h'[Dk]? = some (.dK (dk f NM)) ∧ h'[Nm]? = some (.lst (names.map D.str)) ∧ kLi ∈ names ∧ (∀ n ∈ names, n ∈ NM) ∧ names.length ≤ 9 ∧ ∀ n ∈ NM, DocM n (f n))
    (fun j e g hj hi => rfl)
    (fun j e g hj hi => by
      obtain ⟨⟨u5, u6, u7, rfl⟩, fo, f, names, hg, hg2, hli, hnm, ln, hd⟩ := hi
      refine ⟨_, rfl, ?_⟩
      have hset : (BE ns c r Dk Nm u5 u6 u7).set 5 (some (.int (j : Nat))) = BE ns c r Dk Nm (some (.int (j : Nat))) u6 u7 := rfl
      rw [hset]
      obtain ⟨n, qn⟩ : ∃ n, n = NM.getD j [] := ⟨_, rfl⟩
      have hm : n ∈ NM := by rw [qn]; exact getD_in hj
      have ex : NM[j]? = some n := by rw [qn, List.getD_eq_getElem?_getD, List.getElem?_eq_getElem (show j < NM.length from hj)]; rfl
      obtain ⟨g1, q1⟩ : ∃ g1, g1 = g ++ [LO.lst (NM.map D.str)] := ⟨_, rfl⟩
      have K1 : Kp g g1 := by rw [q1]; exact Kp.push _ _
      have en := names_ok (h := g)
      rw [← q1] at en
      have ix := name_at (h := g) (i := (j : Nat)) hj rfl
      rw [← q1, ← qn] at ix
      have b1 : s_law_5b_1 (BE ns c r Dk Nm (some (.int (j : Nat))) u6 u7) g = .next (BE ns c r Dk Nm (some (.int (j : Nat))) (some (.str n)) u7) g1 := by
        unfold s_law_5b_1
        generalize ((j : Nat) : Int) = ji at ix ⊢
        simp -implicitDefEqProofs [en, ix]
      have m2 : ∀ j < 8, (((j : Nat) : Int) + 2).natAbs.log2 < 9000 := by decide
      have m2 := m2 j hj
      have j0 : (0 : Int) < ((j : Nat) : Int) + 2 := by omega
      have b2 : s_law_5b_2 (BE ns c r Dk Nm (some (.int (j : Nat))) (some (.str n)) u7) g1 = .next (BE ns c r Dk Nm (some (.int (j : Nat))) (some (.str n)) (some (.int (c / ((j : Nat) + 2))))) g1 := by
        unfold s_law_5b_2
        generalize ((j : Nat) : Int) = ji at m2 j0 ⊢
        simp -implicitDefEqProofs [dAdd_int, dDiv_int j0 m2]
      have hr1 := K1.get (fo.get (by simp; omega) hr)
      have ll := dLen_ref hr1
      rw [List.length_map] at ll
      obtain ⟨num, v0, b3⟩ : ∃ num : Int, 0 ≤ num ∧ s_law_5b_3 (BE ns c r Dk Nm (some (.int (j : Nat))) (some (.str n)) (some (.int (c / ((j : Nat) + 2))))) g1 = .next (BE ns c r Dk Nm (some (.int (j : Nat))) (some (.str n)) (some (.int num))) g1 := by
        by_cases q : j < xs.length
        · have hv := List.getElem?_eq_getElem q
          have iv : dIx (.ref r) (.int (j : Nat)) g1 = .ok (.int xs[j]) g1 := dIx_ref hr1 (atI_of (by omega) (by rw [Int.toNat_natCast, List.getElem?_map, hv]; rfl))
          have q' : ((j : Nat) : Int) < ((xs.length : Nat) : Int) := by omega
          refine ⟨xs[j], hx _ (List.getElem_mem q), ?_⟩
          unfold s_law_5b_3
          generalize c / (((j : Nat) : Int) + 2) = cd
          generalize ((j : Nat) : Int) = ji at iv q' ⊢
          generalize ((xs.length : Nat) : Int) = li at ll q'
          simp -implicitDefEqProofs [ll, dLt_int, q', iv]
        · have q' : ¬ ((j : Nat) : Int) < ((xs.length : Nat) : Int) := by omega
          refine ⟨c / ((j : Nat) + 2), Int.ediv_nonneg c0 (by omega), ?_⟩
          unfold s_law_5b_3
          generalize c / (((j : Nat) : Int) + 2) = cd
          generalize ((j : Nat) : Int) = ji at q' ⊢
          generalize ((xs.length : Nat) : Int) = li at ll q'
          simp -implicitDefEqProofs [ll, dLt_int, q']
      obtain ⟨d, g2, el, hD, K2⟩ := list_ok (nm := n) (n := num) (k := ((j : Nat) : Int)) (h := g1) hm v0 (by omega) (by omega)
      have foc := (fo.trans (Fo.kp K1)).trans (Fo.kp K2)
      have hg1 := K2.get (K1.get hg)
      have hnt : n ∉ NM.take j := fun q => by
        obtain ⟨i, hi⟩ := List.mem_iff_getElem?.mp q
        have hij : i < j := by
          have := lt_of_get hi
          simp at this
          omega
        rw [List.getElem?_take_of_lt hij] at hi
        have := (List.getElem?_inj (lt_of_get hi) NM_nd).mp (hi.trans ex.symm)
        omega
      have ht : NM.take (j + 1) = NM.take j ++ [n] := by rw [List.take_succ, ex]; rfl
      have ep := kPut_ok (e := BE ns c r Dk Nm (some (.int (j : Nat))) (some (.str n)) (some (.int num))) (v := d) (y := .str n) (k := .inr n) hg1 rfl (by rw [dk_len, List.length_take]; omega)
      rw [dk_put hnt, ← ht] at ep
      obtain ⟨f2, qf2⟩ : ∃ f2 : List Nat → D, f2 = fun m => if m = n then d else f m := ⟨_, rfl⟩
      rw [← qf2] at ep
      obtain ⟨g3, q3⟩ : ∃ g3, g3 = g2.set Dk (.dK (dk f2 (NM.take (j + 1)))) := ⟨_, rfl⟩
      rw [← q3] at ep
      have b4 : s_law_5b_4 (BE ns c r Dk Nm (some (.int (j : Nat))) (some (.str n)) (some (.int num))) g1 = .next (BE ns c r Dk Nm (some (.int (j : Nat))) (some (.str n)) (some (.int num))) g3 := by
        unfold s_law_5b_4
        generalize ((j : Nat) : Int) = ji at el ep ⊢
        simp -implicitDefEqProofs [el]
        exact ep
      have fo3 : Fo [Dk, Nm] h g3 := by rw [q3]; exact foc.set (.inl (by simp))
      have hk3 : g3[Dk]? = some (.dK (dk f2 (NM.take (j + 1)))) := by rw [q3]; exact List.getElem?_set_self (lt_of_get hg1)
      have hN3 : g3[Nm]? = some (.lst (names.map D.str)) := by rw [q3, List.getElem?_set_ne n3]; exact K2.get (K1.get hg2)
      have hd2 : ∀ m ∈ NM.take (j + 1), DocM m (f2 m) := fun m hm' => by
        rw [qf2]
        dsimp only
        by_cases cm : m = n
        · rw [if_pos cm, cm]; exact hD
        · rw [if_neg cm]
          rw [ht] at hm'
          rcases List.mem_append.mp hm' with z | z
          · exact hd m z
          · exact absurd (by simpa using z) cm
      have dn := (notIn_L (w := n) hN3).1
      have m23 : dDiv (.int num) (.int 23) g3 = .ok (.int (num / 23)) g3 := dDiv_int (by decide) (by decide)
      have m5 : dMod (.int (num / 23)) (.int 5) g3 = .ok (.int (num / 23 % 5)) g3 := dMod_int (by decide)
      have b5 : ∃ names2 g4, s_law_5b_5 (BE ns c r Dk Nm (some (.int (j : Nat))) (some (.str n)) (some (.int num))) g3 = .next (BE ns c r Dk Nm (some (.int (j : Nat))) (some (.str n)) (some (.int num))) g4 ∧ Fo [Nm] g3 g4 ∧ g4[Nm]? = some (.lst (names2.map D.str)) ∧ (names2 = names ∨ names2 = names ++ [n]) := by
        by_cases c1 : n ∈ names
        · rw [decide_eq_true c1] at dn
          refine ⟨names, g3, ?_, Fo.refl _ _, hN3, .inl rfl⟩
          unfold s_law_5b_5
          simp -implicitDefEqProofs [dn]
        · rw [decide_eq_false c1] at dn
          by_cases c2 : 0 < num / 23 % 5
          · have il := isLst_ref hN3
            have ap := dAppend_ref (y := .str n) hN3 (by rw [List.length_map]; omega)
            refine ⟨names ++ [n], g3.set Nm (.lst (names.map D.str ++ [.str n])), ?_, (Fo.refl _ _).set (.inl (by simp)), by rw [List.getElem?_set_self (lt_of_get hN3), List.map_append]; rfl, .inr rfl⟩
            unfold s_law_5b_5
            simp -implicitDefEqProofs [dn, m23, m5, dGt_int, c2, il, ap]
          · refine ⟨names, g3, ?_, Fo.refl _ _, hN3, .inl rfl⟩
            unfold s_law_5b_5
            simp -implicitDefEqProofs [dn, m23, m5, dGt_int, c2]
      obtain ⟨names2, g4, b5, fo4, hN4, hn2⟩ := b5
      rw [show s_law_5b = sSeq s_law_5b_1 (sSeq s_law_5b_2 (sSeq s_law_5b_3 (sSeq s_law_5b_4 s_law_5b_5))) from rfl]
      rw [ev_seq, b1]; dsimp only
      rw [ev_seq, b2]; dsimp only
      rw [ev_seq, b3]; dsimp only
      rw [ev_seq, b4]; dsimp only
      rw [b5]
      refine ⟨⟨_, _, _, rfl⟩, ⟨Nat.le_trans fo3.le fo4.le, fun i hi hs => ?_⟩, f2, names2, fo4.get (by simpa using n3) hk3, hN4, ?_, fun m hm' => ?_, ?_, hd2⟩
      · rw [fo4.k i (Nat.lt_of_lt_of_le hi fo3.le) (by simp at hs ⊢; exact hs.2), fo3.k i hi hs]
      · rcases hn2 with rfl | rfl
        · exact hli
        · exact List.mem_append_left _ hli
      · rcases hn2 with rfl | rfl
        · exact hnm m hm'
        · rcases List.mem_append.mp hm' with z | z
          · exact hnm m z
          · have : m = n := by simpa using z
            rw [this]; exact hm
      · rcases hn2 with rfl | rfl
        · omega
        · rw [List.length_append]; simp; omega)
    (fun e g hi => by
      obtain ⟨⟨u5, u6, u7, rfl⟩, fo, f, names, hg, hg2, hli, hnm, ln, hd⟩ := hi
      exact ⟨f, names, u5, u6, u7, g, rfl, hg, hg2, hli, hnm, by omega, hd⟩) 8 0 (BE ns c r Dk Nm none none none) h (by omega) ⟨⟨_, _, _, rfl⟩, Fo.refl _ _, fun _ => .non, [kLi], hk, hN, by simp, fun n hn => by
        have : n = kLi := by simpa using hn
        rw [this]; decide, by simp, fun n hn => by simp at hn⟩
  obtain ⟨f, names, u5, u6, u7, h', el, r1, r2, r3, r4, r5, r6⟩ := key
  refine ⟨f, names, u5, u6, u7, h', ?_, r1, r2, r3, r4, r5, r6⟩
  rw [show s_law_5 = sFor (iRng1M (mCons (mC (.int 8)) mNil)) (.nm 5) s_law_5b from rfl, ev_for]
  have er := rng1_nat (n := 8) (a := mCons (mC (.int 8)) mNil) (e := BE ns c r Dk Nm none none none) (h := h) (h1 := h) rfl (by decide)
  rw [er, rs_ok]
  exact el
end G
set_option Elab.async false
set_option linter.all false
set_option maxRecDepth 100000
set_option maxHeartbeats 4000000
namespace G
open HM PySem L2 L
def z18 : List Nat := List.replicate 18 48
theorem z18_dg : isDg (.str z18) = true := by decide +kernel
def entD (d : D) : D := .tup [d, .int 1, .int 0, .str z18]
theorem ent_ok {n : List Nat} (h : n ∈ NM) : isEnt (entD (.str n)) = true := by
  show (isLN (.str n) && (isVer (.int 1) && (isAm (.int 0) && isDg (.str z18)))) = true
  rw [NM_ln n h, z18_dg, show isVer (.int 1) = true from isInt_of (by decide) (by decide), show isAm (.int 0) = true from isInt_of (by decide) (by decide)]
  rfl
def rsD (names : List (List Nat)) : List D := ((sortS names).map D.str).map entD
def shD (names : List (List Nat)) : D := .tup [S "shelf", .int 1, .int 9, .tup (rsD names)]
theorem ent_any (names : List (List Nat)) (w : List Nat) : ((rsD names).any fun r => decide (fstC r = w)) = decide (w ∈ names) := by
  have hm : w ∈ sortS names ↔ w ∈ names := (sortS_perm names).mem_iff
  unfold rsD
  by_cases c : w ∈ names
  · rw [decide_eq_true c, List.any_eq_true]
    exact ⟨entD (.str w), List.mem_map.mpr ⟨.str w, List.mem_map.mpr ⟨w, hm.mpr c, rfl⟩, rfl⟩, decide_eq_true rfl⟩
  · rw [decide_eq_false c, List.any_eq_false]
    intro r hr
    obtain ⟨d, hd, rfl⟩ := List.mem_map.mp hr
    obtain ⟨n, hn, rfl⟩ := List.mem_map.mp hd
    have : n ≠ w := fun z => c (hm.mp (z ▸ hn))
    show ¬ decide (n = w) = true
    simpa using this
theorem rows_ok {ns : List Int} {c : Int} {r Dk Nm : Nat} {u5 u6 u7 : Option D} {h : LH} {names : List (List Nat)} (hN : h[Nm]? = some (.lst (names.map D.str))) (ln : names.length ≤ 32) :
    ∃ h', s_law_6 (BE ns c r Dk Nm u5 u6 u7) h = .next ((BE ns c r Dk Nm u5 u6 u7).set 8 (some (.tup (rsD names)))) h' ∧ Kp h h' := by
  have es := strsD_ref hN
  obtain ⟨h1, q1⟩ : ∃ h1, h1 = h ++ [LO.lst ((sortS names).map D.str)] := ⟨_, rfl⟩
  rw [← q1] at es
  have hr : h1[h.length]? = some (.lst ((sortS names).map D.str)) := by rw [q1]; simp
  have hl : ((sortS names).map D.str).length ≤ 32 := by rw [List.length_map, (sortS_perm names).length_eq]; exact ln
  have s0 : S "000000000000000000" = .str z18 := rfl
  have key := mapO_ok (g := h1) (q := h.length) (i := 6) (e := BE ns c r Dk Nm u5 none u7) (y := s_law_6y) (f := entD) hr (by omega) (fun x hx g => by
    have hset : (BE ns c r Dk Nm u5 none u7).set 6 (some x) = BE ns c r Dk Nm u5 (some x) u7 := rfl
    rw [hset]
    unfold s_law_6y entD
    rw [s0]
    generalize z18 = z
    simp -implicitDefEqProofs [])
  have il : mLc (iAny (mApp dSorted (mCons (mVar 4) mNil))) (.nm 6) mYes s_law_6y [6] (BE ns c r Dk Nm u5 u6 u7) h = .ok (.ref h1.length) (h1 ++ [.lst (rsD names)]) := by
    have ia : ∀ Y, h1[h.length]? = some (.lst Y) → iAny (mApp dSorted (mCons (mVar 4) mNil)) (BE ns c r Dk Nm u5 u6 u7) h = .ok (itO h.length, Y.length) h1 := fun Y hY => by
      simp -implicitDefEqProofs [es, hY]
    rw [ev_lc, ia _ hr, bind_ok]
    exact key
  have et := dTuple_ref (h := h1 ++ [.lst (rsD names)]) (R := h1.length) (xs := rsD names) (by simp)
  refine ⟨h1 ++ [.lst (rsD names)], ?_, (by rw [q1]; exact Kp.push _ _ : Kp h h1).trans (Kp.push _ _)⟩
  unfold s_law_6
  generalize rsD names = Z at il et ⊢
  generalize mLc (iAny (mApp dSorted (mCons (mVar 4) mNil))) (.nm 6) mYes s_law_6y [6] = ML at il ⊢
  simp -implicitDefEqProofs [il, et]
theorem rk4_ok : isRole (rK "k4") = true := by decide +kernel
theorem want0 {path : List Nat} {rs : List D} {dm : List Nat → D} {role : D} : ∃ w, wantS (HM.PS path rs dm role 0) = some w := ⟨(kLi, role), rfl⟩
section
variable {u0 u2 u4 u5 u6 u7 u8 u9 v16 v17 v18 : Option D} {Dk o W V RD N : Nat} {path : List Nat} {names : List (List Nat)} {dm : List Nat → D} {rd : List NR} {h : LH} {c : Int}
theorem fin_ok (c0 : 0 ≤ c) (hp : path ∈ PTH) (hli : kLi ∈ names) (hnm : ∀ n ∈ names, n ∈ NM) (hd : ∀ n ∈ NM, DocM n (dm n))
    (ro : RdOk path (rsD names) dm (rK "k4") N rd) (he : wantS (HM.PS path (rsD names) dm (rK "k4") N) = none) (se : SeAt h o (shD names) path W V (HM.PS path (rsD names) dm (rK "k4") N)) (hk : h[Dk]? = some (.dK (dk dm NM))) (hR : h[RD]? = some (.lst (rd.map nrD))) :
    ∃ h', (sSeq s_law_14 (sSeq s_law_15 (sSeq s_law_16 (sSeq s_law_17 (sSeq s_law_18 s_law_19))))) (AE u0 (some (.int c)) u2 Dk u4 u5 u6 u7 u8 u9 chD (shD names) path (some (.ref RD)) (some (resD (HM.PS path (rsD names) dm (rK "k4") N))) o v16 v17 v18 none none) h = .ret (.bl true) h' := by
  have hrs : ∀ q ∈ rsD names, isEnt q = true := fun q hq => by
    obtain ⟨d, hd, rfl⟩ := List.mem_map.mp hq
    obtain ⟨n, hn', rfl⟩ := List.mem_map.mp hd
    exact ent_ok (hnm n ((sortS_perm names).mem_iff.mp hn'))
  have hany := ent_any names
  have hdl : ∀ n ∈ names, LsD n (dm n) := fun n hn' => (hd n (hnm n hn')).ls
  have hpl : path.length ≤ 800 := by have := PTH_le _ hp; omega
  have po := HM.res_pe (HM.ps_out hany hdl rk4_ok hli ro N (Nat.le_refl _)) he
  obtain ⟨rs, qrs⟩ : ∃ rs, rs = rsD names := ⟨_, rfl⟩
  obtain ⟨sh, qsh⟩ : ∃ sh, sh = shD names := ⟨_, rfl⟩
  have qsh2 : sh = .tup [S "shelf", .int 1, .int 9, .tup rs] := by rw [qsh, qrs]; rfl
  rw [← qsh] at se ⊢
  rw [← qrs] at ro he se po hrs hany ⊢
  obtain ⟨res, qres⟩ : ∃ res, res = resD (HM.PS path rs dm (rK "k4") N) := ⟨_, rfl⟩
  rw [← qres] at po ⊢
  have hne := fun g => (same_eq po (by decide) (by decide) g).2
  -- 14
  have hm97 : kLi ∈ NM := hnm _ hli
  have hls := (hd kLi hm97).ls
  have bd : badG (dm kLi) (HM.PS path rs dm (rK "k4") N) := by
    unfold badG
    rw [he]
    trivial
  obtain ⟨h1, K1, eg⟩ := give_no se (hls.cl (h := h)) (by decide) bd
  have er := refused_ok se.o rfl eg
  have ig := ixA_at (y := .str kLi) (k := .inr kLi) (d := dm kLi) hk rfl (by rw [dk_get, if_pos hm97])
  have sl : S "list" = .str kLi := rfl
  have wd : wantD (HM.PS path rs dm (rK "k4") N) = .non := by unfold wantD; rw [he]
  have mw : ∀ e, kMeth "Search" "wanted" L.f_Search_wanted mNil e (.ref o) h = .ok .non h := fun e => by rw [mwant se, wd]
  have mr : ∀ g, SeAt g o sh path W V (HM.PS path rs dm (rK "k4") N) → ∀ e, kMeth "Search" "result" L.f_Search_result mNil e (.ref o) g = .ok res g := fun g ag e => by
    rw [meth_s ag rfl]
    have := result_ok ag
    rw [← qres] at this
    exact this
  have hne0 := hne h
  have b14 : s_law_14 (AE u0 (some (.int c)) u2 Dk u4 u5 u6 u7 u8 u9 chD sh path (some (.ref RD)) (some res) o v16 v17 v18 none none) h = .next (AE u0 (some (.int c)) u2 Dk u4 u5 u6 u7 u8 u9 chD sh path (some (.ref RD)) (some res) o v16 v17 v18 none none) h1 := by
    have mr0 := mr h se
    unfold s_law_14
    generalize chD = cc
    simp -implicitDefEqProofs [mw, dIsNot_n, dIsN, mr0, hne0, truD, sl, ig, er]
  -- 15
  have se1 := se.kp K1
  have hk1 := K1.get hk
  have hR1 := K1.get hR
  have lkA := lookup_ok (h := h1) (a := .str kCr) (b := .int 1) (c := .int 9) (r0 := rK "k1") (r1 := rK "k2") (r2 := rK "k3") (r3 := rK "k4") (x := S "shelf") (y := .int 1) (z := .int 9) (p := path) (rs := rs) (Dc := Dk) hk1 hrs hpl (fun nm d hg => by
    rw [dk_get] at hg
    by_cases q : nm ∈ NM
    · rw [if_pos q] at hg
      cases hg
      exact (hd nm q).ls
    · rw [if_neg q] at hg
      cases hg)
  obtain ⟨h2, K2, e2⟩ := lkA
  have hN32 : N ≤ 32 := by
    by_cases q : N = 0
    · omega
    · obtain ⟨w, hw⟩ : ∃ w, rd[N - 1]? = some w := ⟨_, List.getElem?_eq_getElem (by rw [ro.1]; omega)⟩
      have := (rd_mem hany hdl rk4_ok hli ro hw).2.2.2.2.1
      omega
  have rf := run_full (dmo := fun nm => getKD (.inr nm) (dk dm NM)) ro he (fun x hx => by
    obtain ⟨i, hi⟩ := List.mem_iff_getElem?.mp hx
    have := (rd_mem hany hdl rk4_ok hli ro hi).2.2.1
    rw [dk_get, if_pos (hnm _ this)]) N 0 34 (by omega) (by omega)
  rw [← qres] at rf
  have rf : runS path rs (fun nm => getKD (.inr nm) (dk dm NM)) 34 ⟨[(kLi, rK "k4")], [], none⟩ = res := rf
  rw [rf, ← qsh2] at e2
  have e2 : L.f_lookup [chD, sh, .ref Dk, .str path] h1 = .ok res h2 := e2
  have hne1 := hne h1
  have hne2 := hne h2
  have b15 : s_law_15 (AE u0 (some (.int c)) u2 Dk u4 u5 u6 u7 u8 u9 chD sh path (some (.ref RD)) (some res) o v16 v17 v18 none none) h1 = .next (AE u0 (some (.int c)) u2 Dk u4 u5 u6 u7 u8 u9 chD sh path (some (.ref RD)) (some res) o v16 v17 v18 none none) h2 := by
    have mr1 := mr h1 se1
    unfold s_law_15
    generalize chD = cc at e2 ⊢
    simp -implicitDefEqProofs [mr1, hne1, e2, hne2]
  -- 16
  have hR2 := K2.get hR1
  have hk2 := K2.get hk1
  have Npos : 0 < N := by
    by_cases q : N = 0
    · subst q
      obtain ⟨w, hw⟩ := want0 (path := path) (rs := rs) (dm := dm) (role := rK "k4")
      rw [hw] at he
      cases he
    · omega
  have ll := dLen_ref hR2
  rw [List.length_map, ro.1] at ll
  obtain ⟨m, hm, em⟩ := lt_nat (i := c / 6 % ((N : Nat) : Int)) (n := N) (Int.emod_nonneg _ (by omega)) (Int.emod_lt_of_pos _ (by omega))
  obtain ⟨w, hw⟩ : ∃ w, rd[m]? = some w := ⟨_, List.getElem?_eq_getElem (by rw [ro.1]; omega)⟩
  obtain ⟨_, hwm, hwn, _, _, _⟩ := rd_mem hany hdl rk4_ok hli ro hw
  have iN : dIx (.ref RD) (.int (c / 6 % ((N : Nat) : Int))) h2 = .ok (nrD w) h2 := dIx_ref hR2 (atI_of (Int.emod_nonneg _ (by omega)) (by rw [em, Int.toNat_natCast, List.getElem?_map, hw]; rfl))
  have j0 : dIx (nrD w) (.int 0) h2 = .ok (.str w.1) h2 := rfl
  have b16 : s_law_16 (AE u0 (some (.int c)) u2 Dk u4 u5 u6 u7 u8 u9 chD sh path (some (.ref RD)) (some res) o v16 v17 v18 none none) h2 = .next (AE u0 (some (.int c)) u2 Dk u4 u5 u6 u7 u8 u9 chD sh path (some (.ref RD)) (some res) o v16 v17 v18 (some (.str w.1)) none) h2 := by
    have N0 : (0 : Int) < ((N : Nat) : Int) := by omega
    unfold s_law_16
    generalize nrD w = dw at iN j0
    generalize ((N : Nat) : Int) = Ni at ll iN N0
    generalize chD = cc
    simp -implicitDefEqProofs [dDiv_int (show (0 : Int) < 6 by decide) (show (6 : Int).natAbs.log2 < 9000 by decide), ll, dMod_int N0, iN, j0]
  -- 17, 18
  obtain ⟨Gv, qG⟩ : ∃ Gv, Gv = h2.length := ⟨_, rfl⟩
  obtain ⟨h3, q3⟩ : ∃ h3, h3 = h2 ++ [LO.dK []] := ⟨_, rfl⟩
  have K3 : Kp h2 h3 := by rw [q3]; exact Kp.push _ _
  have hG3 : h3[Gv]? = some (.dK []) := by rw [q3, qG]; simp
  have b17 : s_law_17 (AE u0 (some (.int c)) u2 Dk u4 u5 u6 u7 u8 u9 chD sh path (some (.ref RD)) (some res) o v16 v17 v18 (some (.str w.1)) none) h2 = .next (AE u0 (some (.int c)) u2 Dk u4 u5 u6 u7 u8 u9 chD sh path (some (.ref RD)) (some res) o v16 v17 v18 (some (.str w.1)) (some (.ref Gv))) h3 := by
    rw [q3, qG]; rfl
  have lDk := lt_of_get hk2
  obtain ⟨v6, h4, b18, hG4⟩ := copy_loop (u0 := u0) (u1 := some (.int c)) (u2 := u2) (u4 := u4) (u5 := u5) (u6 := u6) (u7 := u7) (u8 := u8) (u9 := u9) (u13 := some (.ref RD)) (u14 := some res) (u15 := some (.ref o)) (u16 := v16) (u17 := v17) (u18 := v18) (sh := sh) (e12 := .str path) (dm := dm) (out := w.1) (h := h3) (Dk := Dk) (Gv := Gv) (K3.get hk2) hG3 (by omega)
  -- 19
  have lkB := lookup_ok (h := h4) (a := .str kCr) (b := .int 1) (c := .int 9) (r0 := rK "k1") (r1 := rK "k2") (r2 := rK "k3") (r3 := rK "k4") (x := S "shelf") (y := .int 1) (z := .int 9) (p := path) (rs := rs) (Dc := Gv) hG4 hrs hpl (fun nm d hg => by
    rw [dk_get] at hg
    by_cases q : nm ∈ NM.filter fun n => !decide (n = w.1)
    · rw [if_pos q] at hg
      cases hg
      exact (hd nm (List.mem_filter.mp q).1).ls
    · rw [if_neg q] at hg
      cases hg)
  obtain ⟨h5, K5, e5⟩ := lkB
  have lrd := ro.1
  have ro2 : RdOk path rs dm (rK "k4") (m + 1) (rd.take (m + 1)) := ⟨by rw [List.length_take]; omega, fun i hi => by
    rw [List.getElem?_take_of_lt hi]
    exact ro.2 i (by omega)⟩
  have rm := run_miss (dmo := fun nm => getKD (.inr nm) (dk dm (NM.filter fun n => !decide (n = w.1)))) ro2 (y := w) (by rw [List.getElem?_take_of_lt (by omega)]; exact hw) (fun i x hi hx => by
    rw [List.getElem?_take_of_lt (by omega)] at hx
    have hxn := (rd_mem hany hdl rk4_ok hli ro hx).2.2.1
    have I := ps_inv hany hdl rk4_ok hli ro m (by omega)
    have hxw : x.1 ≠ w.1 := fun q => by
      have hns := (want_facts hwm).2.2.2
      rw [I.s] at hns
      exact hns (List.mem_map.mpr ⟨x, List.mem_iff_getElem?.mpr ⟨i, by rw [List.getElem?_take_of_lt hi]; exact hx⟩, q⟩)
    rw [dk_get, if_pos (List.mem_filter.mpr ⟨hnm _ hxn, by simpa using hxw⟩)]) (by
    rw [dk_get, if_neg (by simp)]) m 0 34 (by omega) (by omega)
  have rm : runS path rs (fun nm => getKD (.inr nm) (dk dm (NM.filter fun n => !decide (n = w.1)))) 34 ⟨[(kLi, rK "k4")], [], none⟩ = .tup [S "missing", .str w.1] := rm
  rw [rm, ← qsh2] at e5
  have e5 : L.f_lookup [chD, sh, .ref Gv, .str path] h4 = .ok (.tup [S "missing", .str w.1]) h5 := e5
  have pm : PE 2 40 (D.tup [S "missing", .str w.1]) := (pe2 (str_pe (s := [109, 105, 115, 115, 105, 110, 103]) (n := 7) 1 (by simp) (by decide) (by decide)) ((name_pe 1 (NM_ln _ (hnm _ hwn))).mono (Nat.le_refl _) (Nat.le_refl _))).mono (Nat.le_refl _) (by decide)
  have eq5 := (same_eq pm (by decide) (by decide) h5).1
  refine ⟨h5, ?_⟩
  rw [ev_seq, b14]; dsimp only
  rw [ev_seq, b15]; dsimp only
  rw [ev_seq, b16]; dsimp only
  rw [ev_seq, b17]; dsimp only
  rw [ev_seq, b18]; dsimp only
  unfold s_law_19
  generalize chD = cc at e5 ⊢
  generalize S "missing" = sm at e5 eq5 ⊢
  simp -implicitDefEqProofs [e5, eq5]
end
theorem law_ok : LawOk f_law := by
  refine law_of fun ns hn hb => ?_
  change RetT (b_law [some (.scr ns), none, none, none, none, none, none, none, none, none, none, none, none, none, none, none, none, none, none, none, none] [])
  rw [show b_law = sSeq s_law_1 (sSeq s_law_2 (sSeq s_law_3 (sSeq s_law_4 (sSeq s_law_5 (sSeq s_law_6 (sSeq s_law_7 (sSeq s_law_8 (sSeq s_law_9 (sSeq s_law_10 (sSeq s_law_11 (sSeq s_law_12 (sSeq s_law_13 (sSeq s_law_14 (sSeq s_law_15 (sSeq s_law_16 (sSeq s_law_17 (sSeq s_law_18 s_law_19))))))))))))))))) from rfl]
  obtain ⟨c, c0, ec⟩ := cell2_ok (ns := ns) (h := [])
  obtain ⟨r, xs, h2, ed, hr0, hr, lx, hx, K2⟩ := draws_ok (ns := ns) (h := []) hn
  obtain ⟨Dk, qDk⟩ : ∃ Dk, Dk = h2.length := ⟨_, rfl⟩
  obtain ⟨h3, q3⟩ : ∃ h3, h3 = h2 ++ [LO.dK []] := ⟨_, rfl⟩
  obtain ⟨Nm, qNm⟩ : ∃ Nm, Nm = h3.length := ⟨_, rfl⟩
  obtain ⟨h4, q4⟩ : ∃ h4, h4 = h3 ++ [LO.lst [.str kLi]] := ⟨_, rfl⟩
  have K3 : Kp h2 h3 := by rw [q3]; exact Kp.push _ _
  have K4 : Kp h3 h4 := by rw [q4]; exact Kp.push _ _
  have l3 : h3.length = h2.length + 1 := by rw [q3]; simp
  have lr := lt_of_get hr
  have hk4 : h4[Dk]? = some (.dK []) := K4.get (by rw [q3, qDk]; simp)
  have hN4 : h4[Nm]? = some (.lst [.str kLi]) := by rw [q4, qNm]; simp
  obtain ⟨f, names, u5, u6, u7, h5, b5, hk5, hN5, hli, hnm, ln, hf⟩ := build_loop (ns := ns) (c := c) (r := r) (Dk := Dk) (Nm := Nm) (xs := xs) (h := h4) c0 (K4.get (K3.get hr)) hx lx hk4 hN4 (by omega) (by omega) (by omega)
  obtain ⟨h6, b6, K6⟩ := rows_ok (ns := ns) (c := c) (r := r) (Dk := Dk) (Nm := Nm) (u5 := u5) (u6 := u6) (u7 := u7) hN5 (by omega)
  obtain ⟨path, h7, ep, hp, K7⟩ := path_ok (n := c) (h := h6)
  have hrs : ∀ q ∈ rsD names, isEnt q = true := fun q hq => by
    obtain ⟨d, hd, rfl⟩ := List.mem_map.mp hq
    obtain ⟨n, hn', rfl⟩ := List.mem_map.mp hd
    exact ent_ok (hnm n ((sortS_perm names).mem_iff.mp hn'))
  have hk7 := K7.get (K6.get hk5)
  have w0 : World0 h7 path (rsD names) names f Dk Nm := ⟨hp, hrs, ent_any names, by omega, hk7, K7.get (K6.get hN5), hnm, hf⟩
  obtain ⟨RD, res, h8, e11, lRD, K8, N, rd, hRD, rdo, he, hres⟩ := walk_ok (role := rK "k4") w0 rk4_ok hli
  obtain ⟨h9, e12, a9, K9⟩ := search_init (a := .str kCr) (b := .int 1) (c := .int 9) (r0 := rK "k1") (r1 := rK "k2") (r2 := rK "k3") (r3 := rK "k4") (sh := shD names) (p := path) (h := h8)
  have e12 : kMake L.f_Search___init__ h8 "Search" [chD, shD names, .str path] = .ok (.ref h8.length) h9 := e12
  obtain ⟨o, qo⟩ : ∃ o, o = h8.length := ⟨_, rfl⟩
  rw [← qo] at e12 a9
  have lDk := lt_of_get (K8.get hk7)
  have lRD8 := lt_of_get hRD
  obtain ⟨ro, qro⟩ : ∃ ro, ro = D.tup [rK "k1", rK "k2", rK "k3", rK "k4"] := ⟨_, rfl⟩
  obtain ⟨v16, v17, v18, h10, W10, el, a10, fo10⟩ := ask_loop (u0 := some (.scr ns)) (u1 := some (.int c)) (u2 := some (.ref r)) (u4 := some (.ref Nm)) (u5 := u5) (u6 := u6) (u7 := u7) (u8 := some (.tup (rsD names))) (u9 := some ro) (u13 := some (.ref RD)) (u14 := some res) (u17 := none) (u18 := none) (u19 := none) (u20 := none) (Dk := Dk) (sh := shD names) (x := S "shelf") (y := .int 1) (z := .int 9) (rs := rsD names) (role := rK "k4") (dm := f) hp hrs (ent_any names) rfl hf rk4_ok hli hnm rdo a9 (K9.get (K8.get hk7)) (K9.get hRD) (by omega) (by omega) (by omega) (by omega)
  obtain ⟨h11, e14⟩ := fin_ok (u0 := some (.scr ns)) (u2 := some (.ref r)) (u4 := some (.ref Nm)) (u5 := u5) (u6 := u6) (u7 := u7) (u8 := some (.tup (rsD names))) (u9 := some ro) (v16 := v16) (v17 := v17) (v18 := v18) (c := c) c0 hp hli hnm hf rdo he a10 (fo10.get (by simp; omega) (K9.get (K8.get hk7))) (fo10.get (by simp; omega) (K9.get hRD))
  rw [hres] at e14
  refine ⟨h11, ?_⟩
  have b1 : s_law_1 [some (.scr ns), none, none, none, none, none, none, none, none, none, none, none, none, none, none, none, none, none, none, none, none] [] = .next [some (.scr ns), some (.int c), none, none, none, none, none, none, none, none, none, none, none, none, none, none, none, none, none, none, none] [] := by
    unfold s_law_1
    simp -implicitDefEqProofs [ec]
  have b2 : s_law_2 [some (.scr ns), some (.int c), none, none, none, none, none, none, none, none, none, none, none, none, none, none, none, none, none, none, none] [] = .next [some (.scr ns), some (.int c), some (.ref r), none, none, none, none, none, none, none, none, none, none, none, none, none, none, none, none, none, none] h2 := by
    unfold s_law_2
    simp -implicitDefEqProofs [ed]
  have b3 : s_law_3 [some (.scr ns), some (.int c), some (.ref r), none, none, none, none, none, none, none, none, none, none, none, none, none, none, none, none, none, none] h2 = .next [some (.scr ns), some (.int c), some (.ref r), some (.ref Dk), none, none, none, none, none, none, none, none, none, none, none, none, none, none, none, none, none] h3 := by
    rw [q3, qDk]; rfl
  have b4 : s_law_4 [some (.scr ns), some (.int c), some (.ref r), some (.ref Dk), none, none, none, none, none, none, none, none, none, none, none, none, none, none, none, none, none] h3 = .next (BE ns c r Dk Nm none none none) h4 := by
    rw [q4, qNm]; rfl
  have b7 : s_law_7 ((BE ns c r Dk Nm u5 u6 u7).set 8 (some (.tup (rsD names)))) h6 = .next [some (.scr ns), some (.int c), some (.ref r), some (.ref Dk), some (.ref Nm), u5, u6, u7, some (.tup (rsD names)), some ro, none, none, none, none, none, none, none, none, none, none, none] h6 := by
    rw [qro]; rfl
  have b8 : s_law_8 [some (.scr ns), some (.int c), some (.ref r), some (.ref Dk), some (.ref Nm), u5, u6, u7, some (.tup (rsD names)), some ro, none, none, none, none, none, none, none, none, none, none, none] h6 = .next [some (.scr ns), some (.int c), some (.ref r), some (.ref Dk), some (.ref Nm), u5, u6, u7, some (.tup (rsD names)), some ro, some chD, none, none, none, none, none, none, none, none, none, none] h6 := by
    rw [qro]; rfl
  have b9 : s_law_9 [some (.scr ns), some (.int c), some (.ref r), some (.ref Dk), some (.ref Nm), u5, u6, u7, some (.tup (rsD names)), some ro, some chD, none, none, none, none, none, none, none, none, none, none] h6 = .next [some (.scr ns), some (.int c), some (.ref r), some (.ref Dk), some (.ref Nm), u5, u6, u7, some (.tup (rsD names)), some ro, some chD, some (shD names), none, none, none, none, none, none, none, none, none] h6 := rfl
  have b10 : s_law_10 [some (.scr ns), some (.int c), some (.ref r), some (.ref Dk), some (.ref Nm), u5, u6, u7, some (.tup (rsD names)), some ro, some chD, some (shD names), none, none, none, none, none, none, none, none, none] h6 = .next [some (.scr ns), some (.int c), some (.ref r), some (.ref Dk), some (.ref Nm), u5, u6, u7, some (.tup (rsD names)), some ro, some chD, some (shD names), some (.str path), none, none, none, none, none, none, none, none] h7 := by
    unfold s_law_10
    generalize chD = cc
    generalize shD names = ss
    generalize rsD names = rr
    simp -implicitDefEqProofs [ep]
  have i3 : dIx ro (.int 3) h7 = .ok (rK "k4") h7 := by rw [qro]; rfl
  have b11 : s_law_11 [some (.scr ns), some (.int c), some (.ref r), some (.ref Dk), some (.ref Nm), u5, u6, u7, some (.tup (rsD names)), some ro, some chD, some (shD names), some (.str path), none, none, none, none, none, none, none, none] h7 = .next [some (.scr ns), some (.int c), some (.ref r), some (.ref Dk), some (.ref Nm), u5, u6, u7, some (.tup (rsD names)), some ro, some chD, some (shD names), some (.str path), some (.ref RD), some res, none, none, none, none, none, none] h8 := by
    unfold s_law_11
    generalize chD = cc
    generalize shD names = ss
    generalize rsD names = rr
    generalize rK "k4" = r4 at i3 e11
    rw [ev_sTup]
    have ea : (mApp f__law_walk_v2 (mCons (mOp dIx (mVar 9) (mC (.int 3))) (mCons (mVar 3) (mCons (mVar 4) (mCons (mVar 12) mNil))))) [some (.scr ns), some (.int c), some (.ref r), some (.ref Dk), some (.ref Nm), u5, u6, u7, some (.tup rr), some ro, some cc, some ss, some (.str path), none, none, none, none, none, none, none, none] h7 = .ok (.tup [.ref RD, res]) h8 := by
      simp -implicitDefEqProofs [i3, e11]
    rw [ea, rs_ok]
    rfl
  have b12 : s_law_12 [some (.scr ns), some (.int c), some (.ref r), some (.ref Dk), some (.ref Nm), u5, u6, u7, some (.tup (rsD names)), some ro, some chD, some (shD names), some (.str path), some (.ref RD), some res, none, none, none, none, none, none] h8 = .next (AE (some (.scr ns)) (some (.int c)) (some (.ref r)) Dk (some (.ref Nm)) u5 u6 u7 (some (.tup (rsD names))) (some ro) chD (shD names) path (some (.ref RD)) (some res) o none none none none none) h9 := by
    unfold s_law_12
    generalize chD = cc at e12 ⊢
    generalize shD names = ss at e12 ⊢
    generalize rsD names = rr
    simp -implicitDefEqProofs [e12]
  have b13 : s_law_13 (AE (some (.scr ns)) (some (.int c)) (some (.ref r)) Dk (some (.ref Nm)) u5 u6 u7 (some (.tup (rsD names))) (some ro) chD (shD names) path (some (.ref RD)) (some res) o none none none none none) h9 = .next (AE (some (.scr ns)) (some (.int c)) (some (.ref r)) Dk (some (.ref Nm)) u5 u6 u7 (some (.tup (rsD names))) (some ro) chD (shD names) path (some (.ref RD)) (some res) o v16 v17 v18 none none) h10 := by
    rw [show s_law_13 = sFor (iAny (mVar 13)) (.nm 16) s_law_13b from rfl, ev_for]
    have ia : ∀ Y, h9[RD]? = some (.lst Y) → iAny (mVar 13) (AE (some (.scr ns)) (some (.int c)) (some (.ref r)) Dk (some (.ref Nm)) u5 u6 u7 (some (.tup (rsD names))) (some ro) chD (shD names) path (some (.ref RD)) (some res) o none none none none none) h9 = .ok (itO RD, Y.length) h9 := fun Y hY => by
      generalize chD = cc
      generalize shD names = ss
      generalize rsD names = rr
      simp -implicitDefEqProofs [hY]
    rw [ia _ (K9.get hRD), rs_ok]
    exact el
  rw [ev_seq, b1]; dsimp only
  rw [ev_seq, b2]; dsimp only
  rw [ev_seq, b3]; dsimp only
  rw [ev_seq, b4]; dsimp only
  rw [ev_seq, b5]; dsimp only
  rw [ev_seq, b6]; dsimp only
  rw [ev_seq, b7]; dsimp only
  rw [ev_seq, b8]; dsimp only
  rw [ev_seq, b9]; dsimp only
  rw [ev_seq, b10]; dsimp only
  rw [ev_seq, b11]; dsimp only
  rw [ev_seq, b12]; dsimp only
  rw [ev_seq, b13]; dsimp only
  exact e14
end G
set_option Elab.async false
set_option linter.all false
set_option maxRecDepth 100000
set_option maxHeartbeats 4000000
namespace GE
open PySem PySem.W PySem.Calls PySem.Spec PyProof.Rows L2 HM G HE GH
theorem facts {P : Program} {w : World} {K : PySem.W.Frag} {h : Heap} {mg : PySem.Str → Option Value} {fa : Addr} (X : K.In h) (G : h.Ns mainGlobals mg) (hfa : mg "law" = some (.ref fa)) (c : SaysM ft fn K) :
    ∃ fd : FuncData, (∀ (s : Shared) (v : Value), BindsTo s fd ⟨[v], []⟩ [("_law_script", v)]) ∧ ∀ base : Heap, K.In base → base.Ns mainGlobals mg → FnOk P w K mg base (L2.CX P w) 28 fa fd ["_law_script"] (spM K mg f_law) := by
  obtain ⟨oc0, od0, sl0, kV0, dc0, pm0, an0, cd0, ct0, l0, c0⟩ := c.def_ 0 (d := D0) rfl
  obtain ⟨oc1, od1, sl1, kV1, dc1, pm1, an1, cd1, ct1, l1, c1⟩ := c.def_ 1 (d := D1) rfl
  obtain ⟨oc2, od2, sl2, kV2, dc2, pm2, an2, cd2, ct2, l2, c2⟩ := c.def_ 2 (d := D2) rfl
  obtain ⟨oc3, od3, sl3, kV3, dc3, pm3, an3, cd3, ct3, l3, c3⟩ := c.def_ 3 (d := D3) rfl
  obtain ⟨oc4, od4, sl4, kV4, dc4, pm4, an4, cd4, ct4, l4, c4⟩ := c.def_ 4 (d := D4) rfl
  obtain ⟨oc5, od5, sl5, kV5, dc5, pm5, an5, cd5, ct5, l5, c5⟩ := c.def_ 5 (d := D5) rfl
  obtain ⟨oc6, od6, sl6, kV6, dc6, pm6, an6, cd6, ct6, l6, c6⟩ := c.def_ 6 (d := D6) rfl
  obtain ⟨oc7, od7, sl7, kV7, dc7, pm7, an7, cd7, ct7, l7, c7⟩ := c.def_ 7 (d := D7) rfl
  obtain ⟨oc8, od8, sl8, kV8, dc8, pm8, an8, cd8, ct8, l8, c8⟩ := c.def_ 8 (d := D8) rfl
  obtain ⟨oc9, od9, sl9, kV9, dc9, pm9, an9, cd9, ct9, l9, c9⟩ := c.def_ 9 (d := D9) rfl
  obtain ⟨oc10, od10, sl10, kV10, dc10, pm10, an10, cd10, ct10, l10, c10⟩ := c.def_ 10 (d := D10) rfl
  obtain ⟨oc11, od11, sl11, kV11, dc11, pm11, an11, cd11, ct11, l11, c11⟩ := c.def_ 11 (d := D11) rfl
  obtain ⟨oc12, od12, sl12, kV12, dc12, pm12, an12, cd12, ct12, l12, c12⟩ := c.def_ 12 (d := D12) rfl
  obtain ⟨oc13, od13, sl13, kV13, dc13, pm13, an13, cd13, ct13, l13, c13⟩ := c.def_ 13 (d := D13) rfl
  obtain ⟨oc14, od14, sl14, kV14, dc14, pm14, an14, cd14, ct14, l14, c14⟩ := c.def_ 14 (d := D14) rfl
  obtain ⟨oc15, od15, sl15, kV15, dc15, pm15, an15, cd15, ct15, l15, c15⟩ := c.def_ 15 (d := D15) rfl
  obtain ⟨oc16, od16, sl16, kV16, dc16, pm16, an16, cd16, ct16, l16, c16⟩ := c.def_ 16 (d := D16) rfl
  obtain ⟨oc17, od17, sl17, kV17, dc17, pm17, an17, cd17, ct17, l17, c17⟩ := c.def_ 17 (d := D17) rfl
  obtain ⟨oc18, od18, sl18, kV18, dc18, pm18, an18, cd18, ct18, l18, c18⟩ := c.def_ 18 (d := D18) rfl
  obtain ⟨oc19, od19, sl19, kV19, dc19, pm19, an19, cd19, ct19, l19, c19⟩ := c.def_ 19 (d := D19) rfl
  obtain ⟨oc20, od20, sl20, kV20, dc20, pm20, an20, cd20, ct20, l20, c20⟩ := c.def_ 20 (d := D20) rfl
  obtain ⟨oc21, od21, sl21, kV21, dc21, pm21, an21, cd21, ct21, l21, c21⟩ := c.def_ 21 (d := D21) rfl
  obtain ⟨oc22, od22, sl22, kV22, dc22, pm22, an22, cd22, ct22, l22, c22⟩ := c.def_ 22 (d := D22) rfl
  obtain ⟨oc23, od23, sl23, kV23, dc23, pm23, an23, cd23, ct23, l23, c23⟩ := c.def_ 23 (d := D23) rfl
  obtain ⟨oc24, od24, sl24, kV24, dc24, pm24, an24, cd24, ct24, l24, c24⟩ := c.def_ 24 (d := D24) rfl
  obtain ⟨oc25, od25, sl25, kV25, dc25, pm25, an25, cd25, ct25, l25, c25⟩ := c.def_ 25 (d := D25) rfl
  obtain ⟨oc26, od26, sl26, kV26, dc26, pm26, an26, cd26, ct26, l26, c26⟩ := c.def_ 26 (d := D26) rfl
  obtain ⟨oc27, od27, sl27, kV27, dc27, pm27, an27, cd27, ct27, l27, c27⟩ := c.def_ 27 (d := D27) rfl
  obtain ⟨oc28, od28, sl28, kV28, dc28, pm28, an28, cd28, ct28, l28, c28⟩ := c.def_ 28 (d := D28) rfl
  obtain ⟨oc29, od29, sl29, kV29, dc29, pm29, an29, cd29, ct29, l29, c29⟩ := c.def_ 29 (d := D29) rfl
  obtain ⟨oc30, od30, sl30, kV30, dc30, pm30, an30, cd30, ct30, l30, c30⟩ := c.def_ 30 (d := D30) rfl
  obtain ⟨oc31, od31, sl31, kV31, dc31, pm31, an31, cd31, ct31, l31, c31⟩ := c.def_ 31 (d := D31) rfl
  obtain ⟨oc32, od32, sl32, kV32, dc32, pm32, an32, cd32, ct32, l32, c32⟩ := c.def_ 32 (d := D32) rfl
  obtain ⟨oc33, od33, sl33, kV33, dc33, pm33, an33, cd33, ct33, l33, c33⟩ := c.def_ 33 (d := D33) rfl
  obtain ⟨oc34, od34, sl34, kV34, dc34, pm34, an34, cd34, ct34, l34, c34⟩ := c.def_ 34 (d := D34) rfl
  obtain ⟨oc35, od35, sl35, kV35, dc35, pm35, an35, cd35, ct35, l35, c35⟩ := c.def_ 35 (d := D35) rfl
  obtain ⟨oc36, od36, sl36, kV36, dc36, pm36, an36, cd36, ct36, l36, c36⟩ := c.def_ 36 (d := D36) rfl
  obtain ⟨oc37, od37, sl37, kV37, dc37, pm37, an37, cd37, ct37, l37, c37⟩ := c.def_ 37 (d := D37) rfl
  obtain ⟨oc38, od38, sl38, kV38, dc38, pm38, an38, cd38, ct38, l38, c38⟩ := c.def_ 38 (d := D38) rfl
  obtain ⟨oc39, od39, sl39, kV39, dc39, pm39, an39, cd39, ct39, l39, c39⟩ := c.def_ 39 (d := D39) rfl
  obtain ⟨oc40, od40, sl40, kV40, dc40, pm40, an40, cd40, ct40, l40, c40⟩ := c.def_ 40 (d := D40) rfl
  obtain ⟨oc41, od41, sl41, kV41, dc41, pm41, an41, cd41, ct41, l41, c41⟩ := c.def_ 41 (d := D41) rfl
  have q := c.fact 0 (f := ft0) rfl
  unfold ft0 at q
  obtain ⟨q0, q⟩ := He.ba q
  have aCSearch := of_decide_eq_true q0
  clear q0
  obtain ⟨q0, q⟩ := He.ba q
  have pgSearch := q0
  clear q0
  obtain ⟨q0, q⟩ := He.ba q
  have hdSearch := q0
  clear q0
  obtain ⟨q0, q⟩ := He.ba q
  have poSearch := q0
  clear q0
  obtain ⟨q0, q⟩ := He.ba q
  have saSearch := of_decide_eq_true q0
  clear q0
  obtain ⟨q0, q⟩ := He.ba q
  have mkSearch := q0
  clear q0
  obtain ⟨q0, q⟩ := He.ba q
  have kcSearch := q0
  clear q0
  obtain ⟨q0, q⟩ := He.ba q
  have nSearch_outcome := of_decide_eq_true q0
  clear q0
  obtain ⟨q0, q⟩ := He.ba q
  have nSearch_path := of_decide_eq_true q0
  clear q0
  obtain ⟨q0, q⟩ := He.ba q
  have nSearch_shelf := of_decide_eq_true q0
  clear q0
  obtain ⟨q0, q⟩ := He.ba q
  have nSearch_visited := of_decide_eq_true q0
  clear q0
  obtain ⟨q0, q⟩ := He.ba q
  have nSearch_waiting := of_decide_eq_true q0
  clear q0
  obtain ⟨q0, q⟩ := He.ba q
  have a0 := of_decide_eq_true q0
  clear q0
  obtain ⟨q0, q⟩ := He.ba q
  have k0 := q0
  clear q0
  obtain ⟨q0, q⟩ := He.ba q
  have a1 := of_decide_eq_true q0
  clear q0
  obtain ⟨q0, q⟩ := He.ba q
  have k1 := q0
  clear q0
  obtain ⟨q0, q⟩ := He.ba q
  have a2 := of_decide_eq_true q0
  clear q0
  obtain ⟨q0, q⟩ := He.ba q
  have k2 := q0
  clear q0
  obtain ⟨q0, q⟩ := He.ba q
  have a3 := of_decide_eq_true q0
  clear q0
  have q0 := q
  have k3 := q0
  clear q0
  clear q
  have q := c.fact 1 (f := ft1) rfl
  unfold ft1 at q
  obtain ⟨q0, q⟩ := He.ba q
  have a4 := of_decide_eq_true q0
  clear q0
  obtain ⟨q0, q⟩ := He.ba q
  have k4 := q0
  clear q0
  obtain ⟨q0, q⟩ := He.ba q
  have a5 := of_decide_eq_true q0
  clear q0
  obtain ⟨q0, q⟩ := He.ba q
  have k5 := q0
  clear q0
  obtain ⟨q0, q⟩ := He.ba q
  have a6 := of_decide_eq_true q0
  clear q0
  obtain ⟨q0, q⟩ := He.ba q
  have k6 := q0
  clear q0
  obtain ⟨q0, q⟩ := He.ba q
  have a7 := of_decide_eq_true q0
  clear q0
  obtain ⟨q0, q⟩ := He.ba q
  have k7 := q0
  clear q0
  obtain ⟨q0, q⟩ := He.ba q
  have a8 := of_decide_eq_true q0
  clear q0
  obtain ⟨q0, q⟩ := He.ba q
  have k8 := q0
  clear q0
  obtain ⟨q0, q⟩ := He.ba q
  have a9 := of_decide_eq_true q0
  clear q0
  obtain ⟨q0, q⟩ := He.ba q
  have k9 := q0
  clear q0
  obtain ⟨q0, q⟩ := He.ba q
  have a10 := of_decide_eq_true q0
  clear q0
  obtain ⟨q0, q⟩ := He.ba q
  have k10 := q0
  clear q0
  obtain ⟨q0, q⟩ := He.ba q
  have a11 := of_decide_eq_true q0
  clear q0
  obtain ⟨q0, q⟩ := He.ba q
  have k11 := q0
  clear q0
  obtain ⟨q0, q⟩ := He.ba q
  have a12 := of_decide_eq_true q0
  clear q0
  obtain ⟨q0, q⟩ := He.ba q
  have k12 := q0
  clear q0
  obtain ⟨q0, q⟩ := He.ba q
  have a13 := of_decide_eq_true q0
  clear q0
  have q0 := q
  have k13 := q0
  clear q0
  clear q
  have q := c.fact 2 (f := ft2) rfl
  unfold ft2 at q
  obtain ⟨q0, q⟩ := He.ba q
  have a14 := of_decide_eq_true q0
  clear q0
  obtain ⟨q0, q⟩ := He.ba q
  have k14 := q0
  clear q0
  obtain ⟨q0, q⟩ := He.ba q
  have a15 := of_decide_eq_true q0
  clear q0
  obtain ⟨q0, q⟩ := He.ba q
  have k15 := q0
  clear q0
  obtain ⟨q0, q⟩ := He.ba q
  have a16 := of_decide_eq_true q0
  clear q0
  obtain ⟨q0, q⟩ := He.ba q
  have k16 := q0
  clear q0
  obtain ⟨q0, q⟩ := He.ba q
  have a17 := of_decide_eq_true q0
  clear q0
  obtain ⟨q0, q⟩ := He.ba q
  have k17 := q0
  clear q0
  obtain ⟨q0, q⟩ := He.ba q
  have a18 := of_decide_eq_true q0
  clear q0
  obtain ⟨q0, q⟩ := He.ba q
  have k18 := q0
  clear q0
  obtain ⟨q0, q⟩ := He.ba q
  have a19 := of_decide_eq_true q0
  clear q0
  obtain ⟨q0, q⟩ := He.ba q
  have k19 := q0
  clear q0
  obtain ⟨q0, q⟩ := He.ba q
  have a20 := of_decide_eq_true q0
  clear q0
  obtain ⟨q0, q⟩ := He.ba q
  have k20 := q0
  clear q0
  obtain ⟨q0, q⟩ := He.ba q
  have a21 := of_decide_eq_true q0
  clear q0
  obtain ⟨q0, q⟩ := He.ba q
  have k21 := q0
  clear q0
  obtain ⟨q0, q⟩ := He.ba q
  have a22 := of_decide_eq_true q0
  clear q0
  obtain ⟨q0, q⟩ := He.ba q
  have k22 := q0
  clear q0
  obtain ⟨q0, q⟩ := He.ba q
  have a23 := of_decide_eq_true q0
  clear q0
  have q0 := q
  have k23 := q0
  clear q0
  clear q
  have q := c.fact 3 (f := ft3) rfl
  unfold ft3 at q
  obtain ⟨q0, q⟩ := He.ba q
  have a24 := of_decide_eq_true q0
  clear q0
  obtain ⟨q0, q⟩ := He.ba q
  have k24 := q0
  clear q0
  obtain ⟨q0, q⟩ := He.ba q
  have a25 := of_decide_eq_true q0
  clear q0
  obtain ⟨q0, q⟩ := He.ba q
  have k25 := q0
  clear q0
  obtain ⟨q0, q⟩ := He.ba q
  have a26 := of_decide_eq_true q0
  clear q0
  obtain ⟨q0, q⟩ := He.ba q
  have i26 := q0
  clear q0
  obtain ⟨q0, q⟩ := He.ba q
  have k26 := q0
  clear q0
  obtain ⟨q0, q⟩ := He.ba q
  have a27 := of_decide_eq_true q0
  clear q0
  obtain ⟨q0, q⟩ := He.ba q
  have i27 := q0
  clear q0
  obtain ⟨q0, q⟩ := He.ba q
  have k27 := q0
  clear q0
  obtain ⟨q0, q⟩ := He.ba q
  have a28 := of_decide_eq_true q0
  clear q0
  obtain ⟨q0, q⟩ := He.ba q
  have i28 := q0
  clear q0
  obtain ⟨q0, q⟩ := He.ba q
  have k28 := q0
  clear q0
  obtain ⟨q0, q⟩ := He.ba q
  have a29 := of_decide_eq_true q0
  clear q0
  obtain ⟨q0, q⟩ := He.ba q
  have i29 := q0
  clear q0
  obtain ⟨q0, q⟩ := He.ba q
  have k29 := q0
  clear q0
  obtain ⟨q0, q⟩ := He.ba q
  have a30 := of_decide_eq_true q0
  clear q0
  obtain ⟨q0, q⟩ := He.ba q
  have k30 := q0
  clear q0
  obtain ⟨q0, q⟩ := He.ba q
  have a31 := of_decide_eq_true q0
  clear q0
  have q0 := q
  have k31 := q0
  clear q0
  clear q
  have q := c.fact 4 (f := ft4) rfl
  unfold ft4 at q
  obtain ⟨q0, q⟩ := He.ba q
  have a32 := of_decide_eq_true q0
  clear q0
  obtain ⟨q0, q⟩ := He.ba q
  have k32 := q0
  clear q0
  obtain ⟨q0, q⟩ := He.ba q
  have a33 := of_decide_eq_true q0
  clear q0
  obtain ⟨q0, q⟩ := He.ba q
  have k33 := q0
  clear q0
  obtain ⟨q0, q⟩ := He.ba q
  have a34 := of_decide_eq_true q0
  clear q0
  obtain ⟨q0, q⟩ := He.ba q
  have k34 := q0
  clear q0
  obtain ⟨q0, q⟩ := He.ba q
  have a35 := of_decide_eq_true q0
  clear q0
  obtain ⟨q0, q⟩ := He.ba q
  have k35 := q0
  clear q0
  obtain ⟨q0, q⟩ := He.ba q
  have a36 := of_decide_eq_true q0
  clear q0
  obtain ⟨q0, q⟩ := He.ba q
  have k36 := q0
  clear q0
  obtain ⟨q0, q⟩ := He.ba q
  have a37 := of_decide_eq_true q0
  clear q0
  obtain ⟨q0, q⟩ := He.ba q
  have k37 := q0
  clear q0
  obtain ⟨q0, q⟩ := He.ba q
  have a38 := of_decide_eq_true q0
  clear q0
  obtain ⟨q0, q⟩ := He.ba q
  have k38 := q0
  clear q0
  obtain ⟨q0, q⟩ := He.ba q
  have a39 := of_decide_eq_true q0
  clear q0
  obtain ⟨q0, q⟩ := He.ba q
  have k39 := q0
  clear q0
  obtain ⟨q0, q⟩ := He.ba q
  have a40 := of_decide_eq_true q0
  clear q0
  obtain ⟨q0, q⟩ := He.ba q
  have k40 := q0
  clear q0
  obtain ⟨q0, q⟩ := He.ba q
  have a41 := of_decide_eq_true q0
  clear q0
  have q0 := q
  have k41 := q0
  clear q0
  clear q
  have q := c.fact 5 (f := ft5) rfl
  unfold ft5 at q
  obtain ⟨q0, q⟩ := He.ba q
  have e1ChartError := of_decide_eq_true q0
  clear q0
  obtain ⟨q0, q⟩ := He.ba q
  have e3ChartError := q0
  clear q0
  obtain ⟨q0, q⟩ := He.ba q
  have e4ChartError := of_decide_eq_true q0
  clear q0
  obtain ⟨q0, q⟩ := He.ba q
  have e5ChartError := of_decide_eq_true q0
  clear q0
  obtain ⟨q0, q⟩ := He.ba q
  have e1BadState := of_decide_eq_true q0
  clear q0
  obtain ⟨q0, q⟩ := He.ba q
  have e3BadState := q0
  clear q0
  obtain ⟨q0, q⟩ := He.ba q
  have e4BadState := of_decide_eq_true q0
  clear q0
  obtain ⟨q0, q⟩ := He.ba q
  have e5BadState := of_decide_eq_true q0
  clear q0
  obtain ⟨q0, q⟩ := He.ba q
  have e2ChartError := q0
  clear q0
  obtain ⟨q0, q⟩ := He.ba q
  have e2BadState := q0
  clear q0
  obtain ⟨q0, q⟩ := He.ba q
  have e6BadState := q0
  clear q0
  obtain ⟨q0, q⟩ := He.ba q
  have e7ChartErrorBadState := of_decide_eq_true q0
  clear q0
  obtain ⟨q0, q⟩ := He.ba q
  have e7BadStateBadState := of_decide_eq_true q0
  clear q0
  obtain ⟨q0, q⟩ := He.ba q
  have z_abs := of_decide_eq_true q0
  clear q0
  obtain ⟨q0, q⟩ := He.ba q
  have z_all := of_decide_eq_true q0
  clear q0
  obtain ⟨q0, q⟩ := He.ba q
  have z_any := of_decide_eq_true q0
  clear q0
  obtain ⟨q0, q⟩ := He.ba q
  have z_bool := of_decide_eq_true q0
  clear q0
  obtain ⟨q0, q⟩ := He.ba q
  have z_int := of_decide_eq_true q0
  clear q0
  obtain ⟨q0, q⟩ := He.ba q
  have z_isinstance := of_decide_eq_true q0
  clear q0
  have q0 := q
  have z_len := of_decide_eq_true q0
  clear q0
  clear q
  have q := c.fact 6 (f := ft6) rfl
  unfold ft6 at q
  obtain ⟨q0, q⟩ := He.ba q
  have z_list := of_decide_eq_true q0
  clear q0
  obtain ⟨q0, q⟩ := He.ba q
  have z_range := of_decide_eq_true q0
  clear q0
  obtain ⟨q0, q⟩ := He.ba q
  have z_sorted := of_decide_eq_true q0
  clear q0
  obtain ⟨q0, q⟩ := He.ba q
  have z_str := of_decide_eq_true q0
  clear q0
  obtain ⟨q0, q⟩ := He.ba q
  have z_tuple := of_decide_eq_true q0
  clear q0
  obtain ⟨q0, q⟩ := He.ba q
  have n0BadText := of_decide_eq_true q0
  clear q0
  obtain ⟨q0, q⟩ := He.ba q
  have n0BadDocument := of_decide_eq_true q0
  clear q0
  obtain ⟨q0, q⟩ := He.ba q
  have n0BadKey := of_decide_eq_true q0
  clear q0
  obtain ⟨q0, q⟩ := He.ba q
  have n0DiskError := of_decide_eq_true q0
  clear q0
  obtain ⟨q0, q⟩ := He.ba q
  have n0DiskCrashed := of_decide_eq_true q0
  clear q0
  obtain ⟨q0, q⟩ := He.ba q
  have n0Refused := of_decide_eq_true q0
  clear q0
  obtain ⟨q0, q⟩ := He.ba q
  have n0BadAct := of_decide_eq_true q0
  clear q0
  obtain ⟨q0, q⟩ := He.ba q
  obtain ⟨t_DIGEST_SIZE, g_DIGEST_SIZE⟩ := intT_ok q0
  clear q0
  obtain ⟨q0, q⟩ := He.ba q
  obtain ⟨t_DIGITS, g_DIGITS⟩ := strT_ok q0
  clear q0
  obtain ⟨q0, q⟩ := He.ba q
  obtain ⟨t_HEX_DIGITS, g_HEX_DIGITS⟩ := strT_ok q0
  clear q0
  obtain ⟨q0, q⟩ := He.ba q
  obtain ⟨t_LETTERS, g_LETTERS⟩ := strT_ok q0
  clear q0
  obtain ⟨q0, q⟩ := He.ba q
  obtain ⟨t_MOST_GOODS, g_MOST_GOODS⟩ := intT_ok q0
  clear q0
  obtain ⟨q0, q⟩ := He.ba q
  obtain ⟨t_MOST_KEYS, g_MOST_KEYS⟩ := intT_ok q0
  clear q0
  obtain ⟨q0, q⟩ := He.ba q
  obtain ⟨t_MOST_LISTS, g_MOST_LISTS⟩ := intT_ok q0
  clear q0
  have q0 := q
  obtain ⟨t_MOST_NAME, g_MOST_NAME⟩ := intT_ok q0
  clear q0
  clear q
  have q := c.fact 7 (f := ft7) rfl
  unfold ft7 at q
  obtain ⟨q0, q⟩ := He.ba q
  obtain ⟨t_MOST_NUMBER, g_MOST_NUMBER⟩ := intT_ok q0
  clear q0
  obtain ⟨q0, q⟩ := He.ba q
  obtain ⟨t_MOST_PARTS, g_MOST_PARTS⟩ := intT_ok q0
  clear q0
  obtain ⟨q0, q⟩ := He.ba q
  obtain ⟨t_MOST_PATH, g_MOST_PATH⟩ := intT_ok q0
  clear q0
  obtain ⟨q0, q⟩ := He.ba q
  obtain ⟨t_MOST_PATTERNS, g_MOST_PATTERNS⟩ := intT_ok q0
  clear q0
  obtain ⟨q0, q⟩ := He.ba q
  have g_NAMES := tupT_ok X G q0
  clear q0
  obtain ⟨q0, q⟩ := He.ba q
  obtain ⟨t_PATH_CHARS, g_PATH_CHARS⟩ := strT_ok q0
  clear q0
  have q0 := q
  obtain ⟨t_PATTERN_CHARS, g_PATTERN_CHARS⟩ := strT_ok q0
  clear q0
  clear q
  exact all_mk X G hfa aCSearch pgSearch hdSearch poSearch saSearch mkSearch kcSearch nSearch_outcome nSearch_path nSearch_shelf nSearch_visited nSearch_waiting a0 l0 c0 k0 a1 l1 c1 k1 a2 l2 c2 k2 a3 l3 c3 k3 a4 l4 c4 k4 a5 l5 c5 k5 a6 l6 c6 k6 a7 l7 c7 k7 a8 l8 c8 k8 a9 l9 c9 k9 a10 l10 c10 k10 a11 l11 c11 k11 a12 l12 c12 k12 a13 l13 c13 k13 a14 l14 c14 k14 a15 l15 c15 k15 a16 l16 c16 k16 a17 l17 c17 k17 a18 l18 c18 k18 a19 l19 c19 k19 a20 l20 c20 k20 a21 l21 c21 k21 a22 l22 c22 k22 a23 l23 c23 k23 a24 l24 c24 k24 a25 l25 c25 k25 a26 i26 l26 c26 k26 a27 i27 l27 c27 k27 a28 i28 l28 c28 k28 a29 i29 l29 c29 k29 a30 l30 c30 k30 a31 l31 c31 k31 a32 l32 c32 k32 a33 l33 c33 k33 a34 l34 c34 k34 a35 l35 c35 k35 a36 l36 c36 k36 a37 l37 c37 k37 a38 l38 c38 k38 a39 l39 c39 k39 a40 l40 c40 k40 a41 l41 c41 k41 e1ChartError e3ChartError e4ChartError e5ChartError e1BadState e3BadState e4BadState e5BadState e2ChartError e2BadState e6BadState e7ChartErrorBadState e7BadStateBadState z_abs z_all z_any z_bool z_int z_isinstance z_len z_list z_range z_sorted z_str z_tuple n0BadText n0BadDocument n0BadKey n0DiskError n0DiskCrashed n0Refused n0BadAct g_DIGEST_SIZE g_DIGITS g_HEX_DIGITS g_LETTERS g_MOST_GOODS g_MOST_KEYS g_MOST_LISTS g_MOST_NAME g_MOST_NUMBER g_MOST_PARTS g_MOST_PATH g_MOST_PATTERNS g_NAMES g_PATH_CHARS g_PATTERN_CHARS
end GE
open PySem PySem.W PySem.Calls PyProof.Rows
theorem PySem.Challenge.cw_sealchart_k33_search_by_the_rules_holds : PySem.Challenge.rw_sealchart_k33_search_by_the_rules.Holds := by
  w_on; o_law
  refine HandSHeadRun.head_any (r := OpenLaw.row PySem.Challenge.rw_sealchart_k33_search_by_the_rules) (q := GH.qv) (H := GH.hk) (ob := GH.ob) (M := 8000) (loose := GH.names) (d := HandSHeadRun.topDef (OpenLaw.row PySem.Challenge.rw_sealchart_k33_search_by_the_rules).prog 62) (kwd := []) GH.ob_eq
    (by kernel_rfl) (fun s => by kernel_rfl) GH.run (by kernel_rfl) (by kernel_rfl) (by kernel_rfl) (by rfl) (by first | assumption | decide +kernel) (by decide +kernel) ⟨rfl, rfl, rfl, rfl, rfl, by decide +kernel⟩ ?hw ?hc
  case hw => w_witness2
  case hc =>
    refine HM.walk_ME (l := PySem.Challenge.rw_sealchart_k33_search_by_the_rules) (k := 28) (x := "_law_script") G.law_ok rfl (by kernel_rfl) ⟨rfl, by decide, by decide⟩ ?F
    intro w mg fa h Y GG hmg0
    obtain ⟨K, KX, c⟩ := Y
    have hmg : mg ("law" : PySem.Str) = some (.ref fa) := by
      have e : (HandSHeadRun.topDef (OpenLaw.row PySem.Challenge.rw_sealchart_k33_search_by_the_rules).prog 62).name = ("law" : PySem.Str) := by kernel_rfl
      rw [← e]
      exact hmg0
    exact ⟨K, KX, GE.facts KX GG hmg c⟩
