import PyProof.Rows.All
import Wide.All
import OpenK.AllK
import Wide.FinOn
import HandS.ForMost
import HandS.Star
import HandS.TupMul
import HandS.TupAny
import HandS.Conv
import HandS.Codes
import HandS.Defaults
import HandS.IsInst
import HandS.Zip
import HandS.Sort
import HandS.Flow
import KE.KDictKeyed
import HandS.TupSets
import HandS.SetBool
import KE.SortKeyHeap
import KE.KSortKey
import HandS.Lambda
import HandS.SortKw
import HandS.Walk
import HandS.Steps
import KE.GoesMore
import HandS.Style
import KE.KStateDown
import HandS.Head0
import HandS.Head1
import HandS.Head2
import HandS.HeadEnd
import HandS.HeadHook1
import HandS.HeadHook2
import HandS.HeadHook3
import HandS.HeadHook4
import HandS.HeadWalk
import PySem.Challenge.RW_backwardrow_k40_whole_fed_rows_side_by_s
section
set_option Elab.async false
set_option linter.all false
set_option maxRecDepth 100000
set_option maxHeartbeats 0
namespace KR
open PySem PySem.Spec PyProof.Rows L2 C8
def top (i : Nat) : Stmt := PySem.Challenge.pw_backwardrow_k40_whole_fed_rows_side_by_s.main.body.getD i (.Pass ⟨0, 0, 0, 0⟩)
def inC (i j : Nat) : Stmt := (clsBody (top i)).getD j (.Pass ⟨0, 0, 0, 0⟩)
abbrev sIsInteger : Stmt := top 13
abbrev sIsWithin : Stmt := top 14
abbrev sIsLetter : Stmt := top 15
abbrev sIsWord : Stmt := top 16
abbrev sNeedNumber : Stmt := top 17
abbrev sNeedWord : Stmt := top 18
abbrev sPairsIn : Stmt := top 19
abbrev sRank : Stmt := top 34
abbrev sIsMove : Stmt := top 44
abbrev sFixed : Stmt := top 46
abbrev sIsKey : Stmt := top 48
abbrev sIsDone : Stmt := top 49
abbrev sRulesFrom : Stmt := top 50
abbrev sYesFrom : Stmt := top 51
abbrev sEaterInit : Stmt := inC 52 0
abbrev sNeedEater : Stmt := top 53
abbrev sDoneBy : Stmt := top 54
abbrev sMoved : Stmt := top 55
abbrev sEatenFrom : Stmt := top 56
abbrev sStandsIn : Stmt := top 57
abbrev sJoinedRule : Stmt := top 58
abbrev sEaten : Stmt := top 59
abbrev sTakes : Stmt := top 60
abbrev sSideBySide : Stmt := top 61
abbrev sNeedRow : Stmt := top 66
abbrev sSpread : Stmt := top 69
abbrev sTopsOf : Stmt := top 70
abbrev sFedInit : Stmt := inC 71 0
abbrev sFedBegin : Stmt := inC 71 2
abbrev sFedDone : Stmt := inC 71 3
abbrev sFedNext : Stmt := inC 71 4
abbrev sFedSays : Stmt := inC 71 5
abbrev sBesInit : Stmt := inC 73 0
abbrev sBesBegin : Stmt := inC 73 2
abbrev sBesNext : Stmt := inC 73 3
abbrev sBothSays : Stmt := inC 74 0
abbrev sBegun : Stmt := top 77
abbrev sTicked : Stmt := top 78
abbrev sWorthIn : Stmt := top 79
abbrev sSeatIn : Stmt := top 80
abbrev sDueIn : Stmt := top 81
abbrev sSaidIn : Stmt := top 82
abbrev sToldIn : Stmt := top 83
abbrev sNeedBoth : Stmt := top 84
abbrev sTold : Stmt := top 85
abbrev sSaid : Stmt := top 86
abbrev sPlough : Stmt := top 88
abbrev sYoke : Stmt := top 89
abbrev sAny : Stmt := top 90
abbrev sDone : Stmt := top 91
abbrev sTops : Stmt := top 93
abbrev sRules : Stmt := top 94
abbrev sYes : Stmt := top 95
abbrev sWord : Stmt := top 96
abbrev sEater : Stmt := top 97
abbrev sLaw : Stmt := top 98
def frees : List Str := ["isinstance", "int", "bool", "len", "list", "tuple", "all", "dict", "sorted", "set", "zip", "range", "max", "min", "abs", "str"]
def consts : List (Str × V) := [("MOST_LETTERS", .int 6), ("LONGEST", .int 200), ("MOST_STATES", .int 12), ("MOST_STACKS", .int 2), ("MOST_SIGN", .int 3), ("POP", .str "pop"), ("PUSH", .str "push"), ("ONE_WAY", .int 1), ("TWO_WAYS", .int 2), ("FULL", .int 3), ("MOST_TICKS", .int 1000)]
def dd (x : Str) (st : Stmt) (dfl : List He.Dv) : He.DefD := ⟨(x, none), x, x, fnArgs st, fnBody st, fnScope st, dfl, []⟩
def dm (C m q : Str) (st : Stmt) : He.DefD := ⟨(C, some m), m, q, fnArgs st, fnBody st, fnScope st, [], []⟩
def fnA : List He.DefD := [dd "is_integer" sIsInteger [],
  dd "is_within" sIsWithin [],
  dd "is_letter" sIsLetter [],
  dd "is_word" sIsWord [],
  dd "need_number" sNeedNumber [],
  dd "need_word" sNeedWord [],
  dd "pairs_in" sPairsIn [],
  dd "rank" sRank [],
  dd "is_move" sIsMove [],
  dd "fixed" sFixed [],
  dd "is_key" sIsKey [],
  dd "is_done" sIsDone [],
  dd "rules_from" sRulesFrom [],
  dd "yes_from" sYesFrom [],
  dd "need_eater" sNeedEater [.str "eater"],
  dd "done_by" sDoneBy [],
  dd "moved" sMoved [],
  dd "eaten_from" sEatenFrom [],
  dd "stands_in" sStandsIn [],
  dd "joined_rule" sJoinedRule [],
  dd "eaten" sEaten [],
  dd "takes" sTakes [],
  dd "side_by_side" sSideBySide [],
  dd "need_row" sNeedRow [.str "row"],
  dd "spread" sSpread [],
  dd "tops_of" sTopsOf [],
  dd "begun" sBegun [],
  dd "ticked" sTicked [.int 0, .int 0]]
def fnB : List He.DefD := [dd "worth_in" sWorthIn [],
  dd "seat_in" sSeatIn [],
  dd "due_in" sDueIn [],
  dd "said_in" sSaidIn [],
  dd "told_in" sToldIn [],
  dd "need_both" sNeedBoth [],
  dd "told" sTold [],
  dd "said" sSaid [],
  dd "_law_plough" sPlough [],
  dd "_law_yoke" sYoke [],
  dd "_law_any" sAny [],
  dd "_law_done" sDone [],
  dd "_law_tops" sTops [],
  dd "_law_rules" sRules [],
  dd "_law_yes" sYes [],
  dd "_law_word" sWord [],
  dd "_law_eater" sEater [],
  dm "Fed" "begin" "Fed.begin" sFedBegin,
  dm "Fed" "done" "Fed.done" sFedDone,
  dm "Fed" "next" "Fed.next" sFedNext,
  dm "Fed" "says" "Fed.says" sFedSays,
  dm "Both" "begin" "Beside.begin" sBesBegin,
  dm "Both" "next" "Beside.next" sBesNext,
  dm "Both" "says" "Both.says" sBothSays,
  dm "Eater" "__init__" "Eater.__init__" sEaterInit,
  dm "Fed" "__init__" "Fed.__init__" sFedInit,
  dm "Both" "__init__" "Beside.__init__" sBesInit,
  dd "law" sLaw []]
def fnL : List He.DefD := fnA ++ fnB
def cFa : Str × V → He.Fa
  | (x, .int i) => .int x i
  | (x, .str z) => .str x z
  | (x, _) => .free x
def gloA : List Str := ["is_integer", "is_within", "is_letter", "is_word", "need_number", "need_word", "pairs_in", "rank", "is_move", "fixed", "is_key", "is_done", "rules_from", "yes_from", "need_eater", "done_by", "moved", "eaten_from", "stands_in", "joined_rule", "eaten", "takes", "side_by_side", "need_row", "spread", "tops_of", "begun", "ticked", "worth_in", "seat_in"]
def gloB : List Str := ["due_in", "said_in", "told_in", "need_both", "told", "said", "_law_plough", "_law_yoke", "_law_any", "_law_done", "_law_tops", "_law_rules", "_law_yes", "_law_word", "_law_eater", "law"]
def faK : List He.Fa := [.cls "Eater", .keep "Eater", .glo "Eater", .cls "Row", .keep "Row", .glo "Row", .cls "Fed", .keep "Fed", .glo "Fed", .cls "Both", .keep "Both", .glo "Both", .mkr "Eater", .mkr "Fed", .mkr "Both", .noat "Eater" "letters", .noat "Eater" "states", .noat "Eater" "stacks", .noat "Eater" "rules", .noat "Eater" "yes", .noat "Eater" "book", .noat "Fed" "eater", .noat "Fed" "letters", .noat "Fed" "ways", .noat "Both" "one", .noat "Both" "other", .noat "Both" "letters", .noat "Both" "ways", .meth "Fed" "begin", .meth "Fed" "done", .meth "Fed" "next", .meth "Fed" "says", .meth "Both" "begin", .meth "Both" "next", .meth "Both" "says"]
def faL : List He.Fa := (gloA.map He.Fa.glo ++ gloB.map He.Fa.glo) ++ (frees.map He.Fa.free ++ (consts.map cFa ++ faK))
def insB (K : PySem.W.Frag) (C : Addr) : Bool := He.eqO (PySem.W.findIn K (.ref C) "__class__") (some (some (.builtin "object.__class__"))) && (He.eqO (PySem.W.specialIn K (.builtin "object.__class__") "__get__") (some (some (.builtin "getset_descriptor.__get__"))) && (decide (PySem.W.takesIn K (.builtin "object.__class__") = some true) && (decide (PySem.W.mroIn K C (.type "object") = some true) && decide (PySem.W.kitOne K (.ref C) (.ref C) = some true))))
def exL (K : PySem.W.Frag) : Bool := (insB K (He.ga K "Eater") && (insB K (He.ga K "Row") && (insB K (He.ga K "Fed") && insB K (He.ga K "Both")))) && (decide (PySem.W.kitOne K (.ref (He.ga K "Fed")) (.ref (He.ga K "Row")) = some true) && decide (PySem.W.kitOne K (.ref (He.ga K "Both")) (.ref (He.ga K "Row")) = some true))
def tfL : List He.Defn := [("rules_from", none)]
abbrev RowL : PySem.W.OpenRow := PySem.W.OpenLaw.row PySem.Challenge.rw_backwardrow_k40_whole_fed_rows_side_by_s
/-- the objects that a name, a def, a class leads to -/
def refsK (o : Obj) : List Addr := match o.data with
  | .func fd => He.refV fd.code ++ (He.refV fd.defaults ++ He.refV fd.kwdefaults)
  | .cls cd => [cd.ns]
  | .dict es _ => es.toList.flatMap fun e => He.refV e.val
  | _ => []
def stepK (g : Addr → Option Obj) (as : List Addr) : List Addr := as.flatMap fun a => ((g a).map refsK).getD []
/-- those within so many steps, a ring behind the other, no one struck out twice -/
def nearK (g : Addr → Option Obj) : Nat → List Addr → List Addr
  | 0, as => as
  | n + 1, as => as ++ nearK g n (stepK g as)
def kL (g : Addr → Option Obj) : PySem.W.Frag := He.frT g (nearK g 4 [mainGlobals])
def obK (g : Addr → Option Obj) : He.AlX := (He.obsT faL fnL [] (kL g), exL (kL g) && He.tabsB g tfL (kL g))
theorem tabK {g : Addr → Option Obj} {p : He.Defn} (hp : p ∈ tfL) (h : He.tabsB g tfL (kL g) = true) :
    PySem.W.codeHdIn (kL g) (He.cT (kL g) p).1 (He.cT (kL g) p).2 = true ∧ ∃ o, g (He.cT (kL g) p).2 = some o ∧ He.emptyTab o = true := by
  obtain ⟨a, b⟩ := He.ba (List.all_eq_true.mp h p hp)
  refine ⟨a, ?_⟩
  revert b
  cases g (He.cT (kL g) p).2 with
  | none => exact fun b => by cases b
  | some o => exact fun b => ⟨o, rfl, b⟩
theorem obK_says {w : World} {h : Heap} (e : obK h.get? = He.valX fnL [] w) : He.SaysX faL fnL [] tfL exL w h (kL h.get?) := by
  obtain ⟨a, b⟩ := He.ba (show (exL (kL h.get?) && He.tabsB h.get? tfL (kL h.get?)) = true from congrArg Prod.snd e)
  exact {
    t := congrArg Prod.fst e
    more := a
    hd := fun p hp => (tabK hp b).1
    out := fun p hp => by
      obtain ⟨_, o, x, y⟩ := tabK hp b
      exact He.frT_none x y
    empty := fun p hp => by
      obtain ⟨_, o, x, y⟩ := tabK hp b
      rw [x, He.emptyTab_eq y] }
abbrev hkL : PySem.W.Hook := { He.hookX 4 faL fnL [] tfL exL with
  obs := fun s => obK s.heap.get?
  of := fun _ _ e => ⟨_, He.frT_in, obK_says e⟩ }
def obL (s : PySem.W.SharedT) : He.AlX := obK (HandSHeadRun.getT s)
theorem obL_eq (s : PySem.W.SharedT) : obL s = hkL.obs s.abs := by
  show obK (HandSHeadRun.getT s) = obK s.abs.heap.get?
  rw [show HandSHeadRun.getT s = s.abs.heap.get? from funext (HandSHeadRun.getT_eq s)]
def looseA : List Str := ["_wall", "RowError", "BadNumber", "BadWord", "BadRow", "BadEater", "Misfit", "TooMany", "BadText", "MOST_LETTERS", "LONGEST", "is_integer", "is_within", "is_letter", "is_word", "need_number", "need_word", "pairs_in", "FIGURES", "MOST_FIGURES", "written", "Scan", "scans_of", "scan_at", "MOST_STATES", "MOST_STACKS", "MOST_SIGN", "NONE", "POP", "PUSH"]
def looseB : List Str := ["rank", "move_item", "rule_line", "eater_lines", "taken_yes", "take_ascending", "taken_key", "taken_move", "taken_rule", "parts_read", "is_move", "fixed", "is_key", "is_done", "rules_from", "yes_from", "Eater", "need_eater", "done_by", "moved", "eaten_from", "stands_in", "joined_rule", "eaten", "takes", "side_by_side", "ONE_WAY", "TWO_WAYS", "Row", "need_row"]
def looseC : List Str := ["FULL", "spread", "tops_of", "Fed", "Beside", "Both", "MOST_TICKS", "begun", "ticked", "worth_in", "seat_in", "due_in", "said_in", "told_in", "need_both", "told", "said", "_law_plough", "_law_yoke", "_law_any", "_law_done", "_law_sizes", "_law_tops", "_law_rules", "_law_yes", "_law_word", "_law_eater"]
def looseL : List Str := looseA ++ (looseB ++ looseC)
theorem run_l (w : World) (os : OsState) : (HandSHeadRun.endF (HandSHeadRun.stepQ (HandSHeadRun.denQ HandSHeadRun.tabQ) RowL.prog w) 20000 RowL.prog w os).map (fun s => HandSHeadRun.looksF RowL.prog (PySem.W.boot_heap w.params) s.abs) = some true := by kernel_rfl
theorem run_s (w : World) (os : OsState) : (HandSHeadRun.endF (HandSHeadRun.stepQ (HandSHeadRun.denQ HandSHeadRun.tabQ) RowL.prog w) 20000 RowL.prog w os).map (fun s => HandSHeadRun.seenQ (PySem.W.view RowL.prog [98]) looseL (importedModules RowL.prog.main.body) (fun s => PySem.W.xlAt (PySem.W.view RowL.prog [98]) [] s && PySem.W.recOk RowL.toRowW.records s) s.abs) = some (PySem.W.openGood (PySem.W.view RowL.prog [98]) looseL) := by kernel_rfl
theorem run_x (w : World) (os : OsState) : (HandSHeadRun.endF (HandSHeadRun.stepQ (HandSHeadRun.denQ HandSHeadRun.tabQ) RowL.prog w) 20000 RowL.prog w os).map (fun s => obL s) = some (hkL.val w) := by kernel_rfl
theorem opt_three {α β γ δ : Type} {o : Option α} {f : α → β} {g : α → γ} {k : α → δ} {b : β} {c : γ} {d : δ} (h1 : o.map f = some b) (h2 : o.map g = some c) (h3 : o.map k = some d) : o.map (fun s => (f s, g s, k s)) = some (b, c, d) := by
  cases o with
  | none => cases h1
  | some s =>
    show some (f s, g s, k s) = _
    rw [Option.some.inj h1, Option.some.inj h2, Option.some.inj h3]
theorem runL_eq (w : World) : HandSHeadRun.RunEq RowL (PySem.W.view RowL.prog [98]) hkL obL 20000 looseL w :=
  fun os => opt_three (run_l w os) (run_s w os) (run_x w os)
end KR
end
section
set_option autoImplicit false
namespace K40

inductive Mv where
  | stay | pop | push (n : Int)
  deriving DecidableEq
structure Key where
  st : Int
  lt : Int
  tops : List (Option Int)
  deriving DecidableEq
structure Don where
  st : Int
  mvs : List Mv
  deriving DecidableEq
/-- an eater -/
structure Eat where
  letters : Int
  states : Int
  stacks : Nat
  rules : List (Key × Don)
  yes : List Int
def look (rs : List (Key × Don)) (k : Key) : Option Don := (rs.find? fun r => decide (r.1 = k)).map (·.2)
def moved (s : List Int) : Mv → List Int
  | .stay => s
  | .pop => s.drop 1
  | .push n => n :: s
abbrev Stand := Option (Int × List (List Int))
def step (E : Eat) : Stand → Int → Stand
  | none, _ => none
  | some (s, ss), l => (look E.rules ⟨s, l, ss.map List.head?⟩).map fun d => (d.st, List.zipWith moved ss d.mvs)
def eaten (E : Eat) (w : List Int) : Stand := w.foldl (step E) (some (0, List.replicate E.stacks []))
def yesOf (E : Eat) : Option Int → Bool
  | none => false
  | some s => decide (s ∈ E.yes)
def takes (E : Eat) (w : List Int) : Bool := yesOf E ((eaten E w).map (·.1))

/-- a rule that an eater of such sizes may have -/
structure RuleOk (letters states : Int) (stacks : Nat) (r : Key × Don) : Prop where
  st : 0 ≤ r.1.st ∧ r.1.st < states
  lt : 0 ≤ r.1.lt ∧ r.1.lt < letters
  to : 0 ≤ r.2.st ∧ r.2.st < states
  nt : r.1.tops.length = stacks
  nm : r.2.mvs.length = stacks
  top : ∀ x ∈ r.1.tops, ∀ n, x = some n → 0 ≤ n ∧ n ≤ 3
  mv : ∀ x ∈ r.2.mvs, ∀ n, x = .push n → 0 ≤ n ∧ n ≤ 3
  pop : ∀ j : Nat, r.2.mvs[j]? = some Mv.pop → ∃ n, r.1.tops[j]? = some (some n)
structure Ok (E : Eat) : Prop where
  l : 1 ≤ E.letters ∧ E.letters ≤ 6
  s : 1 ≤ E.states ∧ E.states ≤ 12
  k : E.stacks ≤ 2
  nd : (E.rules.map (·.1)).Nodup
  ru : ∀ r ∈ E.rules, RuleOk E.letters E.states E.stacks r
  sz : E.rules.length ≤ 10000
  yr : ∀ y ∈ E.yes, 0 ≤ y ∧ y < E.states
  yn : E.yes.Nodup

/-! ### looking up -/
theorem look_some {rs : List (Key × Don)} (nd : (rs.map (·.1)).Nodup) {k : Key} {d : Don} : look rs k = some d ↔ (k, d) ∈ rs := by
  induction rs with
  | nil => simp [look]
  | cons r rs ih =>
    rw [List.map_cons, List.nodup_cons] at nd
    obtain ⟨n1, n2⟩ := nd
    have ih' := ih n2
    unfold look at ih' ⊢
    rw [List.find?_cons]
    by_cases h : r.1 = k
    · rw [decide_eq_true h]
      simp only [Option.map_some, Option.some.injEq, List.mem_cons]
      constructor
      · intro e
        left
        rw [← h, ← e]
      · intro e
        rcases e with e | e
        · rw [← e]
        · exact absurd (List.mem_map.mpr ⟨_, e, rfl⟩) (h ▸ n1)
    · rw [decide_eq_false h]
      simp only [List.mem_cons]
      rw [ih']
      constructor
      · exact fun e => .inr e
      · intro e
        rcases e with e | e
        · exact absurd (by rw [← e]) h
        · exact e
theorem look_none {rs : List (Key × Don)} {k : Key} : look rs k = none ↔ ∀ d, (k, d) ∉ rs := by
  unfold look
  rw [Option.map_eq_none_iff, List.find?_eq_none]
  constructor
  · intro h d hd
    have := h _ hd
    simp at this
  · intro h x hx e
    simp only [decide_eq_true_eq] at e
    exact h x.2 (by rw [← e]; exact hx)
theorem look_perm {rs qs : List (Key × Don)} (p : rs.Perm qs) (nd : (rs.map (·.1)).Nodup) (k : Key) : look rs k = look qs k := by
  have nd' : (qs.map (·.1)).Nodup := (p.map _).nodup_iff.mp nd
  cases h : look qs k with
  | none =>
    rw [look_none] at h ⊢
    exact fun d hd => h d (p.mem_iff.mp hd)
  | some d =>
    rw [look_some nd'] at h
    rw [look_some nd]
    exact p.mem_iff.mpr h

/-! ### side by side -/
def joinRule (m : Int) (a b : Key × Don) : Key × Don := (⟨a.1.st * m + b.1.st, a.1.lt, a.1.tops ++ b.1.tops⟩, ⟨a.2.st * m + b.2.st, a.2.mvs ++ b.2.mvs⟩)
def joinPairs (E F : Eat) : List ((Key × Don) × (Key × Don)) := E.rules.flatMap fun a => (F.rules.filter fun b => decide (a.1.lt = b.1.lt)).map fun b => (a, b)
def joinRules (E F : Eat) : List (Key × Don) := (joinPairs E F).map fun p => joinRule F.states p.1 p.2
def joinYes (E F : Eat) : List Int := E.yes.flatMap fun s => F.yes.map fun t => s * F.states + t
theorem mem_joinPairs {E F : Eat} {p : (Key × Don) × (Key × Don)} : p ∈ joinPairs E F ↔ p.1 ∈ E.rules ∧ p.2 ∈ F.rules ∧ p.1.1.lt = p.2.1.lt := by
  unfold joinPairs
  simp only [List.mem_flatMap, List.mem_map, List.mem_filter, decide_eq_true_eq]
  constructor
  · rintro ⟨a, ha, b, ⟨hb, e⟩, rfl⟩
    exact ⟨ha, hb, e⟩
  · rintro ⟨ha, hb, e⟩
    exact ⟨p.1, ha, p.2, ⟨hb, e⟩, rfl⟩
theorem digits {m s t s' t' : Int} (h0 : 0 ≤ t) (h1 : t < m) (h0' : 0 ≤ t') (h1' : t' < m) (e : s * m + t = s' * m + t') : s = s' ∧ t = t' := by
  have d1 : (s * m + t) / m = s := by
    rw [Int.add_comm, Int.add_mul_ediv_right _ _ (by omega), Int.ediv_eq_zero_of_lt h0 h1]
    omega
  have d2 : (s' * m + t') / m = s' := by
    rw [Int.add_comm, Int.add_mul_ediv_right _ _ (by omega), Int.ediv_eq_zero_of_lt h0' h1']
    omega
  have : s = s' := by rw [← d1, ← d2, e]
  subst this
  exact ⟨rfl, by omega⟩
theorem nodup_flatMap_pairs {α β : Type} (f : α → List β) : ∀ {l : List α}, l.Nodup → (∀ a ∈ l, (f a).Nodup) → (l.flatMap fun a => (f a).map fun b => (a, b)).Nodup
  | [], _, _ => List.nodup_nil
  | a :: l, h, hf => by
    rw [List.nodup_cons] at h
    rw [List.flatMap_cons, List.nodup_append]
    refine ⟨?_, nodup_flatMap_pairs f h.2 fun b hb => hf b (List.mem_cons_of_mem _ hb), ?_⟩
    · have := hf a (List.mem_cons_self ..)
      unfold List.Nodup at *
      rw [List.pairwise_map]
      exact this.imp fun hne e => hne (congrArg Prod.snd e)
    · intro x hx y hy e
      obtain ⟨b, _, rfl⟩ := List.mem_map.mp hx
      obtain ⟨c, hc, hy⟩ := List.mem_flatMap.mp hy
      obtain ⟨d, _, rfl⟩ := List.mem_map.mp hy
      have : a = c := congrArg Prod.fst e
      exact h.1 (this ▸ hc)
theorem nodup_of_map {α β : Type} (f : α → β) {l : List α} (h : (l.map f).Nodup) : l.Nodup := by
  unfold List.Nodup at *
  rw [List.pairwise_map] at h
  exact h.imp fun hne e => hne (congrArg f e)
theorem nodup_map_of {α β : Type} {f : α → β} {l : List α} (h : l.Nodup) (inj : ∀ x ∈ l, ∀ y ∈ l, f x = f y → x = y) : (l.map f).Nodup := by
  induction l with
  | nil => exact List.nodup_nil
  | cons a l ih =>
    rw [List.nodup_cons] at h
    rw [List.map_cons, List.nodup_cons]
    refine ⟨fun hm => ?_, ih h.2 fun x hx y hy => inj x (List.mem_cons_of_mem _ hx) y (List.mem_cons_of_mem _ hy)⟩
    obtain ⟨b, hb, e⟩ := List.mem_map.mp hm
    have := inj b (List.mem_cons_of_mem _ hb) a (List.mem_cons_self ..) e
    exact h.1 (this ▸ hb)
theorem mem_unique {rs : List (Key × Don)} (nd : (rs.map (·.1)).Nodup) {a b : Key × Don} (ha : a ∈ rs) (hb : b ∈ rs) (e : a.1 = b.1) : a = b := by
  have h1 : look rs a.1 = some a.2 := (look_some nd).mpr ha
  have h2 : look rs b.1 = some b.2 := (look_some nd).mpr hb
  rw [e, h2] at h1
  cases a; cases b
  simp at e h1 ⊢
  exact ⟨e, h1.symm⟩
section
variable {E F J : Eat} (oE : Ok E) (oF : Ok F)
include oE oF
theorem join_key_inj {p q : (Key × Don) × (Key × Don)} (hp : p ∈ joinPairs E F) (hq : q ∈ joinPairs E F) (e : (joinRule F.states p.1 p.2).1 = (joinRule F.states q.1 q.2).1) : p = q := by
  obtain ⟨p1, p2, pe⟩ := mem_joinPairs.mp hp
  obtain ⟨q1, q2, qe⟩ := mem_joinPairs.mp hq
  unfold joinRule at e
  injection e with e1 e2 e3
  have rp := oF.ru _ p2
  have rq := oF.ru _ q2
  obtain ⟨d1, d2⟩ := digits rp.st.1 rp.st.2 rq.st.1 rq.st.2 e1
  have lt1 : p.1.1.tops.length = q.1.1.tops.length := by rw [(oE.ru _ p1).nt, (oE.ru _ q1).nt]
  obtain ⟨t1, t2⟩ := List.append_inj e3 lt1
  have k1 : p.1.1 = q.1.1 := by
    cases h1 : p.1.1; cases h2 : q.1.1
    rw [h1, h2] at d1 e2 t1
    simp at d1 e2 t1 ⊢
    exact ⟨d1, e2, t1⟩
  have k2 : p.2.1 = q.2.1 := by
    cases h1 : p.2.1; cases h2 : q.2.1
    have e2' : p.2.1.lt = q.2.1.lt := by rw [← pe, ← qe]; exact e2
    rw [h1, h2] at d2 e2' t2
    simp at d2 e2' t2 ⊢
    exact ⟨d2, e2', t2⟩
  have a1 := mem_unique oE.nd p1 q1 k1
  have a2 := mem_unique oF.nd p2 q2 k2
  cases p; cases q
  simp at a1 a2 ⊢
  exact ⟨a1, a2⟩
theorem joinPairs_nodup : (joinPairs E F).Nodup :=
  nodup_flatMap_pairs _ (nodup_of_map _ oE.nd) fun a _ => (nodup_of_map _ oF.nd).sublist List.filter_sublist
theorem joinRules_nodup : ((joinRules E F).map (·.1)).Nodup := by
  unfold joinRules
  rw [List.map_map]
  exact nodup_map_of (joinPairs_nodup oE oF) fun x hx y hy e => join_key_inj oE oF hx hy e
theorem joinRule_ok (hl : E.letters = F.letters) {p : (Key × Don) × (Key × Don)} (hp : p ∈ joinPairs E F) : RuleOk E.letters (E.states * F.states) (E.stacks + F.stacks) (joinRule F.states p.1 p.2) := by
  obtain ⟨p1, p2, pe⟩ := mem_joinPairs.mp hp
  have rp := oE.ru _ p1
  have rq := oF.ru _ p2
  have key : ∀ s t : Int, 0 ≤ s → s < E.states → 0 ≤ t → t < F.states → 0 ≤ s * F.states + t ∧ s * F.states + t < E.states * F.states := by
    intro s t a1 a2 b1 b2
    have m0 : 0 ≤ s * F.states := Int.mul_nonneg a1 (by omega)
    have m1 : (s + 1) * F.states ≤ E.states * F.states := Int.mul_le_mul_of_nonneg_right (by omega) (by omega)
    rw [Int.add_mul, Int.one_mul] at m1
    omega
  refine ⟨key _ _ rp.st.1 rp.st.2 rq.st.1 rq.st.2, rp.lt, key _ _ rp.to.1 rp.to.2 rq.to.1 rq.to.2, ?_, ?_, ?_, ?_, ?_⟩
  · show (p.1.1.tops ++ p.2.1.tops).length = _
    rw [List.length_append, rp.nt, rq.nt]
  · show (p.1.2.mvs ++ p.2.2.mvs).length = _
    rw [List.length_append, rp.nm, rq.nm]
  · intro x hx
    rcases List.mem_append.mp hx with h | h
    · exact rp.top x h
    · exact rq.top x h
  · intro x hx
    rcases List.mem_append.mp hx with h | h
    · exact rp.mv x h
    · exact rq.mv x h
  · intro j hj
    change (p.1.2.mvs ++ p.2.2.mvs)[j]? = some .pop at hj
    show ∃ n, (p.1.1.tops ++ p.2.1.tops)[j]? = some (some n)
    by_cases h : j < E.stacks
    · rw [List.getElem?_append_left (by rw [rp.nm]; exact h)] at hj
      rw [List.getElem?_append_left (by rw [rp.nt]; exact h)]
      exact rp.pop j hj
    · rw [List.getElem?_append_right (by rw [rp.nm]; omega), rp.nm] at hj
      rw [List.getElem?_append_right (by rw [rp.nt]; omega), rp.nt]
      exact rq.pop _ hj
theorem joinYes_nodup : (joinYes E F).Nodup := by
  have e : joinYes E F = (E.yes.flatMap fun s => F.yes.map fun t => (s, t)).map fun p => p.1 * F.states + p.2 := by
    unfold joinYes
    rw [List.map_flatMap]
    congr 1
    funext s
    rw [List.map_map]
    rfl
  rw [e]
  refine nodup_map_of (nodup_flatMap_pairs (fun _ => F.yes) oE.yn fun _ _ => oF.yn) fun x hx y hy e => ?_
  obtain ⟨s, _, hx⟩ := List.mem_flatMap.mp hx
  obtain ⟨t, ht, rfl⟩ := List.mem_map.mp hx
  obtain ⟨s', _, hy⟩ := List.mem_flatMap.mp hy
  obtain ⟨t', ht', rfl⟩ := List.mem_map.mp hy
  obtain ⟨a, b⟩ := digits (oF.yr _ ht).1 (oF.yr _ ht).2 (oF.yr _ ht').1 (oF.yr _ ht').2 e
  exact Prod.ext a b
theorem mem_joinYes {s t : Int} (h0 : 0 ≤ t) (h1 : t < F.states) : s * F.states + t ∈ joinYes E F ↔ s ∈ E.yes ∧ t ∈ F.yes := by
  unfold joinYes
  simp only [List.mem_flatMap, List.mem_map]
  constructor
  · rintro ⟨a, ha, b, hb, e⟩
    obtain ⟨e1, e2⟩ := digits (oF.yr _ hb).1 (oF.yr _ hb).2 h0 h1 e
    rw [← e1, ← e2]
    exact ⟨ha, hb⟩
  · rintro ⟨a, b⟩
    exact ⟨s, a, t, b, rfl⟩
/-- the eater of both -/
structure Joined (J : Eat) : Prop where
  l : J.letters = E.letters
  s : J.states = E.states * F.states
  k : J.stacks = E.stacks + F.stacks
  r : J.rules.Perm (joinRules E F)
  y : J.yes.Perm (joinYes E F)
omit oE oF in
theorem len_bind {α β : Type} (f : α → List β) (n : Nat) : ∀ {l : List α}, (∀ a ∈ l, (f a).length ≤ n) → (l.flatMap f).length ≤ l.length * n
  | [], _ => Nat.zero_le _
  | a :: l, h => by
    rw [List.flatMap_cons, List.length_append, List.length_cons, Nat.succ_mul]
    have h1 := h a (List.mem_cons_self ..)
    have h2 := len_bind f n (l := l) fun b hb => h b (List.mem_cons_of_mem _ hb)
    omega
omit oE oF in
theorem joinRules_len {a b : Nat} (ha : E.rules.length ≤ a) (hb : F.rules.length ≤ b) : (joinRules E F).length ≤ a * b := by
  unfold joinRules joinPairs
  rw [List.length_map]
  refine Nat.le_trans (len_bind _ b fun r _ => ?_) (Nat.mul_le_mul_right _ ha)
  rw [List.length_map]
  exact Nat.le_trans (List.length_filter_le ..) hb
theorem joined_ok (hl : E.letters = F.letters) (hs : E.states * F.states ≤ 12) (hk : E.stacks + F.stacks ≤ 2) (hz : E.rules.length ≤ 100) (hz' : F.rules.length ≤ 100) (j : Joined (E := E) (F := F) J) : Ok J where
  l := by rw [j.l]; exact oE.l
  s := by
    rw [j.s]
    have m1 : 1 * F.states ≤ E.states * F.states := Int.mul_le_mul_of_nonneg_right oE.s.1 (by have := oF.s.1; omega)
    have := oF.s.1
    omega
  k := by rw [j.k]; exact hk
  nd := (j.r.map _).nodup_iff.mpr (joinRules_nodup oE oF)
  ru := fun r hr => by
    have hr' := j.r.mem_iff.mp hr
    obtain ⟨p, hp, rfl⟩ := List.mem_map.mp hr'
    rw [j.l, j.s, j.k]
    exact joinRule_ok oE oF hl hp
  sz := by rw [j.r.length_eq]; exact joinRules_len hz hz'
  yr := fun y hy => by
    have hy' := j.y.mem_iff.mp hy
    unfold joinYes at hy'
    obtain ⟨s, hs', hy'⟩ := List.mem_flatMap.mp hy'
    obtain ⟨t, ht, rfl⟩ := List.mem_map.mp hy'
    have a := oE.yr _ hs'
    have b := oF.yr _ ht
    have m0 : 0 ≤ s * F.states := Int.mul_nonneg a.1 (by omega)
    have m1 : (s + 1) * F.states ≤ E.states * F.states := Int.mul_le_mul_of_nonneg_right (by omega) (by omega)
    rw [Int.add_mul, Int.one_mul] at m1
    rw [j.s]
    omega
  yn := j.y.nodup_iff.mpr (joinYes_nodup oE oF)
end

/-! ### words eaten by both -/
theorem eaten_snoc (E : Eat) (w : List Int) (l : Int) : eaten E (w ++ [l]) = step E (eaten E w) l := by
  unfold eaten
  rw [List.foldl_append]
  rfl
/-- where an eater stands: its stacks are as many as told -/
theorem eaten_ok {E : Eat} (oE : Ok E) : ∀ (w : List Int) s ss, eaten E w = some (s, ss) → ss.length = E.stacks ∧ 0 ≤ s ∧ s < E.states := by
  intro w
  rw [← List.reverse_reverse w]
  induction w.reverse with
  | nil =>
    intro s ss h
    simp only [List.reverse_nil, eaten, List.foldl_nil, Option.some.injEq, Prod.mk.injEq] at h
    have := oE.s
    refine ⟨by rw [← h.2, List.length_replicate], by omega, by omega⟩
  | cons l w ih =>
    intro s ss h
    rw [List.reverse_cons, eaten_snoc] at h
    cases q : eaten E w.reverse with
    | none =>
      rw [q] at h
      cases h
    | some st =>
      obtain ⟨s0, ss0⟩ := st
      rw [q] at h
      simp only [step, Option.map_eq_some_iff] at h
      obtain ⟨d, hd, e⟩ := h
      obtain ⟨h1, _⟩ := ih _ _ q
      have r := oE.ru _ ((look_some oE.nd).mp hd)
      injection e with e1 e2
      rw [← e1, ← e2]
      refine ⟨?_, r.to⟩
      rw [List.length_zipWith, h1]
      have : d.mvs.length = E.stacks := r.nm
      omega
theorem zipWith_app {α β γ : Type} (f : α → β → γ) : ∀ {a b : List α} {c d : List β}, a.length = c.length → List.zipWith f (a ++ b) (c ++ d) = List.zipWith f a c ++ List.zipWith f b d
  | [], _, [], _, _ => rfl
  | x :: a, b, y :: c, d, h => by
    rw [List.cons_append, List.cons_append, List.zipWith_cons_cons, List.zipWith_cons_cons, List.cons_append, zipWith_app f (a := a) (c := c) (by simpa using h)]
  | [], _, _ :: _, _, h => by simp at h
  | _ :: _, _, [], _, h => by simp at h
def both (m : Int) : Stand → Stand → Stand
  | some (s, a), some (t, b) => some (s * m + t, a ++ b)
  | _, _ => none
section
variable {E F J : Eat} (oE : Ok E) (oF : Ok F)
include oE oF
theorem join_look (j : Joined (E := E) (F := F) J) {s t l : Int} {a b : List (Option Int)} (ha : a.length = E.stacks) (ht : 0 ≤ t ∧ t < F.states) :
    look J.rules ⟨s * F.states + t, l, a ++ b⟩ = match look E.rules ⟨s, l, a⟩, look F.rules ⟨t, l, b⟩ with
      | some d, some e => some ⟨d.st * F.states + e.st, d.mvs ++ e.mvs⟩
      | _, _ => none := by
  have nJ : (J.rules.map (·.1)).Nodup := (j.r.map _).nodup_iff.mpr (joinRules_nodup oE oF)
  have none_of : (look E.rules ⟨s, l, a⟩ = none ∨ look F.rules ⟨t, l, b⟩ = none) → look J.rules ⟨s * F.states + t, l, a ++ b⟩ = none := by
    intro h
    rw [look_none]
    intro d hd
    have hd' := j.r.mem_iff.mp hd
    unfold joinRules at hd'
    obtain ⟨p, hp, e⟩ := List.mem_map.mp hd'
    obtain ⟨p1, p2, pe⟩ := mem_joinPairs.mp hp
    unfold joinRule at e
    injection e with e1 e2
    injection e1 with k1 k2 k3
    have r1 := oE.ru _ p1
    have r2 := oF.ru _ p2
    obtain ⟨d1, d2⟩ := digits r2.st.1 r2.st.2 ht.1 ht.2 k1
    obtain ⟨t1, t2⟩ := List.append_inj k3 (by rw [r1.nt, ha])
    have q1 : p.1.1 = ⟨s, l, a⟩ := by
      cases h1 : p.1.1
      rw [h1] at d1 k2 t1
      simp at d1 k2 t1 ⊢
      exact ⟨d1, k2, t1⟩
    have q2 : p.2.1 = ⟨t, l, b⟩ := by
      have k2' : p.2.1.lt = l := by rw [← pe]; exact k2
      cases h1 : p.2.1
      rw [h1] at d2 k2' t2
      simp at d2 k2' t2 ⊢
      exact ⟨d2, k2', t2⟩
    rcases h with h | h
    · rw [look_none] at h
      exact h p.1.2 (by rw [← q1]; exact p1)
    · rw [look_none] at h
      exact h p.2.2 (by rw [← q2]; exact p2)
  cases h1 : look E.rules ⟨s, l, a⟩ with
  | none => exact none_of (.inl h1)
  | some d =>
    cases h2 : look F.rules ⟨t, l, b⟩ with
    | none => exact none_of (.inr h2)
    | some e =>
      rw [look_some nJ]
      refine j.r.mem_iff.mpr (List.mem_map.mpr ⟨((⟨s, l, a⟩, d), (⟨t, l, b⟩, e)), mem_joinPairs.mpr ⟨(look_some oE.nd).mp h1, (look_some oF.nd).mp h2, rfl⟩, rfl⟩)
theorem join_step (j : Joined (E := E) (F := F) J) {x y : Stand} (hx : ∀ s ss, x = some (s, ss) → ss.length = E.stacks) (hy : ∀ s ss, y = some (s, ss) → ss.length = F.stacks ∧ 0 ≤ s ∧ s < F.states) (l : Int) :
    step J (both F.states x y) l = both F.states (step E x l) (step F y l) := by
  match x, y with
  | none, none => rfl
  | none, some _ => rfl
  | some (s, a), none =>
    show none = both F.states (step E (some (s, a)) l) none
    cases step E (some (s, a)) l <;> rfl
  | some (s, a), some (t, b) =>
    have la := hx s a rfl
    obtain ⟨lb, t0, t1⟩ := hy t b rfl
    show (look J.rules ⟨s * F.states + t, l, (a ++ b).map List.head?⟩).map _ = _
    rw [List.map_append, join_look oE oF j (by rw [List.length_map, la]) ⟨t0, t1⟩]
    show _ = both F.states ((look E.rules ⟨s, l, a.map List.head?⟩).map _) ((look F.rules ⟨t, l, b.map List.head?⟩).map _)
    cases h1 : look E.rules ⟨s, l, a.map List.head?⟩ with
    | none => rfl
    | some d =>
      cases h2 : look F.rules ⟨t, l, b.map List.head?⟩ with
      | none => rfl
      | some e =>
        have r1 := oE.ru _ ((look_some oE.nd).mp h1)
        have : d.mvs.length = E.stacks := r1.nm
        show some (_, List.zipWith moved (a ++ b) (d.mvs ++ e.mvs)) = some (_, _ ++ _)
        rw [zipWith_app _ (by rw [la, this])]
theorem join_eaten (j : Joined (E := E) (F := F) J) (w : List Int) : eaten J w = both F.states (eaten E w) (eaten F w) := by
  rw [← List.reverse_reverse w]
  induction w.reverse with
  | nil =>
    show some ((0 : Int), List.replicate J.stacks []) = some (0 * F.states + 0, List.replicate E.stacks [] ++ List.replicate F.stacks [])
    rw [j.k, List.replicate_append_replicate]
    simp
  | cons l w ih =>
    rw [List.reverse_cons, eaten_snoc, eaten_snoc, eaten_snoc, ih]
    exact join_step oE oF j (fun s ss h => (eaten_ok oE _ _ _ h).1) (fun s ss h => eaten_ok oF _ _ _ h) l
/-- WHAT BOTH TAKE -/
theorem join_takes (j : Joined (E := E) (F := F) J) (w : List Int) : takes J w = (takes E w && takes F w) := by
  unfold takes
  rw [join_eaten oE oF j]
  cases h1 : eaten E w with
  | none => rfl
  | some x =>
    obtain ⟨s, a⟩ := x
    cases h2 : eaten F w with
    | none => cases decide (s ∈ E.yes) <;> simp [both, yesOf]
    | some y =>
      obtain ⟨t, b⟩ := y
      have q := eaten_ok oF _ _ _ h2
      show decide (s * F.states + t ∈ J.yes) = (decide (s ∈ E.yes) && decide (t ∈ F.yes))
      have : (s * F.states + t ∈ J.yes) ↔ (s ∈ E.yes ∧ t ∈ F.yes) := (j.y.mem_iff).trans (mem_joinYes oE oF q.2.1 q.2.2)
      rw [← Bool.decide_and, decide_eq_decide]
      exact this
end
end K40
end
section
set_option autoImplicit false
namespace K40

/-! ### one stack spread over cells -/
def spread (own : List Int) (left : Option (List Int)) (right : List Int) (mv : Mv) : List Int :=
  let f0 := if own.length = 3 then own.dropLast else own
  let f := match left with
    | none => moved f0 mv
    | some l => if l.length ≤ 1 then f0.drop 1 else if l.length = 3 then (l.drop 2) ++ f0 else f0
  if own.length ≤ 1 then f ++ right.take 1 else f
/-- all cells a tick on -/
def ev : Option (List Int) → Mv → List (List Int) → List (List Int)
  | _, _, [] => []
  | left, mv, c :: cs => spread c left (cs.headD []) mv :: ev (some c) .stay cs
/-- no more than three in a cell, none behind an empty one -/
def Wf : List (List Int) → Prop
  | [] => True
  | c :: cs => c.length ≤ 3 ∧ (c = [] → cs.flatten = []) ∧ Wf cs
theorem Wf.head {cs : List (List Int)} (h : Wf cs) (e : cs.headD [] = []) : cs.flatten = [] := by
  cases cs with
  | nil => rfl
  | cons c cs =>
    have : c = [] := e
    rw [List.flatten_cons, h.2.1 this, this]
    rfl
theorem Wf.take {cs : List (List Int)} (h : Wf cs) : (cs.headD []).take 1 ++ cs.flatten.drop 1 = cs.flatten := by
  cases cs with
  | nil => rfl
  | cons c cs =>
    cases c with
    | nil =>
      have := h.2.1 rfl
      rw [List.flatten_cons, this]
      rfl
    | cons x c => rfl
theorem flat_len {cs : List (List Int)} (h : Wf cs) (hl : ∃ c, cs.getLast? = some c ∧ c ≠ []) : cs.length ≤ cs.flatten.length := by
  induction cs with
  | nil => exact Nat.zero_le _
  | cons c cs ih =>
    obtain ⟨c0, hc, hne⟩ := hl
    cases cs with
    | nil =>
      have : c = c0 := by simpa using hc
      rw [this]
      cases c0 with
      | nil => exact absurd rfl hne
      | cons x y =>
        rw [List.flatten_cons, List.length_append]
        simp
    | cons d ds =>
      have ih' := ih h.2.2 ⟨c0, by rw [List.getLast?_cons_cons] at hc; exact hc, hne⟩
      have : c ≠ [] := fun e => by
        have z := h.2.1 e
        rw [z] at ih'
        simp at ih'
      rw [List.flatten_cons, List.length_append, List.length_cons]
      have := List.length_pos_iff.mpr this
      omega
theorem cases3 {P : List Int → Prop} (c : List Int) (h : c.length ≤ 3) (h0 : P []) (h1 : ∀ x, P [x]) (h2 : ∀ x y, P [x, y]) (h3 : ∀ x y z, P [x, y, z]) : P c := by
  match c, h with
  | [], _ => exact h0
  | [x], _ => exact h1 x
  | [x, y], _ => exact h2 x y
  | [x, y, z], _ => exact h3 x y z
  | _ :: _ :: _ :: _ :: _, h => simp at h
/-- what is cut off a cell's neighbour by what the cell had -/
def cut (l : List Int) (f : List Int) : List Int := if l.length ≤ 1 then f.drop 1 else if l.length = 3 then l.drop 2 ++ f else f
theorem ev_flat : ∀ (cs : List (List Int)) (l : List Int), Wf (l :: cs) → (∀ c, (l :: cs).getLast? = some c → c.length ≠ 3) → (ev (some l) .stay cs).flatten = cut l cs.flatten
  | [], l, h, hl => by
    have := hl l rfl
    show [] = cut l []
    unfold cut
    rw [if_neg this]
    split <;> rfl
  | c :: cs, l, h, hl => by
    have hc := h.2.2
    have ih := ev_flat cs c hc (fun d hd => hl d (by rw [List.getLast?_cons_cons]; exact hd))
    show (spread c (some l) (cs.headD []) .stay :: ev (some c) .stay cs).flatten = _
    rw [List.flatten_cons, ih, List.flatten_cons]
    have ht := hc.2.2.take
    have hz := hc.2.1
    have hcl := hc.1
    have hll := h.1
    revert hz ht
    generalize cs.flatten = F
    generalize cs.headD [] = R
    intro ht hz
    have ht' : List.take 1 R ++ F.tail = F := by simpa using ht
    refine cases3 (P := fun c => (c = [] → F = []) → spread c (some l) R .stay ++ cut c F = cut l (c ++ F)) c hcl ?_ ?_ ?_ ?_ hz
    · intro hz
      have hF := hz rfl
      subst hF
      have hR : R.take 1 = [] := by simpa using ht
      unfold spread cut
      simp [hR]
    · intro x _
      refine cases3 (P := fun l => spread [x] (some l) R .stay ++ cut [x] F = cut l ([x] ++ F)) l hll ?_ ?_ ?_ ?_ <;> intros <;> simp [spread, cut, ht']
    · intro x y _
      refine cases3 (P := fun l => spread [x, y] (some l) R .stay ++ cut [x, y] F = cut l ([x, y] ++ F)) l hll ?_ ?_ ?_ ?_ <;> intros <;> simp [spread, cut]
    · intro x y z _
      refine cases3 (P := fun l => spread [x, y, z] (some l) R .stay ++ cut [x, y, z] F = cut l ([x, y, z] ++ F)) l hll ?_ ?_ ?_ ?_ <;> intros <;> simp [spread, cut]
/-- THE STACK OF ALL CELLS a tick on -/
theorem ev_top {cs : List (List Int)} {mv : Mv} (h : Wf cs) (hl : ∀ c, cs.getLast? = some c → c.length ≠ 3) (hne : cs ≠ []) (hp : mv = .pop → cs.headD [] ≠ []) : (ev none mv cs).flatten = moved cs.flatten mv := by
  cases cs with
  | nil => exact absurd rfl hne
  | cons c cs =>
    have ih := ev_flat cs c h hl
    show (spread c none (cs.headD []) mv :: ev (some c) .stay cs).flatten = _
    rw [List.flatten_cons, ih, List.flatten_cons]
    have ht := h.2.2.take
    have hz := h.2.1
    have hp' : mv = .pop → c ≠ [] := hp
    revert hz ht hp'
    generalize cs.flatten = F
    generalize cs.headD [] = R
    intro ht hz hp'
    have ht' : List.take 1 R ++ F.tail = F := by simpa using ht
    refine cases3 (P := fun c => (c = [] → F = []) → (mv = .pop → c ≠ []) → spread c none R mv ++ cut c F = moved (c ++ F) mv) c h.1 ?_ ?_ ?_ ?_ hz hp'
    · intro hz hp
      have hF := hz rfl
      subst hF
      have hR : R.take 1 = [] := by simpa using ht
      cases mv with
      | pop => exact absurd rfl (hp rfl)
      | stay => simp [spread, cut, moved, hR]
      | push n => simp [spread, cut, moved, hR]
    all_goals
      intros
      cases mv <;> simp [spread, cut, moved, ht']
theorem spread_len {own left right mv} (ho : own.length ≤ 3) (hl : ∀ l, left = some l → l.length ≤ 3) : (spread own left right mv).length ≤ 3 := by
  have hr : (right.take 1).length ≤ 1 := by simp; omega
  refine cases3 (P := fun own => (spread own left right mv).length ≤ 3) own ho ?_ ?_ ?_ ?_ <;> intros
  all_goals
    cases left with
    | none => cases mv <;> simp [spread, moved] <;> omega
    | some l =>
      have := hl l rfl
      refine cases3 (P := fun l => (spread _ (some l) right mv).length ≤ 3) l this ?_ ?_ ?_ ?_ <;> intros <;> simp [spread] <;> omega
theorem spread_nil {own left right mv} (ho : own.length ≤ 3) (hp : left = none → mv = .pop → own ≠ []) (h : spread own left right mv = []) : own.length ≤ 1 ∧ right = [] := by
  revert hp h
  refine cases3 (P := fun own => (left = none → mv = .pop → own ≠ []) → spread own left right mv = [] → own.length ≤ 1 ∧ right = []) own ho ?_ ?_ ?_ ?_ <;> intros
  · rename_i hp h
    refine ⟨by simp, ?_⟩
    cases right with
    | nil => rfl
    | cons a b =>
      cases left <;> simp [spread] at h
  · rename_i x hp h
    refine ⟨by simp, ?_⟩
    cases right with
    | nil => rfl
    | cons a b =>
      cases left <;> simp [spread] at h
  all_goals
    rename_i hp h
    exfalso
    revert h
    cases left with
    | none => cases mv <;> simp [spread, moved]
    | some l =>
      unfold spread
      simp only
      repeat' split
      all_goals simp_all
theorem ev_wf : ∀ (cs : List (List Int)) (left : Option (List Int)) (mv : Mv), Wf cs → (∀ c, cs.getLast? = some c → c.length ≠ 3) → (∀ l, left = some l → l.length ≤ 3) → (left = none → mv = .pop → cs.headD [] ≠ []) → Wf (ev left mv cs)
  | [], _, _, _, _, _, _ => trivial
  | c :: cs, left, mv, h, hl, hll, hp => by
    refine ⟨spread_len h.1 hll, fun e => ?_, ?_⟩
    · obtain ⟨h1, h2⟩ := spread_nil h.1 hp e
      rw [ev_flat cs c h hl, h.2.2.head h2]
      unfold cut
      rw [if_pos h1]
      rfl
    · cases cs with
      | nil => trivial
      | cons d ds => exact ev_wf (d :: ds) (some c) .stay h.2.2 (fun e he => hl e (by rw [List.getLast?_cons_cons]; exact he)) (fun l e => by cases e; exact h.1) (fun e => nomatch e)
theorem ev_len : ∀ (cs : List (List Int)) (left : Option (List Int)) (mv : Mv), (ev left mv cs).length = cs.length
  | [], _, _ => rfl
  | c :: cs, left, mv => by
    show (ev (some c) .stay cs).length + 1 = _
    rw [ev_len cs]
    rfl
theorem ev_get : ∀ (cs : List (List Int)) (left : Option (List Int)) (mv : Mv) (i : Nat) (c : List Int), cs[i]? = some c →
    (ev left mv cs)[i]? = some (spread c (if i = 0 then left else cs[i - 1]?) ((cs[i + 1]?).getD []) (if i = 0 then mv else .stay))
  | [], _, _, i, c, h => by simp at h
  | d :: cs, left, mv, 0, c, h => by
    have : d = c := by simpa using h
    subst this
    show some (spread d left (cs.headD []) mv) = _
    simp [List.headD_eq_head?_getD, List.head?_eq_getElem?]
  | d :: cs, left, mv, i + 1, c, h => by
    have h' : cs[i]? = some c := by simpa using h
    show (ev (some d) .stay cs)[i]? = _
    rw [ev_get cs (some d) .stay i c h']
    cases i with
    | zero => simp
    | succ i => simp

/-! ### rows in plain lists -/
structure RowF (W : Type) where
  beg : Int → W
  nxt : Option W → W → Option W → W
  sys : W → Bool
section
variable {W V : Type}
/-- all cells a tick on -/
def tk (R : RowF W) : Option W → List W → List W
  | _, [] => []
  | left, c :: cs => R.nxt left c cs.head? :: tk R (some c) cs
theorem tk_len (R : RowF W) : ∀ (cs : List W) (left : Option W), (tk R left cs).length = cs.length
  | [], _ => rfl
  | c :: cs, left => by
    show (tk R (some c) cs).length + 1 = _
    rw [tk_len R cs]
    rfl
theorem tk_get (R : RowF W) : ∀ (cs : List W) (left : Option W) (i : Nat) (c : W), cs[i]? = some c → (tk R left cs)[i]? = some (R.nxt (if i = 0 then left else cs[i - 1]?) c cs[i + 1]?)
  | [], _, i, c, h => by simp at h
  | d :: cs, left, 0, c, h => by
    have : d = c := by simpa using h
    subst this
    show some (R.nxt left d cs.head?) = _
    simp [List.head?_eq_getElem?]
  | d :: cs, left, i + 1, c, h => by
    have h' : cs[i]? = some c := by simpa using h
    show (tk R (some d) cs)[i]? = _
    rw [tk_get R cs (some d) i c h']
    cases i with
    | zero => simp
    | succ i => simp
theorem tk_take (R : RowF W) : ∀ (cs : List W) (left : Option W) (h : Nat), (tk R left (cs.take (h + 1))).take h = (tk R left cs).take h
  | [], _, _ => by simp
  | c :: cs, left, 0 => by simp
  | c :: cs, left, h + 1 => by
    show (R.nxt left c (cs.take (h + 1)).head? :: tk R (some c) (cs.take (h + 1))).take (h + 1) = (R.nxt left c cs.head? :: tk R (some c) cs).take (h + 1)
    rw [List.take_succ_cons, List.take_succ_cons, tk_take R cs (some c) h]
    congr 2
    cases cs <;> rfl
/-- so many ticks, the cells from high on cut off one by one where they are not the word's last ones -/
def runL (R : RowF W) (n : Nat) : Nat → Nat → List W → List W
  | 0, _, ws => ws
  | t + 1, high, ws => runL R n t (high - if high + 1 < n then 1 else 0) ((tk R none ws).take (ws.length - if high + 1 < n then 1 else 0))
def full (R : RowF W) : Nat → List W → List W
  | 0, ws => ws
  | t + 1, ws => full R t (tk R none ws)
theorem full_len (R : RowF W) : ∀ (t : Nat) (ws : List W), (full R t ws).length = ws.length
  | 0, _ => rfl
  | t + 1, ws => (full_len R t _).trans (tk_len R ws none)
theorem full_succ (R : RowF W) : ∀ (t : Nat) (ws : List W), full R (t + 1) ws = tk R none (full R t ws)
  | 0, _ => rfl
  | t + 1, ws => full_succ R t (tk R none ws)
theorem run_full (R : RowF W) (n : Nat) : ∀ (t high : Nat) (ws : List W), ws.length = n → high < n → (high + 1 < n → t ≤ high) → ∃ h', runL R n t high (ws.take (high + 1)) = (full R t ws).take (h' + 1)
  | 0, high, ws, _, _, _ => ⟨high, rfl⟩
  | t + 1, high, ws, hl, hh, ht => by
    show ∃ h', runL R n t _ _ = (full R t (tk R none ws)).take (h' + 1)
    by_cases c : high + 1 < n
    · have ht' := ht c
      have e : (ws.take (high + 1)).length - 1 = high := by
        rw [List.length_take]
        omega
      rw [if_pos c, e, tk_take]
      have e2 : high = high - 1 + 1 := by omega
      have := run_full R n t (high - 1) (tk R none ws) ((tk_len R ws none).trans hl) (by omega) (fun _ => by omega)
      rw [e2]
      exact this
    · have e : ws.take (high + 1) = ws := List.take_of_length_le (by omega)
      have e2 : (tk R none ws).take (high + 1) = (tk R none ws).take (ws.length - 0) := by
        rw [List.take_of_length_le (by rw [tk_len]; omega), List.take_of_length_le (by rw [tk_len]; omega)]
      rw [if_neg c, e, ← e2]
      exact run_full R n t (high - 0) (tk R none ws) ((tk_len R ws none).trans hl) (by omega) (fun h => absurd h c)
/-- what the seat says at a tick -/
def saidL (R : RowF W) (w : List Int) (tick : Nat) : Option Bool := ((runL R w.length tick (min (w.length - 1) tick) ((w.take (min (w.length - 1) tick + 1)).map R.beg)).head?).map R.sys
theorem said_full (R : RowF W) (w : List Int) {tick : Nat} (h : tick < w.length) : saidL R w tick = ((full R tick (w.map R.beg)).head?).map R.sys := by
  unfold saidL
  have e : min (w.length - 1) tick = tick := by omega
  rw [e, List.map_take]
  obtain ⟨h', q⟩ := run_full R w.length tick tick (w.map R.beg) (by rw [List.length_map]) h (fun _ => Nat.le_refl _)
  rw [q]
  congr 1
  cases full R tick (w.map R.beg) <;> rfl
/-- both rows, each by itself -/
def rowBoth (R : RowF W) (S : RowF V) : RowF (W × V) := ⟨fun l => (R.beg l, S.beg l), fun l o r => (R.nxt (l.map (·.1)) o.1 (r.map (·.1)), S.nxt (l.map (·.2)) o.2 (r.map (·.2))), fun x => R.sys x.1 && S.sys x.2⟩
theorem tk_both (R : RowF W) (S : RowF V) : ∀ (cs : List (W × V)) (left : Option (W × V)), (tk (rowBoth R S) left cs).map (·.1) = tk R (left.map (·.1)) (cs.map (·.1)) ∧ (tk (rowBoth R S) left cs).map (·.2) = tk S (left.map (·.2)) (cs.map (·.2))
  | [], _ => ⟨rfl, rfl⟩
  | c :: cs, left => by
    obtain ⟨h1, h2⟩ := tk_both R S cs (some c)
    constructor
    · show R.nxt (left.map (·.1)) c.1 (cs.head?.map (·.1)) :: (tk (rowBoth R S) (some c) cs).map (·.1) = R.nxt (left.map (·.1)) c.1 (cs.map (·.1)).head? :: tk R (some c.1) (cs.map (·.1))
      rw [h1, List.head?_map]
      rfl
    · show S.nxt (left.map (·.2)) c.2 (cs.head?.map (·.2)) :: (tk (rowBoth R S) (some c) cs).map (·.2) = S.nxt (left.map (·.2)) c.2 (cs.map (·.2)).head? :: tk S (some c.2) (cs.map (·.2))
      rw [h2, List.head?_map]
      rfl
theorem full_both (R : RowF W) (S : RowF V) : ∀ (t : Nat) (ws : List (W × V)), (full (rowBoth R S) t ws).map (·.1) = full R t (ws.map (·.1)) ∧ (full (rowBoth R S) t ws).map (·.2) = full S t (ws.map (·.2))
  | 0, _ => ⟨rfl, rfl⟩
  | t + 1, ws => by
    obtain ⟨h1, h2⟩ := full_both R S t (tk (rowBoth R S) none ws)
    obtain ⟨e1, e2⟩ := tk_both R S ws none
    exact ⟨h1.trans (congrArg (full R t) e1), h2.trans (congrArg (full S t) e2)⟩
theorem said_both (R : RowF W) (S : RowF V) (w : List Int) {tick : Nat} (h : tick < w.length) {a b : Bool} (ha : saidL R w tick = some a) (hb : saidL S w tick = some b) : saidL (rowBoth R S) w tick = some (a && b) := by
  rw [said_full _ _ h] at ha hb ⊢
  obtain ⟨h1, h2⟩ := full_both R S tick (w.map (rowBoth R S).beg)
  have e1 : (w.map (rowBoth R S).beg).map (·.1) = w.map R.beg := by rw [List.map_map]; rfl
  have e2 : (w.map (rowBoth R S).beg).map (·.2) = w.map S.beg := by rw [List.map_map]; rfl
  rw [e1] at h1
  rw [e2] at h2
  rw [← h1, List.head?_map] at ha
  rw [← h2, List.head?_map] at hb
  cases q : (full (rowBoth R S) tick (w.map (rowBoth R S).beg)).head? with
  | none =>
    rw [q] at ha
    cases ha
  | some x =>
    rw [q] at ha hb
    have ha' : R.sys x.1 = a := Option.some.inj ha
    have hb' : S.sys x.2 = b := Option.some.inj hb
    show some (R.sys x.1 && S.sys x.2) = _
    rw [ha', hb']
end

/-! ### the fed row -/
abbrev Wo := Option Int × Option Int × List (List Int)
def doneBy (E : Eat) (st : Option Int) (l : Int) (tops : List (Option Int)) : Option Don := st.bind fun s => look E.rules ⟨s, l, tops⟩
def doneW (E : Eat) (w : Wo) : Option Int × List Mv := match w.1 with
  | none => (w.2.1, List.replicate w.2.2.length .stay)
  | some l => match doneBy E w.2.1 l (w.2.2.map List.head?) with
    | none => (none, List.replicate w.2.2.length .stay)
    | some d => (some d.st, d.mvs)
def zip4 : List (List Int) → List (Option (List Int)) → List (List Int) → List Mv → List (List Int)
  | o :: os, l :: ls, r :: rs, m :: ms => spread o l r m :: zip4 os ls rs ms
  | _, _, _, _ => []
def partsOf (E : Eat) (left : Option Wo) (own : Wo) : Option Int × List Mv := match left with
  | none => doneW E own
  | some _ => (some 0, List.replicate E.stacks .stay)
def leftsOf (E : Eat) : Option Wo → List (Option (List Int))
  | none => List.replicate E.stacks none
  | some l => l.2.2.map some
def rightsOf (E : Eat) : Option Wo → List (List Int)
  | none => List.replicate E.stacks []
  | some r => r.2.2
def nextW (E : Eat) (left : Option Wo) (own : Wo) (right : Option Wo) : Wo :=
  (right.bind (·.1), (partsOf E left own).1, zip4 own.2.2 (leftsOf E left) (rightsOf E right) (partsOf E left own).2)
def rowFed (E : Eat) : RowF Wo := ⟨fun l => (some l, some 0, List.replicate E.stacks []), nextW E, fun w => yesOf E (doneW E w).1⟩
theorem zip4_len : ∀ {n : Nat} {os : List (List Int)} {ls : List (Option (List Int))} {rs : List (List Int)} {ms : List Mv}, os.length = n → ls.length = n → rs.length = n → ms.length = n → (zip4 os ls rs ms).length = n
  | 0, [], _, _, _, _, _, _, _ => rfl
  | n + 1, o :: os, l :: ls, r :: rs, m :: ms, h1, h2, h3, h4 => congrArg Nat.succ (zip4_len (Nat.succ.inj h1) (Nat.succ.inj h2) (Nat.succ.inj h3) (Nat.succ.inj h4))
theorem zip4_get : ∀ {os : List (List Int)} {ls : List (Option (List Int))} {rs : List (List Int)} {ms : List Mv} {j : Nat} {o l r m}, os[j]? = some o → ls[j]? = some l → rs[j]? = some r → ms[j]? = some m → (zip4 os ls rs ms)[j]? = some (spread o l r m)
  | o :: os, l :: ls, r :: rs, m :: ms, 0, _, _, _, _, h1, h2, h3, h4 => by
    cases h1; cases h2; cases h3; cases h4
    rfl
  | o :: os, l :: ls, r :: rs, m :: ms, j + 1, _, _, _, _, h1, h2, h3, h4 => by
    show (zip4 os ls rs ms)[j]? = _
    exact zip4_get h1 h2 h3 h4
/-- one stack's signs in all cells -/
def col (j : Nat) (x : Wo) : List Int := (x.2.2[j]?).getD []
section
variable {E : Eat} {j : Nat}
theorem get_col {x : Wo} (h : x.2.2.length = E.stacks) (hj : j < E.stacks) : x.2.2[j]? = some (col j x) := by
  unfold col
  rw [List.getElem?_eq_getElem (by omega)]
  rfl
theorem col_next {left : Option Wo} {own : Wo} {right : Option Wo} {mv : Mv} (hj : j < E.stacks) (ho : own.2.2.length = E.stacks) (hl : ∀ l, left = some l → l.2.2.length = E.stacks) (hr : ∀ r, right = some r → r.2.2.length = E.stacks)
    (hm : (partsOf E left own).2[j]? = some mv) : col j (nextW E left own right) = spread (col j own) (left.map (col j)) ((right.map (col j)).getD []) mv := by
  have h1 := get_col ho hj
  have h2 : (leftsOf E left)[j]? = some (left.map (col j)) := by
    cases left with
    | none => simp [leftsOf, hj]
    | some l =>
      have := get_col (hl l rfl) hj
      show (l.2.2.map some)[j]? = _
      rw [List.getElem?_map, this]
      rfl
  have h3 : (rightsOf E right)[j]? = some ((right.map (col j)).getD []) := by
    cases right with
    | none => simp [rightsOf, hj]
    | some r => exact get_col (hr r rfl) hj
  show ((zip4 own.2.2 _ _ _)[j]?).getD [] = _
  rw [zip4_get h1 h2 h3 hm]
  rfl
theorem col_tk (hj : j < E.stacks) : ∀ (ws : List Wo) (left : Option Wo) (mv : Mv), (∀ x ∈ ws, x.2.2.length = E.stacks) → (∀ l, left = some l → l.2.2.length = E.stacks) → (left ≠ none → mv = .stay) → (left = none → ∀ x, ws.head? = some x → (doneW E x).2[j]? = some mv) →
    (tk (rowFed E) left ws).map (col j) = ev (left.map (col j)) mv (ws.map (col j))
  | [], _, _, _, _, _, _ => rfl
  | c :: cs, left, mv, hw, hl, hm, hd => by
    have hc := hw c (List.mem_cons_self ..)
    have hp : (partsOf E left c).2[j]? = some mv := by
      cases left with
      | none => exact hd rfl c rfl
      | some l =>
        rw [hm (by simp)]
        show (List.replicate E.stacks Mv.stay)[j]? = _
        simp [hj]
    show col j (nextW E left c cs.head?) :: (tk (rowFed E) (some c) cs).map (col j) = spread (col j c) (left.map (col j)) ((cs.map (col j)).headD []) mv :: ev (some (col j c)) .stay (cs.map (col j))
    rw [col_next hj hc hl (fun r hr => hw r (List.mem_cons_of_mem _ (List.mem_of_mem_head? hr))) hp, col_tk hj cs (some c) .stay (fun x hx => hw x (List.mem_cons_of_mem _ hx)) (fun l e => by cases e; exact hc) (fun _ => rfl) (fun e => nomatch e)]
    congr 2
    cases cs <;> rfl
end
/-- how the cells stand behind t letters -/
structure At (E : Eat) (w : List Int) (t : Nat) (ws : List Wo) : Prop where
  len : ws.length = w.length
  let_ : ∀ (c : Nat) (x : Wo), ws[c]? = some x → x.1 = w[c + t]?
  sta : ∀ x, ws.head? = some x → x.2.1 = (eaten E (w.take t)).map (·.1)
  stk : ∀ x ∈ ws, x.2.2.length = E.stacks
  col : ∀ s ss, eaten E (w.take t) = some (s, ss) → ∀ j < E.stacks, Wf (ws.map (col j)) ∧ ss[j]? = some (ws.map (col j)).flatten ∧ (ws.map (col j)).flatten.length ≤ t
theorem at_zero (E : Eat) (w : List Int) : At E w 0 (w.map (rowFed E).beg) where
  len := by rw [List.length_map]
  let_ := fun c x h => by
    rw [List.getElem?_map] at h
    obtain ⟨l, hl, e⟩ := Option.map_eq_some_iff.mp h
    rw [← e, Nat.add_zero, hl]
    rfl
  sta := fun x h => by
    rw [List.head?_map] at h
    obtain ⟨l, hl, e⟩ := Option.map_eq_some_iff.mp h
    rw [← e]
    rfl
  stk := fun x h => by
    obtain ⟨l, hl, e⟩ := List.mem_map.mp h
    rw [← e]
    exact List.length_replicate
  col := fun s ss h j hj => by
    have e : (w.map (rowFed E).beg).map (K40.col j) = List.replicate w.length [] := by
      rw [List.map_map, List.eq_replicate_iff]
      refine ⟨by rw [List.length_map], fun b hb => ?_⟩
      obtain ⟨l, hl, e⟩ := List.mem_map.mp hb
      rw [← e]
      show ((List.replicate E.stacks ([] : List Int))[j]?).getD [] = []
      simp [hj]
    rw [e]
    have hf : ∀ n, (List.replicate n ([] : List Int)).flatten = [] := fun n => by simp
    have hw : ∀ n, Wf (List.replicate n []) := fun n => by
      induction n with
      | zero => trivial
      | succ n ih => exact ⟨by simp, fun _ => hf n, ih⟩
    refine ⟨hw _, ?_, by rw [hf]; exact Nat.zero_le _⟩
    have h' : some ((0 : Int), List.replicate E.stacks ([] : List Int)) = some (s, ss) := by
      rw [← h]
      simp [eaten]
    cases h'
    rw [hf]
    simp [hj]
theorem done_at {E : Eat} {w : List Int} {t : Nat} {ws : List Wo} (oE : Ok E) (a : At E w t ws) (ht : t < w.length) {x : Wo} (hx : ws.head? = some x) :
    (doneW E x).1 = (eaten E (w.take (t + 1))).map (·.1) ∧ (doneW E x).2.length = E.stacks ∧ ∀ s ss, eaten E (w.take t) = some (s, ss) → ∀ s' ss', eaten E (w.take (t + 1)) = some (s', ss') → ss' = List.zipWith moved ss (doneW E x).2 ∧ ∀ j : Nat, (doneW E x).2[j]? = some Mv.pop → ∃ n : Int, (ss.map List.head?)[j]? = some (some n) := by
  have hl : x.1 = some w[t] := by
    rw [a.let_ 0 x (by rw [← List.head?_eq_getElem?]; exact hx), Nat.zero_add, List.getElem?_eq_getElem ht]
  have hs := a.sta x hx
  have hk := a.stk x (List.mem_of_mem_head? hx)
  have et : w.take (t + 1) = w.take t ++ [w[t]] := by rw [List.take_succ_eq_append_getElem ht]
  rw [et, eaten_snoc]
  cases q : eaten E (w.take t) with
  | none =>
    rw [q] at hs
    have e : doneW E x = (none, List.replicate x.2.2.length .stay) := by
      unfold doneW
      rw [hl]
      show (match doneBy E x.2.1 w[t] _ with | none => _ | some d => _) = _
      rw [hs]
      rfl
    rw [e]
    refine ⟨rfl, by rw [← hk]; exact List.length_replicate, fun s ss h => nomatch h⟩
  | some st =>
    obtain ⟨s, ss⟩ := st
    rw [q] at hs
    obtain ⟨lss, _⟩ := eaten_ok oE _ _ _ q
    have tops : x.2.2.map List.head? = ss.map List.head? := by
      refine List.ext_getElem? fun j => ?_
      rw [List.getElem?_map, List.getElem?_map]
      by_cases hj : j < E.stacks
      · obtain ⟨h1, h2, _⟩ := a.col s ss q j hj
        rw [h2, get_col hk hj]
        show some (K40.col j x).head? = some _
        congr 1
        cases ws with
        | nil => cases hx
        | cons y ys =>
          have : y = x := Option.some.inj hx
          subst this
          rw [List.map_cons, List.flatten_cons]
          cases e : K40.col j y with
          | nil =>
            rw [List.map_cons] at h1
            have := h1.2.1 e
            rw [this]
            rfl
          | cons u v => rfl
      · rw [List.getElem?_eq_none (by omega), List.getElem?_eq_none (by omega)]
    have e : doneBy E x.2.1 w[t] (x.2.2.map List.head?) = look E.rules ⟨s, w[t], ss.map List.head?⟩ := by
      rw [hs, tops]
      rfl
    cases r : look E.rules ⟨s, w[t], ss.map List.head?⟩ with
    | none =>
      have e' : doneW E x = (none, List.replicate x.2.2.length .stay) := by
        unfold doneW
        rw [hl]
        show (match doneBy E x.2.1 w[t] _ with | none => _ | some d => _) = _
        rw [e, r]
      rw [e']
      have e3 : step E (some (s, ss)) w[t] = none := by
        unfold step
        simp only
        rw [r]
        rfl
      rw [e3]
      exact ⟨rfl, by rw [← hk]; exact List.length_replicate, fun s0 ss0 _ s' ss' h => nomatch h⟩
    | some d =>
      have e' : doneW E x = (some d.st, d.mvs) := by
        unfold doneW
        rw [hl]
        show (match doneBy E x.2.1 w[t] _ with | none => _ | some d => _) = _
        rw [e, r]
      rw [e']
      have e3 : step E (some (s, ss)) w[t] = some (d.st, List.zipWith moved ss d.mvs) := by
        unfold step
        simp only
        rw [r]
        rfl
      rw [e3]
      have ru := oE.ru _ ((look_some oE.nd).mp r)
      refine ⟨rfl, ru.nm, fun s0 ss0 h0 s' ss' h => ?_⟩
      cases h0
      cases h
      exact ⟨rfl, fun j hj => ru.pop j hj⟩
theorem at_succ {E : Eat} {w : List Int} {t : Nat} {ws : List Wo} (oE : Ok E) (a : At E w t ws) (ht : t + 1 < w.length) : At E w (t + 1) (tk (rowFed E) none ws) := by
  obtain ⟨x, hx⟩ : ∃ x, ws.head? = some x := by
    cases ws with
    | nil =>
      have := a.len
      simp at this
      omega
    | cons x ys => exact ⟨x, rfl⟩
  obtain ⟨d1, d2, d3⟩ := done_at oE a (by omega) hx
  have get : ∀ c y, (tk (rowFed E) none ws)[c]? = some y → ∃ o, ws[c]? = some o ∧ y = nextW E (if c = 0 then none else ws[c - 1]?) o ws[c + 1]? := fun c y h => by
    obtain ⟨hc, _⟩ := List.getElem?_eq_some_iff.mp h
    rw [tk_len] at hc
    have q : ws[c]? = some ws[c] := List.getElem?_eq_getElem hc
    have := tk_get (rowFed E) ws none c ws[c] q
    rw [this] at h
    exact ⟨ws[c], q, (Option.some.inj h).symm⟩
  have stk : ∀ x ∈ tk (rowFed E) none ws, x.2.2.length = E.stacks := fun y hy => by
    obtain ⟨c, hc⟩ := List.getElem?_of_mem hy
    obtain ⟨o, ho, rfl⟩ := get c y hc
    have mo := a.stk o (List.mem_of_getElem? ho)
    refine zip4_len mo ?_ ?_ ?_
    · by_cases h0 : c = 0
      · rw [if_pos h0]
        exact List.length_replicate
      · rw [if_neg h0]
        cases q : ws[c - 1]? with
        | none => exact List.length_replicate
        | some l =>
          show (l.2.2.map some).length = _
          rw [List.length_map]
          exact a.stk l (List.mem_of_getElem? q)
    · cases q : ws[c + 1]? with
      | none => exact List.length_replicate
      | some r => exact a.stk r (List.mem_of_getElem? q)
    · by_cases h0 : c = 0
      · subst h0
        rw [if_pos rfl]
        have : o = x := by
          rw [List.head?_eq_getElem?, ho] at hx
          exact Option.some.inj hx
        rw [this]
        exact d2
      · rw [if_neg h0]
        cases q : ws[c - 1]? with
        | none =>
          rw [List.getElem?_eq_none_iff] at q
          obtain ⟨z, _⟩ := List.getElem?_eq_some_iff.mp ho
          omega
        | some l => exact List.length_replicate
  refine ⟨by rw [tk_len, a.len], fun c y h => ?_, fun y h => ?_, stk, fun s' ss' h j hj => ?_⟩
  · obtain ⟨o, ho, rfl⟩ := get c y h
    show (ws[c + 1]?).bind (·.1) = _
    cases q : ws[c + 1]? with
    | none =>
      rw [List.getElem?_eq_none_iff, a.len] at q
      rw [List.getElem?_eq_none (by omega)]
      rfl
    | some r =>
      have := a.let_ _ _ q
      rw [Option.bind_some, this]
      congr 1
      omega
  · rw [List.head?_eq_getElem?] at h
    obtain ⟨o, ho, rfl⟩ := get 0 y h
    have : o = x := by
      rw [List.head?_eq_getElem?, ho] at hx
      exact Option.some.inj hx
    subst this
    exact d1
  · cases q : eaten E (w.take t) with
    | none =>
      have et : w.take (t + 1) = w.take t ++ [w[t]] := by rw [List.take_succ_eq_append_getElem (by omega)]
      rw [et, eaten_snoc, q] at h
      cases h
    | some st =>
      obtain ⟨s, ss⟩ := st
      obtain ⟨lss, _⟩ := eaten_ok oE _ _ _ q
      obtain ⟨e1, e2⟩ := d3 s ss q s' ss' h
      obtain ⟨h1, h2, h3⟩ := a.col s ss q j hj
      obtain ⟨mv, hm⟩ : ∃ mv, (doneW E x).2[j]? = some mv := ⟨_, List.getElem?_eq_getElem (by omega)⟩
      have ec : (tk (rowFed E) none ws).map (K40.col j) = ev none mv (ws.map (K40.col j)) :=
        col_tk hj ws none mv a.stk (fun l e => nomatch e) (fun e => absurd rfl e) (fun _ y hy => by
          rw [hx] at hy
          cases hy
          exact hm)
      have hlast : ∀ c, (ws.map (K40.col j)).getLast? = some c → c.length ≠ 3 := fun c hc e => by
        have := flat_len h1 ⟨c, hc, fun z => by rw [z] at e; cases e⟩
        rw [List.length_map, a.len] at this
        omega
      have hpop : mv = .pop → (ws.map (K40.col j)).headD [] ≠ [] := fun e z => by
        subst e
        obtain ⟨n, hn⟩ := e2 j hm
        rw [List.getElem?_map, h2, h1.head z] at hn
        cases hn
      have hne : ws.map (K40.col j) ≠ [] := fun z => by
        cases ws with
        | nil => cases hx
        | cons _ _ => cases z
      have hflat := ev_top h1 hlast hne hpop
      rw [ec]
      refine ⟨ev_wf _ _ _ h1 hlast (fun l e => nomatch e) (fun _ => hpop), ?_, ?_⟩
      · rw [e1, hflat, List.getElem?_zipWith, h2, hm]
      · rw [hflat]
        cases mv with
        | stay => exact Nat.le_succ_of_le h3
        | pop =>
          show (List.drop 1 _).length ≤ _
          rw [List.length_drop]
          omega
        | push n => exact Nat.succ_le_succ h3
theorem at_all {E : Eat} {w : List Int} (oE : Ok E) : ∀ (t : Nat), t < w.length → At E w t (full (rowFed E) t (w.map (rowFed E).beg))
  | 0, _ => at_zero E w
  | t + 1, h => by
    rw [full_succ]
    exact at_succ oE (at_all oE t (by omega)) h
/-- WHAT THE FED ROW SAYS -/
theorem fed_said {E : Eat} {w : List Int} (oE : Ok E) {tick : Nat} (h : tick < w.length) : saidL (rowFed E) w tick = some (takes E (w.take (tick + 1))) := by
  rw [said_full _ _ h]
  have a := at_all oE tick h
  obtain ⟨x, hx⟩ : ∃ x, (full (rowFed E) tick (w.map (rowFed E).beg)).head? = some x := by
    cases q : full (rowFed E) tick (w.map (rowFed E).beg) with
    | nil =>
      have := a.len
      rw [q] at this
      simp at this
      omega
    | cons x ys => exact ⟨x, rfl⟩
  rw [hx]
  show some (yesOf E (doneW E x).1) = some (yesOf E _)
  rw [(done_at oE a h hx).1]
end K40
end
section
set_option Elab.async false
set_option linter.all false
set_option maxRecDepth 100000
set_option maxHeartbeats 4000000
namespace KR
open PySem L2

/-- all that was tracked is as it was, but what stands at S -/
def Fr (S : List Addr) (H H' : Hp) : Prop := ∀ b o, H b = some o → b ∉ S → H' b = some o
/-- tuples stay -/
def Et (H H' : Hp) : Prop := ∀ b xs, H b = some (.tup xs) → H' b = some (.tup xs)
theorem Et.refl (H : Hp) : Et H H := fun _ _ h => h
theorem Et.trans {H H1 H2 : Hp} (a : Et H H1) (b : Et H1 H2) : Et H H2 := fun c xs h => b c xs (a c xs h)
theorem Same.et {H H' : Hp} (a : Same H H') : Et H H' := fun b xs h => a b _ h
theorem Et.new {H : Hp} {p : Addr} {o : HO} (h : H p = none) : Et H (upd H p o) := fun b xs e => by
  rw [upd_ne (ne_of_none e h)]
  exact e
theorem Et.lst {H : Hp} {p : Addr} {o : HO} {ys : List V} (h : H p = some (.lst ys)) : Et H (upd H p o) := fun b xs e => by
  rw [upd_ne (ne_of e h (by intro z; cases z))]
  exact e
theorem Fr.refl (S : List Addr) (H : Hp) : Fr S H H := fun _ _ h _ => h
theorem Fr.trans {S : List Addr} {H H1 H2 : Hp} (a : Fr S H H1) (b : Fr S H1 H2) : Fr S H H2 := fun c o h n => b c o (a c o h n) n
theorem Fr.of {S : List Addr} {H H' : Hp} (a : Same H H') : Fr S H H' := fun b o h _ => a b o h
theorem Fr.mono {S T : List Addr} {H H' : Hp} (a : Fr S H H') (h : ∀ x ∈ S, x ∈ T) : Fr T H H' := fun b o e n => a b o e fun z => n (h b z)
theorem Fr.set {S : List Addr} {H H' : Hp} {p : Addr} {o : HO} (a : Fr S H H') (h : p ∈ S) : Fr S H (upd H' p o) := fun b u e n => by
  rw [upd_ne (show b ≠ p from fun z => n (by rw [z]; exact h))]
  exact a b u e n
theorem Fr.new {S : List Addr} {H H' : Hp} {p : Addr} {o : HO} (a : Fr S H H') (h : H p = none) : Fr S H (upd H' p o) := fun b u e n => by
  rw [upd_ne (ne_of_none e h)]
  exact a b u e n
theorem Fr.free {S : List Addr} {H H' : Hp} {p : Addr} (a : Fr S H H') (h : H' p = none) (n : p ∉ S) : H p = none := by
  cases q : H p with
  | none => rfl
  | some o =>
    rw [a p o q n] at h
    cases h
theorem Fr.et {S : List Addr} {H H' : Hp} (a : Fr S H H') (h : ∀ x ∈ S, ∀ xs, H x ≠ some (.tup xs)) : Et H H' := fun b xs e => a b _ e fun z => h b z xs e
theorem Same.new {H : Hp} {p : Addr} {o : HO} (h : H p = none) : Same H (upd H p o) := fun b u e => by
  rw [upd_ne (ne_of_none e h)]
  exact e
theorem Same.mut {H H' : Hp} {p : Addr} {o : HO} (a : Same H H') (h : H p = none) : Same H (upd H' p o) := fun b u e => by
  rw [upd_ne (ne_of_none e h)]
  exact a b u e
/-- a new object: where it stands, what was -/
theorem nw {H : Hp} {o : HO} {Q : VK} (k : ∀ p H', H p = none → Same H H' → H' p = some o → Q (.ref p) H') : ∀ p, H p = none → Q (.ref p) (upd H p o) :=
  fun p hp => k p _ hp (Same.new hp) upd_same

/-! ### immutable data -/
mutual
inductive Rp (H : Hp) : V → PyData → Prop
  | non : Rp H .non .none
  | bl (b : Bool) : Rp H (.bl b) (.bool b)
  | int (i : Int) : Rp H (.int i) (.int i)
  | str (x : Str) : Rp H (.str x) (.str x)
  | tup {a : Addr} {xs : List V} {ds : List PyData} : H a = some (.tup xs) → Ra H xs ds → Rp H (.ref a) (.tuple ds)
inductive Ra (H : Hp) : List V → List PyData → Prop
  | nil : Ra H [] []
  | cons {v : V} {vs : List V} {d : PyData} {ds : List PyData} : Rp H v d → Ra H vs ds → Ra H (v :: vs) (d :: ds)
end
mutual
theorem Rp.mono {H H' : Hp} (e : Et H H') : ∀ {v : V} {d : PyData}, Rp H v d → Rp H' v d
  | _, _, .non => .non
  | _, _, .bl b => .bl b
  | _, _, .int i => .int i
  | _, _, .str x => .str x
  | _, _, .tup h r => .tup (e _ _ h) (Ra.mono e r)
theorem Ra.mono {H H' : Hp} (e : Et H H') : ∀ {vs : List V} {ds : List PyData}, Ra H vs ds → Ra H' vs ds
  | _, _, .nil => .nil
  | _, _, .cons r t => .cons (Rp.mono e r) (Ra.mono e t)
end
mutual
theorem Rp.dp {K : PySem.W.Frag} {H : Hp} : ∀ {v : V} {d : PyData}, Rp H v d → Dp K H v d
  | _, _, .non => .non
  | _, _, .bl b => .bl b
  | _, _, .int i => .int i
  | _, _, .str x => .str x
  | _, _, .tup h r => .tup (SqT.of h) (Ra.dp r)
theorem Ra.dp {K : PySem.W.Frag} {H : Hp} : ∀ {vs : List V} {ds : List PyData}, Ra H vs ds → DpAll K H vs ds
  | _, _, .nil => .nil
  | _, _, .cons r t => .cons (Rp.dp r) (Ra.dp t)
end
theorem Rp.int_inv {H : Hp} {v : V} {i : Int} (h : Rp H v (.int i)) : v = .int i := by cases h; rfl
theorem Rp.non_inv {H : Hp} {v : V} (h : Rp H v .none) : v = .non := by cases h; rfl
theorem Rp.str_inv {H : Hp} {v : V} {x : Str} (h : Rp H v (.str x)) : v = .str x := by cases h; rfl
theorem Rp.tup_inv {H : Hp} {v : V} {ds : List PyData} (h : Rp H v (.tuple ds)) : ∃ a xs, v = .ref a ∧ H a = some (.tup xs) ∧ Ra H xs ds := by
  cases h with
  | tup h r => exact ⟨_, _, rfl, h, r⟩
theorem Ra.len {H : Hp} : ∀ {vs : List V} {ds : List PyData}, Ra H vs ds → vs.length = ds.length
  | _, _, .nil => rfl
  | _, _, .cons _ t => congrArg Nat.succ (Ra.len t)
theorem Ra.get {H : Hp} : ∀ {vs : List V} {ds : List PyData} {i : Nat} {v : V}, Ra H vs ds → vs[i]? = some v → ∃ d, ds[i]? = some d ∧ Rp H v d
  | _, _, i, v, .nil, e => by simp at e
  | _, _, 0, v, .cons r _, e => by
    have e' := Option.some.inj e
    subst e'
    exact ⟨_, rfl, r⟩
  | _, _, i + 1, v, .cons _ t, e => Ra.get (i := i) (v := v) t e
theorem Ra.get' {H : Hp} : ∀ {vs : List V} {ds : List PyData} {i : Nat} {d : PyData}, Ra H vs ds → ds[i]? = some d → ∃ v, vs[i]? = some v ∧ Rp H v d
  | _, _, i, v, .nil, e => by simp at e
  | _, _, 0, v, .cons r _, e => by
    have e' := Option.some.inj e
    subst e'
    exact ⟨_, rfl, r⟩
  | _, _, i + 1, v, .cons _ t, e => Ra.get' (i := i) t e
theorem Ra.app {H : Hp} : ∀ {vs ws : List V} {ds es : List PyData}, Ra H vs ds → Ra H ws es → Ra H (vs ++ ws) (ds ++ es)
  | _, _, _, _, .nil, s => s
  | _, _, _, _, .cons r t, s => .cons r (Ra.app t s)
theorem Ra.snoc {H : Hp} {vs : List V} {ds : List PyData} {v : V} {d : PyData} (h : Ra H vs ds) (r : Rp H v d) : Ra H (vs ++ [v]) (ds ++ [d]) := h.app (.cons r .nil)
theorem Ra.of_all {H : Hp} {vs : List V} {ds : List PyData} (hl : vs.length = ds.length) (h : ∀ (i : Nat) (v : V) (d : PyData), vs[i]? = some v → ds[i]? = some d → Rp H v d) : Ra H vs ds := by
  induction vs generalizing ds with
  | nil =>
    cases ds with
    | nil => exact .nil
    | cons _ _ => cases hl
  | cons v vs ih =>
    cases ds with
    | nil => cases hl
    | cons d ds => exact .cons (h 0 v d rfl rfl) (ih (Nat.succ.inj hl) fun i w e h1 h2 => h (i + 1) w e h1 h2)
theorem Ra.ints {H : Hp} : ∀ (ns : List Int), Ra H (ns.map V.int) (ns.map PyData.int)
  | [] => .nil
  | n :: ns => .cons (.int n) (Ra.ints ns)
theorem Ra.ints_inv {H : Hp} : ∀ {ns : List Int} {vs : List V}, Ra H vs (ns.map PyData.int) → vs = ns.map V.int
  | [], _, .nil => rfl
  | n :: ns, _, .cons r t => by rw [Rp.int_inv r, Ra.ints_inv t]; rfl
theorem Ra.take {H : Hp} : ∀ {vs : List V} {ds : List PyData} (n : Nat), Ra H vs ds → Ra H (vs.take n) (ds.take n)
  | _, _, 0, _ => .nil
  | _, _, _ + 1, .nil => .nil
  | _, _, n + 1, .cons r t => .cons r (Ra.take n t)
theorem Ra.drop {H : Hp} : ∀ {vs : List V} {ds : List PyData} (n : Nat), Ra H vs ds → Ra H (vs.drop n) (ds.drop n)
  | _, _, 0, r => r
  | _, _, _ + 1, .nil => .nil
  | _, _, n + 1, .cons _ t => Ra.drop n t
/-- the new tuple of such -/
theorem Rp.mk {H H' : Hp} {p : Addr} {xs : List V} {ds : List PyData} (h : H' p = some (.tup xs)) (e : Et H H') (r : Ra H xs ds) : Rp H' (.ref p) (.tuple ds) := .tup h (r.mono e)
end KR
end
section
set_option Elab.async false
set_option linter.all false
set_option maxRecDepth 100000
set_option maxHeartbeats 4000000
namespace KR
open PySem PySem.Spec PyProof.Rows L2
section
variable {X : Cx} {pos : Pos}
/-- a range that stands, walked -/
def iRngV (te : TE) : TI := fun σ H R => te σ H fun x H1 => ∃ (a : Addr) (lo hi : Int), x = .ref a ∧ H1 a = some (.rng lo hi) ∧ (-(2 ^ 62) ≤ lo ∧ lo < 2 ^ 62 ∧ -(2 ^ 62) ≤ hi ∧ hi < 2 ^ 62) ∧ R (Itr lo (hi - lo).toNat) H1
theorem pi_rng {tg e : Expr} {te : TE} (he : PE X e te) : PI X tg e (iRngV te) := by
  refine ⟨fun pins s σ H R I h => ?_⟩
  refine thn (he.run pins s σ H _ I h) fun v s1 ⟨x, H1, I1, r1, a, lo, hi, ex, ha, ⟨b1, b2, b3, b4⟩, q⟩ => ?_
  subst ex
  cases r1
  obtain ⟨t, u, w, hob⟩ := I1.hok a _ ha
  refine wpAny_pyIter_range (show IsRange s1.heap a lo hi 1 t u w from hob) (small_one b1 b2 b3 b4) ?_
  have kp : ∀ (o : Obj) (b : Addr) (z : Obj), s1.heap.get? b = some z → (s1.heap.push o).get? b = some z := fun o b z e => Heap.get?_push_of_some _ e
  refine ⟨s1.heap.objs.size, [s1.heap.objs.size], _, _, H1, rfl, I1.kept (t' := s1.toks) (kp _), turn_range _ lo (hi - lo).toNat, ?_, fun b hb => ?_, q⟩
  · have e1 : lo + ((0 : Nat) : Int) * 1 = lo := by simp
    have e2 : (((hi - lo).toNat : Nat) : Int) - ((0 : Nat) : Int) = Builtin.Range.rangeSize lo hi 1 := by
      rw [rangeSize_one]
      split <;> omega
    show IsRangeIter _ _ (lo + ((0 : Nat) : Int) * 1) ((((hi - lo).toNat : Nat) : Int) - ((0 : Nat) : Int)) 1
    rw [e1, e2]
    exact Heap.get?_push_size _ rfl
  · have e : b = s1.heap.objs.size := by simpa using hb
    subst e
    exact I1.fpOk (Nat.le_refl _) (I1.hok.fresh (Nat.le_refl _))
/-- a, b = e, targets that are attributes -/
def gFld (K : PySem.W.Frag) (to : TE) (f : Str) : TG := fun v σ H Q => to σ H fun x H2 => ∃ (a C dx : Addr) (fs : List (Str × V)), x = .ref a ∧ H2 a = some (.ins C dx fs) ∧ Cls K C ∧ NoAttr K C f ∧ fs.length < 1000 ∧ Q σ (upd H2 a (.ins C dx (putF f v fs)))
theorem pg_fld {o : Expr} {to : TE} {f : Str} (ho : PE X o to)
    (ha : ∀ v, assign (.Attribute o f pos) X.env v = (do
      let ov ← holding [v] (eval o X.env)
      standAt pos.atName
      holding [v, ov] (setAttr ov f v)
      release [v, ov] []) := by intro _; rfl) : PG X (.Attribute o f pos) (gFld X.K to f) := by
  refine ⟨fun pins s σ H v u Q I r h => ?_⟩
  rw [ha]
  refine wpAny_bind (wpAny_holding (thn (ho.run pins s σ H _ I h) fun ov s1 ⟨x, H1, I1, r1, a, C, dx, fs, ex, e1, c, n, l, q⟩ => ?_))
  subst ex
  cases r1
  refine wpAny_bind (wpAny_standAt (wpAny_bind (wpAny_holding (setattr_ok I1 e1 c n l r fun s2 I2 => ?_))))
  exact wpAny_release ⟨σ, _, I2, q⟩
theorem same_mul (l : Addr) (items : Array Value) (n : Nat) (dd : Option Addr) (sl : Array (Option Value)) (u : Tok) :
    Meets (Builtin.«tuple.__mul__» ⟨[.ref l, .int 1 u], []⟩) (fun _ R s => s.heap.get? l = some { cls := .type "tuple", dict := dd, data := .seq items n, slots := sl } ∧ R (.ok (.ret (Value.ref l))) s) :=
  .of_wp fun prog w A R s h => by
    obtain ⟨hp, g, d, tk, os⟩ := s
    obtain ⟨hl, h⟩ := h
    have f1 := AutoSeq1.idx_int
    wp_walk using wpAny_loadPart' hl
    repeat (first
      | (refine wpAny_ite_false (by simp) ?_; wp_walk using wpAny_loadPart' hl)
      | (refine wpAny_ite_true (by simp) ?_; wp_walk using wpAny_loadPart' hl))
    all_goals (exact ⟨_, rfl, h⟩)
theorem zero_mul (l : Addr) (items : Array Value) (n : Nat) (dd : Option Addr) (sl : Array (Option Value)) (u : Tok) (hne : items.isEmpty = false) :
    Meets (Builtin.«tuple.__mul__» ⟨[.ref l, .int 0 u], []⟩) (fun _ R s => s.heap.get? l = some { cls := .type "tuple", dict := dd, data := .seq items n, slots := sl } ∧
      R (.ok (.ret (Value.ref s.heap.objs.size))) { s with heap := s.heap.push { cls := Value.type "tuple", data := Data.seq #[] }, toks := s.toks }) :=
  .of_wp fun prog w A R s h => by
    obtain ⟨hp, g, d, tk, os⟩ := s
    obtain ⟨hl, h⟩ := h
    have f1 := AutoSeq1.idx_int
    wp_walk using wpAny_loadPart' hl
    repeat (first
      | (refine wpAny_ite_false (by simp [hne]) ?_; wp_walk using wpAny_loadPart' hl)
      | (refine wpAny_ite_true (by simp) ?_; wp_walk using wpAny_loadPart' hl))
    all_goals (first | exact ⟨_, rfl, h⟩ | skip)
/-- a tuple of one item, nought, one or two times -/
def rRepN (K : PySem.W.Frag) : R2 := fun x y H Q => ∃ (l : Addr) (n : Nat) (v : V), x = .ref l ∧ y = .int (n : Int) ∧ H l = some (.tup [v]) ∧ n ≤ 2 ∧ ∀ p H', Same H H' → H' p = some (.tup (List.replicate n v)) → Q (.ref p) H'
theorem op_repN : OpR X (binaryOp .Mult) (rRepN X.K) := by
  intro pins s σ H x y v u Q I rx ry h
  obtain ⟨l, n, a, ex, ey, hT, hn, q⟩ := h
  subst ex ey
  by_cases h2 : n = 2
  · subst h2
    refine op_repT pins s σ H _ _ v u Q I rx ry ⟨l, 2, [a], rfl, rfl, SqT.of hT, by simp, by decide, by decide, by simp, fun p hp => ?_⟩
    exact q p _ (Same.new hp) (by rw [upd_same]; rfl)
  · cases rx
    obtain ⟨t, rfl⟩ := ry
    obtain ⟨its, r, ⟨⟨cls, dd, data, sl⟩, ho, hc, m, hd⟩, hs⟩ := I.tuple (SqT.of hT)
    simp only at hc hd
    subst hc hd
    have h01 : n = 0 ∨ n = 1 := by omega
    have hi : its.toArray.isEmpty = false := by
      cases r with
      | cons _ r' => rfl
    rcases h01 with rfl | rfl
    · refine wpAny_binaryOp_repeat_ref (T := "tuple") (U := "int") (by decide) ⟨_, ho, rfl⟩ (fun s' => typeIs_int s' _ t) noFill_tuple_mul F.fills_int_mul F.slot_int_rmul repeat_tuple F.slot_int_index.lookup
        (call_meets F.slot_int_rmul (typeIs_int s _ t) F.entry_int_rmul (F.args_int_rmul_2 _ _) (int_rmul_tuple _ t l its.toArray m dd sl)
          ⟨ho, rfl, ⟨_, ho, rfl⟩, call_meets F.slot_tuple_mul ⟨_, ho, rfl⟩ F.entry_tuple_mul (F.args_tuple_mul_2 _ _) (zero_mul l its.toArray m dd sl t hi) ⟨ho, ?_⟩⟩)
      have hn0 : H s.heap.objs.size = Option.none := I.hok.fresh (Nat.le_refl _)
      refine ⟨.ref s.heap.objs.size, _, I.laid (t' := s.toks) (o := .tup []) (fun b ob q => Heap.get?_push_of_some _ q) (Nat.le_refl _) ⟨Nat.zero_le _, [], .nil, IsTup.new _ _⟩, rfl, q _ _ (Same.new hn0) upd_same⟩
    · refine wpAny_binaryOp_repeat_ref (T := "tuple") (U := "int") (by decide) ⟨_, ho, rfl⟩ (fun s' => typeIs_int s' _ t) noFill_tuple_mul F.fills_int_mul F.slot_int_rmul repeat_tuple F.slot_int_index.lookup
        (call_meets F.slot_int_rmul (typeIs_int s _ t) F.entry_int_rmul (F.args_int_rmul_2 _ _) (int_rmul_tuple _ t l its.toArray m dd sl)
          ⟨ho, rfl, ⟨_, ho, rfl⟩, call_meets F.slot_tuple_mul ⟨_, ho, rfl⟩ F.entry_tuple_mul (F.args_tuple_mul_2 _ _) (same_mul l its.toArray m dd sl t) ⟨ho, ?_⟩⟩)
      exact ⟨.ref l, H, I.tok _, rfl, q _ _ (Same.refl H) hT⟩
end
end KR
end
section
set_option Elab.async false
set_option linter.all false
set_option maxRecDepth 100000
set_option maxHeartbeats 4000000
namespace KR
open PySem PySem.Spec PyProof.Rows L2

/-! ### data as keys of a dict -/
mutual
def nk : PyData → NestedKey
  | .int i => .num i
  | .str x => .text x
  | .bool b => .num (if b = true then 1 else 0)
  | .tuple ds => .tup (nks ds)
  | _ => .none
def nks : List PyData → List NestedKey
  | [] => []
  | d :: ds => nk d :: nks ds
end
section
variable {X : Cx} {pins : List (Addr × Obj)} {σ : L2.St} {H : Hp} {s : Shared}
mutual
theorem Rp.nest (I : Inv X pins σ H s) : ∀ {v : V} {d : PyData} {u : Value}, Rp H v d → RelV v u → NestedIs s.heap (nk d) u
  | _, _, _, .non, r => by
    cases r
    exact .none
  | _, _, _, .bl b, r => by
    cases r
    exact .bool rfl
  | _, _, _, .int i, r => by
    obtain ⟨t, rfl⟩ := r
    exact .int i t
  | _, _, _, .str x, r => by
    obtain ⟨t, rfl⟩ := r
    exact .text x t
  | _, _, _, .tup h q, r => by
    cases r
    obtain ⟨_, its, rv, o, ho, hc, n, hd⟩ := I.hok _ _ h
    exact .tup ho hc hd (by simpa using Ra.nest I q rv)
theorem Ra.nest (I : Inv X pins σ H s) : ∀ {vs : List V} {ds : List PyData} {us : List Value}, Ra H vs ds → Vals vs us → NestedAll s.heap (nks ds) us
  | _, _, _, .nil, .nil => .nil
  | _, _, _, .cons a b, .cons r t => .cons (Rp.nest I a r) (Ra.nest I b t)
end
end
open K40
def dTop : Option Int → PyData
  | none => .none
  | some n => .int n
def dMv : Mv → PyData
  | .stay => .none
  | .pop => .str "pop"
  | .push n => .tuple [.str "push", .int n]
def dKey (k : K40.Key) : PyData := .tuple [.int k.st, .int k.lt, .tuple (k.tops.map dTop)]
def dDon (d : Don) : PyData := .tuple [.int d.st, .tuple (d.mvs.map dMv)]
def dRule (r : K40.Key × Don) : PyData := .tuple [dKey r.1, dDon r.2]
def nKey (k : K40.Key) : NestedKey := nk (dKey k)
theorem nks_tops : ∀ {a b : List (Option Int)}, nks (a.map dTop) = nks (b.map dTop) → a = b
  | [], [], _ => rfl
  | [], _ :: _, h => by simp [nks] at h
  | _ :: _, [], h => by simp [nks] at h
  | x :: a, y :: b, h => by
    simp only [List.map_cons, nks, List.cons.injEq] at h
    rw [nks_tops h.2]
    congr 1
    cases x <;> cases y <;> simp [dTop, nk] at h ⊢
    exact h.1
theorem nKey_inj {k k' : K40.Key} (h : nKey k = nKey k') : k = k' := by
  unfold nKey dKey at h
  simp only [nk, nks, NestedKey.tup.injEq, List.cons.injEq, NestedKey.num.injEq, and_true] at h
  obtain ⟨h1, h2, h3⟩ := h
  cases k; cases k'
  simp at h1 h2 h3 ⊢
  exact ⟨h1, h2, nks_tops h3⟩
theorem depth_tops : ∀ a : List (Option Int), NestedKey.depthAll (nks (a.map dTop)) = 0
  | [] => rfl
  | x :: a => by
    simp only [List.map_cons, nks, NestedKey.depthAll, depth_tops a]
    cases x <;> rfl
theorem nKey_depth (k : K40.Key) : (nKey k).depth ≤ 8 := by
  unfold nKey dKey
  simp only [nk, nks, NestedKey.depth, NestedKey.depthAll, depth_tops]
  omega

/-! ### the book: a dict by rules -/
def BookO (P : Program) (w : World) (d : Addr) (ps : List (NestedKey × Addr × Addr)) : HO :=
  .ext fun h => ∃ o es ep, h.get? d = some o ∧ o.ExactDict ∧ o.data = .dict es ep ∧ es.toList = ps.map fun x => entryOfKey (nestedKind P w) (x.1, x.2.1, .ref x.2.2)
/-- its entries are the rules -/
def BookOf (H : Hp) : List (NestedKey × Addr × Addr) → List (K40.Key × Don) → Prop :=
  Paired fun x r => x.1 = nKey r.1 ∧ Rp H (.ref x.2.1) (dKey r.1) ∧ Rp H (.ref x.2.2) (dDon r.2)
def BookAt (P : Program) (w : World) (H : Hp) (d : Addr) (rs : List (K40.Key × Don)) : Prop := ∃ ps, H d = some (BookO P w d ps) ∧ (d == sysModules) = false ∧ BookOf H ps rs
theorem BookOf.mono {H H' : Hp} (e : Et H H') {ps rs} (h : BookOf H ps rs) : BookOf H' ps rs := Paired.mapP h fun _ _ q => ⟨q.1, q.2.1.mono e, q.2.2.mono e⟩
theorem BookAt.mono {P : Program} {w : World} {H H' : Hp} {d : Addr} {rs} (e : Et H H') (h : BookAt P w H d rs) (hd : ∀ o, H d = some o → H' d = some o) : BookAt P w H' d rs := by
  obtain ⟨ps, h1, h2, h3⟩ := h
  exact ⟨ps, hd _ h1, h2, h3.mono e⟩
/-- what a look-up gives -/
def foundV (H : Hp) (v : V) : Option Don → Prop
  | none => v = .non
  | some d => Rp H v (dDon d)
section
variable {X : Cx} {pins : List (Addr × Obj)} {σ : L2.St} {H : Hp} {s : Shared}
theorem book_look {ps : List (NestedKey × Addr × Addr)} {rs : List (K40.Key × Don)} (k : K40.Key) (h : BookOf H ps rs) :
    ∃ v, foundV H v (look rs k) ∧ RelV v ((valueAt (pairsH (ps.map fun x => (x.1, x.2.1, Value.ref x.2.2))) (nKey k)).getD .none) := by
  induction h with
  | nil => exact ⟨.non, rfl, rfl⟩
  | @cons x r xs rs q t ih =>
    obtain ⟨x1, x2, x3⟩ := x
    obtain ⟨q1, q2, q3⟩ := q
    simp only at q1 q2 q3
    subst q1
    by_cases e : r.1 = k
    · refine ⟨.ref x3, ?_, ?_⟩
      · unfold look
        rw [List.find?_cons, decide_eq_true e]
        exact q3
      · unfold pairsH valueAt
        simp [e]
        rfl
    · have ne : ¬ nKey r.1 = nKey k := fun z => e (nKey_inj z)
      obtain ⟨v, h1, h2⟩ := ih
      refine ⟨v, ?_, ?_⟩
      · have : look (r :: rs) k = look rs k := by
          unfold look
          rw [List.find?_cons, decide_eq_false e]
        rw [this]
        exact h1
      · unfold pairsH valueAt at h2 ⊢
        simp only [List.map_cons, List.find?_cons, decide_eq_false ne]
        exact h2
theorem book_nodup {ps : List (NestedKey × Addr × Addr)} {rs : List (K40.Key × Don)} (h : BookOf H ps rs) (nd : (rs.map (·.1)).Nodup) : (ps.map (·.1)).Nodup := by
  have e : ps.map (·.1) = (rs.map (·.1)).map nKey := by
    clear nd
    induction h with
    | nil => rfl
    | cons q t ih =>
      rw [List.map_cons, List.map_cons, List.map_cons, ih, q.1]
  rw [e]
  exact K40.nodup_map_of nd fun x _ y _ z => nKey_inj z
theorem book_mem {ps : List (NestedKey × Addr × Addr)} {rs : List (K40.Key × Don)} (h3 : BookOf H ps rs) {y} (hy : y ∈ ps) : ∃ r : K40.Key × Don, y.1 = nKey r.1 ∧ Rp H (.ref y.2.1) (dKey r.1) ∧ Rp H (.ref y.2.2) (dDon r.2) := by
  induction h3 with
  | nil => cases hy
  | cons q t ih =>
    rcases List.mem_cons.mp hy with e | e
    · exact ⟨_, e ▸ q⟩
    · exact ih e
theorem book_keyed (I : Inv X pins σ H s) {d : Addr} {ps : List (NestedKey × Addr × Addr)} {rs : List (K40.Key × Don)} (h1 : H d = some (BookO X.prog X.w d ps)) (h3 : BookOf H ps rs) (nd : (rs.map (·.1)).Nodup) :
    s.heap.DictKeyed (nestedKind X.prog X.w) d (pairsH (ps.map fun x => (x.1, x.2.1, Value.ref x.2.2))) := by
  obtain ⟨⟨o, es, ep, ho, hx, hd, he⟩, _, _⟩ := I.hok d _ h1
  refine ⟨_, ⟨o, es, ep, ho, hx, hd, ?_, ?_, ?_⟩, rfl⟩
  · rw [he, List.map_map]
    rfl
  · intro x hx
    obtain ⟨y, hy, rfl⟩ := List.mem_map.mp hx
    obtain ⟨r, hr⟩ := book_mem h3 hy
    refine ⟨?_, ?_⟩
    · show NestedIs s.heap y.1 (.ref y.2.1)
      rw [hr.1]
      exact Rp.nest I hr.2.1 rfl
    · show y.1.depth ≤ 8
      rw [hr.1]
      exact nKey_depth _
  · rw [List.map_map]
    exact book_nodup h3 nd
/-- book.get(key) -/
def tBGet (P : Program) (w : World) (td ty : TE) : TE := fun σ H Q => td σ H fun x H1 => ∃ (d : Addr) (rs : List (K40.Key × Don)), x = .ref d ∧ BookAt P w H1 d rs ∧ (rs.map (·.1)).Nodup ∧
  ty σ H1 fun y H2 => ∃ (k : K40.Key), BookAt P w H2 d rs ∧ Rp H2 y (dKey k) ∧ ∀ v, foundV H2 v (look rs k) → Q v H2
theorem pe_bget {o e : Expr} {apos cpos : Pos} {td ty : TE} (hu : X.A.units + 64 < cLine) (ho : PE X o td) (he : PE X e ty) (m : M1 X o "get" apos e cpos) : PE X (.Call (.Attribute o "get" apos) [e] [] cpos) (tBGet X.prog X.w td ty) := by
  refine ⟨fun pins s σ H Q I h => ?_⟩
  refine wpAny_Call_method m.base m.few m.line PySem.F.plainAttrs_dict PySem.F.slot_dict_get PySem.F.type_dict_get (thn (ho.run pins s σ H _ I h) fun u s1 ⟨x, H1, I1, rx, d, rs, ex, bk, nd, q1⟩ => ?_)
  subst ex
  obtain rfl : u = Value.ref d := rx
  obtain ⟨ps, p1, p2, p3⟩ := bk
  obtain ⟨⟨ob, es, ep, hob, hex, hdat, _⟩, _, _⟩ := I1.hok d _ p1
  refine ⟨⟨ob, hob, hex.1⟩, fun a ea => ?_, ?_⟩
  · cases ea
    exact ⟨ob, hob, hex.2.1⟩
  rw [m.trees]
  refine Calls.callWith_builtin rfl (Calls.evalArgs_plain (Calls.spliced_cons (thn (he.run pins s1 σ H1 _ I1 q1) fun iv s2 ⟨y, H2, I2, ry, k, bk2, hk, q2⟩ => Calls.spliced_nil ?_)))
  obtain ⟨ps2, r1, r2, r3⟩ := bk2
  obtain ⟨a, xs, rfl, ha, hxs⟩ := Rp.tup_inv (show Rp H2 y (.tuple [.int k.st, .int k.lt, .tuple (k.tops.map dTop)]) from hk)
  cases ry
  obtain ⟨v, f1, f2⟩ := book_look k r3
  refine get_keyed (knd := nestedKind X.prog X.w) (k := nKey k) (show X.A.in1.units + 8 < cLine by show X.A.units + 1 + 8 < cLine; omega) ⟨Rp.nest I2 hk rfl, nKey_depth k⟩ r2 (book_keyed I2 r1 r3 nd) ?_
  exact ⟨v, H2, I2.tok _, f2, q2 v f1⟩

/-! ### dict(a tuple of rules) -/
theorem sys_lt (I : Inv X pins σ H s) : sysModules < s.heap.objs.size := by
  have h : mainGlobals < X.base.objs.size := I.ok.mod.glob.lt
  exact Nat.lt_of_lt_of_le (Nat.lt_trans (by decide) h) (Nat.le_trans I.ok.bsz I.sz)
/-- a tuple whose object is known to bear no dict of its own -/
def TupX (H : Hp) (a : Addr) (xs : List V) : Prop := ∃ o : Obj, o.dict = none ∧ o.cls = .type "tuple" ∧ H a = some (.frz o (.tup xs))
theorem TupX.sq {K : PySem.W.Frag} {a : Addr} {xs : List V} (h : TupX H a xs) : SqT K H a xs := by
  obtain ⟨o, _, _, h⟩ := h
  exact .inl (.inr ⟨o, h⟩)
theorem merge_all {K : Type} [DecidableEq K] : ∀ (ps acc : List (K × Addr × Value)), ((acc ++ ps).map (·.1)).Nodup → storedAllH acc ps = acc ++ ps
  | [], acc, _ => by simp [storedAllH]
  | p :: ps, acc, h => by
    have hp : ∀ x ∈ acc, x.1 ≠ p.1 := fun x hx e => by
      rw [List.map_append, List.nodup_append] at h
      exact h.2.2 _ (List.mem_map.mpr ⟨x, hx, rfl⟩) p.1 (by simp) e
    have e1 : storedH acc p.1 p.2.1 p.2.2 = acc ++ [p] := by
      have none : atKey acc p.1 = Option.none := by
        clear h
        induction acc with
        | nil => rfl
        | cons x xs ih =>
          have := hp x (List.mem_cons_self ..)
          have ih' := ih fun y hy => hp y (List.mem_cons_of_mem _ hy)
          unfold atKey at ih' ⊢
          simp [this]
          simpa using ih'
      unfold storedH
      rw [none]
      rfl
    show storedAllH (storedH acc p.1 p.2.1 p.2.2) ps = _
    rw [e1, merge_all ps (acc ++ [p]) (by simpa using h)]
    simp
/-- each rule's key and what it tells stand at addresses -/
theorem rules_at : ∀ {rs : List (K40.Key × Don)} {xs : List V}, Ra H xs (rs.map dRule) → ∃ ps : List (NestedKey × Addr × Addr), ∃ Ts : List Addr, xs = Ts.map V.ref ∧ BookOf H ps rs ∧ Paired (fun T (x : NestedKey × Addr × Addr) => H T = some (.tup [.ref x.2.1, .ref x.2.2])) Ts ps
  | [], _, .nil => ⟨[], [], rfl, .nil, .nil⟩
  | r :: rs, _, .cons a t => by
    obtain ⟨ps, Ts, e, b, q⟩ := rules_at t
    obtain ⟨T, ys, rfl, hT, hy⟩ := Rp.tup_inv (show Rp H _ (.tuple [dKey r.1, dDon r.2]) from a)
    cases hy with
    | cons k1 k2 =>
      cases k2 with
      | cons d1 d2 =>
        cases d2
        obtain ⟨ka, kx, rfl, _, _⟩ := Rp.tup_inv (show Rp H _ (.tuple [.int r.1.st, .int r.1.lt, .tuple (r.1.tops.map dTop)]) from k1)
        obtain ⟨da, dx, rfl, _, _⟩ := Rp.tup_inv (show Rp H _ (.tuple [.int r.2.st, .tuple (r.2.mvs.map dMv)]) from d1)
        exact ⟨(nKey r.1, ka, da) :: ps, T :: Ts, by rw [e]; rfl, .cons ⟨rfl, k1, d1⟩ b, .cons hT q⟩
theorem paired_get {α β : Type} {F : α → β → Prop} : ∀ {l : List α} {m : List β} {i : Nat} {x : β}, Paired F l m → m[i]? = some x → ∃ y, l[i]? = some y ∧ F y x
  | _, _, i, x, .nil, e => by simp at e
  | _, _, 0, x, .cons r _, e => by
    cases e
    exact ⟨_, rfl, r⟩
  | _, _, i + 1, x, .cons _ t, e => paired_get (i := i) t e
theorem refs_eq : ∀ {Ts : List Addr} {its : List Value}, Vals (Ts.map V.ref) its → its = Ts.map Value.ref
  | [], _, .nil => rfl
  | T :: Ts, _, .cons r t => by
    cases r
    rw [refs_eq t]
    rfl
theorem cr_dictRules (hc : X.calm = true) (hu : X.A.units + 64 < cLine) : CallR X (.type "dict") (fun vs H Q => ∃ (r : Addr) (rs : List (K40.Key × Don)) (xs : List V), vs = [.ref r] ∧ TupX H r xs ∧ Ra H xs (rs.map dRule) ∧ (rs.map (·.1)).Nodup ∧
    ∀ d H', H d = none → Same H H' → BookAt X.prog X.w H' d rs → Q (.ref d) H') := by
  intro pins s σ H vs us Q I rv h
  obtain ⟨r, rs, xs, rfl, ⟨o, od, oc, ho⟩, hx, nd, q⟩ := h
  obtain ⟨u, rfl, ru⟩ := vals1 rv
  obtain rfl : u = Value.ref r := ru
  obtain ⟨hob, hz, its, rvs, o', ho', hc', n', hd'⟩ := I.hok r _ ho
  rw [hob] at ho'
  cases ho'
  obtain ⟨ps, Ts, ex, bo, pt⟩ := rules_at hx
  subst ex
  have lenT : Ts.length = ps.length := Paired.length pt
  have eits : its = Ts.map Value.ref := refs_eq rvs
  subst eits
  have hps : ∀ (j : Nat) (x : NestedKey × Addr × Addr), ps[j]? = some x → ∃ T, Ts[j]? = some T ∧ H T = some (.tup [.ref x.2.1, .ref x.2.2]) := fun j x hj => paired_get (F := fun (T : Addr) (x : NestedKey × Addr × Addr) => H T = some (HO.tup [V.ref x.2.1, V.ref x.2.2])) pt hj
  have pairs : PairItems s.heap (Ts.map Value.ref).toArray (fun j => Ts.getD j 0) (ps.map fun x => (Value.ref x.2.1, Value.ref x.2.2)) := by
    refine ⟨by simp [lenT], fun j k v hj => ?_⟩
    rw [List.getElem?_map] at hj
    obtain ⟨x, hx1, e⟩ := Option.map_eq_some_iff.mp hj
    cases e
    obtain ⟨T, hT, hH⟩ := hps j x hx1
    obtain ⟨_, its2, r2, o2, ho2, hc2, n2, hd2⟩ := I.hok _ _ hH
    obtain ⟨u1, u2, rfl, r3, r4⟩ := vals2 r2
    cases r3
    cases r4
    have eT : Ts.getD j 0 = T := by rw [List.getD_eq_getElem?_getD, hT]; rfl
    refine ⟨by simp [hT], .inl ⟨o2, by show s.heap.get? (Ts.getD j 0) = some o2; rw [eT]; exact ho2, hc2, n2, hd2⟩⟩
  have nP := book_nodup bo nd
  refine call_dict_pairsH (knd := nestedKind X.prog X.w) (ps := ps.map fun x => (x.1, x.2.1, Value.ref x.2.2)) (PairArg.tuple r _ _ _) (I.ok.hd hc) (show X.A.in1.in1.units + 8 < cLine by show X.A.units + 1 + 1 + 8 < cLine; omega)
    ⟨⟨o, n', hob, oc, od, hd'⟩, pairs⟩ ⟨by simp, fun i key v hi => ?_⟩ (fun h' hk x hx => ?_) (by
      have : ps.length = (Ts.map V.ref).length := by rw [List.length_map, lenT]
      rw [List.length_map, this]
      exact hz) fun h' tk hD hk => ?_
  · rw [PairRel, List.getElem?_map] at hi
    obtain ⟨x, hx1, e⟩ := Option.map_eq_some_iff.mp hi
    cases e
    exact ⟨x.1, x.2.1, by rw [List.getElem?_map, hx1]; rfl, rfl⟩
  · obtain ⟨y, hy, rfl⟩ := List.mem_map.mp hx
    obtain ⟨r0, hr⟩ := book_mem bo hy
    refine ⟨?_, by show y.1.depth ≤ 8; rw [hr.1]; exact nKey_depth _⟩
    show NestedIs h' y.1 (.ref y.2.1)
    rw [hr.1]
    exact NestedIs.at (fun b ob vs n hb hc => hk b ob (Nat.ne_of_lt (Heap.lt_size hb)) (fun z => nomatch z) hb) _ _ (Rp.nest I hr.2.1 rfl)
  · obtain ⟨ob, es, ep, e1, e2, e3, e4, _, _⟩ := hD
    have nS : H s.heap.objs.size = Option.none := I.hok.fresh (Nat.le_refl _)
    have kp : ∀ (b : Addr) (z : Obj), s.heap.get? b = some z → h'.get? b = some z := fun b z e => hk b z (fun z => nomatch z) e
    have em := merge_all (ps.map fun x => (x.1, x.2.1, Value.ref x.2.2)) [] (by
      rw [List.nil_append, List.map_map]
      exact nP)
    rw [em, List.nil_append] at e4
    refine ⟨.ref s.heap.objs.size, upd H s.heap.objs.size (BookO X.prog X.w s.heap.objs.size ps), I.laid (t' := tk) kp (Nat.le_refl _) ⟨⟨ob, es, ep, e1, e2, e3, ?_⟩, ⟨ob, e1⟩, ?_⟩, rfl, q _ _ nS (Same.new nS) ⟨ps, upd_same, ?_, bo.mono (Et.new nS)⟩⟩
    · rw [e4, List.map_map]
      rfl
    · rintro g1 g2 ⟨a1, a2, a3, a4, a5, a6, a7⟩ st
      exact ⟨a1, a2, a3, st _ a4, a5, a6, a7⟩
    · have := sys_lt I
      exact beq_eq_false_iff_ne.mpr (Nat.ne_of_gt this)
end
end KR
end
section
set_option Elab.async false
set_option linter.all false
set_option maxRecDepth 100000
set_option maxHeartbeats 4000000
/-! sets of nested keys, up to more than a thousand: adding a key that is not there -/
namespace KS
open PySem PySem.Spec PyProof.Rows L2

/-! ### the round of i -> 5 i + 1 for the greater masks -/
def vis (m : Nat) : Nat → Nat → Nat → Nat
  | 0, _, acc => acc
  | n + 1, x, acc => vis m n ((x * 5 + 1) % (m + 1)) (acc ||| 1 <<< x)
theorem lcgI_step (m x : Nat) : ∀ b, lcgI m ((x * 5 + 1) % (m + 1)) b = lcgI m x (b + 1)
  | 0 => rfl
  | b + 1 => by
    show (lcgI m ((x * 5 + 1) % (m + 1)) b * 5 + 1) % (m + 1) = (lcgI m x (b + 1) * 5 + 1) % (m + 1)
    rw [lcgI_step m x b]
theorem vis_met (m j : Nat) : ∀ (n x acc : Nat), (vis m n x acc).testBit j = true → acc.testBit j = true ∨ ∃ b, b < n ∧ lcgI m x b = j
  | 0, _, _, h => .inl h
  | n + 1, x, acc, h => by
    rcases vis_met m j n _ _ h with q | ⟨b, hb, e⟩
    · rw [Nat.testBit_or, Bool.or_eq_true] at q
      rcases q with q | q
      · exact .inl q
      · refine .inr ⟨0, Nat.succ_pos _, ?_⟩
        rw [Nat.shiftLeft_eq, Nat.one_mul, Nat.testBit_two_pow, decide_eq_true_eq] at q
        exact q
    · exact .inr ⟨b + 1, Nat.succ_lt_succ hb, by rw [← lcgI_step]; exact e⟩
theorem lcgN_I (m : Nat) : ∀ b, lcgI m 0 b = lcgN m b
  | 0 => rfl
  | b + 1 => by
    show (lcgI m 0 b * 5 + 1) % (m + 1) = (lcgN m b * 5 + 1) % (m + 1)
    rw [lcgN_I m b]
theorem all511 : vis 511 512 0 0 = 2 ^ 512 - 1 := by decide +kernel
theorem all2047 : vis 2047 2048 0 0 = 2 ^ 2048 - 1 := by decide +kernel
/-- a mask whose round goes over all slots -/
structure MaskG (m : Nat) : Prop where
  all : ∀ j, j ≤ m → ∃ b, b ≤ m ∧ lcgN m b = j
  round : lcgN m (m + 1) = 0
  odd : m % 2 = 1
theorem maskG_vis {m : Nat} (h : vis m (m + 1) 0 0 = 2 ^ (m + 1) - 1) (r : lcgN m (m + 1) = 0) (o : m % 2 = 1) : MaskG m where
  all := fun j hj => by
    have t : (vis m (m + 1) 0 0).testBit j = true := by
      rw [h, Nat.testBit_two_pow_sub_one, decide_eq_true_eq]
      omega
    rcases vis_met m j (m + 1) 0 0 t with q | ⟨b, hb, e⟩
    · simp at q
    · exact ⟨b, Nat.le_of_lt_succ hb, by rw [← lcgN_I]; exact e⟩
  round := r
  odd := o
def MaskH (m : Nat) : Prop := m = 7 ∨ m = 31 ∨ m = 127 ∨ m = 511 ∨ m = 2047
theorem MaskH.g {m : Nat} (h : MaskH m) : MaskG m := by
  rcases h with e | e | e | e | e
  · subst e
    exact ⟨fun j hj => lcg_all (.inl rfl) hj, lcg_round (.inl rfl), rfl⟩
  · subst e
    exact ⟨fun j hj => lcg_all (.inr (.inl rfl)) hj, lcg_round (.inr (.inl rfl)), rfl⟩
  · subst e
    exact ⟨fun j hj => lcg_all (.inr (.inr rfl)) hj, lcg_round (.inr (.inr rfl)), rfl⟩
  · subst e
    exact maskG_vis all511 (by decide +kernel) rfl
  · subst e
    exact maskG_vis all2047 (by decide +kernel) rfl
theorem MaskH.le {m : Nat} (h : MaskH m) : m ≤ 2047 := by rcases h with e | e | e | e | e <;> omega
theorem MaskG.wrap {m : Nat} (g : MaskG m) : ∀ k, lcgN m (m + 1 + k) = lcgN m k
  | 0 => g.round
  | k + 1 => by
    show (lcgN m (m + 1 + k) * 5 + 1) % (m + 1) = (lcgN m k * 5 + 1) % (m + 1)
    rw [g.wrap k]
theorem MaskG.from_ {m : Nat} (g : MaskG m) {i j : Nat} (hi : i ≤ m) (hj : j ≤ m) : ∃ k, k ≤ m ∧ lcgI m i k = j := by
  obtain ⟨a, ha, ea⟩ := g.all i hi
  obtain ⟨b, hb, eb⟩ := g.all j hj
  subst ea
  by_cases c : a ≤ b
  · exact ⟨b - a, by omega, by rw [lcgN_add, show a + (b - a) = b by omega, eb]⟩
  · exact ⟨b + (m + 1) - a, by omega, by rw [lcgN_add, show a + (b + (m + 1) - a) = m + 1 + b by omega, g.wrap, eb]⟩
theorem MaskG.run {m : Nat} (g : MaskG m) (h : Int) {j : Nat} (hj : j ≤ m) : ∃ n, n ≤ m + 12 ∧ runI m (SetTable.bits h) n = j := by
  obtain ⟨k, hk, e⟩ := g.from_ (runI_le m (SetTable.bits h) 12) hj
  exact ⟨12 + k, by omega, (runI_tail (bits_lt h) k).trans e⟩
theorem MaskG.meets {m : Nat} (g : MaskG m) (h : Int) {j : Nat} (hj : j ≤ m) : ∃ k, k ≤ 10 * (m + 12) ∧ way m h k = j := by
  obtain ⟨n, hn, e⟩ := g.run h hj
  obtain ⟨k, hk, e2⟩ := run_nth m (SetTable.bits h) n
  refine ⟨k, by omega, ?_⟩
  show (nth m (runAt m (SetTable.bits h % (m + 1)) (SetTable.bits h)) k).j = j
  rw [e2]
  exact e

/-! ### slots of a table without dummies -/
theorem slot_two {t : SetTable} (hd : t.dummies = #[]) (j : Nat) : t.slot j = .empty ∨ ∃ i : Nat, t.slot j = .live i ∧ t.place[i]? = some j := by
  unfold SetTable.slot
  by_cases c : t.place[SetTable.below t.place j]? = some j
  · refine .inr ⟨SetTable.below t.place j, ?_, c⟩
    simp [c]
  · refine .inl ?_
    rw [hd, L2.has_none]
    simp [c]
/-- where a place is free -/
theorem free_slot {t : SetTable} (hd : t.dummies = #[]) (hn : t.place.size ≤ t.mask) : ∃ j, j ≤ t.mask ∧ t.slot j = .empty := by
  obtain ⟨j, hj, hx⟩ := st_missing t.place.toList (t.mask + 1) (by rw [Array.length_toList]; omega)
  exact ⟨j, Nat.le_of_lt_succ hj, slot_empty hd hx⟩
theorem adv_dummy {m : Nat} {p : SetTable.Probe} (h : p.dummy = none) : (adv m p).dummy = none := by
  unfold adv
  split <;> exact h
theorem nth_dummy {m : Nat} : ∀ (n : Nat) {p : SetTable.Probe}, p.dummy = none → (nth m p n).dummy = none
  | 0, _, h => h
  | n + 1, _, h => nth_dummy n (adv_dummy h)
/-- a probe ends: at one of the same hash, or at an empty slot -/
theorem probe_ends {t : SetTable} (hd : t.dummies = #[]) (hashAt : Nat → Int) (h : Int) : ∀ (f d : Nat) (p : SetTable.Probe), p.dummy = none → d < f → t.slot (nth t.mask p d).j = .empty →
    (∃ k i, k < d ∧ t.slot (nth t.mask p k).j = .live i ∧ SetTable.probe.go t hashAt h f p = some (.candidate (nth t.mask p k).j i (nth t.mask p (k + 1)))) ∨
    ∃ j, t.slot j = .empty ∧ SetTable.probe.go t hashAt h f p = some (.empty j none)
  | 0, _, _, _, hf, _ => absurd hf (Nat.not_lt_zero _)
  | f + 1, d, p, hp, hf, he => by
    rcases slot_two hd p.j with e | ⟨i, e, _⟩
    · refine .inr ⟨p.j, e, ?_⟩
      unfold SetTable.probe.go
      rw [e]
      show some (SetTable.Met.empty p.j p.dummy) = _
      rw [hp]
    · cases d with
      | zero =>
        have he' : t.slot p.j = .empty := he
        rw [e] at he'
        cases he'
      | succ d =>
        by_cases c : hashAt i = h
        · refine .inl ⟨0, i, Nat.succ_pos _, e, ?_⟩
          unfold SetTable.probe.go
          rw [e]
          show (if (hashAt i == h) = true then some (SetTable.Met.candidate p.j i (t.advance p)) else _) = _
          rw [if_pos (beq_iff_eq.mpr c)]
          rfl
        · have e2 : SetTable.probe.go t hashAt h (f + 1) p = SetTable.probe.go t hashAt h f (adv t.mask p) := by
            conv => lhs; unfold SetTable.probe.go
            rw [e]
            show (if (hashAt i == h) = true then some (SetTable.Met.candidate p.j i (t.advance p)) else _) = _
            rw [if_neg (fun z => c (beq_iff_eq.mp z))]
            rfl
          rw [e2]
          rcases probe_ends hd hashAt h f d (adv t.mask p) (adv_dummy hp) (Nat.lt_of_succ_lt_succ hf) he with ⟨k, i', h1, h2, h3⟩ | q
          · exact .inl ⟨k + 1, i', Nat.succ_lt_succ h1, h2, h3⟩
          · exact .inr q

/-! ### the table laid anew -/
/-- a run's scan that finds nothing saw no free slot -/
theorem free_none {m : Nat} {owner : Array (Option Nat)} : ∀ (f i b : Nat), SetTable.layClean.free m owner f i b = none → ∀ n, n < f → oAt owner (itL m i b n).1 ≠ none
  | 0, _, _, _, n, hn => absurd hn (Nat.not_lt_zero _)
  | f + 1, i, b, h, n, hn => by
    rw [free_succ] at h
    cases c : (List.range (SetTable.runEnd m i + 1 - i)).find? fun k => (oAt owner (i + k)).isNone with
    | some k =>
      rw [c] at h
      cases h
    | none =>
      rw [c] at h
      cases n with
      | zero =>
        intro z
        rw [List.find?_eq_none] at c
        have g := runEnd_ge m i
        have q := c 0 (List.mem_range.mpr (by omega))
        rw [Nat.add_zero] at q
        rw [show oAt owner i = none from z] at q
        exact q rfl
      | succ n => exact free_none f _ _ h n (Nat.lt_of_succ_lt_succ hn)
/-- what a scan gives is a free slot of the table -/
theorem free_some {m : Nat} {owner : Array (Option Nat)} {j : Nat} : ∀ (f i b : Nat), SetTable.layClean.free m owner f i b = some j → oAt owner j = none
  | 0, _, _, h => by cases h
  | f + 1, i, b, h => by
    rw [free_succ] at h
    cases c : (List.range (SetTable.runEnd m i + 1 - i)).find? fun k => (oAt owner (i + k)).isNone with
    | some k =>
      rw [c] at h
      have e : i + k = j := Option.some.inj h
      rw [← e]
      have q := List.find?_some c
      exact Option.isNone_iff_eq_none.mp q
    | none =>
      rw [c] at h
      exact free_some f _ _ h
/-- who sits: so many, and no more -/
structure Seats (m : Nat) (n : Nat) (owner : Array (Option Nat)) : Prop where
  sz : owner.size = m + 1
  num : owner.toList.countP (·.isSome) = n
  val : ∀ x ∈ owner.toList, ∀ k, x = some k → k < n
theorem oAt_lt {owner : Array (Option Nat)} {j : Nat} (h : oAt owner j = none) : j < owner.size ∧ owner.toList[j]? = some none := by
  have h' : owner.getD j (some 0) = none := h
  rw [Array.getD_eq_getD_getElem?] at h'
  cases c : owner[j]? with
  | none =>
    rw [c] at h'
    cases h'
  | some x =>
    rw [c] at h'
    have hx : x = none := h'
    subst hx
    exact ⟨(Array.getElem?_eq_some_iff.mp c).1, by rw [Array.getElem?_toList]; exact c⟩
theorem count_put : ∀ (l : List (Option Nat)) (j k : Nat), l[j]? = some none → (l.set j (some k)).countP (·.isSome) = l.countP (·.isSome) + 1
  | [], j, _, h => by simp at h
  | x :: l, 0, k, h => by
    have e : x = none := Option.some.inj h
    subst e
    simp
  | x :: l, j + 1, k, h => by
    have ih := count_put l j k h
    rw [List.set_cons_succ, List.countP_cons, List.countP_cons, ih]
    omega
theorem Seats.put {m n j : Nat} {owner : Array (Option Nat)} (S : Seats m n owner) (h : oAt owner j = none) : Seats m (n + 1) (owner.setIfInBounds j (some n)) := by
  obtain ⟨h1, h2⟩ := oAt_lt h
  refine ⟨by rw [Array.size_setIfInBounds, S.sz], ?_, fun x hx k e => ?_⟩
  · rw [Array.toList_setIfInBounds, count_put _ _ _ h2, S.num]
  · rw [Array.toList_setIfInBounds] at hx
    rcases List.mem_or_eq_of_mem_set hx with q | q
    · exact Nat.lt_succ_of_lt (S.val x q k e)
    · rw [q] at e
      cases e
      exact Nat.lt_succ_self _
theorem Seats.room {m n : Nat} {owner : Array (Option Nat)} (S : Seats m n owner) (hn : n ≤ m) : ∃ j, j ≤ m ∧ oAt owner j = none := by
  rcases Classical.em (∃ j, j ≤ m ∧ oAt owner j = none) with c | c
  · exact c
  · exfalso
    have all : ∀ x ∈ owner.toList, x.isSome = true := fun x hx => by
      obtain ⟨j, hj, e⟩ := List.getElem_of_mem hx
      have hj' : j < owner.size := by rw [Array.length_toList] at hj; exact hj
      cases x with
      | some _ => rfl
      | none =>
        refine absurd ⟨j, by rw [S.sz] at hj'; omega, ?_⟩ c
        show owner.getD j (some 0) = none
        rw [Array.getD_eq_getD_getElem?, Array.getElem?_eq_getElem hj']
        rw [Array.getElem_toList] at e
        exact e
    have z := List.countP_eq_length.mpr all
    rw [S.num, Array.length_toList, S.sz] at z
    omega
theorem seats_fold {m : Nat} (g : MaskG m) : ∀ (hs : List Int) (n : Nat) (owner : Array (Option Nat)), Seats m n owner → n + hs.length ≤ m → ∃ owner', hs.foldl (stepF m) (some (owner, n)) = some (owner', n + hs.length) ∧ Seats m (n + hs.length) owner'
  | [], n, owner, S, _ => ⟨owner, rfl, S⟩
  | h :: hs, n, owner, S, hl => by
    rw [List.length_cons] at hl
    obtain ⟨j0, hj0, z0⟩ := S.room (by omega)
    cases c : SetTable.layClean.free m owner (SetTable.turns m) (SetTable.bits h % (m + 1)) (SetTable.bits h) with
    | none =>
      exfalso
      obtain ⟨n', hn', e⟩ := g.run h hj0
      have q := free_none _ _ _ c n' (by unfold SetTable.turns; omega)
      rw [itL_run, show (runI m (SetTable.bits h) n', SetTable.bits h / 32 ^ n').1 = j0 from e] at q
      exact q z0
    | some j =>
      obtain ⟨owner', e1, e2⟩ := seats_fold g hs (n + 1) _ (S.put (free_some _ _ _ c)) (by omega)
      have en : n + 1 + hs.length = n + (h :: hs).length := by rw [List.length_cons]; omega
      rw [en] at e1 e2
      refine ⟨owner', ?_, e2⟩
      rw [List.foldl_cons, stepF_some c]
      exact e1
theorem live_len (owner : Array (Option Nat)) : ∀ (n s : Nat), s + n ≤ owner.size → ((List.range' s n).filterMap fun j => (owner.getD j none).map (j, ·)).length = ((owner.toList.drop s).take n).countP (·.isSome)
  | 0, s, _ => by simp
  | n + 1, s, h => by
    have ih := live_len owner n (s + 1) (by omega)
    have hs : s < owner.toList.length := by rw [Array.length_toList]; omega
    rw [List.range'_succ, List.drop_eq_getElem_cons hs, List.take_succ_cons, List.countP_cons, ← ih]
    have e : owner.getD s none = owner.toList[s] := by
      rw [Array.getD_eq_getD_getElem?, Array.getElem?_eq_getElem (by omega), Array.getElem_toList]
      rfl
    rw [List.filterMap_cons, e]
    cases owner.toList[s] with
    | none => simp
    | some k => simp
theorem relaid_new (t : SetTable) {hs : Array Int} {wanted M : Nat} (hw : SetTable.sizeAbove wanted - 1 = M) (g : MaskG M) (hn : hs.size ≤ M) :
    ∃ t' order, t.relaid hs wanted = some (t', order) ∧ (∀ i ∈ order.toList, i < hs.size) ∧ order.size = hs.size ∧ t'.place.size = hs.size ∧ t'.mask = M ∧ t'.dummies = #[] := by
  obtain ⟨owner, f, S⟩ := seats_fold g hs.toList 0 (Array.replicate (M + 1) none) ⟨by simp, by simp [List.countP_replicate], fun x hx k e => by
    rw [Array.toList_replicate] at hx
    rw [List.eq_of_mem_replicate hx] at e
    cases e⟩ (by rw [Array.length_toList]; omega)
  rw [Nat.zero_add, Array.length_toList] at f S
  have hr : t.relaid hs wanted = some (tabOf t M owner, ((liveOf M owner).map (·.2)).toArray) := by
    rw [relaid_eq, hw, layClean_eq, f]
    rfl
  have hl : (liveOf M owner).length = hs.size := by
    have q := live_len owner (M + 1) 0 (by rw [S.sz]; omega)
    rw [← List.range_eq_range', List.drop_zero, List.take_of_length_le (by rw [Array.length_toList, S.sz]; omega), S.num] at q
    exact q
  refine ⟨_, _, hr, fun i hi => ?_, ?_, ?_, rfl, rfl⟩
  · obtain ⟨x, hx, e⟩ := List.mem_map.mp hi
    obtain ⟨j, k⟩ := x
    obtain ⟨b1, b2⟩ := (mem_live S.sz).1 hx
    have hk : k = i := e
    rw [← hk]
    have hj : j < owner.size := by rw [S.sz]; omega
    have e2 : owner.toList[j]? = some (some k) := by
      rw [Array.getElem?_toList]
      have b3 : owner.getD j (some 0) = some k := b2
      rw [Array.getD_eq_getD_getElem?, Array.getElem?_eq_getElem hj] at b3
      rw [Array.getElem?_eq_getElem hj]
      exact congrArg some b3
    exact S.val _ (List.mem_of_getElem? e2) k rfl
  · rw [List.size_toArray, List.length_map, hl]
  · show ((liveOf M owner).map (·.1)).toArray.size = _
    rw [List.size_toArray, List.length_map, hl]
theorem order_all {α : Type} (es : Array α) : ∀ (order : List Nat), (∀ i ∈ order, i < es.size) → (order.filterMap (es[·]?)).length = order.length ∧ ∀ x ∈ order.filterMap (es[·]?), x ∈ es.toList
  | [], _ => ⟨rfl, fun x hx => by cases hx⟩
  | i :: order, h => by
    obtain ⟨h1, h2⟩ := order_all es order fun j hj => h j (List.mem_cons_of_mem _ hj)
    have hi := h i (List.mem_cons_self ..)
    rw [List.filterMap_cons_some (Array.getElem?_eq_getElem hi)]
    refine ⟨congrArg Nat.succ h1, fun x hx => ?_⟩
    rcases List.mem_cons.mp hx with e | e
    · rw [e]
      exact Array.getElem_mem_toList hi
    · exact h2 x e
theorem grow7 : SetTable.sizeAbove (SetTable.grown 5) = 32 := by decide +kernel
theorem grow31 : SetTable.sizeAbove (SetTable.grown 19) = 128 := by decide +kernel
theorem grow127 : SetTable.sizeAbove (SetTable.grown 77) = 512 := by decide +kernel
theorem grow511 : SetTable.sizeAbove (SetTable.grown 307) = 2048 := by decide +kernel
end KS
end
section
set_option Elab.async false
set_option linter.all false
set_option maxRecDepth 100000
set_option maxHeartbeats 4000000
/-! a set of nested keys: adding -/
namespace KS
open PySem PySem.Spec PyProof.Rows L2
section
variable {P : Program} {w : World} {A : Around} {E : Value → Shared → Prop} {s : Shared}

/-! ### questions asked of a key -/
mutual
theorem cls_key : ∀ (k : NestedKey) (v : Value) (n : Nat) (s : Shared) (Q : Bool → Shared → Prop), NestedIs s.heap k v → k.depth ≤ n → Q false s → wpAny (model P w) A (ofAClassStatement n v) Q E s
  | .none, _, n, s, Q, x, _, h => by
    cases x
    cases n <;> exact wpAny_pure h
  | .num i, _, n, s, Q, x, _, h => by
    cases x <;> cases n <;> exact wpAny_pure h
  | .text y, _, n, s, Q, x, _, h => by
    cases x
    cases n <;> exact wpAny_pure h
  | .tup ks, _, n, s, Q, x, hn, h => by
    cases x with
    | @tup a o vs m _ hg hc hd hk =>
      simp only [NestedKey.depth] at hn
      cases n with
      | zero => omega
      | succ n =>
        unfold ofAClassStatement
        refine wpAny_bind (wpAny_typeOf (T := "tuple") ⟨o, hg, hc⟩ ?_)
        dsimp only
        have e : (("tuple" : String) == "tuple") = true := by decide
        simp only [e, if_true, Bool.not_true, Bool.false_eq_true, if_false]
        try refine wpAny_bind (wpAny_pure ?_)
        try simp only [Bool.not_true, Bool.false_eq_true, if_false]
        show wpAny _ _ (seqItems? (.ref a) >>= _) _ _ s
        refine wpAny_bind (wpAny_seqItems hg hd ?_)
        dsimp only
        refine wpAny_bind ?_
        show wpAny _ _ (forIn vs _ _) _ _ s
        rw [← Array.forIn_toList]
        refine wpAny_forIn_list _ (fun rest r s' => r.1 = none ∧ s' = s ∧ ∀ v ∈ rest, ∀ Q : Bool → Shared → Prop, Q false s → wpAny (model P w) A (ofAClassStatement n v) Q E s) _ ?_ ?_ _ _ ⟨rfl, rfl, cls_keys ks _ n s hk (by omega)⟩
        · rintro v rest r s' ⟨hr, rfl, hall⟩
          refine wpAny_bind (hall v List.mem_cons_self _ ?_)
          simp only [Bool.false_eq_true, if_false]
          exact wpAny_pure ⟨rfl, rfl, fun u hu => hall u (List.mem_cons_of_mem _ hu)⟩
        · rintro ⟨r1, r2⟩ s' ⟨hr, rfl, _⟩
          simp only at hr
          subst hr
          exact wpAny_pure h
theorem cls_keys : ∀ (ks : List NestedKey) (vs : List Value) (n : Nat) (s : Shared), NestedAll s.heap ks vs → NestedKey.depthAll ks ≤ n → ∀ v ∈ vs, ∀ Q : Bool → Shared → Prop, Q false s → wpAny (model P w) A (ofAClassStatement n v) Q E s
  | [], _, n, s, x, _, v, hv, Q, h => by
    cases x
    cases hv
  | k :: ks, _, n, s, x, hn, v, hv, Q, h => by
    cases x with
    | cons x1 x2 =>
      simp only [NestedKey.depthAll] at hn
      rcases List.mem_cons.mp hv with e | e
      · rw [e]
        exact cls_key k _ n s Q x1 (by omega) h
      · exact cls_keys ks _ n s x2 (by omega) v e Q h
end
mutual
theorem byv_key : ∀ (k : NestedKey) (v : Value) (n : Nat) (s : Shared) (Q : Bool → Shared → Prop), NestedIs s.heap k v → (∀ b, Q b s) → wpAny (model P w) A (hashByValue n v) Q E s
  | .none, _, n, s, Q, x, h => by
    cases x
    cases n <;> exact wpAny_pure (h _)
  | .num i, _, n, s, Q, x, h => by
    cases x <;> cases n <;> exact wpAny_pure (h _)
  | .text y, _, n, s, Q, x, h => by
    cases x
    cases n <;> exact wpAny_pure (h _)
  | .tup ks, _, n, s, Q, x, h => by
    cases x with
    | @tup a o vs m _ hg hc hd hk =>
      cases n with
      | zero => exact wpAny_pure (h _)
      | succ n =>
        have hT : s.TypeIs (.ref a) "tuple" := ⟨o, hg, hc⟩
        unfold hashByValue
        refine wpAny_bind (wpAny_specialOf hT F.slot_tuple_hash.lookup ?_)
        show wpAny _ _ (seqItems? (.ref a) >>= _) _ _ s
        refine wpAny_bind (wpAny_seqItems hg hd ?_)
        refine wpAny_bind ?_
        show wpAny _ _ (forIn vs _ _) _ _ s
        rw [← Array.forIn_toList]
        refine wpAny_forIn_list _ (fun rest r s' => s' = s ∧ ∀ v ∈ rest, ∀ Q : Bool → Shared → Prop, (∀ b, Q b s) → wpAny (model P w) A (hashByValue n v) Q E s) _ ?_ ?_ _ _ ⟨rfl, byv_keys ks _ n s hk⟩
        · rintro v rest r s' ⟨rfl, hall⟩
          refine wpAny_bind (hall v List.mem_cons_self _ fun b => ?_)
          cases b
          · simp only [Bool.not_false, if_true]
            exact wpAny_pure (wpAny_pure (h _))
          · simp only [Bool.not_true, Bool.false_eq_true, if_false]
            exact wpAny_pure ⟨rfl, fun u hu => hall u (List.mem_cons_of_mem _ hu)⟩
        · rintro ⟨r1, r2⟩ s' ⟨rfl, _⟩
          cases r1 <;> exact wpAny_pure (h _)
theorem byv_keys : ∀ (ks : List NestedKey) (vs : List Value) (n : Nat) (s : Shared), NestedAll s.heap ks vs → ∀ v ∈ vs, ∀ Q : Bool → Shared → Prop, (∀ b, Q b s) → wpAny (model P w) A (hashByValue n v) Q E s
  | [], _, n, s, x, v, hv, Q, h => by
    cases x
    cases hv
  | k :: ks, _, n, s, x, v, hv, Q, h => by
    cases x with
    | cons x1 x2 =>
      rcases List.mem_cons.mp hv with e | e
      · rw [e]
        exact byv_key k _ n s Q x1 h
      · exact byv_keys ks _ n s x2 v e Q h
end

/-- a search among keys shows nothing -/
theorem seen_keys {x : Addr} {k : NestedKey} (hx : NestedIs s.heap k (.ref x) ∧ k.depth ≤ 8) {ys : List Value} (hy : ∀ y ∈ ys, ∃ (k' : NestedKey) (c : Addr), y = Value.ref c ∧ NestedIs s.heap k' (.ref c) ∧ k'.depth ≤ 8) {Q : Bool → Shared → Prop} (h : Q false s) :
    wpAny (model P w) A (searchCouldBeSeen (.ref x) ys) Q E s := by
  unfold searchCouldBeSeen
  refine wpAny_bind ?_
  refine wpAny_forIn_list _ (fun rest r s' => r.1 = none ∧ s' = s ∧ ∀ y ∈ rest, ∃ (k' : NestedKey) (c : Addr), y = Value.ref c ∧ NestedIs s.heap k' (.ref c) ∧ k'.depth ≤ 8) _ ?_ ?_ _ _ ⟨rfl, rfl, hy⟩
  · rintro v rest r s' ⟨hr, rfl, hall⟩
    obtain ⟨k', c, rfl, hc, hd⟩ := hall v List.mem_cons_self
    have more : ∀ y ∈ rest, ∃ (k' : NestedKey) (c : Addr), y = Value.ref c ∧ NestedIs s'.heap k' (.ref c) ∧ k'.depth ≤ 8 := fun u hu => hall u (List.mem_cons_of_mem _ hu)
    dsimp only
    by_cases hv : (x == c || (carriedByValue (.ref x) && carriedByValue (.ref c))) = true
    · refine wp_if_pos hv ?_
      exact wpAny_pure ⟨rfl, rfl, more⟩
    · refine wp_if_neg hv ?_
      refine wpAny_bind ((nestedKind P w).quiet hx ?_)
      simp only [Bool.not_true, Bool.false_eq_true, if_false]
      refine wpAny_bind ((nestedKind P w).quiet ⟨hc, hd⟩ ?_)
      simp only [Bool.not_true, Bool.false_eq_true, if_false]
      refine wpAny_bind (cls_key k _ 8 s' _ hx.1 hx.2 ?_)
      simp only [Bool.false_eq_true, if_false]
      refine wpAny_bind (cls_key k' _ 8 s' _ hc hd ?_)
      simp only [Bool.false_eq_true, if_false]
      exact wpAny_pure ⟨rfl, rfl, more⟩
  · rintro ⟨r1, r2⟩ s' ⟨hr, rfl, _⟩
    simp only at hr
    subst hr
    exact wpAny_pure h

/-! ### the set -/
/-- the set at a: made by adding the keys L, each once -/
structure SetN (w : World) (h : Heap) (a : Addr) (L : List (Addr × NestedKey)) (o : Obj) (es : Array (Int × Value)) (ep : Nat) (t : SetTable) : Prop where
  ob : h.get? a = some o
  ex : o.ExactSet
  dat : o.data = .set es ep t
  len : es.size = L.length
  row : ∀ e ∈ es.toList, ∃ p ∈ L, e = (p.2.hash w, Value.ref p.1)
  dm : t.dummies = #[]
  sz : t.place.size = es.size
  mok : MaskH t.mask
  room : L.length * 5 < t.mask * 3
/-- what is known of its keys -/
def KeysAt (h : Heap) (L : List (Addr × NestedKey)) : Prop := ∀ p ∈ L, NestedIs h p.2 (.ref p.1) ∧ p.2.depth ≤ 8
variable {a : Addr} {L : List (Addr × NestedKey)} {o : Obj} {es : Array (Int × Value)} {ep : Nat} {t : SetTable}
theorem SetN.fits (R : SetN w s.heap a L o es ep t) : t.fits es.size = true := by
  have h1 := R.sz
  have h2 := R.len
  have h3 := R.room
  unfold SetTable.fits SetTable.fill
  rw [R.dm, Bool.and_eq_true, beq_iff_eq, decide_eq_true_eq]
  show t.place.size = es.size ∧ t.place.size + 0 ≤ t.mask
  omega
theorem SetN.same (R : SetN w s.heap a L o es ep t) {i j : Nat} (h : t.slot j = .live i) : ∃ p, p ∈ L ∧ es[i]? = some (p.2.hash w, Value.ref p.1) := by
  rcases slot_two R.dm j with e | ⟨i', e, hp⟩
  · rw [e] at h
    cases h
  · rw [e] at h
    cases h
    have hi : i < es.size := by
      have := (Array.getElem?_eq_some_iff.mp hp).1
      rw [R.sz] at this
      exact this
    obtain ⟨p, hp, e⟩ := R.row es[i] (Array.getElem_mem_toList hi)
    exact ⟨p, hp, by rw [Array.getElem?_eq_getElem hi, e]⟩
/-- THE SEARCH for a key that is not there -/
theorem search_new (R : SetN w s.heap a L o es ep t) (KA : KeysAt s.heap L) {x : Addr} {k : NestedKey} (hx : NestedIs s.heap k (.ref x) ∧ k.depth ≤ 8) (hn : ∀ p ∈ L, p.2 ≠ k) (hu : A.units + 8 < cLine) {Q : SetFound → Shared → Prop}
    (hQ : ∀ j, Q (.free j false) s) : ∀ (f d : Nat) (stand : Option SetTable.Probe), (stand.getD (t.probeStart (k.hash w))).dummy = none → d < 10 * SetTable.turns t.mask → d < f →
      t.slot (nth t.mask (stand.getD (t.probeStart (k.hash w))) d).j = .empty → wpAny (model P w) A (setSearchFrom a (.ref x) (k.hash w) true f stand) Q E s
  | 0, _, _, _, _, hf, _ => absurd hf (Nat.not_lt_zero _)
  | f + 1, d, stand, hp, hd, hf, he => by
    rw [setSearchFrom_succ]
    refine wpAny_bind (wpAny_setState_of R.ob R.dat R.fits ?_)
    dsimp only
    refine wp_if_neg (by unfold SetTable.gaveWay; rw [R.mok.g.odd]; decide) ?_
    try refine wpAny_bind (wpAny_pure ?_)
    generalize hst : stand.getD (t.probeStart (k.hash w)) = p at hp he
    rcases probe_ends R.dm (fun i => (es[i]?.map (·.1)).getD 0) (k.hash w) (10 * SetTable.turns t.mask) d p hp hd he with ⟨q, i, h1, h2, h3⟩ | ⟨j, _, h3⟩
    · have h3' : t.probe (fun i => (es[i]?.map (·.1)).getD 0) (k.hash w) p = some (.candidate (nth t.mask p q).j i (nth t.mask p (q + 1))) := h3
      rw [h3']
      dsimp only
      obtain ⟨y, hy, ey⟩ := R.same h2
      have rest : wpAny (model P w) A (searchRest a (.ref x) (k.hash w) true f es t (nth t.mask p q).j i (nth t.mask p (q + 1))) Q E s := by
        unfold searchRest
        rw [ey]
        dsimp only
        refine wpAny_bind (wpAny_holding ((nestedKind P w).eqBool (show A.units + 8 < cLine from hu) (KA y hy) hx ?_))
        have hne : decide (y.2 = k) = false := decide_eq_false (hn y hy)
        rw [hne]
        refine wpAny_bind (wpAny_setState_of R.ob R.dat R.fits ?_)
        dsimp only
        refine wp_if_neg (by simp) ?_
        try refine wpAny_bind (wpAny_pure ?_)
        rw [sameMem]
        dsimp only
        simp only [if_true, h2, ey]
        refine wpAny_bind (wpAny_isSame_ref_self (wpAny_bind (wpAny_pure ?_)))
        simp only [if_true]
        refine wp_if_neg (by simp) ?_
        refine search_new R KA hx hn hu hQ f (d - (q + 1)) (some (nth t.mask p (q + 1))) (nth_dummy _ hp) (by omega) (by omega) ?_
        show t.slot (nth t.mask (nth t.mask p (q + 1)) (d - (q + 1))).j = .empty
        rw [← nth_add, show q + 1 + (d - (q + 1)) = d by omega]
        exact he
      by_cases hl : t.led = true
      · refine wp_if_neg (by simp [hl]) ?_
        try refine wpAny_bind (wpAny_pure ?_)
        exact rest
      · refine wp_if_pos (by simp [hl]) ?_
        refine wpAny_bind (seen_keys hx (fun y hy => ?_) ?_)
        · obtain ⟨e, he, ee⟩ := List.mem_map.mp hy
          have he1 : e ∈ es ∧ e.1 = k.hash w := by simpa using he
          have he2 : e ∈ es.toList := by simpa using he1.1
          obtain ⟨p2, hp2, e2⟩ := R.row e he2
          refine ⟨p2.2, p2.1, ?_, KA p2 hp2⟩
          rw [← ee, e2]
        · refine wp_if_neg (by decide) ?_
          try refine wpAny_bind (wpAny_pure ?_)
          exact rest
    · have h3' : t.probe (fun i => (es[i]?.map (·.1)).getD 0) (k.hash w) p = some (.empty j none) := h3
      rw [h3']
      dsimp only
      exact wpAny_pure (hQ j)
end
end KS
end
section
set_option Elab.async false
set_option linter.all false
set_option maxRecDepth 100000
set_option maxHeartbeats 4000000
/-! a set of nested keys: adding -/
namespace KS
open PySem PySem.Spec PyProof.Rows L2
section
variable {P : Program} {w : World} {A : Around} {E : Value → Shared → Prop} {s : Shared}
variable {a : Addr} {L : List (Addr × NestedKey)} {o : Obj} {es : Array (Int × Value)} {ep : Nat} {t : SetTable}
theorem put_size (t : SetTable) (j : Nat) (hd : t.dummies = #[]) : (t.put j).1.place.size = t.place.size + 1 ∧ (t.put j).1.dummies = #[] ∧ (t.put j).1.mask = t.mask := by
  refine ⟨?_, ?_, rfl⟩
  · show (SetTable.insertAt t.place (SetTable.below t.place j) j).size = _
    rw [← Array.length_toList, SetTable.toList_insertAt]
    simp
    omega
  · show (if SetTable.has t.dummies j = true then _ else t.dummies) = #[]
    rw [hd, L2.has_none]
    rfl
theorem search_any (R : SetN w s.heap a L o es ep t) (KA : KeysAt s.heap L) {x : Addr} {k : NestedKey} (hx : NestedIs s.heap k (.ref x) ∧ k.depth ≤ 8) (hn : ∀ p ∈ L, p.2 ≠ k) (hu : A.units + 8 < cLine) {Q : SetFound → Shared → Prop}
    (hQ : ∀ j, Q (.free j false) s) : wpAny (model P w) A (setSearch a (.ref x) (k.hash w) true) Q E s := by
  have h1 := R.room
  have h2 := R.len
  have h3 := R.sz
  have h4 := R.mok.le
  obtain ⟨j, hj, ej⟩ := free_slot R.dm (by omega)
  obtain ⟨d, hd, e⟩ := R.mok.g.meets (k.hash w) hj
  unfold setSearch
  refine search_new R KA hx hn hu hQ 100000 d none rfl (by unfold SetTable.turns; omega) (by omega) ?_
  show t.slot (way t.mask (k.hash w) d) = .empty
  rw [e]
  exact ej
/-- the greater table -/
theorem relay_new {o : Obj} (ho : s.heap.get? a = some o) (hex : o.ExactSet) (hd : o.data = .set es ep t) (hl : es.size = L.length) (row : ∀ e ∈ es.toList, ∃ p ∈ L, e = (p.2.hash w, Value.ref p.1)) (hdm : t.dummies = #[]) (hsz : t.place.size = es.size) (hfl : es.size ≤ t.mask)
    {wanted M : Nat} (hw : SetTable.sizeAbove wanted = M + 1) (hM : MaskH M) (hn : L.length * 5 < M * 3) {Q : Unit → Shared → Prop}
    (hQ : ∀ h' o' es' ep' t', Heap.SameBut a s.heap h' → SetN w h' a L o' es' ep' t' → Q () { s with heap := h' }) : wpAny (model P w) A (setRelay a wanted) Q E s := by
  have hfits : t.fits es.size = true := by
    unfold SetTable.fits SetTable.fill
    rw [hdm, Bool.and_eq_true, beq_iff_eq, decide_eq_true_eq]
    show t.place.size = es.size ∧ t.place.size + 0 ≤ t.mask
    omega
  have hM2 := hM.le
  obtain ⟨t', order, e, o1, o2, p1, p2, p3⟩ := relaid_new t (hs := es.map (·.1)) (wanted := wanted) (M := M) (by omega) hM.g (by rw [Array.size_map]; omega)
  rw [Array.size_map] at o1 o2 p1
  obtain ⟨f1, f2⟩ := order_all es order.toList o1
  have ef : (order.filterMap (es[·]?)).toList = order.toList.filterMap (es[·]?) := by simp
  have hs2 : (order.filterMap (es[·]?)).size = es.size := by
    rw [← Array.length_toList, ef, f1, Array.length_toList, o2]
  rw [setRelay_eq]
  refine wpAny_bind (wpAny_setState_of ho hd hfits ?_)
  dsimp only
  refine wp_if_neg (by rw [sizeLine_eq]; omega) ?_
  try refine wpAny_bind (wpAny_pure ?_)
  rw [e]
  dsimp only
  refine wpAny_bind ?_
  refine wp_if_neg (by rw [hs2]; simp) ?_
  try refine wpAny_bind (wpAny_pure ?_)
  refine wpAny_pure ?_
  dsimp only
  refine wpAny_storeSet_of ho hd ?_ (by rw [hs2, hl, sizeLine_eq]; omega)
  have sb : Heap.SameBut a s.heap (s.heap.update a (Obj.putSet (order.filterMap (es[·]?)) t')) := Heap.SameBut.update ..
  have so := PpSet.storeB_at (es' := order.filterMap (es[·]?)) (t' := t') ho hd
  refine hQ _ _ _ _ _ sb ⟨so, ⟨hex.1, hex.2.1, hex.2.2⟩, rfl, by rw [hs2, hl], fun x hx => row x (f2 x (by rw [← ef]; exact hx)), p3, by rw [p1, hs2], by rw [p2]; exact hM, by rw [p2]; exact hn⟩
theorem full_at {m n : Nat} (hm : MaskH m) (h1 : n * 5 < m * 3) (h2 : (n + 1) * 5 ≥ m * 3) (hs : n + 1 ≤ 1000) : ∃ M, SetTable.sizeAbove (SetTable.grown (n + 1)) = M + 1 ∧ MaskH M ∧ (n + 1) * 5 < M * 3 := by
  rcases hm with e | e | e | e | e
  · have : n = 4 := by omega
    subst this
    exact ⟨31, grow7, .inr (.inl rfl), by omega⟩
  · have : n = 18 := by omega
    subst this
    exact ⟨127, grow31, .inr (.inr (.inl rfl)), by omega⟩
  · have : n = 76 := by omega
    subst this
    exact ⟨511, grow127, .inr (.inr (.inr (.inl rfl))), by omega⟩
  · have : n = 306 := by omega
    subst this
    exact ⟨2047, grow511, .inr (.inr (.inr (.inr rfl))), by omega⟩
  · omega
/-- ADDING -/
theorem add_new (R : SetN w s.heap a L o es ep t) (KA : KeysAt s.heap L) {x : Addr} {k : NestedKey} (hx : NestedIs s.heap k (.ref x) ∧ k.depth ≤ 8) (hn : ∀ p ∈ L, p.2 ≠ k) (hu : A.units + 8 < cLine) (few : L.length + 1 ≤ 1000) {Q : Bool → Shared → Prop}
    (hQ : ∀ b h' o' es' ep' t', Heap.SameBut a s.heap h' → SetN w h' a ((x, k) :: L) o' es' ep' t' → Q b { s with heap := h' }) :
    wpAny (model P w) A (setAddHashed a (.ref x) (k.hash w)) Q E s := by
  have hroom := R.room
  have hlen := R.len
  unfold setAddHashed
  refine wpAny_holding ?_
  rw [show (100000 : Nat) = 99999 + 1 from rfl, setAddHashedIn_succ]
  refine wpAny_bind (wpAny_setState_of R.ob R.dat R.fits ?_)
  dsimp only
  refine wp_if_neg (by simp [byScan, Value.scannable]) ?_
  try refine wpAny_bind (wpAny_pure ?_)
  refine wpAny_bind (search_any R KA hx hn hu fun j => ?_)
  dsimp only
  refine wpAny_bind (wpAny_setState_of R.ob R.dat R.fits ?_)
  dsimp only
  obtain ⟨q1, q2, q3⟩ := put_size t j R.dm
  generalize hpt : t.put j = pt at q1 q2 q3 ⊢
  obtain ⟨t1, p⟩ := pt
  dsimp only at q1 q2 q3 ⊢
  have esz : (SetTable.insertAt es p (k.hash w, Value.ref x)).size = es.size + 1 := by
    rw [← Array.length_toList, SetTable.toList_insertAt]
    simp
    omega
  have erow : ∀ e ∈ (SetTable.insertAt es p (k.hash w, Value.ref x)).toList, ∃ q ∈ (x, k) :: L, e = (q.2.hash w, Value.ref q.1) := fun e he => by
    rw [SetTable.toList_insertAt] at he
    rcases List.mem_append.mp he with z | z
    · obtain ⟨q, hq, e1⟩ := R.row e (List.mem_of_mem_take z)
      exact ⟨q, List.mem_cons_of_mem _ hq, e1⟩
    · rcases List.mem_cons.mp z with z | z
      · exact ⟨(x, k), List.mem_cons_self, z⟩
      · obtain ⟨q, hq, e1⟩ := R.row e (List.mem_of_mem_drop z)
        exact ⟨q, List.mem_cons_of_mem _ hq, e1⟩
  generalize SetTable.insertAt es p (k.hash w, Value.ref x) = es1 at esz erow ⊢
  have tail : ∀ t2 : SetTable, t2.place.size = t1.place.size → t2.dummies = #[] → t2.mask = t1.mask → wpAny (model P w) A (do
      storeSet a es1 t2
      if (!false && t2.tooFull) = true then (do
        setRelay a (SetTable.grown (es.size + 1))
        pure true) else pure true) Q E s := by
    intro t2 a1 a2 a3
    refine wpAny_bind (wpAny_storeSet_of R.ob R.dat ?_ (by rw [esz, hlen, sizeLine_eq]; omega))
    have so := PpSet.storeB_at (es' := es1) (t' := t2) R.ob R.dat
    have sb : Heap.SameBut a s.heap (s.heap.update a (Obj.putSet es1 t2)) := Heap.SameBut.update ..
    generalize s.heap.update a (Obj.putSet es1 t2) = h1 at so sb ⊢
    have ex1 : ({ o with data := Data.set es1 (ep + 1) t2 } : Obj).ExactSet := ⟨R.ex.1, R.ex.2.1, R.ex.2.2⟩
    by_cases hf : t2.tooFull = true
    · refine wp_if_pos (by rw [hf]; rfl) (wpAny_bind ?_)
      have hf' : (t2.place.size + t2.dummies.size) * 5 ≥ t2.mask * 3 := by
        unfold SetTable.tooFull SetTable.fill at hf
        exact of_decide_eq_true hf
      rw [a1, a2, a3, q1, q3, R.sz, hlen] at hf'
      obtain ⟨M, m1, m2, m3⟩ := full_at R.mok hroom (by simpa using hf') few
      refine relay_new (s := { s with heap := h1 }) (L := (x, k) :: L) so ex1 rfl (by rw [esz, hlen]; rfl) erow a2 (by rw [a1, q1, esz, R.sz]) (by rw [esz, a3, q3, hlen]; omega) (by rw [hlen]; exact m1) m2 (by rw [List.length_cons]; exact m3) fun h' o' es' ep' t' sb2 R2 => ?_
      exact wpAny_pure (hQ true h' _ _ _ _ (sb.trans sb2) R2)
    · refine wp_if_neg (by simp [hf]) ?_
      refine wpAny_pure (hQ true h1 _ _ _ _ sb ⟨so, ex1, rfl, by rw [esz, hlen]; rfl, erow, a2, by rw [a1, q1, esz, R.sz], by rw [a3, q3]; exact R.mok, ?_⟩)
      have hf' : ¬ ((t2.place.size + t2.dummies.size) * 5 ≥ t2.mask * 3) := by
        unfold SetTable.tooFull SetTable.fill at hf
        exact fun z => hf (decide_eq_true z)
      rw [a1, a2, q1, R.sz, hlen] at hf'
      rw [a3, q3]
      rw [List.length_cons]
      simp at hf'
      omega
  by_cases hp : t1.plain = true
  · refine wp_if_pos hp (wpAny_bind (byv_key k _ 8 s _ hx.1 fun b => ?_))
    cases b
    · exact tail { t1 with plain := false } rfl q2 rfl
    · exact tail t1 rfl q2 rfl
  · refine wp_if_neg hp (wpAny_bind (wpAny_pure ?_))
    exact tail t1 rfl q2 rfl
/-- a.add(key) -/
theorem call_add_new (R : SetN w s.heap a L o es ep t) (KA : KeysAt s.heap L) {x : Addr} {k : NestedKey} (hx : NestedIs s.heap k (.ref x) ∧ k.depth ≤ 8) (hn : ∀ p ∈ L, p.2 ≠ k) (hu : A.units + 20 < cLine) (few : L.length + 1 ≤ 1000) {Q : Value → Shared → Prop}
    (hQ : ∀ h' tk o' es' ep' t', Heap.SameBut a s.heap h' → SetN w h' a ((x, k) :: L) o' es' ep' t' → Q .none { s with heap := h', toks := tk }) :
    wpAny (model P w) A (call (.builtin "set.add") [.ref a, .ref x]) Q E s := by
  have hT : s.TypeIs (.ref a) "set" := ⟨o, R.ob, R.ex.1⟩
  refine wpAny_call_entry F.slot_set_add hT F.entry_set_add ?_ (F.args_set_add_2 _ _)
  unfold Builtin.«set.add» Builtin.Frozenset.oneOther
  simp only [List.isEmpty_nil, bind_assoc]
  unfold Builtin.Frozenset.addrOf setAdd
  refine wpAny_bind (wpAny_pure ?_)
  try dsimp only
  refine wpAny_bind (wpAny_pure ?_)
  try dsimp only
  refine wpAny_bind ?_
  refine wpAny_holding ?_
  refine wpAny_bind ((nestedKind P w).pyHash (show A.in1.units + 8 < cLine by show A.units + 1 + 8 < cLine; omega) hx ?_)
  refine add_new (s := { s with toks := s.toks + (nestedKind P w).draws k }) ⟨R.ob, R.ex, R.dat, R.len, R.row, R.dm, R.sz, R.mok, R.room⟩ KA hx hn (show A.in1.units + 8 < cLine by show A.units + 1 + 8 < cLine; omega) few fun b h' o' es' ep' t' sb R' => ?_
  show wpAny _ _ (ret Value.none) _ _ _
  exact wpAny_pure ⟨_, rfl, hQ h' _ _ _ _ _ sb R'⟩
end
end KS
end
section
set_option Elab.async false
set_option linter.all false
set_option maxRecDepth 100000
set_option maxHeartbeats 4000000
/-! {key for .. in ..}, keys all unlike, and its length -/
namespace KS
open PySem PySem.Spec PyProof.Rows L2 KR
/-- the set of keys at a -/
def SetNO (w : World) (a : Addr) (L : List (Addr × NestedKey)) : HO := .ext fun h => ∃ o es ep t, SetN w h a L o es ep t
theorem setNO_ok {P : Program} {w : World} {H : Hp} {h : Heap} {a : Addr} {L : List (Addr × NestedKey)} {o : Obj} {es : Array (Int × Value)} {ep : Nat} {t : SetTable} (R : SetN w h a L o es ep t) : ObjOk P w H h a (SetNO w a L) :=
  ⟨⟨o, es, ep, t, R⟩, ⟨o, R.ob⟩, fun _ _ ⟨o, es, ep, t, r⟩ k => ⟨o, es, ep, t, k _ r.ob, r.ex, r.dat, r.len, r.row, r.dm, r.sz, r.mok, r.room⟩⟩
theorem setN_nil (w : World) (h : Heap) : SetN w (h.push { cls := .type "set", dict := none, data := .set #[] 0 (.fresh 0 0 (!w.params.followText "set-order")) }) h.objs.size [] { cls := .type "set", dict := none, data := .set #[] 0 (.fresh 0 0 (!w.params.followText "set-order")) } #[] 0 (.fresh 0 0 (!w.params.followText "set-order")) where
  ob := Heap.get?_push_size _ rfl
  ex := ⟨rfl, rfl, rfl⟩
  dat := rfl
  len := rfl
  row := fun e he => by cases he
  dm := rfl
  sz := rfl
  mok := .inl rfl
  room := by show 0 * 5 < 7 * 3; decide
/-- v is told as the key k -/
def IsK (H : Hp) (v : V) (k : NestedKey) : Prop := ∃ d, Rp H v d ∧ nk d = k ∧ k.depth ≤ 8
section
variable {X : Cx} {pins : List (Addr × Obj)} {σ : L2.St} {H : Hp} {s : Shared}
theorem IsK.at_ (I : Inv X pins σ H s) {x : Addr} {k : NestedKey} (h : IsK H (.ref x) k) : NestedIs s.heap k (.ref x) ∧ k.depth ≤ 8 := by
  obtain ⟨d, h1, h2, h3⟩ := h
  exact ⟨by rw [← h2]; exact Rp.nest I h1 rfl, h3⟩
theorem IsK.mono {H H' : Hp} {v : V} {k : NestedKey} (e : Et H H') (h : IsK H v k) : IsK H' v k := by
  obtain ⟨d, h1, h2⟩ := h
  exact ⟨d, h1.mono e, h2⟩
/-- the key is added -/
theorem addK_ok {E : Value → Shared → Prop} {D x : Addr} {k : NestedKey} {L : List (Addr × NestedKey)} {Q : Value → Shared → Prop} (I : Inv X pins σ H s) (hD : H D = some (SetNO X.w D L)) (hx : IsK H (.ref x) k) (hn : ∀ p ∈ L, p.2 ≠ k) (hL : ∀ p ∈ L, IsK H (.ref p.1) p.2)
    (hu : X.A.units + 64 < cLine) (few : L.length + 1 ≤ 1000) (h : ∀ s', Inv X pins σ (upd H D (SetNO X.w D ((x, k) :: L))) s' → Q .none s') : wpAny (model X.prog X.w) X.A (call (.builtin "set.add") [.ref D, .ref x]) Q E s := by
  obtain ⟨⟨o, es, ep, t, R⟩, _, _⟩ := I.hok D _ hD
  refine call_add_new R (fun p hp => (hL p hp).at_ I) (hx.at_ I) hn (by omega) few fun h' tk o' es' ep' t' sb R' => ?_
  exact h _ (I.write (e := D) (t' := tk) (by rw [hD]; trivial) (.inl rfl) (fun b u hb hu => (sb.2 b hb).trans hu) ⟨_, R'.ob⟩ (setNO_ok R'))
/-- len of it -/
theorem call_lenN : CallR X (.builtin "len") (fun xs H Q => ∃ (a : Addr) (L : List (Addr × NestedKey)), xs = [.ref a] ∧ H a = some (SetNO X.w a L) ∧ Q (.int (L.length : Nat)) H) := by
  intro pins s σ H xs us Q I r h
  obtain ⟨a, L, rfl, hD, q⟩ := h
  obtain ⟨u, rfl, ru⟩ := vals1 r
  obtain rfl : u = Value.ref a := ru
  obtain ⟨⟨o, es, ep, t, R⟩, _, _⟩ := I.hok a _ hD
  have h1 := R.room
  have h2 := R.mok.le
  refine call_len_set R.ob R.ex R.dat R.fits (by rw [R.len]; omega) ?_
  rw [R.len]
  exact ⟨.int (L.length : Nat), H, I.tok _, ⟨_, rfl⟩, q⟩
/-- {elt for target in iter}: D the new set -/
def tScK (w : World) (wi : TI) (g : TG) (te : TE) (vs : List Nat) : TE := fun σ H Q => wi σ H fun J H1 => ∀ D, H1 D = none → ∃ W : Nat → Nat → Hp → Prop, (∃ m, W 0 m (upd H1 D (SetNO w D []))) ∧ ∀ i m H, W i m H →
  (J.stop i H ∧ Q (.ref D) H) ∨ (J.go i H ∧ ∃ Nx : Hp → Prop, (∀ H', Nx H' → ∃ m', m' < m ∧ W (i + 1) m' H') ∧ ∀ x H', J.yld i H x H' → g x (wipe σ vs) H' fun σ2 H2 => wipe σ2 vs = wipe σ vs ∧
    te σ2 H2 fun y H4 => ∃ (x : Addr) (k : NestedKey) (L : List (Addr × NestedKey)), y = .ref x ∧ H4 D = some (SetNO w D L) ∧ IsK H4 y k ∧ (∀ p ∈ L, p.2 ≠ k) ∧ (∀ p ∈ L, IsK H4 (.ref p.1) p.2) ∧ L.length + 1 ≤ 1000 ∧ Nx (upd H4 D (SetNO w D ((x, k) :: L))))
theorem pe_scK {elt tg iter : Expr} {scope : Scope} {own : List (PySem.Str × Nat)} {pos : Pos} {wi : TI} {g : TG} {te : TE} (hu : X.A.units + 64 < cLine) (hc : X.calm = true) (hN : X.N.Nodup) (hi : PI X tg iter wi) (ok : BlkOk X.N X.env.scope scope own)
    (hg : ∀ (s : Shared) (H : Hp) (C : Addr) (cl : List (PySem.Str × Addr)) (fp : List Addr), PG (X.blk s H scope (compEnvC scope cl C X.env) fp) tg g)
    (he : ∀ (s : Shared) (H : Hp) (C : Addr) (cl : List (PySem.Str × Addr)) (fp : List Addr), PE (X.blk s H scope (compEnvC scope cl C X.env) fp) elt te) (hs : ∀ x, foldedSetIterable iter X.env x = pure x := by intro _; rfl) :
    PE X (.SetComp elt [⟨tg, iter, [], 0⟩] scope pos) (tScK X.w wi g te (own.map (·.2))) := by
  refine ⟨fun pins s σ H Q I h => ?_⟩
  rw [PpSet.eval_SetComp]
  have hfree : ∀ y ∈ scope.names, y.2 = .free → ∃ c, X.env.cells.lookup y.1 = some c := fun y hy e => (ok.free y hy e).elim (fun k => I.ok.has _ (.inl k)) fun k => I.ok.has _ (.inr k)
  refine wpAny_comprehension_free (use := none) rfl hs (closure_ok hfree) ok.kind (fun y hy e => by rw [ok.uniq y hy, e])
    (thn (hi.run pins s σ H _ I h) fun xv s1 hx => thn hx fun itv s2 ⟨it, fp, tn, J, H2, e, I2, T, st2, f2, q⟩ => ?_)
  subst e
  refine PpSet.newSet_ok (newEnv_comp ?_)
  -- the new set
  obtain ⟨D, hD⟩ : ∃ D, D = s2.heap.objs.size := ⟨_, rfl⟩
  rw [← hD]
  obtain ⟨W, ⟨m0, w0⟩, turn⟩ := q D (I2.hok.fresh (Nat.le_of_eq hD.symm))
  obtain ⟨s3, hs3⟩ : ∃ s3 : Shared, s3 = { s2 with heap := s2.heap.push { cls := .type "set", dict := none, data := .set #[] 0 (.fresh 0 0 (!X.w.params.followText "set-order")) } } := ⟨_, rfl⟩
  rw [← hs3]
  have grew : ∀ b o, s2.heap.get? b = some o → s3.heap.get? b = some o := fun b o e => by rw [hs3]; exact Heap.get?_push_of_some _ e
  have size3 : s3.heap.objs.size = s2.heap.objs.size + 1 := by rw [hs3]; exact Heap.size_push ..
  obtain ⟨H3, hH3⟩ : ∃ H3, H3 = upd H2 D (SetNO X.w D []) := ⟨_, rfl⟩
  rw [← hH3] at w0
  have I3 : Inv X pins σ H3 s3 := by
    rw [hH3, hs3]
    refine I2.laid (t' := s2.toks) (fun b o e => Heap.get?_push_of_some _ e) (Nat.le_of_eq hD.symm) ?_
    rw [hD]
    exact setNO_ok (setN_nil X.w s2.heap)
  have f3 : ∀ b ∈ fp, FpOk X pins H3 b ∧ b < s3.heap.objs.size := fun b hb => by
    obtain ⟨ob, eb, _⟩ := T.obj _ _ st2 b hb
    have hlt := Heap.lt_size eb
    refine ⟨⟨?_, (f2 b hb).2⟩, by rw [size3]; exact Nat.lt_succ_of_lt hlt⟩
    rw [hH3, upd_ne (by rw [hD]; exact Nat.ne_of_lt hlt)]
    exact (f2 b hb).1
  have I4 := block_start I3 ok hN f3
  have PGt := hg s3 H3 s3.heap.objs.size (cellsFrom (s3.heap.objs.size + 1) scope.names (cloFrom X.env.cells scope.names [])) fp
  have PEt := he s3 H3 s3.heap.objs.size (cellsFrom (s3.heap.objs.size + 1) scope.names (cloFrom X.env.cells scope.names [])) fp
  have st4 : tn 0 (pushCells (s3.heap.push { cls := .type "dict", data := .dict #[] }) scope.names) := T.keep _ _ _ st2 fun b _ o e => pushCells_keeps _ _ _ _ (Heap.get?_push_of_some _ (grew b o e))
  obtain ⟨ce, hce⟩ : ∃ ce, ce = compEnvC scope (cellsFrom (s3.heap.objs.size + 1) scope.names (cloFrom X.env.cells scope.names [])) s3.heap.objs.size X.env := ⟨_, rfl⟩
  have cL : ce.locals = s3.heap.objs.size := by rw [hce]; rfl
  rw [← hce] at I4 PGt PEt
  show codeAny _ _ (.compStart (.SetComp elt [⟨tg, iter, [], 0⟩] scope pos) 0 (.ref it) (.ref D) (compEnvC scope (cellsFrom (s3.heap.objs.size + 1) scope.names (cloFrom X.env.cells scope.names [])) s3.heap.objs.size X.env)) (compPost (model X.prog X.w) X.A X.xe none (EP X pins σ Q) (.ref D) s3.heap.objs.size) { s3 with heap := pushCells (s3.heap.push { cls := .type "dict", data := .dict #[] }) scope.names }
  rw [← hce]
  obtain ⟨s4, hs4⟩ : ∃ s4 : Shared, s4 = { s3 with heap := pushCells (s3.heap.push { cls := .type "dict", data := .dict #[] }) scope.names } := ⟨_, rfl⟩
  rw [← hs4]
  rw [← hs4] at I4
  have st4' : tn 0 s4.heap := by rw [hs4]; exact st4
  have loose : ∀ {σ' : L2.St} {H' : Hp} {s' : Shared}, Inv (X.blk s3 H3 scope ce fp) [] σ' H' s' → (∀ b ∈ fp, H' b = none) → ∀ b ∈ fp, FpOk (X.blk s3 H3 scope ce fp) [] H' b := fun {σ' H' s'} I' hn b hb =>
    ⟨hn b hb, (I'.ok.exf b hb).1, I'.ok.exfs b hb, .inl hb, fun x c e => (I'.ok.exf b hb).2 x c e, fun p hp => absurd (show p ∈ ([] : List (Addr × Obj)) ++ [] from hp) (by simp)⟩
  have loop : codeAny (model X.prog X.w) X.A (.compLoop (.SetComp elt [⟨tg, iter, [], 0⟩] scope pos) 0 (.ref it) (.ref D) ce) (compPost (model X.prog X.w) X.A X.xe none (EP X pins σ Q) (.ref D) s3.heap.objs.size) s4 := by
    refine PpSet.compLoopS_any (fun n s' => ∃ i H', Inv (X.blk s3 H3 scope ce fp) [] (wipe σ (own.map (·.2))) H' s' ∧ tn i s'.heap ∧ (∀ b ∈ fp, H' b = none) ∧ W i n H') ?_ m0 ⟨0, H3, I4, st4', fun b hb => (f3 b hb).1.1, w0⟩
    rintro n s5 ⟨i, H5, I5, st5, n5, w5⟩
    rcases turn i n H5 w5 with ⟨stop, fin⟩ | ⟨go, Nx, hNx, one⟩
    · refine thnF (T.done (X.blk s3 H3 scope ce fp) rfl rfl rfl hc i [] s5 _ H5 (fun _ _ => False) I5 (loose I5 n5) st5 stop) fun r s6 ⟨hr, I6⟩ => ?_
      subst hr
      have I7 : Inv X pins σ H5 s6 := I3.call' (ch := fp) I6.os I6.base I6.hok I6.bare fun b hb => ⟨(f3 b hb).1.2.2.2.1, (f3 b hb).1.2.1, (f3 b hb).1.2.2.2.2.1, (f3 b hb).1.2.2.2.2.2⟩
      have nC : H5 s3.heap.objs.size = none := by rw [← cL]; exact I6.free
      obtain ⟨m, hn, _⟩ := I6.loc
      refine ⟨m, by rw [← cL]; exact hn, fun h'' sb => ?_⟩
      obtain ⟨g0, g1, g2, g3, g4, g5⟩ := I3.fpOk (H' := H5) (Nat.le_refl _) nC
      exact ⟨.ref D, H5, I7.turned (t' := s6.toks) (fun b o hb e => (sb.2 b hb).trans e) g0 g1 g3 g4 g5, rfl, fin⟩
    · refine thnF (T.item (X.blk s3 H3 scope ce fp) rfl rfl rfl hc i [] s5 _ H5 (fun _ _ => False) I5 (loose I5 n5) st5 go) fun r s6 ⟨u, hr, h6⟩ => ?_
      subst hr
      refine thnF h6 fun _ s7 ⟨x, H7, I7, r7, y7, st7, n7⟩ => ?_
      refine thnF (PGt.run _ s7 _ H7 x u _ (I7.pinned (loose I7 n7) (T.obj _ _ st7)) r7 (one x H7 y7)) fun _ s8 ⟨σ8, H8, I8, hw8, q8⟩ => ?_
      refine wpAny_pure ?_
      simp only [if_true]
      refine thnF (PEt.run _ s8 σ8 H8 _ I8 q8) fun z s10 ⟨yv, H10, I10, r10, xa, k, L, ey, hD10, hk, hn, hL, few, nx⟩ => ?_
      subst ey
      cases (show z = Value.ref xa from r10)
      refine addK_ok (X := X.blk s3 H3 scope ce fp) I10 hD10 hk hn hL hu few fun s' I' => ?_
      obtain ⟨m', hm, w'⟩ := hNx _ nx
      have pin' : ∀ b ∈ fp, ∀ o, s7.heap.get? b = some o → s'.heap.get? b = some o ∧ upd H10 D (SetNO X.w D ((xa, k) :: L)) b = none := fun b hb o e =>
        let z := I'.pin (b, o) (List.mem_append_right _ (List.mem_append_right _ (mem_pinsAt hb e)))
        ⟨z.1, z.2.1⟩
      refine ⟨m', hm, i + 1, _, (I'.unpinned (pins := [])).weak (by rw [← hw8, wipe_length]) (fun j v e => ?_), T.keep _ _ _ st7 fun b hb o e => (pin' b hb o e).1, fun b hb => ?_, w'⟩
      · rw [← hw8] at e
        exact (wipe_some e).1
      · obtain ⟨o, e, _⟩ := T.obj _ _ st7 b hb
        exact (pin' b hb o e).2
  exact PpSet.codeAny_compStart_set loop (T.self X.A 0 _ _ _ st4' loop)
/-- over a tuple: all keys unlike, so many are in the set -/
theorem scK_tup {w : World} {K : PySem.W.Frag} {a : Addr} {xs : List V} {g : TG} {te : TE} {vs : List Nat} {σ : L2.St} {H1 : Hp} {D : Addr} {Qd : Hp → Prop} (hD : H1 D = none) (hx : SqT K H1 a xs) (key : Nat → NestedKey) (nd : ∀ i j, i < j → j < xs.length → key i ≠ key j) (few : xs.length ≤ 1000)
    (hs : ∀ (i : Nat) (x : V) (H : Hp), xs[i]? = some x → Same H1 H → ∀ Qy : VK, (∀ b : Addr, IsK H1 (.ref b) (key i) → Qy (.ref b) H) → g x (wipe σ vs) H fun σ2 H2 => wipe σ2 vs = wipe σ vs ∧ te σ2 H2 Qy)
    (hd : ∀ (H : Hp) (L : List (Addr × NestedKey)), Same H1 H → H D = some (SetNO w D L) → L.length = xs.length → Qd H) :
    ∃ W : Nat → Nat → Hp → Prop, (∃ m, W 0 m (upd H1 D (SetNO w D []))) ∧ ∀ i m H, W i m H →
      ((Itt K a).stop i H ∧ Qd H) ∨ ((Itt K a).go i H ∧ ∃ Nx : Hp → Prop, (∀ H', Nx H' → ∃ m', m' < m ∧ W (i + 1) m' H') ∧ ∀ x H', (Itt K a).yld i H x H' → g x (wipe σ vs) H' fun σ2 H2 => wipe σ2 vs = wipe σ vs ∧
        te σ2 H2 fun y H4 => ∃ (x : Addr) (k : NestedKey) (L : List (Addr × NestedKey)), y = .ref x ∧ H4 D = some (SetNO w D L) ∧ IsK H4 y k ∧ (∀ p ∈ L, p.2 ≠ k) ∧ (∀ p ∈ L, IsK H4 (.ref p.1) p.2) ∧ L.length + 1 ≤ 1000 ∧ Nx (upd H4 D (SetNO w D ((x, k) :: L)))) := by
  have sq : ∀ {H : Hp}, Same H1 H → SqT K H a xs := fun {H} e => by
    rcases hx with (h | ⟨o, h⟩) | h
    · exact .inl (.inl (e _ _ h))
    · exact .inl (.inr ⟨o, e _ _ h⟩)
    · exact .inr h
  refine ⟨fun i m H => m = xs.length - i ∧ i ≤ xs.length ∧ Same H1 H ∧ ∃ L, H D = some (SetNO w D L) ∧ L.length = i ∧ ∀ p ∈ L, (∃ j, j < i ∧ p.2 = key j) ∧ IsK H1 (.ref p.1) p.2,
    ⟨xs.length, rfl, Nat.zero_le _, Same.new hD, [], upd_same, rfl, fun p hp => by cases hp⟩, ?_⟩
  rintro i m H ⟨rfl, hi, se, L, hL, ll, kn⟩
  by_cases hlt : i < xs.length
  · refine .inr ⟨⟨xs, xs[i], sq se, by simp [hlt]⟩, fun H' => Same H1 H' ∧ ∃ L, H' D = some (SetNO w D L) ∧ L.length = i + 1 ∧ ∀ p ∈ L, (∃ j, j < i + 1 ∧ p.2 = key j) ∧ IsK H1 (.ref p.1) p.2,
      fun H' p' => ⟨xs.length - (i + 1), by omega, rfl, hlt, p'⟩, fun x H' y => ?_⟩
    obtain ⟨e, y⟩ := y
    subst e
    refine hs i x _ (y xs (sq se)) se _ fun b hb => ?_
    refine ⟨b, key i, L, rfl, hL, hb.mono (Same.et se), fun p hp e => ?_, fun p hp => (kn p hp).2.mono (Same.et se), by omega, KR.Same.mut se hD, (b, key i) :: L, upd_same, by rw [List.length_cons, ll], fun p hp => ?_⟩
    · obtain ⟨⟨j, hj, ej⟩, _⟩ := kn p hp
      exact nd j i hj hlt (ej.symm.trans e)
    · rcases List.mem_cons.mp hp with z | z
      · rw [z]
        exact ⟨⟨i, Nat.lt_succ_self _, rfl⟩, hb⟩
      · obtain ⟨⟨j, hj, ej⟩, k⟩ := kn p z
        exact ⟨⟨j, Nat.lt_succ_of_lt hj, ej⟩, k⟩
  · have e : i = xs.length := by omega
    subst e
    exact .inl ⟨⟨xs, sq se, Nat.le_refl _⟩, hd H L se hL ll⟩
end
end KS
end
section
set_option Elab.async false
set_option linter.all false
set_option maxRecDepth 100000
set_option maxHeartbeats 4000000
namespace KR
open PySem PySem.Spec PySem.Calls PyProof.Rows L2

/-- exactly this object stands at a -/
def exO (a : Addr) (ob : Obj) : HO := .ext fun h => h.get? a = some ob
theorem exO_ok {P : Program} {w : World} {H : Hp} {h : Heap} {a : Addr} {ob : Obj} (e : h.get? a = some ob) : ObjOk P w H h a (exO a ob) :=
  ⟨e, ⟨ob, e⟩, fun _ _ q st => st _ q⟩
theorem vals_perm {ws vs : List Value} (p : ws.Perm vs) : ∀ {xs : List V}, Vals xs vs → ∃ ys : List V, ys.Perm xs ∧ Vals ys ws := by
  induction p with
  | nil => exact fun h => ⟨_, .refl _, h⟩
  | cons x _ ih =>
    intro xs h
    cases h with
    | cons r t =>
      obtain ⟨ys, h1, h2⟩ := ih t
      exact ⟨_ :: ys, h1.cons _, .cons r h2⟩
  | swap x y l =>
    intro xs h
    cases h with
    | cons r t =>
      cases t with
      | cons r2 t2 => exact ⟨_ :: _ :: _, .swap .., .cons r2 (.cons r t2)⟩
  | trans _ _ ih1 ih2 =>
    intro xs h
    obtain ⟨ys, h1, h2⟩ := ih2 h
    obtain ⟨zs, h3, h4⟩ := ih1 h2
    exact ⟨zs, h3.trans h1, h4⟩
theorem alike_ints : ∀ (a b : List Int), PySem.W.alikeAll (a.map .int) (b.map .int) = true
  | [], _ => by simp [PySem.W.alikeAll]
  | _ :: _, [] => by simp [PySem.W.alikeAll]
  | x :: a, y :: b => by simp [PySem.W.alikeAll, PySem.W.alike, alike_ints a b]
theorem depth_ints : ∀ (a : List Int), PyData.depthAll (a.map .int) ≤ 1
  | [] => by simp [PyData.depthAll]
  | x :: a => by
    have := depth_ints a
    simp only [List.map_cons, PyData.depthAll, PyData.depth]
    omega
/-- a key: a tuple of ints, one at least -/
def KeyLike (d : PyData) : Prop := ∃ (n : Int) (ns : List Int), d = .tuple ((n :: ns).map .int)
section
variable {X : Cx} {pins : List (Addr × Obj)} {σ : L2.St} {H H0 : Hp} {s : Shared}
theorem ra_reads (I : Inv X pins σ H s) : ∀ {ks : List V} {ds : List PyData} {us : List Value}, Ra H ks ds → Vals ks us → PySem.W.EachIs (fun v d => ∃ as, Reads s.heap v d as) us ds
  | _, _, _, .nil, .nil => .nil
  | _, _, _, .cons a b, .cons r t => .cons (Dp.reads I _ _ _ (Rp.dp (K := X.K) a) r) (ra_reads I b t)
/-- what one call of the key function gives -/
def KeyTurn (X : Cx) (f : Addr) (ob : Obj) (H0 : Hp) (xs : List V) : Prop :=
  ∀ (pins : List (Addr × Obj)) (s : Shared) (σ : L2.St) (H : Hp) (v : V) (u : Value), (f, ob) ∈ pins → Inv X pins σ H s → Same H0 H → v ∈ xs → RelV v u →
    wpAny (model X.prog X.w) X.A.in1.in1 (call (.ref f) [u]) (EP X pins σ fun w H' => Same H H' ∧ ∃ d, KeyLike d ∧ Rp H' w d) (fun _ _ => False) s

theorem sort_tail {P : PySem.Fin → Shared → Prop} {E : Value → Shared → Prop} {A : Around} {a kS : Addr} {e1 : Nat} {xs ks : List V} {vs : List Value} {st : SortSt} (I : Inv X pins σ H s) (hv : Vals xs vs) (hz : xs.length ≤ sizeLine)
    (hS : Same H0 H) (ha : H a = some (exO a (seqObj "list" #[] e1))) (hk : H kS = some (.lst ks)) (nk : H0 kS = none) (na : H0 a = none) (hka : kS ≠ a) (hfl : failedOf st = none) (hp : ((arrOf st).map (·.2)).toList.Perm vs)
    (h : ∀ s' H' ys, ys.Perm xs → Inv X pins σ H' s' → Same H0 H' → H' a = some (.lst ys) → P (.done (.ret .none)) s') :
    wpAny (model X.prog X.w) A (ksk_tail a false e1 (.ref kS) st) P E s := by
  obtain ⟨hzk, its, nn, rk, ek⟩ := I.hok kS _ hk
  obtain ⟨ea, _, _⟩ := I.hok a _ ha
  have ea : s.heap.get? a = some (seqObj "list" #[] e1) := ea
  have lk : its.length ≤ sizeLine := by rw [← rk.length]; exact hzk
  have lv : ((arrOf st).map (·.2)).size ≤ sizeLine + 1 := by
    have := hp.length_eq
    rw [Array.length_toList] at this
    rw [this, ← hv.length]
    exact Nat.le_succ_of_le hz
  obtain ⟨ys, y1, y2⟩ := vals_perm hp hv
  unfold ksk_tail
  try dsimp only
  refine wpAny_bind (listUpdate_at ek rfl ?_ (by rw [List.size_toArray]; exact lk) (Nat.zero_le _))
  have s1 := Heap.SameBut.update s.heap kS (Obj.mapSeq fun _ => (#[] : Array Value))
  obtain ⟨c1, hc1⟩ : ∃ c1, (s.heap.update kS (Obj.mapSeq fun _ => (#[] : Array Value))).get? kS = some (seqObj "list" #[] c1) := ⟨_, get?_update_seq ek fun _ => #[]⟩
  have I1 : Inv X pins σ (upd H kS (.lst [])) { s with heap := s.heap.update kS (Obj.mapSeq fun _ => (#[] : Array Value)) } :=
    I.write (t' := s.toks) (by rw [hk]; trivial) (.inl rfl) (fun b u hb q => (s1.2 b hb).trans q) ⟨_, hc1⟩ ⟨Nat.zero_le _, [], c1, .nil, hc1⟩
  have ha1 : upd H kS (.lst []) a = some (exO a (seqObj "list" #[] e1)) := by rw [upd_ne hka.symm]; exact ha
  obtain ⟨ea1, _, _⟩ := I1.hok a _ ha1
  have ea1 : (s.heap.update kS (Obj.mapSeq fun _ => (#[] : Array Value))).get? a = some (seqObj "list" #[] e1) := ea1
  refine wpAny_bind (wpAny_letGo ?_)
  refine wpAny_bind (seqEpoch_at ea1 rfl ?_)
  refine wpAny_bind (listUpdate_at ea1 rfl ?_ (Nat.zero_le _) (by simpa using lv))
  rw [hfl]
  simp only [bne_self_eq_false, Bool.false_eq_true, if_false]
  have s2 := Heap.SameBut.update (s.heap.update kS (Obj.mapSeq fun _ => (#[] : Array Value))) a (Obj.mapSeq fun _ => (arrOf st).map (·.2))
  obtain ⟨c2, hc2⟩ : ∃ c2, ((s.heap.update kS (Obj.mapSeq fun _ => (#[] : Array Value))).update a (Obj.mapSeq fun _ => (arrOf st).map (·.2))).get? a = some (seqObj "list" ((arrOf st).map (·.2)) c2) := ⟨_, get?_update_seq ea1 fun _ => (arrOf st).map (·.2)⟩
  have I2 : Inv X pins σ (upd (upd H kS (.lst [])) a (.lst ys)) { s with heap := (s.heap.update kS (Obj.mapSeq fun _ => (#[] : Array Value))).update a (Obj.mapSeq fun _ => (arrOf st).map (·.2)) } :=
    I1.write (t' := s.toks) (by rw [ha1]; trivial) (.inl rfl) (fun b u hb q => (s2.2 b hb).trans q) ⟨_, hc2⟩ ⟨by rw [y1.length_eq]; exact hz, _, c2, y2, by rw [Array.toArray_toList]; exact hc2⟩
  exact wpAny_pure (h _ _ ys y1 I2 (KR.Same.mut (KR.Same.mut hS nk) na) upd_same)

theorem sort_rest {P : PySem.Fin → Shared → Prop} {E : Value → Shared → Prop} {f a kS : Addr} {ob : Obj} {e1 : Nat} {xs : List V} {vs : List Value} (hu : X.A.units + 64 < cLine) (I : Inv X pins σ H s) (hf : (f, ob) ∈ pins) (hv : Vals xs vs) (hz : xs.length ≤ sizeLine)
    (hS : Same H0 H) (ha : H a = some (exO a (seqObj "list" #[] e1))) (hk : H kS = some (.lst [])) (nk : H0 kS = none) (na : H0 a = none) (hka : kS ≠ a) (turn : KeyTurn X f ob H0 xs)
    (h : ∀ s' H' ys, ys.Perm xs → Inv X pins σ H' s' → Same H0 H' → H' a = some (.lst ys) → P (.done (.ret .none)) s') :
    wpAny (model X.prog X.w) X.A.in1.in1 (ksk_rest a (.ref f) false vs.toArray e1 (.ref kS)) P E s := by
  unfold ksk_rest
  refine wpAny_bind (wpAny_rule ?_)
  first
    | rw [List.forIn_toArray]
    | (rw [← Array.forIn_toList]; simp only [List.toList_toArray])
    | rw [← Array.forIn_toList]
  refine wpAny_bind (ksk_fold (fun i s' => ∃ (H' : Hp) (ks : List V) (ds : List PyData), Inv X pins σ H' s' ∧ Same H0 H' ∧ H' a = some (exO a (seqObj "list" #[] e1)) ∧ H' kS = some (.lst ks) ∧ ks.length = i ∧ Ra H' ks ds ∧ ∀ d ∈ ds, KeyLike d) vs 0 s
    ⟨H, [], [], I, hS, ha, hk, rfl, .nil, fun d hd => absurd hd (by simp)⟩ ?step ?done)
  case step =>
    rintro j x s' hx ⟨H', ks, ds, I', hS', ha', hk', hl, hR, hD⟩
    simp only [Nat.zero_add] at hl ⊢
    obtain ⟨v, hv1, hv2⟩ := paired_get (F := L2.RelV) hv hx
    refine wpAny_bind (wpAny_attempt (wpAny_mono (turn pins s' σ H' v x hf I' hS' (List.mem_of_getElem? hv1) hv2) (fun u s'' he => ?_) fun _ _ hF => hF.elim))
    obtain ⟨w, H2, I2, rw', hS2, d, hd, hr⟩ := he
    try dsimp only
    have hk2 := hS2 _ _ hk'
    obtain ⟨hzk, its, nn, rk, ek⟩ := I2.hok kS _ hk2
    have hj : j < vs.length := (List.getElem?_eq_some_iff.mp hx).1
    have lk : its.length < vs.length := by rw [← rk.length, hl]; exact hj
    have lv : vs.length ≤ sizeLine := by rw [← hv.length]; exact hz
    have s1 := Heap.SameBut.update s''.heap kS (Obj.mapSeq (·.push u))
    obtain ⟨c2, hc2⟩ : ∃ c2, (s''.heap.update kS (Obj.mapSeq (·.push u))).get? kS = some (seqObj "list" (its.toArray.push u) c2) := ⟨_, get?_update_seq ek (·.push u)⟩
    refine wpAny_bind (listUpdate_at ek rfl ?_ (by rw [List.size_toArray]; omega) (by rw [Array.size_push, List.size_toArray]; omega))
    refine wpAny_pure ⟨rfl, upd H2 kS (.lst (ks ++ [w])), ks ++ [w], ds ++ [d], I2.write (t' := s''.toks) (by rw [hk2]; trivial) (.inl rfl) (fun b o hb q => (s1.2 b hb).trans q) ⟨_, hc2⟩ ⟨?_, its ++ [u], c2, rk.append (.cons rw' .nil), ?_⟩, ?_, ?_, upd_same, ?_, ?_, ?_⟩
    · rw [List.length_append, List.length_singleton, hl]; omega
    · rw [hc2]; simp
    · exact KR.Same.mut (fun b o e => hS2 b o (hS' b o e)) nk
    · rw [upd_ne hka.symm]; exact hS2 _ _ ha'
    · rw [List.length_append, List.length_singleton, hl]
    · exact ((hR.mono (Same.et hS2)).snoc hr).mono (Et.lst hk2)
    · intro d' hd'
      rcases List.mem_append.mp hd' with q | q
      · exact hD d' q
      · rw [List.mem_singleton.mp q]; exact hd
  case done =>
    rintro s' ⟨H', ks, ds, I', hS', ha', hk', hl, hR, hD⟩
    obtain ⟨hzk, its, nn, rk, ek⟩ := I'.hok kS _ hk'
    have li : its.length = vs.length := by rw [← rk.length, hl]; simp
    try dsimp only
    refine wpAny_bind (listItems_at ek rfl ?_)
    have hal : PySem.W.AllAlike ds := fun d hd d' hd' => by
      obtain ⟨n, ns, rfl⟩ := hD d hd
      obtain ⟨m, ms, rfl⟩ := hD d' hd'
      show PySem.W.alikeAll _ _ = true
      exact alike_ints _ _
    have hsk : PySem.W.Sortable ds := .inl fun d hd => by
      obtain ⟨n, ns, rfl⟩ := hD d hd
      exact ⟨_, _, rfl⟩
    have S := PySem.W.SortsAt.data (prog := X.prog) (w := X.w) (A := X.A.in1.in1) (s := s') (ra_reads I' hR rk) hal hsk fun d hd => by
      obtain ⟨n, ns, rfl⟩ := hD d hd
      have h1 := depth_ints (n :: ns)
      have h2 : PyData.depth (.tuple ((n :: ns).map .int)) ≤ 2 := by
        simp only [PyData.depth]
        omega
      show X.A.units + 1 + 1 + _ < cLine
      omega
    obtain ⟨kd, h1, h2⟩ := S.kind
    have hsz : its.toArray.size = vs.length := by rw [List.size_toArray]; exact li
    have hK : PyProof.Rows.KeysOf (PySem.W.dataKind s'.heap ds) (its.toArray.zip vs.toArray) := PySem.W.keysOf_zip (by simpa using S.keys)
    have hss : (its.toArray.zip vs.toArray).size = vs.length := by rw [Array.size_zip, hsz, List.size_toArray, Nat.min_self]
    have hperm : ∀ st' : SortSt, (arrOf st').Perm (its.toArray.zip vs.toArray) → ((arrOf st').map (·.2)).toList.Perm vs := fun st' hp => by
      have e : ((its.toArray.zip vs.toArray).map (·.2)).toList = vs := by
        simp only [Array.toList_map, Array.toList_zip, List.toList_toArray]
        exact List.map_snd_zip (by omega)
      have hq : (arrOf st').toList.Perm (its.toArray.zip vs.toArray).toList := Array.perm_iff_toList_perm.mp hp
      have hq' := hq.map (·.2)
      rw [← Array.toList_map, ← Array.toList_map, e] at hq'
      exact hq'
    unfold ksk_end
    simp only [Bool.false_eq_true, if_false]
    by_cases hl2 : vs.toArray.size < 2
    · rw [if_pos hl2, if_pos hl2]
      refine wpAny_bind (wpAny_pure ?_)
      rw [StateT.run_pure]
      refine wpAny_bind (wpAny_pure ?_)
      try dsimp only
      exact sort_tail I' hv hz hS' ha' hk' nk na hka rfl (hperm (SortSt.mk' general' (its.toArray.zip vs.toArray) #[] 7 none) (Array.Perm.refl _)) h
    · rw [if_neg hl2, if_neg hl2]
      rw [List.size_toArray] at hl2
      refine wpAny_bind (h2 (by omega) _ ?_)
      refine wpAny_bind (wpAny_mono (PyProof.Rows.H.wpS_sortRunsSt (κ := PySem.W.dataKind s'.heap ds) (kd := kd) (a₀ := its.toArray.zip vs.toArray)
        (st := SortSt.mk' kd (its.toArray.zip vs.toArray) #[] 7 none)
        (Q := fun _ st' => failedOf st' = none ∧ ((arrOf st').map (·.2)).toList.Perm vs)
        h1 hK ⟨Array.Perm.refl _, rfl, rfl⟩ rfl (Stable.refl _) (by rw [hss]; omega) fun st' a1 a2 a3 a4 => ⟨a2, hperm st' a1⟩) ?_ fun _ _ e => e)
      rintro ⟨⟨⟩, st'⟩ s'' ⟨rfl, hfl, ho⟩
      try dsimp only at ho ⊢
      exact sort_tail I' hv hz hS' ha' hk' nk na hka hfl ho h
end
end KR
end
section
set_option Elab.async false
set_option linter.all false
set_option maxRecDepth 100000
set_option maxHeartbeats 4000000
namespace KR
open PySem PySem.Spec PySem.Calls PyProof.Rows L2
section
variable {X : Cx} {pins : List (Addr × Obj)} {σ : L2.St} {H H0 : Hp} {s : Shared}
theorem sort_tree {P : PySem.Fin → Shared → Prop} {E : Value → Shared → Prop} {f a : Addr} {ob : Obj} {xs : List V} {vs : List Value} {n : Nat} (hu : X.A.units + 64 < cLine) (I : Inv X pins σ H0 s) (hf : (f, ob) ∈ pins) (hv : Vals xs vs) (hz : xs.length ≤ sizeLine)
    (na : s.heap.objs.size ≤ a) (turn : KeyTurn X f ob H0 xs) {h1 : Heap} (hk1 : ∀ b o, s.heap.get? b = some o → h1.get? b = some o) (ea : h1.get? a = some (seqObj "list" vs.toArray n))
    (h : ∀ s' H' ys, ys.Perm xs → Inv X pins σ H' s' → Same H0 H' → H' a = some (.lst ys) → P (.done (.ret .none)) s') :
    wpAny (model X.prog X.w) X.A.in1.in1 (ksk_tree a (.ref f) false) P E { s with heap := h1 } := by
  have hzv : vs.length ≤ sizeLine := by rw [← hv.length]; exact hz
  unfold ksk_tree
  refine wpAny_bind (listItems_at ea rfl ?_)
  refine wpAny_bind (listUpdate_at ea rfl ?_ (by rw [List.size_toArray]; exact hzv) (Nat.zero_le _))
  have s1 := Heap.SameBut.update h1 a (Obj.mapSeq fun _ => (#[] : Array Value))
  obtain ⟨e1, ho1⟩ : ∃ e1, (h1.update a (Obj.mapSeq fun _ => (#[] : Array Value))).get? a = some (seqObj "list" #[] e1) := ⟨_, get?_update_seq ea fun _ => #[]⟩
  have na0 : H0 a = none := I.hok.fresh na
  have I1 : Inv X pins σ (upd H0 a (exO a (seqObj "list" #[] e1))) { s with heap := h1.update a (Obj.mapSeq fun _ => (#[] : Array Value)) } :=
    I.laid (t' := s.toks) (fun b u q => (s1.2 b (Nat.ne_of_lt (Nat.lt_of_lt_of_le (Heap.lt_size q) na))).trans (hk1 b u q)) na (exO_ok ho1)
  refine wpAny_bind (seqEpoch_at ho1 rfl ?_)
  refine wpAny_bind (wpAny_newTuple ?_ (by show vs.length ≤ _; exact hzv))
  refine wpAny_bind (wpAny_newList ?_ (Nat.zero_le _))
  refine wpAny_holding ?_
  have hsz : (h1.update a (Obj.mapSeq fun _ => (#[] : Array Value))).objs.size ≤ ((h1.update a (Obj.mapSeq fun _ => (#[] : Array Value))).push (seqObj "tuple" vs.toArray 0)).objs.size := by rw [size_push']; omega
  have hka : ((h1.update a (Obj.mapSeq fun _ => (#[] : Array Value))).push (seqObj "tuple" vs.toArray 0)).objs.size ≠ a := by
    have q := Heap.lt_size ho1
    exact Nat.ne_of_gt (Nat.lt_of_lt_of_le q hsz)
  have hgk : (((h1.update a (Obj.mapSeq fun _ => (#[] : Array Value))).push (seqObj "tuple" vs.toArray 0)).push (seqObj "list" #[] 0)).get? ((h1.update a (Obj.mapSeq fun _ => (#[] : Array Value))).push (seqObj "tuple" vs.toArray 0)).objs.size = some (seqObj "list" #[] 0) := Heap.get?_push_size _ rfl
  have I2 : Inv X pins σ (upd (upd H0 a (exO a (seqObj "list" #[] e1))) ((h1.update a (Obj.mapSeq fun _ => (#[] : Array Value))).push (seqObj "tuple" vs.toArray 0)).objs.size (.lst [])) { s with heap := ((h1.update a (Obj.mapSeq fun _ => (#[] : Array Value))).push (seqObj "tuple" vs.toArray 0)).push (seqObj "list" #[] 0) } :=
    I1.laid (t' := s.toks) (fun b u q => Heap.get?_push_of_some _ (Heap.get?_push_of_some _ q)) hsz ⟨Nat.zero_le _, [], 0, .nil, hgk⟩
  have nk0 : H0 ((h1.update a (Obj.mapSeq fun _ => (#[] : Array Value))).push (seqObj "tuple" vs.toArray 0)).objs.size = none := by
    have q := I1.hok.fresh hsz
    rw [upd_ne hka] at q
    exact q
  exact sort_rest (s := { s with heap := ((h1.update a (Obj.mapSeq fun _ => (#[] : Array Value))).push (seqObj "tuple" vs.toArray 0)).push (seqObj "list" #[] 0) }) (kS := ((h1.update a (Obj.mapSeq fun _ => (#[] : Array Value))).push (seqObj "tuple" vs.toArray 0)).objs.size)
    hu I2 hf hv hz (KR.Same.mut (KR.Same.mut (Same.refl _) na0) nk0) (by rw [upd_ne hka.symm, upd_same]) upd_same nk0 na0 hka turn h
/-- sorted(t, key=f), t a tuple, f's object known -/
theorem sorted_key {a f : Addr} {ob : Obj} {xs : List V} {Q : VK} (hu : X.A.units + 64 < cLine) (I : Inv X pins σ H0 s) (hf : (f, ob) ∈ pins) (ha : SqT X.K H0 a xs) (turn : KeyTurn X f ob H0 xs)
    (h : ∀ p ys H', ys.Perm xs → H0 p = none → Same H0 H' → H' p = some (.lst ys) → Q (.ref p) H') :
    wpAny (model X.prog X.w) X.A (call (.builtin "sorted") [.ref a] [(Str.ofString "key", .ref f)]) (EP X pins σ Q) X.xe s := by
  obtain ⟨its, rv, ⟨o, ho, hc, n, hd⟩, hz⟩ := I.tuple ha
  have hzv : its.length ≤ sizeLine := by rw [← rv.length]; exact hz
  refine call_function_entry_kw kind_sorted plain_sorted entry_sorted (ksk_s1 _ _) ?_
  unfold Builtin.«sorted»
  refine wpAny_bind (m := checkCount "sorted" 1 1 _) (wpAny_pure ?_)
  refine wpAny_bind (wpAny_collect_seq a (.inr rfl) ho hc hd (fun h' hk => ?_) (by rw [List.size_toArray]; exact hzv))
  have e0 : its.toArray.toList = its := by simp
  rw [e0]
  refine wpAny_bind (wpAny_newList ?_ hzv)
  have I' : Inv X pins σ H0 { s with heap := h' } := I.kept (t' := s.toks) hk
  have eL : (h'.push (seqObj "list" its.toArray 0)).get? h'.objs.size = some (seqObj "list" its.toArray 0) := Heap.get?_push_size _ rfl
  refine wpAny_bind (wpAny_holding (wpAny_call_entry_kw slot_list_sort ⟨_, eL, rfl⟩ entry_list_sort ?_ (ksk_l1 _ _)))
  rw [ksk_t1]
  refine sort_tree hu I' hf rv hz (Nat.le_refl _) turn (fun b o q => Heap.get?_push_of_some _ q) eL fun s' H' ys hp I2 hS hL => ⟨_, rfl, ?_⟩
  exact wpAny_pure ⟨_, rfl, .ref h'.objs.size, H', I2, rfl, h _ ys H' hp (I'.hok.fresh (Nat.le_refl _)) hS hL⟩
end
end KR
end
section
set_option Elab.async false
set_option linter.all false
set_option maxRecDepth 100000
set_option maxHeartbeats 4000000
namespace KR
open PySem PySem.Spec PySem.Calls PyProof.Rows L2
section
variable {X : Cx} {pins : List (Addr × Obj)} {σ : L2.St} {H H0 : Hp} {s : Shared}
/-- the object of a lambda of one parameter, without captured names -/
abbrev lamO (q : Str) (params : Arguments) (body : Expr) (scope : Scope) (pm : Value) (c' : Addr) (ctv : Value) : Obj := PySem.W.kla_obj "<lambda>" q params body scope [] pm c' ctv
/-- the lambda called: its body read in its own frame -/
theorem lam_turn {k : Nat} {f c' : Addr} {q y : Str} {params : Arguments} {body : Expr} {scope : Scope} {pm ctv : Value} {tb : TE} {xs : List V} (S : FnScope [y] [y] scope)
    (hbind : ∀ u : Value, bindArgs (PySem.W.kla_fn "<lambda>" q params body scope [] pm (.ref c') ctv) ⟨[u], []⟩ = pure [(y, u)])
    (hr : Room (k + 3) X.A) (hc : H0 c' = some (LamX.CodeO c' q))
    (hbody : ∀ (A : Around) (outer : List Env) (s : Shared) (H : Hp), Room k (A.deeper (envOfC q scope s.heap.objs.size f (.ref c'))) → PE (cxOf C8.CX0 X.prog X.w X.K X.mg X.base [y] q scope f (.ref c') A outer s H C8.E0) body tb)
    (ht : ∀ (v : V) (H : Hp), v ∈ xs → Same H0 H → tb [some v] H fun w H' => Same H H' ∧ ∃ d, KeyLike d ∧ Rp H' w d) :
    KeyTurn X f (lamO q params body scope pm c' ctv) H0 xs := by
  intro pins s σ H v u hf I hS hv r
  obtain ⟨hof, _⟩ := I.pin _ (List.mem_append_right _ hf)
  have hof : s.heap.get? f = some (lamO q params body scope pm c' ctv) := hof
  obtain ⟨⟨oc, vs, t, hoc, hdc, hvc⟩, _, _⟩ := I.hok c' _ (hS _ _ hc)
  have hr2 : Room (k + 1) X.A.in1.in1 := hr.in1.in1
  have rc : codeAny (model X.prog X.w) X.A.in1.in1 (.call (.ref f) ⟨[u], []⟩) (CR C8.CX0 X.stack X.prog X.w H s (fun w H' => Same H H' ∧ ∃ d, KeyLike d ∧ Rp H' w d) C8.E0) s := by
    refine PySem.W.kla_callFunE hr2.depth hof rfl S.co S.gen rfl ⟨c', oc, vs, t, rfl, hoc, hdc, hvc⟩ ?_
    rw [hbind]
    have hkind : ∀ z ∈ [(y, u)], scope.names.lookup z.1 = some .local ∨ (scope.names.lookup z.1 = some .cell ∧ ((cellsFrom (s.heap.objs.size + 1) scope.names []).lookup z.1).isSome = true) := fun z hz => by
      rw [List.mem_singleton.mp hz]
      rcases S.par y (List.mem_singleton.mpr rfl) with q | q
      · exact .inl q
      · exact .inr ⟨q, PySem.W.cellsFrom_some _ _ _ (.inl q)⟩
    refine wpAny_pure (wpAny_newFunctionEnv_cells S.kind hkind fun env he s1 x => ?_)
    subst he
    refine ⟨I.nolimit.keeps x.toInCall.keep, ?_⟩
    have J : Inv (cxOf C8.CX0 X.prog X.w X.K X.mg X.base [y] q scope f (.ref c') X.A.in1.in1 X.stack s H C8.E0) [] (L2.start [y] [v]) H s1 :=
      inv_start (us := [u]) S hr2.hd I.env0.in1.in1 rfl (.cons r .nil) x
    refine PySem.W.kla_codeExpr (wpAny_mono ((hbody X.A.in1.in1 X.stack s H (hr2.deeper _)).run [] s1 _ H _ J (ht v H hv hS)) (fun w s' hq => ?_) fun e s' hq => hq)
    obtain ⟨w', H', J', rv, q⟩ := hq
    exact ⟨w', H', J'.os, J'.bare, J'.base, J'.hok, rv, q⟩
  refine wpAny_call (codeAny_mono rc fun r s' hq => ?_)
  cases r with
  | error e => exact (show False from hq).elim
  | ok fl =>
    cases fl with
    | ret u => exact I.after hq
    | next => exact False.elim hq
    | brk => exact False.elim hq
    | cont => exact False.elim hq
theorem frs_sub (I : Inv X pins σ H s) : ∀ b ∈ X.fs, b ∈ frs X.stack := fun b hb => by
  rcases I.ok.stk with e | ⟨e, _⟩
  · rw [e]; exact hb
  · rw [e]
    unfold frs
    rw [List.filterMap_cons]
    split
    · exact hb
    · exact List.mem_cons_of_mem _ hb
/-- sorted(e, key=lambda y: body), e a tuple: a list of the same, in some order -/
def tSortLam (K : PySem.W.Frag) (T : List (Addr × Str)) (te tb : TE) : TE := fun σ H Q => te σ H fun x H1 => ∃ (a : Addr) (xs : List V), x = .ref a ∧ SqT K H1 a xs ∧ LamX.Tabs T H1 ∧
  ∀ H2, LamX.ExtN H1 H2 → LamX.Tabs T H2 → SqT K H2 a xs → (∀ (v : V) (H : Hp), v ∈ xs → Same H2 H → tb [some v] H fun w H' => Same H H' ∧ ∃ d, KeyLike d ∧ Rp H' w d) ∧
    ∀ p ys H3, ys.Perm xs → H2 p = none → Same H2 H3 → H3 p = some (.lst ys) → Q (.ref p) H3
theorem extN_sqT {H H' : Hp} {a : Addr} {xs : List V} (e : LamX.ExtN H H') (h : SqT X.K H a xs) : SqT X.K H' a xs := by
  rcases h with (h | ⟨o, h⟩) | h
  · exact .inl (.inl (e _ _ h fun ps z => by cases z))
  · exact .inl (.inr ⟨o, e _ _ h fun ps z => by cases z⟩)
  · exact .inr h
theorem pe_sortLam {T : List (Addr × Str)} {c P : Addr} {k : Nat} {y : Str} {e : Expr} {params : Arguments} {body : Expr} {scope : Scope} {te tb : TE} {p lpos kpos pos : Pos} (hu : X.A.units + 64 < cLine) (hg : Gl X "sorted") (hm : X.mg "sorted" = none) (he : PE X e te)
    (TB : LamX.TabB X.base X.mg c P) (hcode : X.env.code = .ref c) (hmT : (P, X.env.qual ++ "<lambda>") ∈ T) (hu' : ∀ p ∈ T, p.1 = P → p.2 = X.env.qual ++ "<lambda>") (hr : Room (k + 3) X.A) (S : FnScope [y] [y] scope) (hcl : cloFrom X.env.cells scope.names [] = []) (hdef : defaultsOf params X.env = ([], []))
    (hbind : ∀ (q : Str) (pm cv ctv u : Value), bindArgs (PySem.W.kla_fn "<lambda>" q params body scope [] pm cv ctv) ⟨[u], []⟩ = pure [(y, u)])
    (hbody : ∀ (A : Around) (outer : List Env) (s : Shared) (H : Hp) (f c' : Addr), Room k (A.deeper (envOfC (X.env.qual ++ "<lambda>") scope s.heap.objs.size f (.ref c'))) → PE (cxOf C8.CX0 X.prog X.w X.K X.mg X.base [y] (X.env.qual ++ "<lambda>") scope f (.ref c') A outer s H C8.E0) body tb)
    (h1 : backTo pos (starEach [e] X.env) = [(false, eval e X.env)] := by rfl) :
    PE X (.Call (.Name "sorted" p) [e] [⟨some ("key" : Str), .Lambda params body scope lpos, kpos⟩] pos) (tSortLam X.K T te tb) := by
  refine ⟨fun pins s σ H Q I h => ?_⟩
  refine wpAny_Call_Name_kw (ld_blt I hg hm PyProof.Rows.boot_sorted ?_ (by decide) (by decide))
  refine PyProof.Rows.callWith_kw ?_ (by rw [h1]; rfl) (by rw [h1]; rfl) rfl rfl
  rw [h1]
  refine Calls.spliced_cons (thn (he.run pins s σ H _ I h) fun u s1 ⟨x, H1, I1, r1, a, xs, ex, ha, hT, q⟩ => ?_)
  subst ex
  obtain rfl : u = Value.ref a := r1
  refine Calls.spliced_nil ?_
  show wpAny _ _ (evalAll [do let v ← eval (.Lambda params body scope lpos) X.env; standAt pos; pure v]) _ _ s1
  have hfree : ∀ z ∈ scope.names, z.2 = .free → ∃ c, X.env.cells.lookup z.1 = some c := fun z hz e => absurd e (S.nofree z hz)
  refine wpAny_evalAll_cons (wpAny_bind (LamX.lam_make2 I1 TB hcode hmT hu' hT hdef hfree fun f c' pm ctv H2 s2 I2 eN T2 hf hfn hfr hco => wpAny_bind (wpAny_standAt (wpAny_pure ?_))))
  refine wpAny_evalAll_nil ?_
  rw [hcl] at hf
  have hfl : f ≠ X.env.locals := fun z => by
    obtain ⟨m, ⟨o, es, ep, ho, hd, _⟩, _⟩ := I2.loc
    rw [← z, hf] at ho
    cases ho
    cases hd
  have I3 : Inv X (pins ++ [(f, lamO (X.env.qual ++ "<lambda>") params body scope pm c' ctv)]) σ H2 s2 := I2.pins_of fun p hp => by
    rcases List.mem_append.mp hp with hp | hp
    · exact I2.pin p (List.mem_append_right _ hp)
    · rw [List.mem_singleton.mp hp]
      exact ⟨hf, hfn, hfl, fun z => hfr (frs_sub I2 f z), fun v z => by cases z⟩
  have ha2 := extN_sqT (X := X) eN ha
  obtain ⟨q1, q2⟩ := q H2 eN T2 ha2
  have turn := lam_turn (X := X) (H0 := H2) (xs := xs) (q := X.env.qual ++ "<lambda>") (pm := pm) (ctv := ctv) S (hbind _ pm (.ref c') ctv) hr hco (fun A outer s H hr => hbody A outer s H f c' hr) q1
  refine wpAny_mono (sorted_key (Q := Q) hu I3 (List.mem_append_right _ (List.mem_singleton.mpr rfl)) ha2 turn q2) (fun u s3 h3 => ?_) fun _ _ z => z
  obtain ⟨v, H3, I4, rv, qv⟩ := h3
  exact ⟨v, H3, I4.pins_of fun p hp => I4.pin p (List.mem_append_right _ (List.mem_append_left _ hp)), rv, qv⟩
end
end KR
end
section
set_option Elab.async false
set_option linter.all false
set_option maxRecDepth 100000
set_option maxHeartbeats 4000000
namespace KR
open PySem PySem.Spec PyProof.Rows L2 C8
/-! ### the text by places -/
/-- a def of the module -/
structure DefIn (K : PySem.W.Frag) (mg : Str → Option Value) (x : Str) (st : Stmt) (dvs : List V) : Prop where
  ex : ∃ (f : Addr) (fd : FuncData), FunD K x x (fnArgs st) (fnBody st) (fnScope st) dvs [] f fd ∧ mg x = some (.ref f)
/-- a method of the class at C -/
structure MetIn (K : PySem.W.Frag) (C : Addr) (m q : Str) (st : Stmt) : Prop where
  ex : ∃ (f : Addr) (fd : FuncData), FunD K m q (fnArgs st) (fnBody st) (fnScope st) [] [] f fd ∧ Cls K C ∧ Meth K C m f
/-- a class that may be made -/
structure MakIn (K : PySem.W.Frag) (mg : Str → Option Value) (x : Str) (C : Addr) (q : Str) (st : Stmt) : Prop where
  ex : ∃ (f : Addr) (fd : FuncData), FunD K "__init__" q (fnArgs st) (fnBody st) (fnScope st) [] [] f fd ∧ Mk K C f ∧ mg x = some (.ref C)
section
variable {P : Program} {w : World} {K : PySem.W.Frag} {mg : Str → Option Value} {base : Heap}
/-- what a def's body must be shown to do -/
def Body (P : Program) (w : World) (K : PySem.W.Frag) (mg : Str → Option Value) (base : Heap) (N : List Str) (q : Str) (st : Stmt) (k : Nat) (sp : Sp) : Prop :=
  ∀ (cdv : Value) (f : Addr) (A : Around) (outer : List Env) (s : Shared) (H : Hp) (vs : List V) (Q : VK) (E : XK), Room k (A.deeper (envOfC q (fnScope st) s.heap.objs.size f cdv)) → sp vs H Q E →
      ∃ t, PSs (cxOf C8.CX0 P w K mg base N q (fnScope st) f cdv A outer s H E).nox (fnBody st) t ∧ t { nx := fun _ H' => Q .non H', rt := Q } (start N vs) H
theorem cal_of {x : Str} {st : Stmt} {N ps : List Str} {k : Nat} {sp : Sp} (D : DefIn K mg x st []) (S : scC N ps (fnScope st) = true) (len : ∀ vs H Q E, sp vs H Q E → vs.length = ps.length)
    (bd : ∀ (kV doc pm : Value) (an : Option Addr) (cdv ct : Value) (us : List Value), us.length = ps.length → bindArgs (PySem.W.fnOf x x (fnArgs st) (fnBody st) (fnScope st) .none kV doc pm an cdv ct) ⟨us, []⟩ = pure (ps.zip us))
    (body : Body P w K mg base N x st k sp) : Cal P w K mg base (k + 1) x sp [] := by
  obtain ⟨f, fd, F, hm⟩ := D.ex
  refine ⟨f, fd, ps, [], F.ok (fnScope_by S) len fun cdv A outer s H vs Q E hr h => ?_, hm, F.kp, F.bindsN bd, .nil⟩
  obtain ⟨t, ht, hq⟩ := body cdv f A outer s H vs Q E hr h
  exact ⟨t, ht.nox, hq⟩
theorem met_of {m q : Str} {C : Addr} {st : Stmt} {N ps : List Str} {k : Nat} {sp : Sp} (D : MetIn K C m q st) (S : scC N ps (fnScope st) = true) (len : ∀ vs H Q E, sp vs H Q E → vs.length = ps.length)
    (bd : ∀ (kV doc pm : Value) (an : Option Addr) (cdv ct : Value) (us : List Value), us.length = ps.length → bindArgs (PySem.W.fnOf m q (fnArgs st) (fnBody st) (fnScope st) .none kV doc pm an cdv ct) ⟨us, []⟩ = pure (ps.zip us))
    (body : Body P w K mg base N q st k sp) : Met P w K mg base (k + 1) C m sp [] := by
  obtain ⟨f, fd, F, hc, hm⟩ := D.ex
  refine ⟨f, fd, ps, [], hc, hm, F.ok (fnScope_by S) len fun cdv A outer s H vs Q E hr h => ?_, F.bindsN bd, .nil⟩
  obtain ⟨t, ht, hq⟩ := body cdv f A outer s H vs Q E hr h
  exact ⟨t, ht.nox, hq⟩
theorem mak_of {x q : Str} {C : Addr} {st : Stmt} {N ps : List Str} {k : Nat} {sp : Sp} (D : MakIn K mg x C q st) (S : scC N ps (fnScope st) = true) (len : ∀ vs H Q E, sp vs H Q E → vs.length = ps.length)
    (bd : ∀ (kV doc pm : Value) (an : Option Addr) (cdv ct : Value) (us : List Value), us.length = ps.length → bindArgs (PySem.W.fnOf "__init__" q (fnArgs st) (fnBody st) (fnScope st) .none kV doc pm an cdv ct) ⟨us, []⟩ = pure (ps.zip us))
    (body : Body P w K mg base N q st k sp) : Mak P w K mg base (k + 1) x C sp [] := by
  obtain ⟨f, fd, F, hM, hm⟩ := D.ex
  refine ⟨f, fd, ps, [], hM, F.ok (fnScope_by S) len fun cdv A outer s H vs Q E hr h => ?_, hm, F.bindsN bd, .nil⟩
  obtain ⟨t, ht, hq⟩ := body cdv f A outer s H vs Q E hr h
  exact ⟨t, ht.nox, hq⟩
end
/-! ### the statements of the defs -/
/-- a class's facts for isinstance and its fields -/
structure ClsX (K : PySem.W.Frag) (mg : Str → Option Value) (x : Str) (C : Addr) : Prop where
  ins : InsC K C
  mgC : mg x = some (.ref C)
  kp : PySem.W.keepIn K (.ref C) = true
theorem ClsX.cl {K : PySem.W.Frag} {mg : Str → Option Value} {x : Str} {C : Addr} (c : ClsX K mg x C) : Cls K C := c.ins.cl
/-- what the walks know of the module: CE Eater, CR Row, CF Fed, CB Both -/
structure Tx (K : PySem.W.Frag) (mg : Str → Option Value) (CE CR CF CB : Addr) : Prop where
  free : ∀ x ∈ frees, mg x = none
  con : ∀ p ∈ consts, ∃ u, mg p.1 = some u ∧ RelV p.2 u
  eater : ClsX K mg "Eater" CE
  row : ClsX K mg "Row" CR
  fed : ClsX K mg "Fed" CF
  both : ClsX K mg "Both" CB
  kFE : PySem.W.kitOne K (.ref CF) (.ref CR) = some true
  kBE : PySem.W.kitOne K (.ref CB) (.ref CR) = some true
  noE : ∀ f ∈ (["letters", "states", "stacks", "rules", "yes", "book"] : List Str), NoAttr K CE f
  noF : ∀ f ∈ (["eater", "letters", "ways"] : List Str), NoAttr K CF f
  noB : ∀ f ∈ (["one", "other", "letters", "ways"] : List Str), NoAttr K CB f
  is_integer : DefIn K mg "is_integer" sIsInteger []
  is_within : DefIn K mg "is_within" sIsWithin []
  is_letter : DefIn K mg "is_letter" sIsLetter []
  is_word : DefIn K mg "is_word" sIsWord []
  need_number : DefIn K mg "need_number" sNeedNumber []
  need_word : DefIn K mg "need_word" sNeedWord []
  pairs_in : DefIn K mg "pairs_in" sPairsIn []
  rank : DefIn K mg "rank" sRank []
  is_move : DefIn K mg "is_move" sIsMove []
  fixed : DefIn K mg "fixed" sFixed []
  is_key : DefIn K mg "is_key" sIsKey []
  is_done : DefIn K mg "is_done" sIsDone []
  rules_from : DefIn K mg "rules_from" sRulesFrom []
  yes_from : DefIn K mg "yes_from" sYesFrom []
  eater_init : MakIn K mg "Eater" CE "Eater.__init__" sEaterInit
  need_eater : DefIn K mg "need_eater" sNeedEater [.str "eater"]
  done_by : DefIn K mg "done_by" sDoneBy []
  moved : DefIn K mg "moved" sMoved []
  eaten_from : DefIn K mg "eaten_from" sEatenFrom []
  stands_in : DefIn K mg "stands_in" sStandsIn []
  joined_rule : DefIn K mg "joined_rule" sJoinedRule []
  eaten : DefIn K mg "eaten" sEaten []
  takes : DefIn K mg "takes" sTakes []
  side_by_side : DefIn K mg "side_by_side" sSideBySide []
  need_row : DefIn K mg "need_row" sNeedRow [.str "row"]
  spread : DefIn K mg "spread" sSpread []
  tops_of : DefIn K mg "tops_of" sTopsOf []
  fed_init : MakIn K mg "Fed" CF "Fed.__init__" sFedInit
  fed_begin : MetIn K CF "begin" "Fed.begin" sFedBegin
  fed_done : MetIn K CF "done" "Fed.done" sFedDone
  fed_next : MetIn K CF "next" "Fed.next" sFedNext
  fed_says : MetIn K CF "says" "Fed.says" sFedSays
  both_init : MakIn K mg "Both" CB "Beside.__init__" sBesInit
  both_begin : MetIn K CB "begin" "Beside.begin" sBesBegin
  both_next : MetIn K CB "next" "Beside.next" sBesNext
  both_says : MetIn K CB "says" "Both.says" sBothSays
  begun : DefIn K mg "begun" sBegun []
  ticked : DefIn K mg "ticked" sTicked [.int 0, .int 0]
  worth_in : DefIn K mg "worth_in" sWorthIn []
  seat_in : DefIn K mg "seat_in" sSeatIn []
  due_in : DefIn K mg "due_in" sDueIn []
  said_in : DefIn K mg "said_in" sSaidIn []
  told_in : DefIn K mg "told_in" sToldIn []
  need_both : DefIn K mg "need_both" sNeedBoth []
  told : DefIn K mg "told" sTold []
  said : DefIn K mg "said" sSaid []
  plough : DefIn K mg "_law_plough" sPlough []
  yoke : DefIn K mg "_law_yoke" sYoke []
  any : DefIn K mg "_law_any" sAny []
  done : DefIn K mg "_law_done" sDone []
  tops : DefIn K mg "_law_tops" sTops []
  rules : DefIn K mg "_law_rules" sRules []
  yes : DefIn K mg "_law_yes" sYes []
  word : DefIn K mg "_law_word" sWord []
  law_eater : DefIn K mg "_law_eater" sEater []
/-! ### comprehensions whose elements change nothing -/
/-- all but the lists stay -/
def Nl (H H' : Hp) : Prop := ∀ b o, H b = some o → (∀ ys, o ≠ .lst ys) → H' b = some o
theorem Nl.of {H H' : Hp} (a : Same H H') : Nl H H' := fun b o e _ => a b o e
theorem Nl.refl (H : Hp) : Nl H H := fun _ _ e _ => e
theorem Nl.trans {H H1 H2 : Hp} (a : Nl H H1) (b : Nl H1 H2) : Nl H H2 := fun c o e n => b c o (a c o e n) n
theorem Nl.et {H H' : Hp} (a : Nl H H') : Et H H' := fun b xs e => a b _ e fun ys z => by cases z
theorem Nl.set {H : Hp} {p : Addr} {o : HO} {ys : List V} (h : H p = some (.lst ys)) : Nl H (upd H p o) := fun b u e n => by
  rw [upd_ne (fun z => by rw [z, h] at e; cases e; exact n _ rfl)]
  exact e
theorem Nl.new {H : Hp} {p : Addr} {o : HO} (h : H p = none) : Nl H (upd H p o) := Nl.of (Same.new h)
theorem Fr.nl {S : List Addr} {H H' : Hp} (a : Fr S H H') (h : ∀ x ∈ S, ∃ ys, H x = some (.lst ys)) : Nl H H' := fun b o e n => a b o e fun z => by
  obtain ⟨ys, q⟩ := h b z
  rw [e] at q
  cases q
  exact n _ rfl
section
variable {J : It} {n : Nat} {G : Hp → Prop} {Y : Nat → Hp → V → Hp → Prop}
theorem lc_pure (w : Walk J n G Y) {g : TG} {te : TE} {vs : List Nat} {σ : L2.St} {H1 : Hp} {D : Addr} {Qd : Hp → Prop} (hD : H1 D = none) (hn : n ≤ sizeLine) (hG : ∀ H, Same H1 H → G H) (hY : ∀ i H x H', Y i H x H' → Same H H')
    (R : Nat → V → Hp → Prop) (hR : ∀ i y H H', Nl H H' → R i y H → R i y H')
    (hs : ∀ i x H H', i < n → Same H1 H → Y i H x H' → ∀ Qy : VK, (∀ y H2, Same H' H2 → R i y H2 → Qy y H2) → g x (wipe σ vs) H' fun σ2 H2 => wipe σ2 vs = wipe σ vs ∧ te σ2 H2 Qy)
    (hd : ∀ H ys, Same H1 H → H D = some (.lst ys) → ys.length = n → (∀ i y, ys[i]? = some y → R i y H) → Qd H) :
    ∃ W : Nat → Nat → Hp → Prop, (∃ m, W 0 m (upd H1 D (.lst []))) ∧ ∀ i m H, W i m H →
      (J.stop i H ∧ Qd H) ∨ (J.go i H ∧ ∃ Nx : Hp → Prop, (∀ H', Nx H' → ∃ m', m' < m ∧ W (i + 1) m' H') ∧ ∀ x H', J.yld i H x H' → g x (wipe σ vs) H' fun σ2 H2 => wipe σ2 vs = wipe σ vs ∧ tYes σ2 H2 fun b H3 =>
        if b = true then te σ2 H3 fun y H4 => ∃ acc, H4 D = some (.lst acc) ∧ acc.length < sizeLine ∧ Nx (upd H4 D (.lst (acc ++ [y]))) else Nx H3) := by
  refine lc_it w (fun i H => Same H1 H ∧ ∃ ys, H D = some (.lst ys) ∧ ys.length = i ∧ ∀ j y, ys[j]? = some y → R j y H) ⟨Same.new hD, [], upd_same, rfl, fun j y e => by simp at e⟩ (fun i H _ q => hG H q.1) (fun i x H H' hi q y => ?_) (fun H q => ?_)
  · obtain ⟨se, ys, hL, hl, hr⟩ := q
    refine hs i x H H' hi se y _ fun z H2 s2 hz => ?_
    have s1 := hY i H x H' y
    have hL2 := s2 _ _ (s1 _ _ hL)
    refine ⟨ys, hL2, by omega, KR.Same.mut (fun b o e => s2 _ _ (s1 _ _ (se b o e))) hD, _, upd_same, by rw [List.length_append, hl]; rfl, fun j v e => ?_⟩
    have nl : Nl H (upd H2 D (.lst (ys ++ [z]))) := ((Nl.of s1).trans (Nl.of s2)).trans (Nl.set hL2)
    rcases Nat.lt_or_ge j ys.length with q | q
    · rw [List.getElem?_append_left q] at e
      exact hR _ _ _ _ nl (hr j v e)
    · rw [List.getElem?_append_right q] at e
      have hj : j - ys.length = 0 := by
        rcases Nat.eq_zero_or_pos (j - ys.length) with q0 | q0
        · exact q0
        · rw [List.getElem?_eq_none (by simp; omega)] at e
          cases e
      rw [hj] at e
      have e' := Option.some.inj e
      subst e'
      have : j = i := by omega
      subst this
      exact hR _ _ _ _ (Nl.set hL2) hz
  · obtain ⟨se, ys, hL, hl, hr⟩ := q
    exact hd H ys se hL hl hr
end
end KR
end
section
set_option Elab.async false
set_option linter.all false
set_option maxRecDepth 100000
set_option maxHeartbeats 4000000
namespace KR
open PySem PySem.Spec PyProof.Rows L2
section
variable {X : Cx} {K : PySem.W.Frag} {mg : Str → Option Value} {CE CR CF CB : Addr}
/-- a reading from which more follows -/
def tW (te : TE) : TE := fun σ H Q => ∃ Q' : VK, te σ H Q' ∧ ∀ v H', Q' v H' → Q v H'
theorem pe_w {e : Expr} {te : TE} (h : PE X e te) : PE X e (tW te) := ⟨fun pins s σ H Q I ⟨Q', h1, h2⟩ => wpAny_mono (h.run pins s σ H Q' I h1) (fun u s' ⟨v, H', I', r, q⟩ => ⟨v, H', I', r, h2 v H' q⟩) fun _ _ z => z⟩
/-- is it a list or a tuple -/
inductive LT (H : Hp) : V → Bool → Prop
  | lst {a : Addr} {xs : List V} : H a = some (.lst xs) → LT H (.ref a) true
  | tup {a : Addr} {xs : List V} : H a = some (.tup xs) → LT H (.ref a) true
  | frz {a : Addr} {o : Obj} {xs : List V} : H a = some (.frz o (.tup xs)) → LT H (.ref a) true
  | int (i : Int) : LT H (.int i) false
  | str (i : Str) : LT H (.str i) false
  | non : LT H .non false
def tIsLT (te : TE) : TE := fun σ H Q => te σ H fun x H1 => ∃ b, LT H1 x b ∧ ∀ H2, Same H1 H2 → Q (.bl b) H2
theorem LT.ty {H H2 : Hp} {x : V} {b : Bool} (l : LT H x b) (h : Same H H2) : ∃ t, TyX K H2 x (.type t) ∧ PySem.W.kitAny K (.type t) [.type "list", .type "tuple"] = some b := by
  have lt : PySem.W.kitAny K (.type "list") [.type "list", .type "tuple"] = some true := kitAny_cons (b := true) (kit_ty (by decide +kernel)) (fun z => by cases z) fun _ => rfl
  have tt : PySem.W.kitAny K (.type "tuple") [.type "list", .type "tuple"] = some true := kitAny_cons (b := false) (kit_ty (by decide +kernel)) (fun _ => kitAny_cons (b := true) (kit_ty (by decide +kernel)) (fun z => by cases z) fun _ => rfl) (fun z => by cases z)
  have ff : ∀ t : String, kitB t "list" = some false → kitB t "tuple" = some false → PySem.W.kitAny K (.type t) [.type "list", .type "tuple"] = some false := fun t h1 h2 =>
    kitAny_cons (b := false) (kit_ty h1) (fun _ => kitAny_cons (b := false) (kit_ty h2) (fun _ => kitAny_nil) fun z => by cases z) (fun z => by cases z)
  cases l with
  | lst e => exact ⟨_, .base (.lst (h _ _ e)), lt⟩
  | tup e => exact ⟨_, .base (.tup (h _ _ e)), tt⟩
  | frz e => exact ⟨_, .fTuple (h _ _ e), tt⟩
  | int i => exact ⟨_, .base (.int i), ff _ (by decide +kernel) (by decide +kernel)⟩
  | str i => exact ⟨_, .base (.str i), ff _ (by decide +kernel) (by decide +kernel)⟩
  | non => exact ⟨_, .base .non, ff _ (by decide +kernel) (by decide +kernel)⟩
theorem pe_isLT {e : Expr} {te : TE} {p p1 p2 p3 pos : Pos} {x1 : Nat} (T : Tx K mg CE CR CF CB) (he : PE X e te) (g1 : Gl X "isinstance" := by rfl) (g2 : Gl X "list" := by rfl) (g3 : Gl X "tuple" := by rfl) (hK : X.K = K := by rfl) (hm : X.mg = mg := by rfl)
    (h1 : starEach [e, .Tuple [.Name "list" p1, .Name "tuple" p2] x1 p3] X.env = (false, eval e X.env) :: starEach [.Tuple [.Name "list" p1, .Name "tuple" p2] x1 p3] X.env := by rfl) :
    PE X (.Call (.Name "isinstance" p) [e, .Tuple [.Name "list" p1, .Name "tuple" p2] x1 p3] [] pos) (tIsLT te) := by
  subst hK hm
  have base := pe_callB (p := p) (pos := pos) call_isiT g1 (T.free "isinstance" (by decide +kernel)) boot_isinstance (pa_cons (hs := h1) (pe_w he) (pa_cons (pe_tup (x1 := x1) (pos := p3) (pa_cons (pe_bltn (pos := p1) g2 (T.free "list" (by decide +kernel)) PyProof.Rows.boot_list (v := .ty "list") rfl) (pa_cons (pe_bltn (pos := p2) g3 (T.free "tuple" (by decide +kernel)) PyProof.Rows.boot_tuple (v := .ty "tuple") rfl) pa_nil))) pa_nil)) (he := h1)
  refine ⟨fun pins s σ H Q I h => base.run pins s σ H Q I ⟨_, h, fun x H1 ⟨b, l, q⟩ => ?_⟩⟩
  refine ⟨by show 2 ≤ sizeLine; decide, fun p hp => ?_⟩
  obtain ⟨t, t1, t2⟩ := LT.ty (K := X.K) l (Same.new (o := .tup [.ty "list", .ty "tuple"]) hp)
  exact ⟨x, p, _, _, [.type "list", .type "tuple"], b, rfl, upd_same, .cons (.ty _) (.cons (.ty _) .nil), t1, t2, q _ (Same.new hp)⟩
/-- tuple(x), len(x): x a list or a tuple -/
def rTupOf (K : PySem.W.Frag) : List V → Hp → VK → Prop := fun xs H Q => ∃ p ys, xs = [V.ref p] ∧ ((SqL K H p ys ∧ ∀ l, H l = none → Q (.ref l) (upd H l (.tup ys))) ∨ (SqT K H p ys ∧ Q (.ref p) H))
theorem cr_tupOf : CallR X (.type "tuple") (rTupOf X.K) := call_tuple_of
def rLenOf (K : PySem.W.Frag) : List V → Hp → VK → Prop := fun xs H Q => ∃ p ys, xs = [V.ref p] ∧ (SqL K H p ys ∨ SqT K H p ys) ∧ Q (.int ys.length) H
theorem cr_lenOf : CallR X (.builtin "len") (rLenOf X.K) := call_len_seq
theorem pe_len {e : Expr} {te : TE} {p pos : Pos} (T : Tx K mg CE CR CF CB) (he : PE X e te) (hg : Gl X "len" := by rfl) (hK : X.K = K := by rfl) (hm : X.mg = mg := by rfl)
    (h1 : starEach [e] X.env = (false, eval e X.env) :: starEach [] X.env := by rfl) (h2 : (backTo pos (starEach [] X.env)).any (·.1) = false := by rfl) : PE X (.Call (.Name "len" p) [e] [] pos) (tCB (rLenOf K) (tCons te tNil)) := by
  subst hK hm
  exact pe_callB cr_lenOf hg (T.free "len" (by decide +kernel)) PySem.boot_len (pa_cons (hs := h1) he pa_nil) (he := h1) (hpl := h2)
theorem pe_tupc {e : Expr} {te : TE} {p pos : Pos} (T : Tx K mg CE CR CF CB) (he : PE X e te) (hg : Gl X "tuple" := by rfl) (hK : X.K = K := by rfl) (hm : X.mg = mg := by rfl)
    (h1 : starEach [e] X.env = (false, eval e X.env) :: starEach [] X.env := by rfl) (h2 : (backTo pos (starEach [] X.env)).any (·.1) = false := by rfl) : PE X (.Call (.Name "tuple" p) [e] [] pos) (tCB (rTupOf K) (tCons te tNil)) := by
  subst hK hm
  exact pe_callTy cr_tupOf hg (T.free "tuple" (by decide +kernel)) PyProof.Rows.boot_tuple (pa_cons (hs := h1) he pa_nil) (he := h1) (hpl := h2)
theorem pe_all {e : Expr} {te : TE} {p pos : Pos} (T : Tx K mg CE CR CF CB) (he : PE X e te) (hc : X.calm = true := by rfl) (hg : Gl X "all" := by rfl) (hK : X.K = K := by rfl) (hm : X.mg = mg := by rfl)
    (h1 : starEach [e] X.env = (false, eval e X.env) :: starEach [] X.env := by rfl) (h2 : (backTo pos (starEach [] X.env)).any (·.1) = false := by rfl) : PE X (.Call (.Name "all" p) [e] [] pos) (tCB (rAll K) (tCons te tNil)) := by
  subst hK hm
  exact pe_callB (cr_all hc) hg (T.free "all" (by decide +kernel)) PyProof.Rows.boot_all (pa_cons (hs := h1) he pa_nil) (he := h1) (hpl := h2)
/-- isinstance(e, T), T a built-in type -/
theorem pe_isT {e : Expr} {te : TE} {p p1 pos : Pos} {x : Str} (n : String) (T : Tx K mg CE CR CF CB) (he : PE X e te) (hx : x ∈ frees := by decide +kernel) (hb : bootBuiltins x = some (.type n) := by first | exact PyProof.Rows.boot_int | exact PyProof.Rows.boot_bool | exact PyProof.Rows.boot_str | exact PyProof.Rows.boot_dict) (hn : x ≠ "__name__" := by decide +kernel) (hd : (x == ("__debug__" : Str)) = false := by decide +kernel)
    (hg : Gl X "isinstance" := by rfl) (hg2 : Gl X x := by rfl) (hK : X.K = K := by rfl) (hm : X.mg = mg := by rfl)
    (h1 : starEach [e, .Name x p1] X.env = (false, eval e X.env) :: starEach [.Name x p1] X.env := by rfl) (h2 : (backTo pos (starEach [.Name x p1] X.env)).any (·.1) = false := by rfl) (h3 : starEach [.Name x p1] X.env = (false, eval (.Name x p1) X.env) :: starEach [] X.env := by rfl) : PE X (.Call (.Name "isinstance" p) [e, .Name x p1] [] pos) (tCB (rIsi K) (tCons te (tCons (tC (.ty n)) tNil))) := by
  subst hK hm
  exact pe_callB call_isi hg (T.free "isinstance" (by decide +kernel)) boot_isinstance (pa_cons (hs := h1) he (pa_cons (hs := h3) (pe_bltn hg2 (T.free x hx) hb rfl hn hd) pa_nil)) (he := h1) (hpl := h2)
theorem pe_ixT {a b : Expr} {ta tb : TE} {pos : Pos} (ha : PE X a ta) (hb : PE X b tb) (hs : PlainIx b := by exact fun _ _ => rfl) (hK : X.K = K := by rfl) : PE X (.Subscript a b pos) (tOp (rIxT K) ta tb) := by
  subst hK
  exact pe_ix ix_tup ha hb hs
theorem pe_con {x : Str} {pos : Pos} (T : Tx K mg CE CR CF CB) (v : V) (h : (x, v) ∈ consts := by decide +kernel) (hg : Gl X x := by rfl) (hd : (x == ("__debug__" : Str)) = false := by decide +kernel) (hm : X.mg = mg := by rfl) : PE X (.Name x pos) (tC v) := by
  subst hm
  exact C8.pe_gc hg (T.con (x, v) h) hd
theorem free_of {H H' : Hp} {t : Addr} (s : Same H H') (h : H' t = none) : H t = none := by
  cases q : H t with
  | none => rfl
  | some o => rw [s _ _ q] at h; cases h
end
end KR
end
section
set_option Elab.async false
set_option linter.all false
set_option maxRecDepth 100000
set_option maxHeartbeats 4000000
namespace KR
open PySem PySem.Spec PyProof.Rows L2 C8
theorem it_ {c : Bool} {A B : Prop} (e : c = true) (h : A) : if c = true then A else B := by rw [if_pos e]; exact h
theorem if_ {c : Bool} {A B : Prop} (e : c = false) (h : B) : if c = true then A else B := by rw [e]; exact iteF h
theorem dT {p : Prop} [Decidable p] (h : p) : decide p = true := decide_eq_true h
theorem dF {p : Prop} [Decidable p] (h : ¬ p) : decide p = false := decide_eq_false h
section
variable {P : Program} {w : World} {K : PySem.W.Frag} {mg : Str → Option Value} {base : Heap} {CE CR CF CB : Addr}
/-! ### checks -/
def spIsInteger : Sp := fun vs H Q _ => ∃ i : Int, vs = [.int i] ∧ Q (.bl true) H
theorem c_is_integer (T : Tx K mg CE CR CF CB) : Cal P w K mg base 1 "is_integer" spIsInteger [] := by
  refine cal_of (N := ["value"]) (ps := ["value"]) T.is_integer (by decide +kernel) (fun vs H Q E h => ?_) (fun _ _ _ _ _ _ us hl => match us, hl with | [_], _ => rfl) (fun cdv f A outer s H vs Q E hr h => ?_)
  · obtain ⟨i, rfl, _⟩ := h
    rfl
  · obtain ⟨i, rfl, k⟩ := h
    refine ⟨_, pss_one (ps_ret (pe_and (pe_callB call_isi rfl (T.free "isinstance" (by decide +kernel)) boot_isinstance (pa_cons (pv 0) (pa_cons (pe_bltn rfl (T.free "int" (by decide +kernel)) PyProof.Rows.boot_int (v := .ty "int") rfl) pa_nil)))
      (pe_one (pe_not (pe_callB call_isi rfl (T.free "isinstance" (by decide +kernel)) boot_isinstance (pa_cons (pv 0) (pa_cons (pe_bltn rfl (T.free "bool" (by decide +kernel)) PyProof.Rows.boot_bool (v := .ty "bool") rfl) pa_nil))))))), ?_⟩
    refine ⟨_, rfl, _, _, _, _, true, rfl, .ty _, .base (.int i), kit_ty (by decide +kernel), true, rfl, iteT ?_⟩
    exact ⟨_, rfl, _, _, _, _, false, rfl, .ty _, .base (.int i), kit_ty (by decide +kernel), false, rfl, k⟩
def spIsWithin : Sp := fun vs H Q _ => ∃ i a b : Int, vs = [.int i, .int a, .int b] ∧ a ≤ i ∧ i ≤ b ∧ Q (.bl true) H
theorem c_is_within (T : Tx K mg CE CR CF CB) : Cal P w K mg base 2 "is_within" spIsWithin [] := by
  have G1 : Cal P w K mg base 1 "is_integer" spIsInteger [] := c_is_integer T
  refine cal_of (N := ["value", "least", "most"]) (ps := ["value", "least", "most"]) T.is_within (by decide +kernel) (fun vs H Q E h => ?_) (fun _ _ _ _ _ _ us hl => match us, hl with | [_, _, _], _ => rfl) (fun cdv f A outer s H vs Q E hr h => ?_)
  · obtain ⟨i, a, b, rfl, _⟩ := h
    rfl
  · obtain ⟨i, a, b, rfl, h1, h2, k⟩ := h
    refine ⟨_, pss_cons (ps_if (pt_not (pt_val (pe_c G1 hr (by decide) rfl (pa_cons (pv 0) pa_nil)))) (pss_one (ps_ret pe_bl)) pss_nil)
      (pss_one (ps_ret (pe_and (pe_or (pe_cmp (pc_isN (pv 1))) (pe_one (pe_cmp (pc_le (pv 1) (pv 0))))) (pe_one (pe_or (pe_cmp (pc_isN (pv 2))) (pe_one (pe_cmp (pc_le (pv 0) (pv 2))))))))), ?_⟩
    refine ⟨_, rfl, i, rfl, true, rfl, if_ rfl ?_⟩
    refine ⟨_, rfl, false, rfl, iteF ⟨_, rfl, _, rfl, _, _, rfl, rfl, true, congrArg V.bl (dT h1), iteT ?_⟩⟩
    refine ⟨_, rfl, false, rfl, iteF ⟨_, rfl, _, rfl, _, _, rfl, rfl, ?_⟩⟩
    show Q (.bl (decide (i ≤ b))) H
    rw [dT h2]
    exact k
def spIsLetter : Sp := fun vs H Q _ => ∃ i l : Int, vs = [.int i, .int l] ∧ 0 ≤ i ∧ i < l ∧ Q (.bl true) H
theorem c_is_letter (T : Tx K mg CE CR CF CB) : Cal P w K mg base 3 "is_letter" spIsLetter [] := by
  have G1 : Cal P w K mg base 2 "is_within" spIsWithin [] := c_is_within T
  refine cal_of (N := ["value", "letters"]) (ps := ["value", "letters"]) T.is_letter (by decide +kernel) (fun vs H Q E h => ?_) (fun _ _ _ _ _ _ us hl => match us, hl with | [_, _], _ => rfl) (fun cdv f A outer s H vs Q E hr h => ?_)
  · obtain ⟨i, l, rfl, _⟩ := h
    rfl
  · obtain ⟨i, l, rfl, h1, h2, k⟩ := h
    refine ⟨_, pss_one (ps_ret (pe_c G1 hr (by decide) rfl (pa_cons (pv 0) (pa_cons pe_int (pa_cons (pe_op op_sub (pv 1) pe_int) pa_nil))))), ?_⟩
    exact ⟨_, rfl, _, rfl, _, _, rfl, rfl, i, 0, l - 1, rfl, h1, by omega, k⟩
/-- a list of ints -/
def spIsWord : Sp := fun vs H Q _ => ∃ (p : Addr) (ns : List Int) (l : Int), vs = [.ref p, .int l] ∧ H p = some (.lst (ns.map V.int)) ∧ 1 ≤ ns.length ∧ ns.length ≤ 200 ∧ (∀ n ∈ ns, 0 ≤ n ∧ n < l) ∧ ∀ H', Same H H' → Q (.bl true) H'
theorem rows_bl {ys : List V} {n : Nat} (hl : ys.length = n) (h : ∀ (i : Nat) y, ys[i]? = some y → y = .bl true) : ys = (List.replicate n true).map V.bl := by
  apply List.ext_getElem?
  intro i
  rcases Nat.lt_or_ge i n with q | q
  · have e : ys[i]? = some ys[i] := List.getElem?_eq_getElem (by omega)
    rw [e, h i _ e]
    simp [q]
  · rw [List.getElem?_eq_none (by omega), List.getElem?_eq_none (by simp; omega)]
theorem all_rep (n : Nat) : (List.replicate n true).all id = true := by simp
theorem c_is_word (T : Tx K mg CE CR CF CB) : Cal P w K mg base 4 "is_word" spIsWord [] := by
  have G1 : ∀ base, Cal P w K mg base 3 "is_letter" spIsLetter [] := fun _ => c_is_letter T
  refine cal_of (N := ["value", "letters", "each"]) (ps := ["value", "letters"]) T.is_word (by decide +kernel) (fun vs H Q E h => ?_) (fun _ _ _ _ _ _ us hl => match us, hl with | [_, _], _ => rfl) (fun cdv f A outer s H vs Q E hr h => ?_)
  · obtain ⟨p, ns, l, rfl, _⟩ := h
    rfl
  · obtain ⟨p, ns, l, rfl, hp, h1, h2, h3, k⟩ := h
    have nd : (["value", "letters", "each"] : List Str).Nodup := by decide +kernel
    refine ⟨_, pss_cons (ps_if (PW.pt (pw_or (pt_not (pt_val (pe_isLT T (pv 0)))) (pw_or1 (pt_not (pt_chain op_le op_le pe_int (pe_len T (pv 0)) (pe_gc rfl (T.con ("LONGEST", .int 200) (by decide +kernel)))))))) (pss_one (ps_ret pe_bl)) pss_nil)
      (pss_one (ps_ret (pe_all T (pe_lc (own := [("each", 2)]) (g := gName 2) (tt := tYes) rfl nd (pi_list (pv 0)) (blkOk_by (N := ["value", "letters", "each"]) (sc := fnScope sIsWord) (by decide +kernel)) (fun _ _ _ _ _ => pg_name (i := 2) nd rfl (Or.inl rfl)) (fun _ _ _ _ _ => pts_nil)
        (fun _ _ _ _ _ => pe_c (G1 _) hr (by decide) rfl (pa_cons (pv 2) (pa_cons (pv 1) pa_nil))))))), ?_⟩
    refine ⟨_, rfl, true, .lst hp, fun H1 s1 => ⟨true, rfl, if_ rfl ?_⟩⟩
    refine ⟨_, rfl, p, _, rfl, .inl (SqL.of (s1 _ _ hp)), _, _, rfl, rfl, _, rfl, it_ (dT (by rw [List.length_map]; omega)) ?_⟩
    refine ⟨_, _, rfl, rfl, true, congrArg V.bl (dT (by rw [List.length_map]; omega)), if_ rfl ?_⟩
    refine ⟨_, rfl, p, rfl, ⟨_, SqL.of (s1 _ _ hp)⟩, fun D hD => ?_⟩
    refine lc_pure (walk_list (xs := ns.map V.int)) hD (by rw [List.length_map]; exact Nat.le_trans h2 (by decide)) (fun H2 s2 => SqL.of (s2 _ _ (s1 _ _ hp))) (fun i H x H' y => by rw [y.1]; exact Same.refl _) (fun _ y _ => y = .bl true) (fun _ _ _ _ _ e => e)
      (fun i x H2 H3 hi s2 y Qy hq => ?_) (fun H2 ys s2 hL hl hr => ?_)
    · obtain ⟨rfl, hx⟩ := y
      rw [List.getElem?_map] at hx
      obtain ⟨n, hn, rfl⟩ := Option.map_eq_some_iff.mp hx
      obtain ⟨b1, b2⟩ := h3 n (List.mem_of_getElem? hn)
      refine ⟨rfl, _, rfl, _, rfl, n, l, rfl, b1, b2, hq _ _ (Same.refl _) rfl⟩
    · refine ⟨D, List.replicate (ns.map V.int).length true, rfl, SqL.of (by rw [hL, rows_bl hl hr]), ?_⟩
      rw [all_rep]
      exact k H2 (fun b o e => s2 _ _ (s1 _ _ e))
def spNeedNumber : Sp := fun vs H Q _ => ∃ (i a b : Int) (x : V), vs = [.int i, x, .int a, .int b] ∧ a ≤ i ∧ i ≤ b ∧ Q .non H
theorem c_need_number (T : Tx K mg CE CR CF CB) : Cal P w K mg base 3 "need_number" spNeedNumber [] := by
  have G1 : Cal P w K mg base 2 "is_within" spIsWithin [] := c_is_within T
  refine cal_of (N := ["value", "part", "least", "most"]) (ps := ["value", "part", "least", "most"]) T.need_number (by decide +kernel) (fun vs H Q E h => ?_) (fun _ _ _ _ _ _ us hl => match us, hl with | [_, _, _, _], _ => rfl) (fun cdv f A outer s H vs Q E hr h => ?_)
  · obtain ⟨i, a, b, x, rfl, _⟩ := h
    rfl
  · obtain ⟨i, a, b, x, rfl, h1, h2, k⟩ := h
    refine ⟨_, pss_one (ps_if (pt_not (pt_val (pe_c G1 hr (by decide) rfl (pa_cons (pv 0) (pa_cons (pv 2) (pa_cons (pv 3) pa_nil)))))) pss_never pss_nil), ?_⟩
    exact ⟨_, rfl, _, rfl, _, rfl, i, a, b, rfl, h1, h2, true, rfl, if_ rfl k⟩
def spNeedWord : Sp := fun vs H Q _ => ∃ (p : Addr) (ns : List Int) (l : Int) (x : V), vs = [.ref p, .int l, x] ∧ H p = some (.lst (ns.map V.int)) ∧ 1 ≤ ns.length ∧ ns.length ≤ 200 ∧ (∀ n ∈ ns, 0 ≤ n ∧ n < l) ∧
  ∀ (t : Addr) (H' : Hp), Same H H' → H' t = some (.tup (ns.map V.int)) → Q (.ref t) H'
theorem c_need_word (T : Tx K mg CE CR CF CB) : Cal P w K mg base 5 "need_word" spNeedWord [] := by
  have G1 : Cal P w K mg base 4 "is_word" spIsWord [] := c_is_word T
  refine cal_of (N := ["value", "letters", "part"]) (ps := ["value", "letters", "part"]) T.need_word (by decide +kernel) (fun vs H Q E h => ?_) (fun _ _ _ _ _ _ us hl => match us, hl with | [_, _, _], _ => rfl) (fun cdv f A outer s H vs Q E hr h => ?_)
  · obtain ⟨p, ns, l, x, rfl, _⟩ := h
    rfl
  · obtain ⟨p, ns, l, x, rfl, hp, h1, h2, h3, k⟩ := h
    refine ⟨_, pss_cons (ps_if (pt_not (pt_val (pe_c G1 hr (by decide) rfl (pa_cons (pv 0) (pa_cons (pv 1) pa_nil))))) pss_never pss_nil)
      (pss_one (ps_ret (pe_tupc T (pv 0)))), ?_⟩
    refine ⟨_, rfl, _, rfl, p, ns, l, rfl, hp, h1, h2, h3, fun H1 s1 => ⟨true, rfl, if_ rfl ?_⟩⟩
    exact ⟨_, rfl, p, _, rfl, .inl ⟨SqL.of (s1 _ _ hp), fun t ht => k t _ (KR.Same.mut s1 (free_of s1 ht)) upd_same⟩⟩
/-- pairs of two -/
def PairsAt (H : Hp) (xs : List V) : Prop := ∀ x ∈ xs, ∃ (t : Addr) (a b : V), x = .ref t ∧ H t = some (.tup [a, b])
def spPairsIn : Sp := fun vs H Q _ => ∃ (p : Addr) (xs : List V), vs = [.ref p] ∧ H p = some (.lst xs) ∧ xs.length ≤ 1000 ∧ PairsAt H xs ∧ ∀ (l : Addr) (H' : Hp), H l = none → Same H H' → H' l = some (.lst xs) → Q (.ref l) H'
theorem c_pairs_in (T : Tx K mg CE CR CF CB) : Cal P w K mg base 1 "pairs_in" spPairsIn [] := by
  refine cal_of (N := ["value", "each"]) (ps := ["value"]) T.pairs_in (by decide +kernel) (fun vs H Q E h => ?_) (fun _ _ _ _ _ _ us hl => match us, hl with | [_], _ => rfl) (fun cdv f A outer s H vs Q E hr h => ?_)
  · obtain ⟨p, xs, rfl, _⟩ := h
    rfl
  · obtain ⟨p, xs, rfl, hp, hz, hP, k⟩ := h
    have nd : (["value", "each"] : List Str).Nodup := by decide +kernel
    refine ⟨_, pss_cons (ps_if (pt_val (pe_callB call_isi rfl (T.free "isinstance" (by decide +kernel)) boot_isinstance (pa_cons (pv 0) (pa_cons (pe_bltn rfl (T.free "dict" (by decide +kernel)) PyProof.Rows.boot_dict (v := .ty "dict") rfl) pa_nil)))) pss_never pss_nil)
      (pss_cons (ps_if (pt_not (pt_val (pe_isLT T (pv 0)))) pss_never pss_nil)
      (pss_cons (ps_if (pt_not (pt_val (pe_all T (pe_lc (own := [("each", 1)]) (g := gName 1) (tt := tYes) rfl nd (pi_list (pv 0)) (blkOk_by (N := ["value", "each"]) (sc := fnScope sPairsIn) (by decide +kernel)) (fun _ _ _ _ _ => pg_name (i := 1) nd rfl (Or.inl rfl)) (fun _ _ _ _ _ => pts_nil)
        (fun _ _ _ _ _ => pe_and (pe_isLT T (pv 1)) (pe_one (pe_cmpR op_eq (pe_len T (pv 1)) pe_int (nomark _)))))))) pss_never pss_nil)
      (pss_one (ps_ret (pe_lc (own := [("each", 1)]) (g := gName 1) (tt := tYes) rfl nd (pi_list (pv 0)) (blkOk_by (N := ["value", "each"]) (sc := fnScope sPairsIn) (by decide +kernel)) (fun _ _ _ _ _ => pg_name (i := 1) nd rfl (Or.inl rfl)) (fun _ _ _ _ _ => pts_nil)
        (fun _ _ _ _ _ => pe_tupc T (pv 1))))))), ?_⟩
    refine ⟨_, rfl, _, _, _, _, false, rfl, .ty _, .base (.lst hp), kit_ty (by decide +kernel), false, rfl, iteF ?_⟩
    refine ⟨_, rfl, true, .lst hp, fun H1 s1 => ⟨true, rfl, if_ rfl ?_⟩⟩
    refine ⟨_, rfl, p, rfl, ⟨_, SqL.of (s1 _ _ hp)⟩, fun D hD => ?_⟩
    refine lc_pure (walk_list (xs := xs)) hD (Nat.le_trans hz (by decide)) (fun H2 s2 => SqL.of (s2 _ _ (s1 _ _ hp))) (fun i H x H' y => by rw [y.1]; exact Same.refl _) (fun _ y _ => y = .bl true) (fun _ _ _ _ _ e => e)
      (fun i x H2 H3 hi s2 y Qy hq => ?_) (fun H2 ys s2 hL hl hr2 => ?_)
    · obtain ⟨rfl, hx⟩ := y
      obtain ⟨t, a, b, rfl, ht⟩ := hP x (List.mem_of_getElem? hx)
      have ht3 := s2 _ _ (s1 _ _ ht)
      refine ⟨rfl, _, rfl, true, .tup ht3, fun H4 s4 => ⟨true, rfl, iteT ?_⟩⟩
      refine ⟨_, rfl, t, _, rfl, .inr (SqT.of (s4 _ _ ht3)), rfl, ?_⟩
      exact hq _ _ s4 rfl
    · refine ⟨D, List.replicate xs.length true, rfl, SqL.of (by rw [hL, rows_bl hl hr2]), true, by rw [all_rep], if_ rfl ?_⟩
      have s12 : Same H H2 := fun b o e => s2 _ _ (s1 _ _ e)
      refine ⟨_, rfl, p, rfl, ⟨_, SqL.of (s12 _ _ hp)⟩, fun D' hD' => ?_⟩
      refine lc_pure (walk_list (xs := xs)) hD' (Nat.le_trans hz (by decide)) (fun H3 s3 => SqL.of (s3 _ _ (s12 _ _ hp))) (fun i H x H' y => by rw [y.1]; exact Same.refl _) (fun i y _ => xs[i]? = some y) (fun _ _ _ _ _ e => e)
        (fun i x H3 H4 hi s3 y Qy hq => ?_) (fun H3 ys s3 hL3 hl3 hr3 => ?_)
      · obtain ⟨rfl, hx⟩ := y
        obtain ⟨t, a, b, rfl, ht⟩ := hP x (List.mem_of_getElem? hx)
        exact ⟨rfl, _, rfl, t, _, rfl, .inr ⟨SqT.of (s3 _ _ (s12 _ _ ht)), hq _ _ (Same.refl _) hx⟩⟩
      · have e : ys = xs := by
          apply List.ext_getElem?
          intro i
          rcases Nat.lt_or_ge i ys.length with q | q
          · have e1 : ys[i]? = some ys[i] := List.getElem?_eq_getElem q
            rw [e1]
            exact (hr3 i _ e1).symm
          · rw [List.getElem?_eq_none q, List.getElem?_eq_none (by omega)]
        subst e
        exact k D' H3 (free_of s12 hD') (fun b o e => s3 _ _ (s12 _ _ e)) hL3
end
end KR
end
section
set_option Elab.async false
set_option linter.all false
set_option maxRecDepth 100000
set_option maxHeartbeats 4000000
namespace KR
open PySem PySem.Spec PyProof.Rows L2 C8
section
variable {P : Program} {w : World} {K : PySem.W.Frag} {mg : Str → Option Value} {base : Heap} {CE CR CF CB : Addr} {X : Cx}
theorem walk_zipT {a b : Addr} {xs ys : List V} {n : Nat} (hn : n = min xs.length ys.length) : Walk (RZ.ItzT K a b) n (fun H => SqT K H a xs ∧ SqT K H b ys) (YPair (fun i => xs[i]?) (fun i => ys[i]?)) := by
  subst hn
  refine ⟨fun i _ hi q => ?_, fun _ q => ⟨xs, ys, q.1, q.2, by omega⟩, fun i H v H' _ q y => ?_⟩
  · have h1 : i < xs.length := by omega
    have h2 : i < ys.length := by omega
    exact ⟨xs, ys, xs[i], ys[i], q.1, q.2, by simp [h1], by simp [h2]⟩
  · obtain ⟨T, x, z, h1, h2, h3, h4, h5⟩ := y
    exact ⟨T, x, z, h1, h2, h3, h4 xs q.1, h5 ys q.2⟩
theorem ypair_same {xs ys : Nat → Option V} {i : Nat} {H H' : Hp} {x : V} (y : YPair xs ys i H x H') : Same H H' := by
  obtain ⟨T, a, b, _, h, rfl, _⟩ := y
  exact Same.new h
theorem yat_same {xs : List V} {i : Nat} {H H' : Hp} {x : V} (y : YAt xs i H x H') : Same H H' := by
  rw [y.1]
  exact Same.refl _
theorem tup_same {H H' : Hp} {a : Addr} {xs : List V} (s : Same H H') (h : H a = some (.tup xs)) : H' a = some (.tup xs) := s _ _ h
theorem same_tr {H H1 H2 : Hp} (a : Same H H1) (b : Same H1 H2) : Same H H2 := fun c o e => b c o (a c o e)
/-- over a list or a tuple -/
theorem pi_lt {tg l : Expr} {tl : TE} (hl : PE X l tl) : PI X tg l (fun σ H R => iList X.K tl σ H R ∨ iTup X.K tl σ H R) :=
  ⟨fun pins s σ H R I h => h.elim (fun h => (pi_list hl).run pins s σ H R I h) fun h => (pi_tup hl).run pins s σ H R I h⟩
def topV : Option Int → V
  | none => .non
  | some n => .int n
theorem dTop_v {H : Hp} {v : V} {t : Option Int} (h : Rp H v (dTop t)) : v = topV t := by
  cases t with
  | none => exact Rp.non_inv h
  | some n => exact Rp.int_inv h
theorem Ra.map_get {α : Type} {f : α → PyData} {H : Hp} {vs : List V} {ds : List α} {i : Nat} {v : V} (h : Ra H vs (ds.map f)) (e : vs[i]? = some v) : ∃ d, ds[i]? = some d ∧ Rp H v (f d) := by
  obtain ⟨d, h1, h2⟩ := h.get e
  rw [List.getElem?_map] at h1
  obtain ⟨x, hx, rfl⟩ := Option.map_eq_some_iff.mp h1
  exact ⟨x, hx, h2⟩
theorem Ra.of_map {α : Type} {f : α → PyData} {H : Hp} {vs : List V} {ds : List α} (hl : vs.length = ds.length) (h : ∀ (i : Nat) (v : V), vs[i]? = some v → ∃ d, ds[i]? = some d ∧ Rp H v (f d)) : Ra H vs (ds.map f) :=
  .of_all (by rw [List.length_map]; exact hl) fun i v d h1 h2 => by
    obtain ⟨x, hx, r⟩ := h i v h1
    rw [List.getElem?_map, hx] at h2
    cases h2
    exact r
theorem Rp.nl {H H' : Hp} {v : V} {d : PyData} (h : Rp H v d) (e : Nl H H') : Rp H' v d := h.mono e.et
theorem Rp.sm {H H' : Hp} {v : V} {d : PyData} (h : Rp H v d) (e : Same H H') : Rp H' v d := h.mono (Same.et e)
theorem Ra.sm {H H' : Hp} {v : List V} {d : List PyData} (h : Ra H v d) (e : Same H H') : Ra H' v d := h.mono (Same.et e)
/-- the parts of a key, of what is told, of a rule -/
theorem key_parts {H : Hp} {v : V} {k : K40.Key} (h : Rp H v (dKey k)) : ∃ (a t : Addr) (ts : List V), v = .ref a ∧ H a = some (.tup [.int k.st, .int k.lt, .ref t]) ∧ H t = some (.tup ts) ∧ Ra H ts (k.tops.map dTop) := by
  obtain ⟨a, xs, rfl, ha, hx⟩ := Rp.tup_inv (show Rp H v (.tuple [.int k.st, .int k.lt, .tuple (k.tops.map dTop)]) from h)
  cases hx with
  | cons r1 t1 => cases t1 with
    | cons r2 t2 => cases t2 with
      | cons r3 t3 =>
        cases t3
        obtain ⟨t, ts, rfl, ht, hts⟩ := Rp.tup_inv r3
        rw [Rp.int_inv r1, Rp.int_inv r2] at ha
        exact ⟨a, t, ts, rfl, ha, ht, hts⟩
theorem don_parts {H : Hp} {v : V} {k : K40.Don} (h : Rp H v (dDon k)) : ∃ (a t : Addr) (ts : List V), v = .ref a ∧ H a = some (.tup [.int k.st, .ref t]) ∧ H t = some (.tup ts) ∧ Ra H ts (k.mvs.map dMv) := by
  obtain ⟨a, xs, rfl, ha, hx⟩ := Rp.tup_inv (show Rp H v (.tuple [.int k.st, .tuple (k.mvs.map dMv)]) from h)
  cases hx with
  | cons r1 t1 => cases t1 with
    | cons r3 t3 =>
      cases t3
      obtain ⟨t, ts, rfl, ht, hts⟩ := Rp.tup_inv r3
      rw [Rp.int_inv r1] at ha
      exact ⟨a, t, ts, rfl, ha, ht, hts⟩
theorem rule_parts {H : Hp} {v : V} {r : K40.Key × K40.Don} (h : Rp H v (dRule r)) : ∃ (a : Addr) (x y : V), v = .ref a ∧ H a = some (.tup [x, y]) ∧ Rp H x (dKey r.1) ∧ Rp H y (dDon r.2) := by
  obtain ⟨a, xs, rfl, ha, hx⟩ := Rp.tup_inv (show Rp H v (.tuple [dKey r.1, dDon r.2]) from h)
  cases hx with
  | cons r1 t1 => cases t1 with
    | cons r3 t3 =>
      cases t3
      exact ⟨a, _, _, rfl, ha, r1, r3⟩
/-! ### rank -/
def spRank : Sp := fun vs H Q _ => ∃ (v : V) (k : K40.Key), vs = [v] ∧ Rp H v (dKey k) ∧ k.tops.length ≤ 1000 ∧ ∀ u H', Same H H' → (∃ d, KeyLike d ∧ Rp H' u d) → Q u H'
theorem c_rank (T : Tx K mg CE CR CF CB) : Cal P w K mg base 1 "rank" spRank [] := by
  refine cal_of (N := ["key", "state", "letter", "tops", "top"]) (ps := ["key"]) T.rank (by decide +kernel) (fun vs H Q E h => ?_) (fun _ _ _ _ _ _ us hl => match us, hl with | [_], _ => rfl) (fun cdv f A outer s H vs Q E hr h => ?_)
  · obtain ⟨v, k, rfl, _⟩ := h
    rfl
  · obtain ⟨v, k, rfl, hv, hl, q⟩ := h
    have nd : (["key", "state", "letter", "tops", "top"] : List Str).Nodup := by decide +kernel
    obtain ⟨a, t, ts, rfl, ha, ht, hts⟩ := key_parts hv
    refine ⟨_, pss_cons (ps_asg (pv 0) (pg_tup (n := 3) rfl (pgs_cons (pg_name (i := 1) nd rfl (Or.inl rfl)) (pgs_cons (pg_name (i := 2) nd rfl (Or.inl rfl)) (pgs_cons (pg_name (i := 3) nd rfl (Or.inl rfl)) pgs_nil)))))
      (pss_one (ps_ret (pe_tup (pa_cons (pv 1) (pa_cons (pv 2) (StX.pa_star (pe_lc (own := [("top", 4)]) (g := gName 4) (tt := tYes) rfl nd (pi_tup (pv 3)) (blkOk_by (N := ["key", "state", "letter", "tops", "top"]) (sc := fnScope sRank) (by decide +kernel)) (fun _ _ _ _ _ => pg_name (i := 4) nd rfl (Or.inl rfl)) (fun _ _ _ _ _ => pts_nil)
        (fun _ _ _ _ _ => pe_ifExp (pt_cmp (pc_isN (pv 4))) (pe_un un_neg pe_int) (pv 4))) pa_nil)))))), ?_⟩
    refine ⟨_, rfl, a, _, rfl, SqT.of ha, rfl, _, _, rfl, _, _, rfl, _, _, rfl, rfl, ?_⟩
    have lt := hts.len
    rw [List.length_map] at lt
    refine ⟨_, rfl, _, rfl, _, rfl, t, rfl, ⟨ts, SqT.of ht⟩, fun D hD => ?_⟩
    refine lc_pure (walk_tup (xs := ts)) hD (Nat.le_trans (Nat.le_of_eq lt) (Nat.le_trans hl (by decide))) (fun H2 s2 => SqT.of (s2 _ _ ht)) (fun i H x H' y => yat_same y) (fun _ y _ => ∃ n : Int, y = .int n) (fun _ _ _ _ _ e => e)
      (fun i x H2 H3 hi s2 y Qy hq => ?_) (fun H2 ys s2 hL hl2 hr2 => ?_)
    · obtain ⟨rfl, hx⟩ := y
      obtain ⟨d, hd, r⟩ := Ra.map_get hts hx
      refine ⟨rfl, _, rfl, ?_⟩
      cases d with
      | none =>
        rw [dTop_v r]
        exact ⟨true, rfl, iteT ⟨_, rfl, hq _ _ (Same.refl _) ⟨_, rfl⟩⟩⟩
      | some n =>
        rw [dTop_v r]
        exact ⟨false, rfl, iteF ⟨_, rfl, hq _ _ (Same.refl _) ⟨_, rfl⟩⟩⟩
    · obtain ⟨ns, rfl⟩ : ∃ ns : List Int, ys = ns.map V.int := by
        clear hL hl2
        induction ys with
        | nil => exact ⟨[], rfl⟩
        | cons y ys ih =>
          obtain ⟨n, rfl⟩ := hr2 0 _ rfl
          obtain ⟨ns, rfl⟩ := ih fun i y e => hr2 (i + 1) y e
          exact ⟨n :: ns, rfl⟩
      rw [List.length_map] at hl2
      refine ⟨D, _, rfl, .inr (SqL.of hL), ?_⟩
      refine ⟨by simp; have : (1000 : Nat) + 3 ≤ sizeLine := by decide
                 omega, fun p hp => ?_⟩
      refine q _ _ (KR.Same.mut s2 (free_of s2 hp)) ⟨.tuple ((k.st :: k.lt :: ns).map .int), ⟨_, _, rfl⟩, .tup upd_same (by simpa using Ra.ints (k.st :: k.lt :: ns))⟩
/-! ### is_move -/
def MoveOk (m : K40.Mv) (tp : Option Int) : Prop := (m = .pop → ∃ n, tp = some n) ∧ ∀ n, m = .push n → 0 ≤ n ∧ n ≤ 3
def spIsMove : Sp := fun vs H Q _ => ∃ (v t : V) (m : K40.Mv) (tp : Option Int), vs = [v, t] ∧ Rp H v (dMv m) ∧ Rp H t (dTop tp) ∧ MoveOk m tp ∧ ∀ H', Same H H' → Q (.bl true) H'
theorem c_is_move (T : Tx K mg CE CR CF CB) : Cal P w K mg base 3 "is_move" spIsMove [] := by
  have G1 : Cal P w K mg base 2 "is_within" spIsWithin [] := c_is_within T
  refine cal_of (N := ["value", "top"]) (ps := ["value", "top"]) T.is_move (by decide +kernel) (fun vs H Q E h => ?_) (fun _ _ _ _ _ _ us hl => match us, hl with | [_, _], _ => rfl) (fun cdv f A outer s H vs Q E hr h => ?_)
  · obtain ⟨v, t, m, tp, rfl, _⟩ := h
    rfl
  · obtain ⟨v, t, m, tp, rfl, hv, ht, ⟨m1, m2⟩, q⟩ := h
    refine ⟨_, pss_cons (ps_if (PW.pt (pw_or (pt_cmp (pc_isN (pv 0))) (pw_or1 (PW.pt (pw_and (pt_val (pe_isT "str" T (pv 0))) (pw_and1 (pt_cmpR op_eq (pv 0) (pe_con T (.str "pop")) (nomark _)))))))) (pss_one (ps_ret (pe_or (pe_cmp (pc_isN (pv 0))) (pe_one (pe_cmp (pc_notN (pv 1))))))) pss_nil)
      (pss_cons (ps_if (PW.pt (pw_or (pt_not (pt_val (pe_isLT T (pv 0)))) (pw_or1 (pt_cmpR op_ne (pe_len T (pv 0)) pe_int (nomark _))))) pss_never pss_nil)
      (pss_one (ps_ret (pe_and (pe_isT "str" T (pe_ixT (pv 0) pe_int)) (pe_and (pe_cmpR op_eq (pe_ixT (pv 0) pe_int) (pe_con T (.str "push")) (nomark _)) (pe_one (pe_c G1 hr (by decide) rfl (pa_cons (pe_ixT (pv 0) pe_int) (pa_cons pe_int (pa_cons (pe_con T (.int 3)) pa_nil)))))))))), ?_⟩
    cases m with
    | stay =>
      obtain rfl := Rp.non_inv (show Rp H v .none from hv)
      exact ⟨_, rfl, true, rfl, iteT (iteT ⟨_, rfl, true, rfl, iteT (q _ (Same.refl _))⟩)⟩
    | pop =>
      obtain rfl := Rp.str_inv (show Rp H v (.str "pop") from hv)
      obtain ⟨n, rfl⟩ := m1 rfl
      obtain rfl : t = .int n := dTop_v ht
      refine ⟨_, rfl, false, rfl, iteF ?_⟩
      refine ⟨_, rfl, _, _, _, _, true, rfl, .ty _, .base (.str _), kit_ty (by decide +kernel), true, rfl, iteT ?_⟩
      refine ⟨_, rfl, rfl, true, congrArg V.bl (dT rfl), iteT ?_⟩
      exact ⟨_, rfl, false, rfl, iteF ⟨_, rfl, q _ (Same.refl _)⟩⟩
    | push n =>
      obtain ⟨a, xs, rfl, ha, hx⟩ := Rp.tup_inv (show Rp H v (.tuple [.str "push", .int n]) from hv)
      obtain ⟨n1, n2⟩ := m2 n rfl
      cases hx with
      | cons r1 t1 => cases t1 with
        | cons r2 t2 =>
          cases t2
          obtain rfl := Rp.str_inv r1
          obtain rfl := Rp.int_inv r2
          refine ⟨_, rfl, false, rfl, iteF ?_⟩
          refine ⟨_, rfl, _, _, _, _, false, rfl, .ty _, .base (.tup ha), kit_ty (by decide +kernel), false, rfl, iteF (iteF ?_)⟩
          refine ⟨_, rfl, true, .tup ha, fun H1 s1 => ⟨true, rfl, if_ rfl ?_⟩⟩
          have ha1 := s1 _ _ ha
          refine ⟨_, rfl, a, _, rfl, .inr (SqT.of ha1), rfl, false, rfl, iteF ?_⟩
          refine ⟨_, rfl, a, _, 0, _, rfl, rfl, SqT.of ha1, rfl, _, _, _, _, true, rfl, .ty _, .base (.str _), kit_ty (by decide +kernel), true, rfl, iteT ?_⟩
          refine ⟨_, rfl, a, _, 0, _, rfl, rfl, SqT.of ha1, rfl, rfl, true, congrArg V.bl (dT rfl), iteT ?_⟩
          exact ⟨_, rfl, a, _, 1, _, rfl, rfl, SqT.of ha1, rfl, n, 0, 3, rfl, n1, n2, q _ s1⟩
/-! ### fixed -/
def Dep : Nat → PyData → Prop
  | 0, .tuple _ => False
  | n + 1, .tuple ds => ds.length ≤ 1000 ∧ ∀ d ∈ ds, Dep n d
  | _, .none => True
  | _, .int _ => True
  | _, .str _ => True
  | _, _ => False
def spFixed (n : Nat) : Sp := fun vs H Q _ => (∃ (v : V) (d : PyData), vs = [v] ∧ Rp H v d ∧ Dep n d ∧ ∀ u H', Same H H' → Rp H' u d → Q u H') ∨
  (∃ (p : Addr) (xs : List V) (ds : List PyData) (m : Nat), n = m + 1 ∧ vs = [.ref p] ∧ H p = some (.lst xs) ∧ Ra H xs ds ∧ (∀ d ∈ ds, Dep m d) ∧ xs.length ≤ 1000 ∧ ∀ t ys H', Same H H' → H' t = some (.tup ys) → Ra H' ys ds → Q (.ref t) H')
theorem c_fixed (T : Tx K mg CE CR CF CB) : ∀ n : Nat, Cal P w K mg base (n + 1) "fixed" (spFixed n) []
  | 0 => by
    refine cal_of (N := ["value", "each"]) (ps := ["value"]) T.fixed (by decide +kernel) (fun vs H Q E h => ?_) (fun _ _ _ _ _ _ us hl => match us, hl with | [_], _ => rfl) (fun cdv f A outer s H vs Q E hr h => ?_)
    · rcases h with ⟨v, d, rfl, _⟩ | ⟨p, xs, ds, m, _, rfl, _⟩ <;> rfl
    · have nd : (["value", "each"] : List Str).Nodup := by decide +kernel
      refine ⟨_, pss_one (ps_ret (pe_ifExp (pt_val (pe_isLT T (pv 0))) (pe_tupc T (pe_lc (own := [("each", 1)]) (g := gName 1) (tt := tYes) rfl nd (pi_lt (pv 0)) (blkOk_by (N := ["value", "each"]) (sc := fnScope sFixed) (by decide +kernel)) (fun _ _ _ _ _ => pg_name (i := 1) nd rfl (Or.inl rfl)) (fun _ _ _ _ _ => pts_nil) (te := fun _ _ _ => False) (fun _ _ _ _ _ => ⟨fun _ _ _ _ _ _ h => h.elim⟩))) (pv 0))), ?_⟩
      rcases h with ⟨v, d, rfl, hv, hd, k⟩ | ⟨p, xs, ds, m, e, _⟩
      · have lt : LT H v false := by
          cases hv with
          | non => exact .non
          | bl b => exact hd.elim
          | int i => exact .int i
          | str x => exact .str x
          | tup h r => exact hd.elim
        exact ⟨_, rfl, false, lt, fun H1 s1 => ⟨false, rfl, iteF ⟨_, rfl, k v H1 s1 (hv.sm s1)⟩⟩⟩
      · cases e
  | n + 1 => by
    have G1 : Cal P w K mg base (n + 1) "fixed" (spFixed n) [] := c_fixed T n
    refine cal_of (N := ["value", "each"]) (ps := ["value"]) T.fixed (by decide +kernel) (fun vs H Q E h => ?_) (fun _ _ _ _ _ _ us hl => match us, hl with | [_], _ => rfl) (fun cdv f A outer s H vs Q E hr h => ?_)
    · rcases h with ⟨v, d, rfl, _⟩ | ⟨p, xs, ds, m, _, rfl, _⟩ <;> rfl
    · have nd : (["value", "each"] : List Str).Nodup := by decide +kernel
      refine ⟨_, pss_one (ps_ret (pe_ifExp (pt_val (pe_isLT T (pv 0))) (pe_tupc T (pe_lc (own := [("each", 1)]) (g := gName 1) (tt := tYes) rfl nd (pi_lt (pv 0)) (blkOk_by (N := ["value", "each"]) (sc := fnScope sFixed) (by decide +kernel)) (fun _ _ _ _ _ => pg_name (i := 1) nd rfl (Or.inl rfl)) (fun _ _ _ _ _ => pts_nil)
        (fun _ _ _ _ _ => pe_c G1 hr (Nat.le_refl _) rfl (pa_cons (pv 1) pa_nil)))) (pv 0))), ?_⟩
      -- the turns are alike for a list and a tuple
      have turn : ∀ (xs : List V) (ds : List PyData) (H1 : Hp), Ra H xs ds → (∀ d ∈ ds, Dep n d) → Same H H1 → ∀ (i : Nat) (x : V) (H2 H3 : Hp), Same H1 H2 → YAt xs i H2 x H3 → ∀ Qy : VK, (∀ y H4, Same H3 H4 → (∃ d, ds[i]? = some d ∧ Rp H4 y d) → Qy y H4) →
          gName 1 x (wipe (start ["value", "each"] vs) [1]) H3 fun σ2 H4 => wipe σ2 [1] = wipe (start ["value", "each"] vs) [1] ∧ tCall (spFixed n) [] C8.E0 (tCons (tVar 1) tNil) σ2 H4 Qy := fun xs ds H1 hR hD s1 i x H2 H3 s2 y Qy hq => by
        obtain ⟨rfl, hx⟩ := y
        obtain ⟨d, hd, r⟩ := hR.get hx
        have hl : vs.length = 1 := by
          rcases h with ⟨v, d, rfl, _⟩ | ⟨p, xs, ds, m, _, rfl, _⟩ <;> rfl
        obtain ⟨v0, rfl⟩ : ∃ v, vs = [v] := match vs, hl with | [v], _ => ⟨v, rfl⟩
        exact ⟨rfl, _, rfl, .inl ⟨x, d, rfl, (r.sm s1).sm s2, hD d (List.mem_of_getElem? hd), fun u H4 s4 ru => hq u H4 s4 ⟨d, hd, ru⟩⟩⟩
      rcases h with ⟨v, d, rfl, hv, hd, k⟩ | ⟨p, xs, ds, m, e, rfl, hp, hx, hd, hz, k⟩
      · cases hv with
        | non => exact ⟨_, rfl, false, .non, fun H1 s1 => ⟨false, rfl, iteF ⟨_, rfl, k _ H1 s1 .non⟩⟩⟩
        | bl b => exact hd.elim
        | int i => exact ⟨_, rfl, false, .int i, fun H1 s1 => ⟨false, rfl, iteF ⟨_, rfl, k _ H1 s1 (.int i)⟩⟩⟩
        | str x => exact ⟨_, rfl, false, .str x, fun H1 s1 => ⟨false, rfl, iteF ⟨_, rfl, k _ H1 s1 (.str x)⟩⟩⟩
        | @tup a xs ds ha hx =>
          obtain ⟨hz, hd⟩ := hd
          refine ⟨_, rfl, true, .tup ha, fun H1 s1 => ⟨true, rfl, iteT ?_⟩⟩
          refine .inr ⟨_, rfl, a, rfl, ⟨xs, SqT.of (s1 _ _ ha)⟩, fun D hD => ?_⟩
          refine lc_pure (walk_tup (xs := xs)) hD (by rw [hx.len]; exact Nat.le_trans hz (by decide)) (fun H2 s2 => SqT.of (s2 _ _ (s1 _ _ ha))) (fun i H x H' y => yat_same y) (fun i y H => ∃ d, ds[i]? = some d ∧ Rp H y d) (fun i y H H' e ⟨d, h1, h2⟩ => ⟨d, h1, h2.nl e⟩)
            (fun i x H2 H3 hi s2 y Qy hq => turn xs ds H1 hx hd s1 i x H2 H3 s2 y Qy hq) (fun H2 ys s2 hL hl hr2 => ?_)
          refine ⟨D, ys, rfl, .inl ⟨SqL.of hL, fun t ht => ?_⟩⟩
          have ra : Ra H2 ys ds := .of_all (by rw [hl, hx.len]) fun i y d e1 e2 => by
            obtain ⟨d', h1, h2⟩ := hr2 i y e1
            rw [e2] at h1
            cases h1
            exact h2
          exact k _ _ (same_tr s1 (KR.Same.mut s2 (free_of s2 ht))) (.tup upd_same (ra.sm (Same.new ht)))
      · cases e
        refine ⟨_, rfl, true, .lst hp, fun H1 s1 => ⟨true, rfl, iteT ?_⟩⟩
        refine .inl ⟨_, rfl, p, rfl, ⟨xs, SqL.of (s1 _ _ hp)⟩, fun D hD => ?_⟩
        refine lc_pure (walk_list (xs := xs)) hD (Nat.le_trans hz (by decide)) (fun H2 s2 => SqL.of (s2 _ _ (s1 _ _ hp))) (fun i H x H' y => yat_same y) (fun i y H => ∃ d, ds[i]? = some d ∧ Rp H y d) (fun i y H H' e ⟨d, h1, h2⟩ => ⟨d, h1, h2.nl e⟩)
          (fun i x H2 H3 hi s2 y Qy hq => turn xs ds H1 hx hd s1 i x H2 H3 s2 y Qy hq) (fun H2 ys s2 hL hl hr2 => ?_)
        refine ⟨D, ys, rfl, .inl ⟨SqL.of hL, fun t ht => ?_⟩⟩
        have ra : Ra H2 ys ds := .of_all (by rw [hl, hx.len]) fun i y d e1 e2 => by
          obtain ⟨d', h1, h2⟩ := hr2 i y e1
          rw [e2] at h1
          cases h1
          exact h2
        exact k t ys _ (same_tr s1 (KR.Same.mut s2 (free_of s2 ht))) upd_same (ra.sm (Same.new ht))
end
end KR
end
section
set_option Elab.async false
set_option linter.all false
set_option maxRecDepth 100000
set_option maxHeartbeats 4000000
namespace KR
open PySem PySem.Spec PyProof.Rows L2 C8
section
variable {P : Program} {w : World} {K : PySem.W.Frag} {mg : Str → Option Value} {base : Heap} {CE CR CF CB : Addr} {X : Cx}
/-! ### is_key -/
def spIsKey : Sp := fun vs H Q _ => ∃ (v : V) (l s : Int) (n : Nat) (r : K40.Key × K40.Don), vs = [v, .int l, .int s, .int (n : Int)] ∧ Rp H v (dKey r.1) ∧ K40.RuleOk l s n r ∧ n ≤ 1000 ∧ ∀ H', Same H H' → Q (.bl true) H'
theorem c_is_key (T : Tx K mg CE CR CF CB) : Cal P w K mg base 3 "is_key" spIsKey [] := by
  have G1 : Cal P w K mg base 2 "is_within" spIsWithin [] := c_is_within T
  refine cal_of (N := ["value", "letters", "states", "stacks", "top"]) (ps := ["value", "letters", "states", "stacks"]) T.is_key (by decide +kernel) (fun vs H Q E h => ?_) (fun _ _ _ _ _ _ us hl => match us, hl with | [_, _, _, _], _ => rfl) (fun cdv f A outer s H vs Q E hr h => ?_)
  · obtain ⟨v, l, st, n, r, rfl, _⟩ := h
    rfl
  · obtain ⟨v, l, st, n, r, rfl, hv, ok, hn, q⟩ := h
    have nd : (["value", "letters", "states", "stacks", "top"] : List Str).Nodup := by decide +kernel
    obtain ⟨a, t, ts, rfl, ha, ht, hts⟩ := key_parts hv
    have lt := hts.len
    rw [List.length_map, ok.nt] at lt
    refine ⟨_, pss_cons (ps_if (PW.pt (pw_or (pt_not (pt_val (pe_isLT T (pv 0)))) (pw_or (pt_cmpR op_ne (pe_len T (pv 0)) pe_int (nomark _)) (pw_or1 (pt_not (pt_val (pe_isLT T (pe_ixT (pv 0) pe_int)))))))) pss_never pss_nil)
      (pss_cons (ps_if (PW.pt (pw_or (pt_not (pt_val (pe_c G1 hr (by decide) rfl (pa_cons (pe_ixT (pv 0) pe_int) (pa_cons pe_int (pa_cons (pe_op op_sub (pv 2) pe_int) pa_nil)))))) (pw_or (pt_not (pt_val (pe_c G1 hr (by decide) rfl (pa_cons (pe_ixT (pv 0) pe_int) (pa_cons pe_int (pa_cons (pe_op op_sub (pv 1) pe_int) pa_nil))))))
        (pw_or1 (pt_cmpR op_ne (pe_len T (pe_ixT (pv 0) pe_int)) (pv 3) (nomark _)))))) pss_never pss_nil)
      (pss_one (ps_ret (pe_all T (pe_lc (own := [("top", 4)]) (g := gName 4) (tt := tYes) rfl nd (pi_tup (pe_ixT (pv 0) pe_int)) (blkOk_by (N := ["value", "letters", "states", "stacks", "top"]) (sc := fnScope sIsKey) (by decide +kernel)) (fun _ _ _ _ _ => pg_name (i := 4) nd rfl (Or.inl rfl)) (fun _ _ _ _ _ => pts_nil)
        (fun _ _ _ _ _ => pe_or (pe_cmp (pc_isN (pv 4))) (pe_one (pe_c G1 hr (by decide) rfl (pa_cons (pv 4) (pa_cons pe_int (pa_cons (pe_con T (.int 3)) pa_nil))))))))))), ?_⟩
    refine ⟨_, rfl, true, .tup ha, fun H1 s1 => ⟨true, rfl, if_ rfl ?_⟩⟩
    have ha1 := s1 _ _ ha
    have ht1 := s1 _ _ ht
    refine ⟨_, rfl, a, _, rfl, .inr (SqT.of ha1), rfl, false, rfl, iteF ?_⟩
    refine ⟨_, rfl, a, _, 2, _, rfl, rfl, SqT.of ha1, rfl, true, .tup ht1, fun H2 s2 => ⟨true, rfl, if_ rfl ?_⟩⟩
    have ha2 := s2 _ _ ha1
    have ht2 := s2 _ _ ht1
    refine ⟨_, rfl, a, _, 0, _, rfl, rfl, SqT.of ha2, rfl, _, rfl, _, _, rfl, rfl, _, 0, st - 1, rfl, ok.st.1, (by have := ok.st.2; omega), true, rfl, if_ rfl ?_⟩
    refine ⟨_, rfl, a, _, 1, _, rfl, rfl, SqT.of ha2, rfl, _, rfl, _, _, rfl, rfl, _, 0, l - 1, rfl, ok.lt.1, (by have := ok.lt.2; omega), true, rfl, if_ rfl ?_⟩
    refine ⟨_, rfl, a, _, 2, _, rfl, rfl, SqT.of ha2, rfl, t, ts, rfl, .inr (SqT.of ht2), _, rfl, rfl, false, congrArg V.bl (by rw [lt]; simp), iteF ?_⟩
    refine ⟨_, rfl, a, _, 2, _, rfl, rfl, SqT.of ha2, rfl, t, rfl, ⟨ts, SqT.of ht2⟩, fun D hD => ?_⟩
    refine lc_pure (walk_tup (xs := ts)) hD (by rw [lt]; exact Nat.le_trans hn (by decide)) (fun H3 s3 => SqT.of (s3 _ _ ht2)) (fun i H x H' y => yat_same y) (fun _ y _ => y = .bl true) (fun _ _ _ _ _ e => e)
      (fun i x H3 H4 hi s3 y Qy hq => ?_) (fun H3 ys s3 hL hl hr2 => ?_)
    · obtain ⟨rfl, hx⟩ := y
      obtain ⟨d, hd, r'⟩ := Ra.map_get hts hx
      have e := dTop_v r'
      subst e
      refine ⟨rfl, _, rfl, ?_⟩
      cases d with
      | none => exact ⟨true, rfl, iteT (hq _ _ (Same.refl _) rfl)⟩
      | some m =>
        obtain ⟨m1, m2⟩ := ok.top _ (List.mem_of_getElem? hd) m rfl
        exact ⟨false, rfl, iteF ⟨_, rfl, m, 0, 3, rfl, m1, m2, hq _ _ (Same.refl _) rfl⟩⟩
    · refine ⟨D, List.replicate ts.length true, rfl, SqL.of (by rw [hL, rows_bl hl hr2]), ?_⟩
      rw [all_rep]
      exact q H3 (same_tr (same_tr s1 s2) s3)
/-! ### is_done -/
def spIsDone : Sp := fun vs H Q _ => ∃ (v : V) (l s : Int) (n : Nat) (r : K40.Key × K40.Don) (tt : Addr) (ts : List V), vs = [v, .int s, .ref tt] ∧ Rp H v (dDon r.2) ∧ H tt = some (.tup ts) ∧ Ra H ts (r.1.tops.map dTop) ∧ K40.RuleOk l s n r ∧ n ≤ 1000 ∧ ∀ H', Same H H' → Q (.bl true) H'
theorem c_is_done (T : Tx K mg CE CR CF CB) : Cal P w K mg base 4 "is_done" spIsDone [] := by
  have G1 : Cal P w K mg base 2 "is_within" spIsWithin [] := c_is_within T
  have G2 : Cal P w K mg base 3 "is_move" spIsMove [] := c_is_move T
  refine cal_of (N := ["value", "states", "tops", "move", "top"]) (ps := ["value", "states", "tops"]) T.is_done (by decide +kernel) (fun vs H Q E h => ?_) (fun _ _ _ _ _ _ us hl => match us, hl with | [_, _, _], _ => rfl) (fun cdv f A outer s H vs Q E hr h => ?_)
  · obtain ⟨v, l, st, n, r, tt, ts, rfl, _⟩ := h
    rfl
  · obtain ⟨v, l, st, n, r, tt, ts, rfl, hv, htt, hts, ok, hn, q⟩ := h
    have nd : (["value", "states", "tops", "move", "top"] : List Str).Nodup := by decide +kernel
    obtain ⟨a, m, ms, rfl, ha, hm, hms⟩ := don_parts hv
    have lt := hts.len
    have lm := hms.len
    rw [List.length_map, ok.nt] at lt
    rw [List.length_map, ok.nm] at lm
    refine ⟨_, pss_cons (ps_if (PW.pt (pw_or (pt_not (pt_val (pe_isLT T (pv 0)))) (pw_or (pt_cmpR op_ne (pe_len T (pv 0)) pe_int (nomark _)) (pw_or1 (pt_not (pt_val (pe_c G1 hr (by decide) rfl (pa_cons (pe_ixT (pv 0) pe_int) (pa_cons pe_int (pa_cons (pe_op op_sub (pv 1) pe_int) pa_nil)))))))))) pss_never pss_nil)
      (pss_cons (ps_if (PW.pt (pw_or (pt_not (pt_val (pe_isLT T (pe_ixT (pv 0) pe_int)))) (pw_or1 (pt_cmpR op_ne (pe_len T (pe_ixT (pv 0) pe_int)) (pe_len T (pv 2)) (nomark _))))) pss_never pss_nil)
      (pss_one (ps_ret (pe_all T (pe_lc (own := [("move", 3), ("top", 4)]) (g := gTup K 2 (gCons (gName 3) (gCons (gName 4) gNil))) (tt := tYes) rfl nd (RZ.pi_zipA rfl (T.free "zip" (by decide +kernel)) (pa_cons (pe_ixT (pv 0) pe_int) (pa_cons (pv 2) pa_nil))) (blkOk_by (N := ["value", "states", "tops", "move", "top"]) (sc := fnScope sIsDone) (by decide +kernel)) (fun _ _ _ _ _ => pg_tup (n := 2) rfl (pgs_cons (pg_name (i := 3) nd rfl (Or.inl rfl)) (pgs_cons (pg_name (i := 4) nd rfl (Or.inl rfl)) pgs_nil))) (fun _ _ _ _ _ => pts_nil)
        (fun _ _ _ _ _ => pe_c G2 hr (by decide) rfl (pa_cons (pv 3) (pa_cons (pv 4) pa_nil)))))))), ?_⟩
    refine ⟨_, rfl, true, .tup ha, fun H1 s1 => ⟨true, rfl, if_ rfl ?_⟩⟩
    have ha1 := s1 _ _ ha
    have hm1 := s1 _ _ hm
    refine ⟨_, rfl, a, _, rfl, .inr (SqT.of ha1), rfl, false, rfl, iteF ?_⟩
    refine ⟨_, rfl, a, _, 0, _, rfl, rfl, SqT.of ha1, rfl, _, rfl, _, _, rfl, rfl, _, 0, st - 1, rfl, ok.to.1, (by have := ok.to.2; omega), true, rfl, if_ rfl ?_⟩
    refine ⟨_, rfl, a, _, 1, _, rfl, rfl, SqT.of ha1, rfl, true, .tup hm1, fun H2 s2 => ⟨true, rfl, if_ rfl ?_⟩⟩
    have ha2 := s2 _ _ ha1
    have hm2 := s2 _ _ hm1
    have ht2 := s2 _ _ (s1 _ _ htt)
    refine ⟨_, rfl, a, _, 1, _, rfl, rfl, SqT.of ha2, rfl, m, ms, rfl, .inr (SqT.of hm2), _, rfl, tt, ts, rfl, .inr (SqT.of ht2), rfl, false, congrArg V.bl (by rw [lt, lm]; simp), iteF ?_⟩
    refine ⟨_, rfl, a, _, 1, _, rfl, rfl, SqT.of ha2, rfl, _, rfl, m, tt, ms, ts, rfl, .inr ⟨SqT.of hm2, SqT.of ht2, fun D hD => ?_⟩⟩
    refine lc_pure (walk_zipT (xs := ms) (ys := ts) (n := n) (by rw [lt, lm]; simp)) hD (Nat.le_trans hn (by decide)) (fun H3 s3 => ⟨SqT.of (s3 _ _ hm2), SqT.of (s3 _ _ ht2)⟩) (fun i H x H' y => ypair_same y) (fun _ y _ => y = .bl true) (fun _ _ _ _ _ e => e)
      (fun i x H3 H4 hi s3 y Qy hq => ?_) (fun H3 ys s3 hL hl hr2 => ?_)
    · have sy := ypair_same y
      obtain ⟨Z, x1, x2, rfl, hZ, rfl, e1, e2⟩ := y
      obtain ⟨d, hd, r1⟩ := Ra.map_get hms e1
      obtain ⟨d2, hd2, r2⟩ := Ra.map_get hts e2
      have sh : Same H (upd H3 Z (.tup [x1, x2])) := same_tr (same_tr (same_tr s1 s2) s3) sy
      refine ⟨Z, _, rfl, SqT.of upd_same, rfl, _, _, rfl, _, _, rfl, rfl, rfl, ?_⟩
      refine ⟨_, rfl, _, rfl, _, _, d, d2, rfl, r1.sm sh, r2.sm sh, ⟨fun e => ?_, fun n' e => ?_⟩, fun H5 s5 => hq _ _ s5 rfl⟩
      · subst e
        obtain ⟨n', hn'⟩ := ok.pop i hd
        rw [hd2] at hn'
        cases hn'
        exact ⟨n', rfl⟩
      · exact ok.mv _ (List.mem_of_getElem? hd) n' e
    · refine ⟨D, List.replicate n true, rfl, SqL.of (by rw [hL, rows_bl hl hr2]), ?_⟩
      rw [all_rep]
      exact q H3 (same_tr (same_tr s1 s2) s3)
end
end KR
end
section
set_option Elab.async false
set_option linter.all false
set_option maxRecDepth 100000
set_option maxHeartbeats 4000000
namespace KR
open PySem PySem.Spec PyProof.Rows L2 C8
theorem ra_perm {α : Type} {f : α → PyData} {H : Hp} {ys xs : List V} (p : ys.Perm xs) : ∀ {rs : List α}, Ra H xs (rs.map f) → ∃ qs : List α, qs.Perm rs ∧ Ra H ys (qs.map f) := by
  induction p with
  | nil => exact fun h => ⟨_, .refl _, h⟩
  | @cons x l1 l2 _ ih =>
    intro rs h
    cases rs with
    | nil => cases h
    | cons r rs =>
      cases h with
      | cons a t =>
        obtain ⟨qs, h1, h2⟩ := ih t
        exact ⟨r :: qs, h1.cons _, .cons a h2⟩
  | swap x y l =>
    intro rs h
    cases rs with
    | nil => cases h
    | cons r rs =>
      cases h with
      | cons a t =>
        cases rs with
        | nil => cases t
        | cons r2 rs =>
          cases t with
          | cons b t => exact ⟨r2 :: r :: rs, .swap .., .cons b (.cons a t)⟩
  | trans _ _ ih1 ih2 =>
    intro rs h
    obtain ⟨q1, h1, h2⟩ := ih2 h
    obtain ⟨q2, h3, h4⟩ := ih1 h2
    exact ⟨q2, h3.trans h1, h4⟩
section
variable {X : Cx}
/-- tuple(a list): the new tuple bears no dict -/
def rTupX (K : PySem.W.Frag) : List V → Hp → VK → Prop := fun xs H Q => ∃ p ys, xs = [V.ref p] ∧ SqL K H p ys ∧ ∀ l H', H l = none → Same H H' → TupX H' l ys → Q (.ref l) H'
theorem cr_tupX : CallR X (.type "tuple") (rTupX X.K) := by
  intro pins s σ H xs us Q I r h
  obtain ⟨p, ys, rfl, hq, q⟩ := h
  obtain ⟨u, rfl, rx⟩ := vals1 r
  cases rx
  obtain ⟨its, r', pl, hz⟩ := I.list hq
  have hlen := r'.length
  refine call_tuple_list pl.isList (fun h' kp => ?_) (by simp only [List.size_toArray] <;> omega)
  have I1 : Inv X pins σ H { s with heap := h' } := I.kept (t' := s.toks) kp
  have I2 : Inv X pins σ (upd H h'.objs.size (.frz { cls := .type "tuple", data := .seq its.toArray } (.tup ys))) { s with heap := h'.push { cls := .type "tuple", data := .seq its.toArray } } :=
    I1.laid (t' := s.toks) (fun b o e => Heap.get?_push_of_some _ e) (Nat.le_refl _) ⟨Heap.get?_push_size _ rfl, hz, its, r', IsTup.new _ _⟩
  have hn := I1.hok.fresh (Nat.le_refl _)
  exact ⟨.ref h'.objs.size, _, I2, rfl, q _ _ hn (Same.new hn) ⟨_, rfl, rfl, upd_same⟩⟩
theorem tupX_same {H H' : Hp} {a : Addr} {xs : List V} (h : TupX H a xs) (e : Same H H') : TupX H' a xs := by
  obtain ⟨o, h1, h2, h3⟩ := h
  exact ⟨o, h1, h2, e _ _ h3⟩
end
theorem dep_top (n : Nat) (t : Option Int) : Dep n (dTop t) := by
  cases t <;> cases n <;> exact True.intro
theorem dep_int (n : Nat) (i : Int) : Dep n (.int i) := by cases n <;> exact True.intro
theorem dep_str (n : Nat) (i : Str) : Dep n (.str i) := by cases n <;> exact True.intro
theorem dep_mv (n : Nat) (m : K40.Mv) : Dep (n + 1) (dMv m) := by
  cases m with
  | stay => exact True.intro
  | pop => exact True.intro
  | push i => exact ⟨by show 2 ≤ 1000; decide, fun d hd => by
      rcases List.mem_cons.mp hd with e | hd
      · rw [e]; exact dep_str n _
      · rw [List.mem_singleton.mp hd]; exact dep_int n _⟩
theorem dep_rule {l s : Int} {k : Nat} {r : K40.Key × K40.Don} (ok : K40.RuleOk l s k r) (hk : k ≤ 1000) : Dep 4 (dRule r) := by
  refine ⟨by show 2 ≤ 1000; decide, fun d hd => ?_⟩
  rcases List.mem_cons.mp hd with e | hd
  · rw [e]
    refine ⟨by show 3 ≤ 1000; decide, fun d hd => ?_⟩
    rcases List.mem_cons.mp hd with e | hd
    · rw [e]; exact dep_int 2 _
    · rcases List.mem_cons.mp hd with e | hd
      · rw [e]; exact dep_int 2 _
      · rw [List.mem_singleton.mp hd]
        refine ⟨by rw [List.length_map, ok.nt]; exact hk, fun d hd => ?_⟩
        obtain ⟨t, _, rfl⟩ := List.mem_map.mp hd
        exact dep_top 1 t
  · rw [List.mem_singleton.mp hd]
    refine ⟨by show 2 ≤ 1000; decide, fun d hd => ?_⟩
    rcases List.mem_cons.mp hd with e | hd
    · rw [e]; exact dep_int 2 _
    · rw [List.mem_singleton.mp hd]
      refine ⟨by rw [List.length_map, ok.nm]; exact hk, fun d hd => ?_⟩
      obtain ⟨t, _, rfl⟩ := List.mem_map.mp hd
      exact dep_mv 0 t
/-- rules_from, its code object and its table -/
structure RfTab (K : PySem.W.Frag) (mg : Str → Option Value) (base : Heap) (c Pt : Addr) : Prop where
  ex : ∃ (f : Addr) (fd : FuncData), FunD K "rules_from" "rules_from" (fnArgs sRulesFrom) (fnBody sRulesFrom) (fnScope sRulesFrom) [] [] f fd ∧ mg "rules_from" = some (.ref f) ∧ fd.code = .ref c
  tab : LamX.TabB base mg c Pt
/-- the tables that the law's code may grow -/
abbrev Tb (Pt : Addr) : List (Addr × Str) := [(Pt, "rules_from.<locals>.<lambda>")]
section
variable {P : Program} {w : World} {K : PySem.W.Frag} {mg : Str → Option Value} {base : Heap} {CE CR CF CB c Pt : Addr} {X : Cx}
def RsOk (l s : Int) (n : Nat) (rs : List (K40.Key × K40.Don)) : Prop := (∀ r ∈ rs, K40.RuleOk l s n r) ∧ (rs.map (·.1)).Nodup ∧ rs.length ≤ 1000 ∧ n ≤ 1000
def spRulesFrom (Pt : Addr) : Sp := fun vs H Q _ => ∃ (p : Addr) (l s : Int) (n : Nat) (xs : List V) (rs : List (K40.Key × K40.Don)), vs = [.ref p, .int l, .int s, .int (n : Int)] ∧ H p = some (.lst xs) ∧ Ra H xs (rs.map dRule) ∧ RsOk l s n rs ∧ LamX.Tabs (Tb Pt) H ∧
  ∀ (t : Addr) (ys : List V) (qs : List (K40.Key × K40.Don)) (H' : Hp), qs.Perm rs → LamX.ExtN H H' → LamX.Tabs (Tb Pt) H' → TupX H' t ys → Ra H' ys (qs.map dRule) → Q (.ref t) H'
theorem Ra.extN {H H' : Hp} {v : List V} {d : List PyData} (h : Ra H v d) (e : LamX.ExtN H H') : Ra H' v d := h.mono fun b xs z => e b _ z fun ps q => by cases q
theorem Rp.extN {H H' : Hp} {v : V} {d : PyData} (h : Rp H v d) (e : LamX.ExtN H H') : Rp H' v d := h.mono fun b xs z => e b _ z fun ps q => by cases q
theorem c_rules_from (T : Tx K mg CE CR CF CB) (R : RfTab K mg base c Pt) : Cal P w K mg base 7 "rules_from" (spRulesFrom Pt) [] := by
  have G1 : Cal P w K mg base 1 "pairs_in" spPairsIn [] := c_pairs_in T
  have G2 : Cal P w K mg base 3 "is_key" spIsKey [] := c_is_key T
  have G3 : Cal P w K mg base 4 "is_done" spIsDone [] := c_is_done T
  have G4 : Cal P w K mg base 6 "fixed" (spFixed 5) [] := c_fixed T 5
  have G5 : Cal P w K mg base 1 "rank" spRank [] := c_rank T
  obtain ⟨f, fd, F, hm, hcode⟩ := R.ex
  have hb : Binds K fd ["value", "letters", "states", "stacks"] [] := F.bindsN fun _ _ _ _ _ _ us hl => match us, hl with | [_, _, _, _], _ => rfl
  have kp := F.kp
  obtain ⟨oc, od, dV, kV, doc, pm, an, cdv, ct, osl, rfl, lk, hcd, _, _⟩ := F.ex
  have hcode : cdv = .ref c := hcode
  subst hcode
  refine ⟨f, _, _, [], fn_of (N := ["value", "letters", "states", "stacks", "pairs", "told", "key", "_", "done"]) (ps := ["value", "letters", "states", "stacks"]) lk hcd (fnScope_by (by decide +kernel)) (fun vs H Q E h => ?_) (fun A outer s H vs Q E hr h => ?_), hm, kp, hb, .nil⟩
  · obtain ⟨p, l, st, n, xs, rs, rfl, _⟩ := h
    rfl
  · obtain ⟨p, l, st, n, xs, rs, rfl, hp, hx, ⟨hok, hnd, hz, hn⟩, hT, q⟩ := h
    have nd : (["value", "letters", "states", "stacks", "pairs", "told", "key", "_", "done"] : List Str).Nodup := by decide +kernel
    have hu := hr.units
    have lx := hx.len
    rw [List.length_map] at lx
    refine ⟨_, PSs.nox (pss_cons (ps_set (i := 4) nd rfl (Or.inl rfl) (pe_c G1 hr (by decide) rfl (pa_cons (pv 0) pa_nil)))
      (pss_cons (ps_if (PW.pt (pw_or (pt_cmp (pc_isN (pv 4))) (pw_or1 (pt_not (pt_val (pe_all T (pe_lc (own := [("key", 6), ("_", 7)]) (g := gTup K 2 (gCons (gName 6) (gCons (gName 7) gNil))) (tt := tYes) rfl nd (pi_list (pv 4)) (blkOk_by (N := ["value", "letters", "states", "stacks", "pairs", "told", "key", "_", "done"]) (sc := fnScope sRulesFrom) (by decide +kernel)) (fun _ _ _ _ _ => pg_tup (n := 2) rfl (pgs_cons (pg_name (i := 6) nd rfl (Or.inl rfl)) (pgs_cons (pg_name (i := 7) nd rfl (Or.inl rfl)) pgs_nil))) (fun _ _ _ _ _ => pts_nil)
        (fun _ _ _ _ _ => pe_c G2 hr (by decide) rfl (pa_cons (pv 6) (pa_cons (pv 1) (pa_cons (pv 2) (pa_cons (pv 3) pa_nil)))))))))))) pss_never pss_nil)
      (pss_cons (ps_if (pt_not (pt_val (pe_all T (pe_lc (own := [("key", 6), ("done", 8)]) (g := gTup K 2 (gCons (gName 6) (gCons (gName 8) gNil))) (tt := tYes) rfl nd (pi_list (pv 4)) (blkOk_by (N := ["value", "letters", "states", "stacks", "pairs", "told", "key", "_", "done"]) (sc := fnScope sRulesFrom) (by decide +kernel)) (fun _ _ _ _ _ => pg_tup (n := 2) rfl (pgs_cons (pg_name (i := 6) nd rfl (Or.inl rfl)) (pgs_cons (pg_name (i := 8) nd rfl (Or.inl rfl)) pgs_nil))) (fun _ _ _ _ _ => pts_nil)
        (fun _ _ _ _ _ => pe_c G3 hr (by decide) rfl (pa_cons (pv 8) (pa_cons (pv 2) (pa_cons (pe_ixT (pv 6) pe_int) pa_nil)))))))) pss_never pss_nil)
      (pss_cons (ps_set (i := 5) nd rfl (Or.inl rfl) (pe_c G4 hr (by decide) rfl (pa_cons (pv 4) pa_nil)))
      (pss_cons (ps_if (pt_cmpR op_ne (pe_callB KS.call_lenN rfl (T.free "len" (by decide +kernel)) PySem.boot_len (pa_cons (KS.pe_scK (own := [("key", 6), ("_", 7)]) (g := gTup K 2 (gCons (gName 6) (gCons (gName 7) gNil))) hu rfl nd (pi_tup (pv 5)) (blkOk_by (N := ["value", "letters", "states", "stacks", "pairs", "told", "key", "_", "done"]) (sc := fnScope sRulesFrom) (by decide +kernel)) (fun _ _ _ _ _ => pg_tup (n := 2) rfl (pgs_cons (pg_name (i := 6) nd rfl (Or.inl rfl)) (pgs_cons (pg_name (i := 7) nd rfl (Or.inl rfl)) pgs_nil))) (fun _ _ _ _ _ => pv 6)) pa_nil)) (pe_len T (pv 5)) (nomark _)) pss_never pss_nil)
      (pss_one (ps_ret (pe_callTy (r := rTupX K) cr_tupX rfl (T.free "tuple" (by decide +kernel)) PyProof.Rows.boot_tuple (pa_cons (pe_sortLam (T := Tb Pt) (k := 1) (y := "rule") hu rfl (T.free "sorted" (by decide +kernel)) (pv 5) R.tab rfl (List.mem_singleton.mpr rfl) (fun z hz _ => by rw [List.mem_singleton.mp hz]; rfl) (hr.mono (by decide)) (fnScope_by (by decide +kernel)) rfl rfl (fun _ _ _ _ _ => rfl)
        (fun A outer s H f c' hr => pe_c G5 hr (by decide) rfl (pa_cons (pe_ixT (pv 0) pe_int) pa_nil))) pa_nil))))))))), ?_⟩
    have hP : PairsAt H xs := fun x hx' => by
      obtain ⟨i, hi⟩ := List.getElem?_of_mem hx'
      obtain ⟨r, _, hr'⟩ := Ra.map_get hx hi
      obtain ⟨a, u, v, e, h1, _⟩ := rule_parts hr'
      exact ⟨a, u, v, e, h1⟩
    -- pairs = pairs_in(value)
    refine ⟨_, rfl, p, xs, rfl, hp, by omega, hP, fun L H1 nL s1 hL => ?_⟩
    -- all keys are keys
    refine ⟨_, rfl, false, rfl, iteF ?_⟩
    refine ⟨_, rfl, L, rfl, ⟨xs, SqL.of hL⟩, fun D hD => ?_⟩
    refine lc_pure (walk_list (xs := xs)) hD (by rw [lx]; exact Nat.le_trans hz (by decide)) (fun H2 s2 => SqL.of (s2 _ _ hL)) (fun i H x H' y => yat_same y) (fun _ y _ => y = .bl true) (fun _ _ _ _ _ e => e)
      (fun i x H2 H3 hi s2 y Qy hq => ?_) (fun H2 ys s2 hLD hl hr2 => ?_)
    · obtain ⟨rfl, hx'⟩ := y
      obtain ⟨r, hr', rr⟩ := Ra.map_get hx hx'
      obtain ⟨a, u, v, rfl, h1, h2, h3⟩ := rule_parts rr
      have sh := same_tr s1 s2
      exact ⟨a, _, rfl, SqT.of (sh _ _ h1), rfl, _, _, rfl, _, _, rfl, rfl, rfl, _, rfl, _, rfl, _, rfl, _, rfl, u, l, st, n, r, rfl, h2.sm sh, hok r (List.mem_of_getElem? hr'), hn, fun H4 s4 => hq _ _ s4 rfl⟩
    refine ⟨D, List.replicate xs.length true, rfl, SqL.of (by rw [hLD, rows_bl hl hr2]), true, by rw [all_rep], if_ rfl ?_⟩
    have sh2 : Same H H2 := same_tr s1 s2
    have hL2 := s2 _ _ hL
    -- all that they tell is right
    refine ⟨_, rfl, L, rfl, ⟨xs, SqL.of hL2⟩, fun D' hD' => ?_⟩
    refine lc_pure (walk_list (xs := xs)) hD' (by rw [lx]; exact Nat.le_trans hz (by decide)) (fun H3 s3 => SqL.of (s3 _ _ hL2)) (fun i H x H' y => yat_same y) (fun _ y _ => y = .bl true) (fun _ _ _ _ _ e => e)
      (fun i x H3 H4 hi s3 y Qy hq => ?_) (fun H3 ys' s3 hLD' hl' hr2' => ?_)
    · obtain ⟨rfl, hx'⟩ := y
      obtain ⟨r, hr', rr⟩ := Ra.map_get hx hx'
      obtain ⟨a, u, v, rfl, h1, h2, h3⟩ := rule_parts rr
      have sh := same_tr sh2 s3
      obtain ⟨ka, kt, kts, rfl, k1, k2, k3⟩ := key_parts (h2.sm sh)
      exact ⟨a, _, rfl, SqT.of (sh _ _ h1), rfl, _, _, rfl, _, _, rfl, rfl, rfl, _, rfl, _, rfl, _, rfl, ka, _, 2, _, rfl, rfl, SqT.of k1, rfl, v, l, st, n, r, kt, kts, rfl, h3.sm sh, k2, k3, hok r (List.mem_of_getElem? hr'), hn, fun H4 s4 => hq _ _ s4 rfl⟩
    refine ⟨D', List.replicate xs.length true, rfl, SqL.of (by rw [hLD', rows_bl hl' hr2']), true, by rw [all_rep], if_ rfl ?_⟩
    have sh3 : Same H H3 := same_tr sh2 s3
    have hL3 := s3 _ _ hL2
    -- told = fixed(pairs)
    refine ⟨_, rfl, .inr ⟨L, xs, rs.map dRule, 4, rfl, rfl, hL3, hx.sm sh3, fun d hd => ?_, by omega, fun B zs H4 s4 hB hz4 => ?_⟩⟩
    · obtain ⟨r, hr', rfl⟩ := List.mem_map.mp hd
      exact dep_rule (hok r hr') hn
    have lz := hz4.len
    rw [List.length_map] at lz
    -- the keys are unlike
    refine ⟨_, rfl, B, rfl, ⟨zs, SqT.of hB⟩, fun S hS => ?_⟩
    refine KS.scK_tup hS (SqT.of hB) (fun i => match rs[i]? with | some r => nKey r.1 | none => .none) (fun i j hij hj e => ?_) (by omega) (fun i x H5 hx' s5 Qy hq => ?_) (fun H5 KL s5 hKL lKL => ?_)
    · have hi' : i < rs.length := by omega
      have hj' : j < rs.length := by omega
      rw [List.getElem?_eq_getElem hi', List.getElem?_eq_getElem hj'] at e
      have e' := nKey_inj e
      have q1 : (rs.map (·.1))[i]'(by rw [List.length_map]; exact hi') = (rs.map (·.1))[j]'(by rw [List.length_map]; exact hj') := by
        rw [List.getElem_map, List.getElem_map]
        exact e'
      have := (List.getElem_inj hnd).mp q1
      omega
    · obtain ⟨r, hr', rr⟩ := Ra.map_get hz4 hx'
      obtain ⟨a, u, v, rfl, h1, h2, h3⟩ := rule_parts rr
      obtain ⟨ka, kt, kts, rfl, k1, k2, k3⟩ := key_parts h2
      refine ⟨a, _, rfl, SqT.of (s5 _ _ h1), rfl, _, _, rfl, _, _, rfl, rfl, rfl, _, rfl, ?_⟩
      refine hq ka ⟨dKey r.1, h2, ?_, ?_⟩
      · rw [hr']
        rfl
      · rw [hr']
        exact nKey_depth _
    have hB5 := s5 _ _ hB
    refine ⟨S, KL, rfl, hKL, _, rfl, B, zs, rfl, .inr (SqT.of hB5), rfl, false, congrArg V.bl (by rw [lKL]; simp), iteF ?_⟩
    -- sorted
    have sh5 : Same H H5 := same_tr (same_tr sh3 s4) s5
    refine ⟨_, rfl, B, zs, rfl, SqT.of hB5, hT.ext sh5, fun H6 e6 T6 _ => ⟨fun v H7 hv s7 => ?_, fun p' ys' H7 hp7 n7 s7 hL7 => ?_⟩⟩
    · obtain ⟨i, hi⟩ := List.getElem?_of_mem hv
      obtain ⟨r, hr', rr⟩ := Ra.map_get hz4 hi
      have rr7 := ((rr.sm s5).extN e6).sm s7
      obtain ⟨a, u, v2, rfl, h1, h2, h3⟩ := rule_parts rr7
      refine ⟨_, rfl, a, _, 0, _, rfl, rfl, SqT.of h1, rfl, u, r.1, rfl, h2, ?_, fun w' H8 s8 hw => ⟨s8, hw⟩⟩
      rw [(hok r (List.mem_of_getElem? hr')).nt]
      exact hn
    · obtain ⟨qs, hqs, rq⟩ := ra_perm hp7 ((hz4.sm s5).extN e6)
      refine ⟨p', ys', rfl, SqL.of hL7, fun t H8 ht s8 hX => ?_⟩
      refine q t ys' qs H8 hqs ?_ (T6.ext (same_tr s7 s8)) hX ((rq.sm s7).sm s8)
      exact ((LamX.ExtN.of sh5).trans e6).trans (LamX.ExtN.of (same_tr s7 s8))
end
end KR
end
section
set_option Elab.async false
set_option linter.all false
set_option maxRecDepth 100000
set_option maxHeartbeats 4000000
namespace KR
open PySem PySem.Spec PyProof.Rows L2 C8
section
variable {P : Program} {w : World} {K : PySem.W.Frag} {mg : Str → Option Value} {base : Heap} {CE CR CF CB c Pt : Addr} {X : Cx}
def spYesFrom : Sp := fun vs H Q _ => ∃ (p : Addr) (s : Int) (ns : List Int), vs = [.ref p, .int s] ∧ H p = some (.lst (ns.map V.int)) ∧ ns.length < 64 ∧ ns.Nodup ∧ (∀ n ∈ ns, 0 ≤ n ∧ n < s) ∧ ∀ (t : Addr) (ms : List Int) (H' : Hp), ms.Perm ns → Same H H' → H' t = some (.tup (ms.map V.int)) → Q (.ref t) H'
theorem c_yes_from (T : Tx K mg CE CR CF CB) : Cal P w K mg base 3 "yes_from" spYesFrom [] := by
  have G1 : Cal P w K mg base 2 "is_within" spIsWithin [] := c_is_within T
  refine cal_of (N := ["value", "states", "state"]) (ps := ["value", "states"]) T.yes_from (by decide +kernel) (fun vs H Q E h => ?_) (fun _ _ _ _ _ _ us hl => match us, hl with | [_, _], _ => rfl) (fun cdv f A outer s H vs Q E hr h => ?_)
  · obtain ⟨p, st, ns, rfl, _⟩ := h
    rfl
  · obtain ⟨p, st, ns, rfl, hp, h64, hnd, hb, k⟩ := h
    have nd : (["value", "states", "state"] : List Str).Nodup := by decide +kernel
    refine ⟨_, pss_cons (ps_if (PW.pt (pw_or (pt_not (pt_val (pe_isLT T (pv 0)))) (pw_or1 (pt_not (pt_val (pe_all T (pe_lc (own := [("state", 2)]) (g := gName 2) (tt := tYes) rfl nd (pi_list (pv 0)) (blkOk_by (N := ["value", "states", "state"]) (sc := fnScope sYesFrom) (by decide +kernel)) (fun _ _ _ _ _ => pg_name (i := 2) nd rfl (Or.inl rfl)) (fun _ _ _ _ _ => pts_nil)
        (fun _ _ _ _ _ => pe_c G1 hr (by decide) rfl (pa_cons (pv 2) (pa_cons pe_int (pa_cons (pe_op op_sub (pv 1) pe_int) pa_nil))))))))))) pss_never pss_nil)
      (pss_cons (ps_if (pt_cmpR op_ne (L2.pe_lenSetI rfl rfl (T.free "len" (by decide +kernel)) rfl (T.free "set" (by decide +kernel)) (pv 0)) (pe_len T (pv 0)) (nomark _)) pss_never pss_nil)
      (pss_one (ps_ret (pe_tupc T (pe_callB cr_sorted rfl (T.free "sorted" (by decide +kernel)) PyProof.Rows.boot_sorted (pa_cons (pv 0) pa_nil)))))), ?_⟩
    refine ⟨_, rfl, true, .lst hp, fun H1 s1 => ⟨true, rfl, if_ rfl ?_⟩⟩
    have hp1 := s1 _ _ hp
    refine ⟨_, rfl, p, rfl, ⟨_, SqL.of hp1⟩, fun D hD => ?_⟩
    refine lc_pure (walk_list (xs := ns.map V.int)) hD (by rw [List.length_map]; exact Nat.le_trans (Nat.le_of_lt h64) (by decide)) (fun H2 s2 => SqL.of (s2 _ _ hp1)) (fun i H x H' y => yat_same y) (fun _ y _ => y = .bl true) (fun _ _ _ _ _ e => e)
      (fun i x H2 H3 hi s2 y Qy hq => ?_) (fun H2 ys s2 hL hl hr2 => ?_)
    · obtain ⟨rfl, hx⟩ := y
      rw [List.getElem?_map] at hx
      obtain ⟨n, hn, rfl⟩ := Option.map_eq_some_iff.mp hx
      obtain ⟨b1, b2⟩ := hb n (List.mem_of_getElem? hn)
      exact ⟨rfl, _, rfl, _, rfl, _, _, rfl, rfl, n, 0, st - 1, rfl, b1, by omega, hq _ _ (Same.refl _) rfl⟩
    · refine ⟨D, List.replicate (ns.map V.int).length true, rfl, SqL.of (by rw [hL, rows_bl hl hr2]), true, by rw [all_rep], if_ rfl ?_⟩
      have hp2 := s2 _ _ hp1
      have sh := same_tr s1 s2
      refine ⟨_, rfl, p, ns, rfl, SqL.of hp2, h64, hnd, _, rfl, p, _, rfl, .inl (SqL.of hp2), rfl, false, congrArg V.bl (by rw [List.length_map]; simp), iteF ?_⟩
      refine ⟨_, rfl, p, ns, rfl, SqL.of hp2, h64, fun ms q hm _ hq => ?_⟩
      refine ⟨q, _, rfl, .inl ⟨SqL.of upd_same, fun t ht => ?_⟩⟩
      exact k t ms _ hm (same_tr sh (KR.Same.mut (Same.new hq) (by
        rw [upd_ne (fun z => by rw [z, upd_same] at ht; cases ht)] at ht
        exact ht))) upd_same
/-! ### an eater as an object -/
def eFl (l s n : Int) (r y d : Addr) : List (Str × V) := [("letters", .int l), ("states", .int s), ("stacks", .int n), ("rules", .ref r), ("yes", .ref y), ("book", .ref d)]
structure EatAt (P : Program) (w : World) (CE : Addr) (H : Hp) (x : Addr) (E : K40.Eat) : Prop where
  ex : ∃ (dx r y d : Addr) (xs : List V), H x = some (.ins CE dx (eFl E.letters E.states (E.stacks : Int) r y d)) ∧ TupX H r xs ∧ Ra H xs (E.rules.map dRule) ∧ H y = some (.tup (E.yes.map V.int)) ∧ BookAt P w H d E.rules
/-- all but lists and tables stay -/
def Kp (H H' : Hp) : Prop := ∀ b o, H b = some o → (∀ ys, o ≠ .lst ys) → (∀ ps, o ≠ .tbl ps) → H' b = some o
theorem Kp.refl (H : Hp) : Kp H H := fun _ _ e _ _ => e
theorem Kp.trans {H H1 H2 : Hp} (a : Kp H H1) (b : Kp H1 H2) : Kp H H2 := fun c o e n m => b c o (a c o e n m) n m
theorem Kp.of {H H' : Hp} (a : Same H H') : Kp H H' := fun b o e _ _ => a b o e
theorem Kp.nl {H H' : Hp} (a : Nl H H') : Kp H H' := fun b o e n _ => a b o e n
theorem Kp.ext {H H' : Hp} (a : LamX.ExtN H H') : Kp H H' := fun b o e _ n => a b o e n
theorem Kp.et {H H' : Hp} (a : Kp H H') : Et H H' := fun b xs e => a b _ e (fun ys z => by cases z) fun ps z => by cases z
theorem Kp.ins {H H' : Hp} (a : Kp H H') {b C dx : Addr} {fs : List (Str × V)} (e : H b = some (.ins C dx fs)) : H' b = some (.ins C dx fs) := a b _ e (fun ys z => by cases z) fun ps z => by cases z
theorem Kp.tup {H H' : Hp} (a : Kp H H') {b : Addr} {xs : List V} (e : H b = some (.tup xs)) : H' b = some (.tup xs) := a b _ e (fun ys z => by cases z) fun ps z => by cases z
theorem Rp.kp {H H' : Hp} {v : V} {d : PyData} (h : Rp H v d) (e : Kp H H') : Rp H' v d := h.mono e.et
theorem Ra.kp {H H' : Hp} {v : List V} {d : List PyData} (h : Ra H v d) (e : Kp H H') : Ra H' v d := h.mono e.et
theorem TupX.kp {H H' : Hp} {a : Addr} {xs : List V} (h : TupX H a xs) (e : Kp H H') : TupX H' a xs := by
  obtain ⟨o, h1, h2, h3⟩ := h
  exact ⟨o, h1, h2, e _ _ h3 (fun ys z => by cases z) fun ps z => by cases z⟩
theorem BookAt.kp {H H' : Hp} {d : Addr} {rs : List (K40.Key × K40.Don)} (h : BookAt P w H d rs) (e : Kp H H') : BookAt P w H' d rs := by
  obtain ⟨ps, h1, h2, h3⟩ := h
  exact ⟨ps, e _ _ h1 (fun ys z => by unfold BookO at z; cases z) (fun ps z => by unfold BookO at z; cases z), h2, h3.mono e.et⟩
theorem EatAt.kp {H H' : Hp} {x : Addr} {E : K40.Eat} (h : EatAt P w CE H x E) (e : Kp H H') : EatAt P w CE H' x E := by
  obtain ⟨dx, r, y, d, xs, h1, h2, h3, h4, h5⟩ := h.ex
  exact ⟨dx, r, y, d, xs, e.ins h1, h2.kp e, h3.kp e, e.tup h4, h5.kp e⟩
theorem EatAt.sm {H H' : Hp} {x : Addr} {E : K40.Eat} (h : EatAt P w CE H x E) (e : Same H H') : EatAt P w CE H' x E := h.kp (Kp.of e)
theorem fl_put {f : Str} {v : V} : ∀ {fs : List (Str × V)}, fs.lookup f = none → putF f v fs = fs ++ [(f, v)]
  | [], _ => rfl
  | (g, u) :: fs, h => by
    have hg : g ≠ f := fun e => by rw [e, List.lookup_cons, beq_self_eq_true] at h; cases h
    have h' : fs.lookup f = none := by
      rw [List.lookup_cons] at h
      have e : (f == g) = false := beq_eq_false_iff_ne.mpr (Ne.symm hg)
      rw [e] at h
      exact h
    show (if g = f then _ else _) = _
    rw [if_neg hg, fl_put h']
    rfl
theorem eFl_letters {l s n : Int} {r y d : Addr} : (eFl l s n r y d).lookup ("letters" : Str) = some (V.int l) := by kernel_rfl
theorem eFl_states {l s n : Int} {r y d : Addr} : (eFl l s n r y d).lookup ("states" : Str) = some (V.int s) := by kernel_rfl
theorem eFl_stacks {l s n : Int} {r y d : Addr} : (eFl l s n r y d).lookup ("stacks" : Str) = some (V.int n) := by kernel_rfl
theorem eFl_rules {l s n : Int} {r y d : Addr} : (eFl l s n r y d).lookup ("rules" : Str) = some (V.ref r) := by kernel_rfl
theorem eFl_yes {l s n : Int} {r y d : Addr} : (eFl l s n r y d).lookup ("yes" : Str) = some (V.ref y) := by kernel_rfl
theorem eFl_book {l s n : Int} {r y d : Addr} : (eFl l s n r y d).lookup ("book" : Str) = some (V.ref d) := by kernel_rfl
theorem tabs_fr {T : List (Addr × Str)} {S : List Addr} {H H' : Hp} (h : LamX.Tabs T H) (e : Fr S H H') (hS : ∀ y ∈ S, (∃ ys, H y = some (.lst ys)) ∨ ∃ C dx fs, H y = some (.ins C dx fs)) : LamX.Tabs T H' := fun p hp => by
  obtain ⟨ps, h1, h2, h3⟩ := h p hp
  have off : ∀ b o, H b = some o → (∀ ys, o ≠ .lst ys) → (∀ C dx fs, o ≠ .ins C dx fs) → b ∉ S := fun b o hb n1 n2 hbS => by
    rcases hS b hbS with ⟨ys, q⟩ | ⟨C, dx, fs, q⟩
    · rw [hb] at q
      exact n1 _ (Option.some.inj q)
    · rw [hb] at q
      exact n2 _ _ _ (Option.some.inj q)
  refine ⟨ps, e _ _ h1 (off _ _ h1 (fun ys z => by cases z) fun C dx fs z => by cases z), h2, fun pos cv hc => ?_⟩
  obtain ⟨c, c1, c2⟩ := h3 pos cv hc
  exact ⟨c, c1, e _ _ c2 (off _ _ c2 (fun ys z => by unfold LamX.CodeO at z; cases z) fun C dx fs z => by unfold LamX.CodeO at z; cases z)⟩
theorem fr_set {H : Hp} {x : Addr} {o : HO} : Fr [x] H (upd H x o) := (Fr.refl [x] H).set (List.mem_singleton.mpr rfl)
theorem ne_of_kinds {H : Hp} {a b : Addr} {o u : HO} (h1 : H a = some o) (h2 : H b = some u) (n : o ≠ u) : a ≠ b := fun e => by
  rw [e, h2] at h1
  exact n (Option.some.inj h1).symm
def spEaterInit (P : Program) (w : World) (CE Pt : Addr) : Sp := fun vs H Q _ => ∃ (x dx pr py : Addr) (l s : Int) (n : Nat) (xs : List V) (rs : List (K40.Key × K40.Don)) (ys : List Int), vs = [.ref x, .int l, .int s, .int (n : Int), .ref pr, .ref py] ∧ H x = some (.ins CE dx []) ∧
  H pr = some (.lst xs) ∧ Ra H xs (rs.map dRule) ∧ RsOk l s n rs ∧ (1 ≤ l ∧ l ≤ 6) ∧ (1 ≤ s ∧ s ≤ 12) ∧ n ≤ 2 ∧ H py = some (.lst (ys.map V.int)) ∧ ys.length < 64 ∧ ys.Nodup ∧ (∀ y ∈ ys, 0 ≤ y ∧ y < s) ∧ LamX.Tabs (Tb Pt) H ∧
  ∀ (H' : Hp) (E : K40.Eat), EatAt P w CE H' x E → E.letters = l → E.states = s → E.stacks = n → E.rules.Perm rs → E.yes.Perm ys → (∀ b o, H b = some o → b ≠ x → (∀ ps, o ≠ .tbl ps) → H' b = some o) → LamX.Tabs (Tb Pt) H' → Q .non H'
theorem c_eater_init (T : Tx K mg CE CR CF CB) (R : RfTab K mg base c Pt) : Mak P w K mg base 8 "Eater" CE (spEaterInit P w CE Pt) [] := by
  have G1 : Cal P w K mg base 2 "is_within" spIsWithin [] := c_is_within T
  have G2 : Cal P w K mg base 7 "rules_from" (spRulesFrom Pt) [] := c_rules_from T R
  have G3 : Cal P w K mg base 3 "yes_from" spYesFrom [] := c_yes_from T
  refine mak_of (N := ["self", "letters", "states", "stacks", "rules", "yes"]) (ps := ["self", "letters", "states", "stacks", "rules", "yes"]) T.eater_init (by decide +kernel) (fun vs H Q E h => ?_) (fun _ _ _ _ _ _ us hl => match us, hl with | [_, _, _, _, _, _], _ => rfl) (fun cdv f A outer s H vs Q E hr h => ?_)
  · obtain ⟨x, dx, pr, py, l, st, n, xs, rs, ys, rfl, _⟩ := h
    rfl
  · obtain ⟨x, dx, pr, py, l, st, n, xs, rs, ys, rfl, hx, hpr, hxs, hok, ⟨l1, l2⟩, ⟨s1, s2⟩, n2, hpy, y64, ynd, yb, hT, k⟩ := h
    have nd : (["self", "letters", "states", "stacks", "rules", "yes"] : List Str).Nodup := by decide +kernel
    have hu := hr.units
    refine ⟨_, pss_cons (ps_if (pt_not (pt_val (pe_c G1 hr (by decide) rfl (pa_cons (pv 1) (pa_cons pe_int (pa_cons (pe_con T (.int 6)) pa_nil)))))) pss_never pss_nil)
      (pss_cons (ps_if (pt_not (pt_val (pe_c G1 hr (by decide) rfl (pa_cons (pv 2) (pa_cons pe_int (pa_cons (pe_con T (.int 12)) pa_nil)))))) pss_never pss_nil)
      (pss_cons (ps_if (pt_not (pt_val (pe_c G1 hr (by decide) rfl (pa_cons (pv 3) (pa_cons pe_int (pa_cons (pe_con T (.int 2)) pa_nil)))))) pss_never pss_nil)
      (pss_cons (ps_asg (pe_tup (pa_cons (pv 1) (pa_cons (pv 2) (pa_cons (pv 3) pa_nil)))) (pg_tup (n := 3) rfl (pgs_cons (pg_fld (pv 0) (fun _ => rfl)) (pgs_cons (pg_fld (pv 0) (fun _ => rfl)) (pgs_cons (pg_fld (pv 0) (fun _ => rfl)) pgs_nil)))))
      (pss_cons (ps_fld (pv 0) (pe_c G2 hr (by decide) rfl (pa_cons (pv 4) (pa_cons (pv 1) (pa_cons (pv 2) (pa_cons (pv 3) pa_nil))))) rfl)
      (pss_cons (ps_fld (pv 0) (pe_c G3 hr (by decide) rfl (pa_cons (pv 5) (pa_cons (pv 2) pa_nil))) rfl)
      (pss_one (ps_fld (pv 0) (pe_callTy (cr_dictRules rfl hu) rfl (T.free "dict" (by decide +kernel)) PyProof.Rows.boot_dict (pa_cons (pe_fld (pv 0) rfl) pa_nil)) rfl))))))), ?_⟩
    refine ⟨_, rfl, l, 1, 6, rfl, l1, l2, true, rfl, if_ rfl ?_⟩
    refine ⟨_, rfl, st, 1, 12, rfl, s1, s2, true, rfl, if_ rfl ?_⟩
    refine ⟨_, rfl, n, 0, 2, rfl, by omega, by omega, true, rfl, if_ rfl ?_⟩
    -- self.letters, self.states, self.stacks = ..
    refine ⟨_, rfl, _, rfl, _, rfl, by show 3 ≤ sizeLine; decide, fun q nq => ?_⟩
    have q1 : Same H (upd H q (.tup [V.int l, V.int st, V.int (n : Int)])) := Same.new nq
    have hx1 := q1 _ _ hx
    have hq : upd H q (.tup [V.int l, V.int st, V.int (n : Int)]) q = some (.tup [V.int l, V.int st, V.int (n : Int)]) := upd_same
    obtain ⟨H1, e1⟩ : ∃ H1, H1 = upd H q (.tup [V.int l, V.int st, V.int (n : Int)]) := ⟨_, rfl⟩
    rw [← e1] at q1 hx1 hq ⊢
    refine ⟨q, _, rfl, SqT.of hq, rfl, _, _, rfl, _, rfl, x, CE, dx, [], rfl, hx1, T.eater.cl, T.noE "letters" (by decide +kernel), by decide, _, _, rfl, _, rfl, x, CE, dx, _, rfl, upd_same, T.eater.cl, T.noE "states" (by decide +kernel), by show 1 < 1000; decide, _, _, rfl, _, rfl, x, CE, dx, _, rfl, upd_same, T.eater.cl, T.noE "stacks" (by decide +kernel), by rw [fl_put (by kernel_rfl)]; show 2 < 1000; decide, rfl, ?_⟩
    have f1 : putF "stacks" (.int (n : Int)) (putF "states" (.int st) (putF "letters" (.int l) [])) = ([("letters", .int l), ("states", .int st), ("stacks", .int (n : Int))] : List (Str × V)) := by kernel_rfl
    obtain ⟨H2, e2⟩ : ∃ H2, H2 = upd (upd (upd H1 x (.ins CE dx (putF "letters" (.int l) []))) x (.ins CE dx (putF "states" (.int st) (putF "letters" (.int l) [])))) x (.ins CE dx (putF "stacks" (.int (n : Int)) (putF "states" (.int st) (putF "letters" (.int l) [])))) := ⟨_, rfl⟩
    have hx2 : H2 x = some (.ins CE dx [("letters", .int l), ("states", .int st), ("stacks", .int (n : Int))]) := by rw [e2, upd_same, f1]
    have fr2 : Fr [x] H H2 := by
      rw [e2]
      have m : x ∈ [x] := List.mem_singleton.mpr rfl
      exact (((Fr.of q1).set m).set m).set m
    rw [← e2]
    have nS : ∀ y ∈ [x], (∃ ys, H y = some (.lst ys)) ∨ ∃ C dx fs, H y = some (.ins C dx fs) := fun y hy => by
      rw [List.mem_singleton.mp hy]
      exact .inr ⟨_, _, _, hx⟩
    have et2 : Et H H2 := Fr.et fr2 fun y hy zs z => by
      rw [List.mem_singleton.mp hy, hx] at z
      cases z
    have npx : pr ≠ x := ne_of_kinds hpr hx (by intro z; cases z)
    have nyx : py ≠ x := ne_of_kinds hpy hx (by intro z; cases z)
    have off : ∀ {b : Addr}, b ≠ x → b ∉ [x] := fun n z => n (List.mem_singleton.mp z)
    -- self.rules = ..
    refine ⟨_, rfl, _, rfl, _, rfl, _, rfl, pr, l, st, n, xs, rs, rfl, fr2 _ _ hpr (off npx), hxs.mono et2, hok, tabs_fr hT fr2 nS, fun t zs qs H3 hqs e3 T3 hX hz => ?_⟩
    have hx3 := e3 _ _ hx2 fun ps z => by cases z
    refine ⟨_, rfl, x, CE, dx, _, rfl, hx3, T.eater.cl, T.noE "rules" (by decide +kernel), by show 3 < 1000; decide, ?_⟩
    have f2 : putF "rules" (.ref t) ([("letters", .int l), ("states", .int st), ("stacks", .int (n : Int))] : List (Str × V)) = ([("letters", .int l), ("states", .int st), ("stacks", .int (n : Int)), ("rules", .ref t)] : List (Str × V)) := by kernel_rfl
    rw [f2]
    obtain ⟨H4, e4⟩ : ∃ H4, H4 = upd H3 x (.ins CE dx [("letters", .int l), ("states", .int st), ("stacks", .int (n : Int)), ("rules", .ref t)]) := ⟨_, rfl⟩
    have hx4 : H4 x = some (.ins CE dx [("letters", .int l), ("states", .int st), ("stacks", .int (n : Int)), ("rules", .ref t)]) := by rw [e4, upd_same]
    have fr4 : Fr [x] H3 H4 := by rw [e4]; exact fr_set
    rw [← e4]
    have nS3 : ∀ y ∈ [x], (∃ ys, H3 y = some (.lst ys)) ∨ ∃ C dx fs, H3 y = some (.ins C dx fs) := fun y hy => by
      rw [List.mem_singleton.mp hy]
      exact .inr ⟨_, _, _, hx3⟩
    have et4 : Et H3 H4 := Fr.et fr4 fun y hy zs z => by
      rw [List.mem_singleton.mp hy, hx3] at z
      cases z
    -- self.yes = ..
    refine ⟨_, rfl, _, rfl, py, st, ys, rfl, fr4 _ _ (e3 _ _ (fr2 _ _ hpy (off nyx)) fun ps z => by cases z) (off nyx), y64, ynd, yb, fun ty ms H5 hms s5 hty => ?_⟩
    have hx5 := s5 _ _ hx4
    refine ⟨_, rfl, x, CE, dx, _, rfl, hx5, T.eater.cl, T.noE "yes" (by decide +kernel), by show 4 < 1000; decide, ?_⟩
    have f3 : putF "yes" (.ref ty) ([("letters", .int l), ("states", .int st), ("stacks", .int (n : Int)), ("rules", .ref t)] : List (Str × V)) = ([("letters", .int l), ("states", .int st), ("stacks", .int (n : Int)), ("rules", .ref t), ("yes", .ref ty)] : List (Str × V)) := by kernel_rfl
    rw [f3]
    obtain ⟨H6, e6⟩ : ∃ H6, H6 = upd H5 x (.ins CE dx [("letters", .int l), ("states", .int st), ("stacks", .int (n : Int)), ("rules", .ref t), ("yes", .ref ty)]) := ⟨_, rfl⟩
    have hx6 : H6 x = some (.ins CE dx [("letters", .int l), ("states", .int st), ("stacks", .int (n : Int)), ("rules", .ref t), ("yes", .ref ty)]) := by rw [e6, upd_same]
    have fr6 : Fr [x] H5 H6 := by rw [e6]; exact fr_set
    rw [← e6]
    have nS5 : ∀ y ∈ [x], (∃ ys, H5 y = some (.lst ys)) ∨ ∃ C dx fs, H5 y = some (.ins C dx fs) := fun y hy => by
      rw [List.mem_singleton.mp hy]
      exact .inr ⟨_, _, _, hx5⟩
    have et6 : Et H5 H6 := Fr.et fr6 fun y hy zs z => by
      rw [List.mem_singleton.mp hy, hx5] at z
      cases z
    have ntx : t ≠ x := by
      obtain ⟨o, _, _, ho⟩ := hX
      exact ne_of_kinds ho hx3 (by intro z; cases z)
    have tX6 : TupX H6 t zs := by
      obtain ⟨o, o1, o2, ho⟩ := hX
      exact ⟨o, o1, o2, fr6 _ _ (s5 _ _ (fr4 _ _ ho (off ntx))) (off ntx)⟩
    have hz6 : Ra H6 zs (qs.map dRule) := ((hz.mono et4).sm s5).mono et6
    have qnd : (qs.map (·.1)).Nodup := (hqs.map _).nodup_iff.mpr hok.2.1
    -- self.book = ..
    refine ⟨_, rfl, x, CE, dx, _, _, rfl, hx6, T.eater.cl, T.noE "rules" (by decide +kernel), (by kernel_rfl), t, qs, zs, rfl, tX6, hz6, qnd, fun d H7 nd7 s7 bk => ?_⟩
    have hx7 := s7 _ _ hx6
    refine ⟨_, rfl, x, CE, dx, _, rfl, hx7, T.eater.cl, T.noE "book" (by decide +kernel), by show 5 < 1000; decide, ?_⟩
    have f4 : putF "book" (.ref d) ([("letters", .int l), ("states", .int st), ("stacks", .int (n : Int)), ("rules", .ref t), ("yes", .ref ty)] : List (Str × V)) = eFl l st n t ty d := by kernel_rfl
    rw [f4]
    have fr8 : Fr [x] H7 (upd H7 x (.ins CE dx (eFl l st n t ty d))) := fr_set
    have nS7 : ∀ y ∈ [x], (∃ ys, H7 y = some (.lst ys)) ∨ ∃ C dx fs, H7 y = some (.ins C dx fs) := fun y hy => by
      rw [List.mem_singleton.mp hy]
      exact .inr ⟨_, _, _, hx7⟩
    have et8 : Et H7 (upd H7 x (.ins CE dx (eFl l st n t ty d))) := Fr.et fr8 fun y hy zs z => by
      rw [List.mem_singleton.mp hy, hx7] at z
      cases z
    have tyx : ty ≠ x := ne_of_kinds hty hx5 (by intro z; cases z)
    refine k _ ⟨l, st, n, qs, ms⟩ ⟨dx, t, ty, d, zs, upd_same, ?_, (hz6.sm s7).mono et8, fr8 _ _ (s7 _ _ (fr6 _ _ hty (off tyx))) (off tyx), ?_⟩ rfl rfl rfl hqs hms (fun b o hb nb nt => ?_) (tabs_fr ((tabs_fr ((tabs_fr T3 fr4 nS3).ext s5) fr6 nS5).ext s7) fr8 nS7)
    · obtain ⟨o, o1, o2, ho⟩ := tX6
      exact ⟨o, o1, o2, fr8 _ _ (s7 _ _ ho) (off ntx)⟩
    · obtain ⟨ps, b1, b2, b3⟩ := bk
      have ndx : d ≠ x := ne_of_kinds b1 hx7 (by intro z; unfold BookO at z; cases z)
      exact ⟨ps, fr8 _ _ b1 (off ndx), b2, b3.mono et8⟩
    · exact fr8 _ _ (s7 _ _ (fr6 _ _ (s5 _ _ (fr4 _ _ (e3 _ _ (fr2 _ _ hb (off nb)) nt) (off nb))) (off nb))) (off nb)
end
end KR
end
section
set_option Elab.async false
set_option linter.all false
set_option maxRecDepth 100000
set_option maxHeartbeats 4000000
namespace KR
open PySem PySem.Spec PyProof.Rows L2 C8
def dStk (s : List Int) : PyData := .tuple (s.map .int)
def dStks (ss : List (List Int)) : PyData := .tuple (ss.map dStk)
def dStand : K40.Stand → PyData
  | none => .none
  | some (s, ss) => .tuple [.int s, dStks ss]
section
variable {P : Program} {w : World} {K : PySem.W.Frag} {mg : Str → Option Value} {base : Heap} {CE CR CF CB c Pt : Addr} {X : Cx}
/-- a def with defaults -/
theorem cal_ofD {x : Str} {st : Stmt} {N ps : List Str} {k : Nat} {sp : Sp} {dvs : List V} (D : DefIn K mg x st dvs) (n j : Nat) (hd : dvs ≠ []) (hn : n + (dvs.length - j) = ps.length) (S : scC N ps (fnScope st) = true) (len : ∀ vs H Q E, sp vs H Q E → vs.length = ps.length)
    (bd : ∀ (T : Addr) (kV doc pm : Value) (an : Option Addr) (cdv ct : Value) (us its : List Value), us.length = n → its.length = dvs.length →
      ∃ k, bindArgs (PySem.W.fnOf x x (fnArgs st) (fnBody st) (fnScope st) (.ref T) kV doc pm an cdv ct) ⟨us, []⟩ = seqItems? (.ref T) >>= k ∧ k (some its.toArray) = pure (ps.zip (us ++ its.drop j)))
    (body : Body P w K mg base N x st k sp) : Cal P w K mg base (k + 1) x sp (dvs.drop j) := by
  obtain ⟨f, fd, F, hm⟩ := D.ex
  obtain ⟨ds, d1, d2⟩ := F.binds1 n j hd hn bd
  refine ⟨f, fd, ps, ds, F.ok (fnScope_by S) len fun cdv A outer s H vs Q E hr h => ?_, hm, F.kp, d2, d1⟩
  obtain ⟨t, ht, hq⟩ := body cdv f A outer s H vs Q E hr h
  exact ⟨t, ht.nox, hq⟩
def spNeedEater (CE : Addr) : Sp := fun vs H Q _ => ∃ (x dx : Addr) (fs : List (Str × V)) (p : V), vs = [.ref x, p] ∧ H x = some (.ins CE dx fs) ∧ Q .non H
theorem b_need_eater (T : Tx K mg CE CR CF CB) : Body P w K mg base ["value", "part"] "need_eater" sNeedEater 0 (spNeedEater CE) := by
  intro cdv f A outer s H vs Q E hr h
  obtain ⟨x, dx, fs, p, rfl, hx, k⟩ := h
  refine ⟨_, pss_one (ps_if (pt_not (pt_val (pe_callB (call_isC T.eater.ins) rfl (T.free "isinstance" (by decide +kernel)) boot_isinstance (pa_cons (pv 0) (pa_cons (pe_glob rfl T.eater.mgC (v := .ref CE) rfl) pa_nil))))) pss_never pss_nil), ?_⟩
  exact ⟨_, rfl, x, dx, fs, rfl, hx, true, rfl, if_ rfl k⟩
theorem c_need_eater1 (T : Tx K mg CE CR CF CB) : Cal P w K mg base 1 "need_eater" (spNeedEater CE) [.str "eater"] :=
  cal_ofD (N := ["value", "part"]) (ps := ["value", "part"]) T.need_eater 1 0 (by simp) rfl (by decide +kernel) (fun vs H Q E h => by obtain ⟨x, dx, fs, p, rfl, _⟩ := h; rfl)
    (fun _ _ _ _ _ _ _ us its hl hi => match us, hl, its, hi with | [_], _, [_], _ => ⟨_, rfl, rfl⟩) (b_need_eater T)
theorem c_need_eater2 (T : Tx K mg CE CR CF CB) : Cal P w K mg base 1 "need_eater" (spNeedEater CE) [] :=
  cal_ofD (N := ["value", "part"]) (ps := ["value", "part"]) T.need_eater 2 1 (by simp) rfl (by decide +kernel) (fun vs H Q E h => by obtain ⟨x, dx, fs, p, rfl, _⟩ := h; rfl)
    (fun _ _ _ _ _ _ _ us its hl hi => match us, hl, its, hi with | [_, _], _, [_], _ => ⟨_, rfl, rfl⟩) (b_need_eater T)
/-! ### done_by -/
def spDoneBy (P : Program) (w : World) (CE : Addr) : Sp := fun vs H Q _ => ∃ (x a : Addr) (E : K40.Eat) (st : Option Int) (l : Int) (ts : List V) (tops : List (Option Int)), vs = [.ref x, topV st, .int l, .ref a] ∧ EatAt P w CE H x E ∧ K40.Ok E ∧ H a = some (.lst ts) ∧ Ra H ts (tops.map dTop) ∧
  ∀ v H', Same H H' → foundV H' v (K40.doneBy E st l tops) → Q v H'
theorem c_done_by (T : Tx K mg CE CR CF CB) : Cal P w K mg base 1 "done_by" (spDoneBy P w CE) [] := by
  refine cal_of (N := ["eater", "state", "letter", "tops"]) (ps := ["eater", "state", "letter", "tops"]) T.done_by (by decide +kernel) (fun vs H Q E h => ?_) (fun _ _ _ _ _ _ us hl => match us, hl with | [_, _, _, _], _ => rfl) (fun cdv f A outer s H vs Q E hr h => ?_)
  · obtain ⟨x, a, E, st, l, ts, tops, rfl, _⟩ := h
    rfl
  · obtain ⟨x, a, E, st, l, ts, tops, rfl, hE, oE, hts, hr2, k⟩ := h
    have hu := hr.units
    refine ⟨_, pss_one (ps_ret (pe_ifExp (pt_cmp (pc_isN (pv 1))) pe_non (pe_bget hu (pe_fld (pv 0) rfl) (pe_tup (pa_cons (pv 1) (pa_cons (pv 2) (pa_cons (pe_tupc T (pv 3)) pa_nil)))) ⟨rfl, rfl, rfl, rfl⟩))), ?_⟩
    cases st with
    | none => exact ⟨_, rfl, true, rfl, iteT (k .non H (Same.refl _) rfl)⟩
    | some st =>
      obtain ⟨dx, r, y, d, xs, h1, h2, h3, h4, h5⟩ := hE.ex
      refine ⟨_, rfl, false, rfl, iteF ?_⟩
      refine ⟨_, rfl, x, CE, dx, _, _, rfl, h1, T.eater.cl, T.noE "book" (by decide +kernel), eFl_book, d, E.rules, rfl, h5, oE.nd, ?_⟩
      have fin : ∀ (b : Addr) (H1 : Hp), Same H H1 → SqT K H1 b ts → Rp H1 (.ref b) (.tuple (tops.map dTop)) → (3 ≤ sizeLine ∧ ∀ p, H1 p = none → ∃ (kk : K40.Key), BookAt P w (upd H1 p (.tup [topV (some st), .int l, .ref b])) d E.rules ∧ Rp (upd H1 p (.tup [topV (some st), .int l, .ref b])) (.ref p) (dKey kk) ∧ ∀ v, foundV (upd H1 p (.tup [topV (some st), .int l, .ref b])) v (K40.look E.rules kk) → Q v (upd H1 p (.tup [topV (some st), .int l, .ref b]))) := by
        intro b H1 s1 hb rb
        refine ⟨by decide, fun p hp => ⟨⟨st, l, tops⟩, (h5.kp (Kp.of s1)).kp (Kp.of (Same.new hp)), ?_, fun v hv => k v _ (same_tr s1 (Same.new hp)) hv⟩⟩
        exact .tup upd_same (.cons (.int _) (.cons (.int _) (.cons (rb.sm (Same.new hp)) .nil)))
      refine ⟨_, rfl, _, rfl, _, rfl, a, ts, rfl, ?_⟩
      exact .inl ⟨SqL.of hts, fun b hb => fin b _ (Same.new hb) (SqT.of upd_same) (.tup upd_same (hr2.sm (Same.new hb)))⟩
/-! ### moved -/
theorem shaped_push (n : Int) : SeqAt.shaped (dMv (.push n)) = true := by
  show (PyData.canLay0 (.tuple [.str "push", .int n]) && decide (PyData.depth (.tuple [.str "push", .int n]) ≤ 64)) = true
  have h1 : PyData.strOk "push" = true := by decide +kernel
  simp [PyData.canLay0, PyData.canLayAll0, PyData.depth, PyData.depthAll, h1]
theorem stk_parts {H : Hp} {v : V} {s : List Int} (h : Rp H v (dStk s)) : ∃ a, v = .ref a ∧ H a = some (.tup (s.map V.int)) := by
  obtain ⟨a, xs, rfl, ha, hx⟩ := Rp.tup_inv (show Rp H v (.tuple (s.map .int)) from h)
  rw [hx.ints_inv] at ha
  exact ⟨a, rfl, ha⟩
theorem stk_mk {H : Hp} {a : Addr} {s : List Int} (h : H a = some (.tup (s.map V.int))) : Rp H (.ref a) (dStk s) := .tup h (Ra.ints s)
def spMoved : Sp := fun vs H Q _ => ∃ (v m : V) (s : List Int) (mv : K40.Mv), vs = [v, m] ∧ Rp H v (dStk s) ∧ Rp H m (dMv mv) ∧ s.length ≤ 1000 ∧ ∀ u H', Same H H' → Rp H' u (dStk (K40.moved s mv)) → Q u H'
theorem c_moved (T : Tx K mg CE CR CF CB) : Cal P w K mg base 1 "moved" spMoved [] := by
  refine cal_of (N := ["stack", "move"]) (ps := ["stack", "move"]) T.moved (by decide +kernel) (fun vs H Q E h => ?_) (fun _ _ _ _ _ _ us hl => match us, hl with | [_, _], _ => rfl) (fun cdv f A outer s H vs Q E hr h => ?_)
  · obtain ⟨v, m, st, mv, rfl, _⟩ := h
    rfl
  · obtain ⟨v, m, st, mv, rfl, hv, hm, hl, k⟩ := h
    have hu := hr.units
    obtain ⟨a, rfl, ha⟩ := stk_parts hv
    refine ⟨_, pss_cons (ps_if (pt_cmp (pc_isN (pv 1))) (pss_one (ps_ret (pv 0))) pss_nil)
      (pss_one (ps_ret (pe_ifExp (pt_cmpR (op_eqD hu) (pv 1) (pe_con T (.str "pop")) (nomark _)) (pe_slice sl_tupA (pv 0) (po_some pe_int) po_none) (pe_tup (pa_cons (pe_ixT (pv 1) pe_int) (StX.pa_star (pv 0) pa_nil)))))), ?_⟩
    cases mv with
    | stay =>
      obtain rfl := Rp.non_inv (show Rp H m .none from hm)
      exact ⟨_, rfl, true, rfl, iteT ⟨_, rfl, k _ _ (Same.refl _) hv⟩⟩
    | pop =>
      obtain rfl := Rp.str_inv (show Rp H m (.str "pop") from hm)
      refine ⟨_, rfl, false, rfl, iteF ⟨_, rfl, .str "pop", .str "pop", .str _, .str _, by decide +kernel, by decide +kernel, true, congrArg V.bl (by decide +kernel), iteT ?_⟩⟩
      refine ⟨_, rfl, 1, rfl, a, _, rfl, SqT.of ha, fun e => ?_, fun _ p hp => ?_⟩
      · have e1 : st = [] := by
          have := e.1
          rw [List.length_map] at this
          rw [show (some (1 : Int)) = some ((1 : Nat) : Int) from rfl, HT.sIx_nat] at this
          cases st with
          | nil => rfl
          | cons x xs => simp at this
        subst e1
        exact k _ _ (Same.refl _) hv
      · refine k _ _ (Same.new hp) (stk_mk ?_)
        rw [upd_same]
        have e : cutV (st.map V.int) (some 1) none = (st.drop 1).map V.int := by
          unfold cutV
          rw [show (some (1 : Int)) = some ((1 : Nat) : Int) from rfl, HT.sIx_nat, HT.sIx_none, List.length_map, List.map_drop]
          rcases Nat.lt_or_ge st.length 1 with q | q
          · have : st = [] := List.length_eq_zero_iff.mp (by omega)
            subst this
            rfl
          · rw [Nat.min_eq_left q]
            exact List.take_of_length_le (by rw [List.length_drop, List.length_map]; exact Nat.le_refl _)
        rw [e]
        rfl
    | push n =>
      obtain ⟨b, xs, rfl, hb, hx⟩ := Rp.tup_inv (show Rp H m (.tuple [.str "push", .int n]) from hm)
      cases hx with
      | cons r1 t1 => cases t1 with
        | cons r2 t2 =>
          cases t2
          obtain rfl := Rp.int_inv r2
          refine ⟨_, rfl, false, rfl, iteF ⟨_, rfl, dMv (.push n), .str "pop", hm.dp, .str _, shaped_push n, by decide +kernel, false, congrArg V.bl (by rfl), iteF ?_⟩⟩
          refine ⟨_, rfl, b, _, 1, _, rfl, rfl, SqT.of hb, rfl, _, rfl, a, _, rfl, .inl (SqT.of ha), ?_⟩
          refine ⟨by simp; have : (1001 : Nat) ≤ sizeLine := by decide
                     omega, fun p hp => k _ _ (Same.new hp) (stk_mk ?_)⟩
          rw [upd_same]
          simp [K40.moved]
/-! ### eaten_from -/
theorem can_ints : ∀ s : List Int, PyData.canLayAll0 (s.map .int) = true
  | [] => by simp [PyData.canLayAll0]
  | x :: s => by simp [PyData.canLayAll0, PyData.canLay0, can_ints s]
theorem shaped_stk (s : List Int) : SeqAt.shaped (dStk s) = true := by
  show (PyData.canLay0 (.tuple (s.map .int)) && decide (PyData.depth (.tuple (s.map .int)) ≤ 64)) = true
  have h2 := depth_ints s
  have h3 : PyData.depth (.tuple (s.map .int)) ≤ 2 := by
    simp only [PyData.depth]
    omega
  rw [Bool.and_eq_true]
  exact ⟨by simp [PyData.canLay0, can_ints], decide_eq_true (by omega)⟩
theorem eqv_nil (s : List Int) : PyData.eqv (dStk s) (.tuple []) = s.isEmpty := by
  cases s with
  | nil => simp [dStk, PyData.eqv, PyData.eqvAll]
  | cons x s => simp [dStk, PyData.eqv, PyData.eqvAll]
/-- the stacks are few and no longer than b -/
def StB (b : Nat) (ss : List (List Int)) : Prop := ss.length ≤ 2 ∧ ∀ z ∈ ss, z.length ≤ b
def spEatenFrom (P : Program) (w : World) (CE : Addr) : Sp := fun vs H Q _ => ∃ (x : Addr) (sv : V) (E : K40.Eat) (st : K40.Stand) (l : Int), vs = [.ref x, sv, .int l] ∧ EatAt P w CE H x E ∧ K40.Ok E ∧ Rp H sv (dStand st) ∧ (∀ s ss, st = some (s, ss) → StB 1000 ss) ∧
  ∀ u H', Same H H' → Rp H' u (dStand (K40.step E st l)) → Q u H'
/-- tops = [stack[0] if stack != () else None for stack in ..]: the reading of a turn -/
theorem c_eaten_from (T : Tx K mg CE CR CF CB) : Cal P w K mg base 2 "eaten_from" (spEatenFrom P w CE) [] := by
  have G1 : Cal P w K mg base 1 "done_by" (spDoneBy P w CE) [] := c_done_by T
  have G2 : Cal P w K mg base 1 "moved" spMoved [] := c_moved T
  refine cal_of (N := ["eater", "stand", "letter", "done", "stack", "move"]) (ps := ["eater", "stand", "letter"]) T.eaten_from (by decide +kernel) (fun vs H Q E h => ?_) (fun _ _ _ _ _ _ us hl => match us, hl with | [_, _, _], _ => rfl) (fun cdv f A outer s H vs Q E hr h => ?_)
  · obtain ⟨x, sv, E, st, l, rfl, _⟩ := h
    rfl
  · obtain ⟨x, sv, E, st, l, rfl, hE, oE, hs, hb, k⟩ := h
    have nd : (["eater", "stand", "letter", "done", "stack", "move"] : List Str).Nodup := by decide +kernel
    have hu := hr.units
    refine ⟨_, pss_cons (ps_if (pt_cmp (pc_isN (pv 1))) (pss_one (ps_ret pe_non)) pss_nil)
      (pss_cons (ps_set (i := 3) nd rfl (Or.inl rfl) (pe_c G1 hr (by decide) rfl (pa_cons (pv 0) (pa_cons (pe_ixT (pv 1) pe_int) (pa_cons (pv 2) (pa_cons (pe_lc (own := [("stack", 4)]) (g := gName 4) (tt := tYes) rfl nd (pi_tup (pe_ixT (pv 1) pe_int)) (blkOk_by (N := ["eater", "stand", "letter", "done", "stack", "move"]) (sc := fnScope sEatenFrom) (by decide +kernel)) (fun _ _ _ _ _ => pg_name (i := 4) nd rfl (Or.inl rfl)) (fun _ _ _ _ _ => pts_nil)
        (fun _ _ _ _ _ => pe_ifExp (pt_cmpR (r := rNeD K) (op_neD hu) (pv 4) (pe_tup pa_nil) (nomark _)) (pe_ixT (pv 4) pe_int) pe_non)) pa_nil))))))
      (pss_cons (ps_if (pt_cmp (pc_isN (pv 3))) (pss_one (ps_ret pe_non)) pss_nil)
      (pss_one (ps_ret (pe_tup (pa_cons (pe_ixT (pv 3) pe_int) (pa_cons (pe_tupc T (pe_lc (own := [("stack", 4), ("move", 5)]) (g := gTup K 2 (gCons (gName 4) (gCons (gName 5) gNil))) (tt := tYes) rfl nd (RZ.pi_zipA rfl (T.free "zip" (by decide +kernel)) (pa_cons (pe_ixT (pv 1) pe_int) (pa_cons (pe_ixT (pv 3) pe_int) pa_nil))) (blkOk_by (N := ["eater", "stand", "letter", "done", "stack", "move"]) (sc := fnScope sEatenFrom) (by decide +kernel)) (fun _ _ _ _ _ => pg_tup (n := 2) rfl (pgs_cons (pg_name (i := 4) nd rfl (Or.inl rfl)) (pgs_cons (pg_name (i := 5) nd rfl (Or.inl rfl)) pgs_nil))) (fun _ _ _ _ _ => pts_nil)
        (fun _ _ _ _ _ => pe_c G2 hr (by decide) rfl (pa_cons (pv 4) (pa_cons (pv 5) pa_nil))))) pa_nil))))))), ?_⟩
    cases st with
    | none =>
      obtain rfl := Rp.non_inv (show Rp H sv .none from hs)
      exact ⟨_, rfl, true, rfl, iteT (k _ _ (Same.refl _) .non)⟩
    | some st =>
      obtain ⟨q, ss⟩ := st
      obtain ⟨b2, bl⟩ := hb q ss rfl
      obtain ⟨a, xs, rfl, ha, hx⟩ := Rp.tup_inv (show Rp H sv (.tuple [.int q, dStks ss]) from hs)
      cases hx with
      | cons r1 t1 => cases t1 with
        | cons r2 t2 =>
          cases t2
          obtain rfl := Rp.int_inv r1
          obtain ⟨t, ts, rfl, ht, hts⟩ := Rp.tup_inv (show Rp H _ (.tuple (ss.map dStk)) from r2)
          have lt := hts.len
          rw [List.length_map] at lt
          refine ⟨_, rfl, false, rfl, iteF ?_⟩
          refine ⟨_, rfl, _, rfl, a, _, 0, _, rfl, rfl, SqT.of ha, rfl, _, rfl, _, rfl, a, _, 1, _, rfl, rfl, SqT.of ha, rfl, t, rfl, ⟨ts, SqT.of ht⟩, fun D hD => ?_⟩
          refine lc_pure (walk_tup (xs := ts)) hD (by rw [lt]; exact Nat.le_trans b2 (by decide)) (fun H2 s2 => SqT.of (s2 _ _ ht)) (fun i H x H' y => yat_same y) (fun i y _ => ∃ z, ss[i]? = some z ∧ y = topV z.head?) (fun _ _ _ _ _ e => e)
            (fun i x H2 H3 hi s2 y Qy hq => ?_) (fun H2 ys s2 hL hl hr2 => ?_)
          · obtain ⟨rfl, hx⟩ := y
            obtain ⟨z, hz, rz⟩ := Ra.map_get hts hx
            obtain ⟨sa, rfl, hsa⟩ := stk_parts (rz.sm s2)
            refine ⟨rfl, _, rfl, Nat.zero_le _, fun p hp => ⟨dStk z, .tuple [], ((stk_mk hsa).sm (Same.new hp)).dp, (Rp.tup upd_same .nil : Rp _ (.ref p) (.tuple [])).dp, shaped_stk z, by decide +kernel, _, rfl, ?_⟩⟩
            rw [eqv_nil]
            cases z with
            | nil => exact iteF (hq _ _ (Same.new hp) ⟨[], hz, rfl⟩)
            | cons n z => exact iteT ⟨_, rfl, sa, _, 0, _, rfl, rfl, SqT.of (Same.new hp _ _ hsa), atI_nat (j := 0) (by rfl), hq _ _ (Same.new hp) ⟨n :: z, hz, rfl⟩⟩
          · have ra : Ra H2 ys ((ss.map List.head?).map dTop) := Ra.of_map (by rw [hl, List.length_map, lt]) fun i v hv => by
              obtain ⟨z, hz, rfl⟩ := hr2 i v hv
              refine ⟨z.head?, by rw [List.getElem?_map, hz]; rfl, ?_⟩
              cases z.head? with
              | none => exact .non
              | some n => exact .int n
            refine ⟨x, D, E, some q, l, ys, ss.map List.head?, rfl, hE.sm s2, oE, hL, ra, fun v H3 s3 hv => ?_⟩
            have s23 := same_tr s2 s3
            have ha3 := s23 _ _ ha
            have ht3 := s23 _ _ ht
            refine ⟨_, rfl, ?_⟩
            cases hd : K40.look E.rules ⟨q, l, ss.map List.head?⟩ with
            | none =>
              have hd' : K40.doneBy E (some q) l (ss.map List.head?) = none := hd
              rw [hd'] at hv
              have hv : v = .non := hv
              subst hv
              refine ⟨true, rfl, iteT (k _ _ s23 ?_)⟩
              show Rp H3 .non (dStand ((K40.look E.rules ⟨q, l, ss.map List.head?⟩).map _))
              rw [hd]
              exact .non
            | some d =>
              have hd' : K40.doneBy E (some q) l (ss.map List.head?) = some d := hd
              rw [hd'] at hv
              obtain ⟨da, dt, ds, rfl, d1, d2, d3⟩ := don_parts (show Rp H3 v (dDon d) from hv)
              have dl := d3.len
              rw [List.length_map] at dl
              refine ⟨false, rfl, iteF ?_⟩
              refine ⟨_, rfl, da, _, 0, _, rfl, rfl, SqT.of d1, rfl, _, rfl, a, _, 1, _, rfl, rfl, SqT.of ha3, rfl, _, rfl, da, _, 1, _, rfl, rfl, SqT.of d1, rfl, t, dt, ts, ds, rfl, .inr ⟨SqT.of ht3, SqT.of d2, fun D2 hD2 => ?_⟩⟩
              have hmz : min ts.length ds.length ≤ sizeLine := by
                have : (2 : Nat) ≤ sizeLine := by decide
                omega
              refine lc_pure (walk_zipT (xs := ts) (ys := ds) (n := min ts.length ds.length) rfl) hD2 hmz (fun H4 s4 => ⟨SqT.of (s4 _ _ ht3), SqT.of (s4 _ _ d2)⟩) (fun i H x H' y => ypair_same y) (fun i y H => ∃ z m, ss[i]? = some z ∧ d.mvs[i]? = some m ∧ Rp H y (dStk (K40.moved z m))) (fun i y H H' e ⟨z, m, h1, h2, h3⟩ => ⟨z, m, h1, h2, h3.nl e⟩)
                (fun i x H4 H5 hi s4 y Qy hq => ?_) (fun H4 ys4 s4 hL4 hl4 hr4 => ?_)
              · have sy := ypair_same y
                obtain ⟨Z, x1, x2, rfl, hZ, rfl, e1, e2⟩ := y
                obtain ⟨z, hz, r1⟩ := Ra.map_get hts e1
                obtain ⟨m, hm, r2⟩ := Ra.map_get d3 e2
                have sh := same_tr s4 sy
                refine ⟨Z, _, rfl, SqT.of upd_same, rfl, _, _, rfl, _, _, rfl, rfl, rfl, ?_⟩
                exact ⟨_, rfl, _, rfl, x1, x2, z, m, rfl, (r1.sm s23).sm sh, r2.sm sh, bl z (List.mem_of_getElem? hz), fun u H6 s6 ru => hq _ _ s6 ⟨z, m, hz, hm, ru⟩⟩
              · refine ⟨D2, ys4, rfl, .inl ⟨SqL.of hL4, fun p hp => ?_⟩⟩
                refine ⟨by show 2 ≤ sizeLine; decide, fun p2 hp2 => ?_⟩
                have sa := same_tr s4 (Same.new (o := .tup ys4) hp)
                refine k _ _ (same_tr s23 (same_tr sa (Same.new hp2))) ?_
                have rs : Ra H4 ys4 ((List.zipWith K40.moved ss d.mvs).map dStk) := Ra.of_map (by rw [hl4, List.length_zipWith, lt, dl]) fun i v hv => by
                  obtain ⟨z, m, h1, h2, h3⟩ := hr4 i v hv
                  exact ⟨K40.moved z m, by rw [List.getElem?_zipWith, h1, h2], h3⟩
                show Rp _ (.ref p2) (dStand ((K40.look E.rules ⟨q, l, ss.map List.head?⟩).map _))
                rw [hd]
                refine .tup upd_same (.cons (.int _) (.cons ?_ .nil))
                exact (Rp.tup upd_same (rs.sm (Same.new hp)) : Rp _ (.ref p) (.tuple _)).sm (Same.new hp2)
end
end KR
end
section
set_option Elab.async false
set_option linter.all false
set_option maxRecDepth 100000
set_option maxHeartbeats 4000000
namespace KR
open PySem PySem.Spec PyProof.Rows L2 C8
theorem moved_len (z : List Int) (m : K40.Mv) : (K40.moved z m).length ≤ z.length + 1 := by
  cases m with
  | stay => exact Nat.le_succ _
  | pop =>
    show (z.drop 1).length ≤ _
    rw [List.length_drop]
    omega
  | push n => exact Nat.le_refl _
def GoodB (b : Nat) (st : K40.Stand) : Prop := ∀ s ss, st = some (s, ss) → StB b ss
theorem good_step {E : K40.Eat} {b : Nat} {st : K40.Stand} {l : Int} (h : GoodB b st) : GoodB (b + 1) (K40.step E st l) := by
  intro s ss e
  cases st with
  | none => cases e
  | some st =>
    obtain ⟨q, zs⟩ := st
    obtain ⟨h1, h2⟩ := h q zs rfl
    have e : ((K40.look E.rules ⟨q, l, zs.map List.head?⟩).map fun d => (d.st, List.zipWith K40.moved zs d.mvs)) = some (s, ss) := e
    obtain ⟨d, _, e2⟩ := Option.map_eq_some_iff.mp e
    have e3 : List.zipWith K40.moved zs d.mvs = ss := congrArg Prod.snd e2
    subst e3
    refine ⟨by rw [List.length_zipWith]; omega, fun z hz => ?_⟩
    obtain ⟨i, hi⟩ := List.getElem?_of_mem hz
    rw [List.getElem?_zipWith] at hi
    cases ha : zs[i]? with
    | none => rw [ha] at hi; cases hi
    | some a =>
      cases hm : d.mvs[i]? with
      | none => rw [ha, hm] at hi; cases hi
      | some m =>
        rw [ha, hm] at hi
        cases hi
        have := h2 a (List.mem_of_getElem? ha)
        have := moved_len a m
        omega
theorem eaten_snoc (E : K40.Eat) (l : List Int) (a : Int) : K40.eaten E (l ++ [a]) = K40.step E (K40.eaten E l) a := by
  unfold K40.eaten
  rw [List.foldl_append]
  rfl
theorem eaten_good {E : K40.Eat} (oE : K40.Ok E) (w : List Int) : ∀ i, i ≤ w.length → GoodB i (K40.eaten E (w.take i))
  | 0, _ => fun s ss e => by
    have e : some (0, List.replicate E.stacks []) = some (s, ss) := e
    cases e
    refine ⟨by rw [List.length_replicate]; exact oE.k, fun z hz => ?_⟩
    rw [List.eq_of_mem_replicate hz]
    exact Nat.le_refl 0
  | i + 1, h => by
    have hi : i < w.length := h
    rw [List.take_succ, List.getElem?_eq_getElem hi]
    exact eaten_snoc E (w.take i) w[i] ▸ good_step (eaten_good oE w i (by omega))
theorem stks_nil {H : Hp} {a : Addr} {v : V} {n : Nat} (h : H a = some (.tup (List.replicate n v))) (hv : Rp H v (dStk [])) : Rp H (.ref a) (dStks (List.replicate n [])) := by
  refine .tup h ?_
  rw [List.map_replicate]
  clear h
  induction n with
  | zero => exact .nil
  | succ n ih => exact .cons hv ih
section
variable {P : Program} {w : World} {K : PySem.W.Frag} {mg : Str → Option Value} {base : Heap} {CE CR CF CB c Pt : Addr} {X : Cx}
def spStandsIn (P : Program) (w : World) (CE : Addr) : Sp := fun vs H Q _ => ∃ (x t : Addr) (E : K40.Eat) (ns : List Int), vs = [.ref x, .ref t] ∧ EatAt P w CE H x E ∧ K40.Ok E ∧ H t = some (.tup (ns.map V.int)) ∧ 1 ≤ ns.length ∧ ns.length ≤ 200 ∧
  ∀ (L : Addr) (ys : List V) (v : V) (H' : Hp), Same H H' → H' L = some (.lst (ys ++ [v])) → Rp H' v (dStand (K40.eaten E ns)) → Q (.ref L) H'
theorem c_stands_in (T : Tx K mg CE CR CF CB) : Cal P w K mg base 3 "stands_in" (spStandsIn P w CE) [] := by
  have G1 : Cal P w K mg base 2 "eaten_from" (spEatenFrom P w CE) [] := c_eaten_from T
  refine cal_of (N := ["eater", "word", "stand", "found", "letter"]) (ps := ["eater", "word"]) T.stands_in (by decide +kernel) (fun vs H Q E h => ?_) (fun _ _ _ _ _ _ us hl => match us, hl with | [_, _], _ => rfl) (fun cdv f A outer s H vs Q E hr h => ?_)
  · obtain ⟨x, t, E, ns, rfl, _⟩ := h
    rfl
  · obtain ⟨x, t, E, ns, rfl, hE, oE, ht, h1, h2, k⟩ := h
    have nd : (["eater", "word", "stand", "found", "letter"] : List Str).Nodup := by decide +kernel
    refine ⟨_, pss_cons (ps_par (i := 2) (j := 3) rfl nd rfl rfl (by decide) rfl rfl (pa_cons (pe_tup (pa_cons pe_int (pa_cons (pe_op op_repN (pe_tup (pa_cons (pe_tup pa_nil) pa_nil)) (pe_fld (pv 0) rfl)) pa_nil))) (pa_cons (pe_lst pa_nil) pa_nil)) rfl)
      (pss_cons (ps_for PassesOwn.never rfl (pi_tup (pv 1)) (pg_name (i := 4) nd rfl (Or.inl rfl))
        (pss_cons (ps_set (i := 2) nd rfl (Or.inl rfl) (pe_c G1 hr (by decide) rfl (pa_cons (pv 0) (pa_cons (pv 2) (pa_cons (pv 4) pa_nil)))))
        (pss_one (ps_expr (pe_bm PySem.F.plainAttrs_list PySem.F.slot_list_append PySem.F.type_list_append mt_append (pv 3) (pa_cons (pv 2) pa_nil))))))
      (pss_one (ps_ret (pv 3)))), ?_⟩
    obtain ⟨dx, r, y, d, xs, e1, e2, e3, e4, e5⟩ := hE.ex
    refine ⟨Nat.zero_le _, fun p0 hp0 => ⟨by show 1 ≤ sizeLine; decide, fun p1 hp1 => ?_⟩⟩
    have s1 : Same H (upd (upd H p0 (.tup [])) p1 (.tup [V.ref p0])) := same_tr (Same.new hp0) (Same.new hp1)
    refine ⟨_, rfl, x, CE, dx, _, _, rfl, s1 _ _ e1, T.eater.cl, T.noE "stacks" (by decide +kernel), eFl_stacks, p1, E.stacks, _, rfl, rfl, upd_same, oE.k, fun p2 H2 s2 hp2 => ?_⟩
    have s12 := same_tr s1 s2
    refine ⟨by show 2 ≤ sizeLine; decide, fun p3 hp3 => ⟨Nat.zero_le _, fun L hL => ?_⟩⟩
    have s3 : Same H2 (upd H2 p3 (.tup [V.int 0, V.ref p2])) := Same.new hp3
    have s4 := same_tr s3 (Same.new (o := .lst []) hL)
    have s04 := same_tr s12 s4
    have nL : H L = none := free_of (same_tr s12 s3) hL
    refine ⟨_, _, rfl, ?_⟩
    have r0 : Rp (upd (upd H2 p3 (.tup [V.int 0, V.ref p2])) L (.lst [])) (.ref p3) (dStand (K40.eaten E (ns.take 0))) := by
      have rz : Rp H2 (.ref p0) (dStk []) := (Rp.tup (s2 _ _ (Same.new hp1 _ _ upd_same)) .nil : Rp H2 (.ref p0) (.tuple []))
      have rr := stks_nil hp2 rz
      have h5 : upd (upd H2 p3 (.tup [V.int 0, V.ref p2])) L (.lst []) p3 = some (.tup [V.int 0, V.ref p2]) := Same.new hL _ _ upd_same
      exact .tup h5 (.cons (.int 0) (.cons (rr.sm s4) .nil))
    refine ⟨_, rfl, t, rfl, ⟨_, SqT.of (s04 _ _ ht)⟩, for_it (walk_tup (xs := ns.map V.int)) (fun i σ H' => ∃ (v : V) (ys : List V) (o : Option V), σ = [some (.ref x), some (.ref t), some v, some (.ref L), o] ∧ Same H H' ∧ H' L = some (.lst ys) ∧ Rp H' v (dStand (K40.eaten E (ns.take i))) ∧ ys.length = i ∧ (1 ≤ i → ∃ zs, ys = zs ++ [v]))
      ⟨_, [], none, rfl, s04, upd_same, r0, rfl, fun z => by omega⟩ (fun i σ H' _ ⟨v, ys, o, _, sH, _⟩ => SqT.of (sH _ _ ht)) (fun i xx σ H' H3 hi hPv hy => ?_) (fun σ H' hPv => ?_)⟩
    · obtain ⟨v, ys, o, rfl, sH, hL', rv, hl, hlast⟩ := hPv
      obtain ⟨rfl, hx⟩ := hy
      rw [List.getElem?_map] at hx
      obtain ⟨n, hn, rfl⟩ := Option.map_eq_some_iff.mp hx
      have hi' : i < ns.length := by rw [List.length_map] at hi; exact hi
      refine ⟨_, rfl, _, rfl, _, rfl, x, v, E, K40.eaten E (ns.take i), n, rfl, hE.sm sH, oE, rv, fun s ss e => ?_, fun u H4 s4 ru => ?_⟩
      · obtain ⟨b1, b2⟩ := eaten_good oE ns i (by omega) s ss e
        exact ⟨b1, fun z hz => Nat.le_trans (b2 z hz) (by omega)⟩
      · refine ⟨_, rfl, .inl ⟨rfl, _, SqL.of (s4 _ _ hL')⟩, _, rfl, L, _, _, rfl, rfl, s4 _ _ hL', small1000 (by omega), ?_⟩
        refine ⟨u, ys ++ [u], _, rfl, KR.Same.mut (same_tr sH s4) nL, upd_same, ?_, by rw [List.length_append, hl]; rfl, fun _ => ⟨ys, rfl⟩⟩
        have hn' : ns.take (i + 1) = ns.take i ++ [n] := by
          rw [List.take_succ, hn]
          rfl
        rw [hn', eaten_snoc]
        exact ru.nl (Nl.set (s4 _ _ hL'))
    · obtain ⟨v, ys, o, rfl, sH, hL', rv, hl, hlast⟩ := hPv
      rw [List.length_map] at hl hlast rv
      obtain ⟨zs, rfl⟩ := hlast h1
      rw [List.take_of_length_le (Nat.le_refl _)] at rv
      exact ⟨_, rfl, k L zs v H' sH hL' rv⟩
/-! ### eaten, takes -/
def spTakes (P : Program) (w : World) (CE : Addr) (F : K40.Eat → List Int → V → Hp → Prop) : Sp := fun vs H Q _ => ∃ (x p : Addr) (E : K40.Eat) (ns : List Int), vs = [.ref x, .ref p] ∧ EatAt P w CE H x E ∧ K40.Ok E ∧ H p = some (.lst (ns.map V.int)) ∧ 1 ≤ ns.length ∧ ns.length ≤ 200 ∧ (∀ n ∈ ns, 0 ≤ n ∧ n < E.letters) ∧
  ∀ (v : V) (H' : Hp), Same H H' → F E ns v H' → Q v H'
theorem c_eaten (T : Tx K mg CE CR CF CB) : Cal P w K mg base 6 "eaten" (spTakes P w CE fun E ns v H' => Rp H' v (dStand (K40.eaten E ns))) [] := by
  have G1 : Cal P w K mg base 1 "need_eater" (spNeedEater CE) [.str "eater"] := c_need_eater1 T
  have G2 : Cal P w K mg base 3 "stands_in" (spStandsIn P w CE) [] := c_stands_in T
  have G3 : Cal P w K mg base 5 "need_word" spNeedWord [] := c_need_word T
  refine cal_of (N := ["eater", "word"]) (ps := ["eater", "word"]) T.eaten (by decide +kernel) (fun vs H Q E h => ?_) (fun _ _ _ _ _ _ us hl => match us, hl with | [_, _], _ => rfl) (fun cdv f A outer s H vs Q E hr h => ?_)
  · obtain ⟨x, p, E, ns, rfl, _⟩ := h
    rfl
  · obtain ⟨x, p, E, ns, rfl, hE, oE, hp, h1, h2, h3, k⟩ := h
    refine ⟨_, pss_cons (ps_expr (pe_c G1 hr (by decide) rfl (pa_cons (pv 0) pa_nil)))
      (pss_one (ps_ret (pe_ix ix_list (pe_c G2 hr (by decide) rfl (pa_cons (pv 0) (pa_cons (pe_c G3 hr (by decide) rfl (pa_cons (pv 1) (pa_cons (pe_fld (pv 0) rfl) (pa_cons pe_str pa_nil)))) pa_nil))) (pe_un un_neg pe_int) (fun _ _ => rfl)))), ?_⟩
    obtain ⟨dx, r, y, d, xs, e1, e2, e3, e4, e5⟩ := hE.ex
    refine ⟨_, rfl, x, dx, _, _, rfl, e1, ?_⟩
    refine ⟨_, rfl, _, rfl, _, rfl, x, CE, dx, _, _, rfl, e1, T.eater.cl, T.noE "letters" (by decide +kernel), eFl_letters, p, ns, E.letters, _, rfl, hp, h1, h2, h3, fun t H1 s1 ht => ?_⟩
    refine ⟨x, t, E, ns, rfl, hE.sm s1, oE, ht, h1, h2, fun L ys v H2 s2 hL rv => ?_⟩
    exact ⟨_, rfl, L, _, -1, v, rfl, rfl, SqL.of hL, atI_last _ _, k v H2 (same_tr s1 s2) rv⟩
theorem in_ints (n : Int) (ms : List Int) : inV (.int n) (ms.map V.int) = decide (n ∈ ms) := by
  unfold inV
  rw [List.any_map]
  by_cases h : n ∈ ms
  · rw [decide_eq_true h, List.any_eq_true]
    exact ⟨n, h, by show (n == n) = true; simp⟩
  · rw [decide_eq_false h, List.any_eq_false]
    intro m hm e
    have e' : (m == n) = true := e
    rw [beq_iff_eq] at e'
    exact h (e' ▸ hm)
theorem flat_ints (ms : List Int) : (ms.map V.int).all flatV = true := by
  rw [List.all_map, List.all_eq_true]
  exact fun _ _ => rfl
theorem c_takes (T : Tx K mg CE CR CF CB) : Cal P w K mg base 7 "takes" (spTakes P w CE fun E ns v _ => v = .bl (K40.takes E ns)) [] := by
  have G1 : Cal P w K mg base 6 "eaten" (spTakes P w CE fun E ns v H' => Rp H' v (dStand (K40.eaten E ns))) [] := c_eaten T
  refine cal_of (N := ["eater", "word", "stand"]) (ps := ["eater", "word"]) T.takes (by decide +kernel) (fun vs H Q E h => ?_) (fun _ _ _ _ _ _ us hl => match us, hl with | [_, _], _ => rfl) (fun cdv f A outer s H vs Q E hr h => ?_)
  · obtain ⟨x, p, E, ns, rfl, _⟩ := h
    rfl
  · obtain ⟨x, p, E, ns, rfl, hE, oE, hp, h1, h2, h3, k⟩ := h
    have nd : (["eater", "word", "stand"] : List Str).Nodup := by decide +kernel
    refine ⟨_, pss_cons (ps_set (i := 2) nd rfl (Or.inl rfl) (pe_c G1 hr (by decide) rfl (pa_cons (pv 0) (pa_cons (pv 1) pa_nil))))
      (pss_one (ps_ret (pe_and (pe_cmp (pc_notN (pv 2))) (pe_one (pe_cmpR op_in_seq (pe_ixT (pv 2) pe_int) (pe_fld (pv 0) rfl) rfl))))), ?_⟩
    obtain ⟨dx, r, y, d, xs, e1, e2, e3, e4, e5⟩ := hE.ex
    refine ⟨_, rfl, _, rfl, x, p, E, ns, rfl, hE, oE, hp, h1, h2, h3, fun v H1 s1 rv => ?_⟩
    have rv : Rp H1 v (dStand (K40.eaten E ns)) := rv
    cases hs : K40.eaten E ns with
    | none =>
      rw [hs] at rv
      obtain rfl := Rp.non_inv (show Rp H1 v .none from rv)
      refine ⟨_, rfl, false, rfl, iteF (k _ _ s1 ?_)⟩
      show V.bl false = V.bl (K40.takes E ns)
      unfold K40.takes
      rw [hs]
      rfl
    | some st =>
      obtain ⟨q, ss⟩ := st
      rw [hs] at rv
      obtain ⟨a, zs, rfl, ha, hz⟩ := Rp.tup_inv (show Rp H1 v (.tuple [.int q, dStks ss]) from rv)
      cases hz with
      | cons r1 t1 =>
        obtain rfl := Rp.int_inv r1
        refine ⟨_, rfl, true, rfl, iteT ?_⟩
        refine ⟨_, rfl, a, _, 0, _, rfl, rfl, SqT.of ha, atI_nat (j := 0) (by rfl), _, rfl, x, CE, dx, _, _, rfl, s1 _ _ e1, T.eater.cl, T.noE "yes" (by decide +kernel), eFl_yes, y, _, rfl, .inr (SqT.of (s1 _ _ e4)), rfl, flat_ints _, k _ _ s1 ?_⟩
        show V.bl (inV (.int q) (E.yes.map V.int)) = V.bl (K40.takes E ns)
        rw [in_ints]
        unfold K40.takes
        rw [hs]
        rfl
end
end KR
end
section
set_option Elab.async false
set_option linter.all false
set_option maxRecDepth 100000
set_option maxHeartbeats 4000000
namespace KR
open PySem PySem.Spec PyProof.Rows L2 C8
section
variable {α β : Type} (f : α → β → Option PyData)
def out2 (as : List α) (bs : List β) (i j : Nat) : List PyData := ((as.take i).flatMap fun a => bs.filterMap (f a)) ++ (match as[i]? with | some a => (bs.take j).filterMap (f a) | none => [])
theorem out2_zero (as : List α) (bs : List β) : out2 f as bs 0 0 = [] := by
  unfold out2
  cases as[0]? <;> simp
theorem out2_next {as : List α} {bs : List β} {i : Nat} {a : α} (h : as[i]? = some a) : out2 f as bs i bs.length = out2 f as bs (i + 1) 0 := by
  unfold out2
  rw [h, List.take_succ, h]
  cases as[i + 1]? <;> simp
theorem out2_step {as : List α} {bs : List β} {i j : Nat} {a : α} {b : β} (h : as[i]? = some a) (hb : bs[j]? = some b) : out2 f as bs i (j + 1) = out2 f as bs i j ++ (f a b).toList := by
  unfold out2
  have e : [b].filterMap (f a) = (f a b).toList := by
    cases q : f a b <;> simp [List.filterMap, q]
  rw [h, List.take_succ, hb]
  simp only [Option.toList_some, List.filterMap_append, List.append_assoc, e]
theorem out2_end (as : List α) (bs : List β) : out2 f as bs as.length 0 = as.flatMap fun a => bs.filterMap (f a) := by
  unfold out2
  simp
theorem out2_len (as : List α) (bs : List β) (i j : Nat) : (out2 f as bs i j).length ≤ (as.length + 1) * bs.length := by
  unfold out2
  rw [List.length_append, Nat.add_mul, Nat.one_mul]
  have h1 := K40.len_bind (fun a => bs.filterMap (f a)) bs.length (l := as.take i) fun a _ => List.length_filterMap_le ..
  have h2 : (as.take i).length * bs.length ≤ as.length * bs.length := Nat.mul_le_mul_right _ (by rw [List.length_take]; omega)
  have h3 : (match as[i]? with | some a => (bs.take j).filterMap (f a) | none => []).length ≤ bs.length := by
    cases as[i]? with
    | none => simp
    | some a =>
      refine Nat.le_trans (List.length_filterMap_le ..) ?_
      rw [List.length_take]
      omega
  omega
/-- two tuples walked one in the other, the elements change nothing -/
theorem lc2_tup {K : PySem.W.Frag} {a b : Addr} {xs ys : List V} {as : List α} {bs : List β} {p q : Nat} {vs vs1 : List Nat} {wi1 : TI} {tt1 : TT} {te : TE} {σ : L2.St} {H1 : Hp} {D : Addr} {Qd : Hp → Prop} (hD : H1 D = none) (hx : SqT K H1 a xs) (hy : SqT K H1 b ys) (lx : xs.length = as.length) (ly : ys.length = bs.length)
    (few : (as.length + 1) * bs.length ≤ 1000) (hwp : ∀ x, wipe ((wipe σ vs).set p (some x)) vs = wipe σ vs) (hwq : ∀ x y, wipe ((wipe ((wipe σ vs).set p (some x)) vs1).set q (some y)) vs1 = wipe ((wipe σ vs).set p (some x)) vs1)
    (hi1 : ∀ x H (R : It → Hp → Prop), Same H1 H → R (Itt K b) H → wi1 ((wipe σ vs).set p (some x)) H R)
    (hs : ∀ (i j : Nat) (x y : V) (u : α) (v : β) (H : Hp), xs[i]? = some x → ys[j]? = some y → as[i]? = some u → bs[j]? = some v → Same H1 H → ∀ (Qf : Hp → Prop) (Qy : VK), (f u v = none → ∀ H', Same H H' → Qf H') → (∀ d, f u v = some d → ∀ z H', Same H H' → Rp H' z d → Qy z H') →
      tt1 ((wipe ((wipe σ vs).set p (some x)) vs1).set q (some y)) H fun c H6 => if c = true then te ((wipe ((wipe σ vs).set p (some x)) vs1).set q (some y)) H6 Qy else Qf H6)
    (hd : ∀ H acc, Same H1 H → H D = some (.lst acc) → Ra H acc (as.flatMap fun u => bs.filterMap (f u)) → Qd H) :
    ∃ W : Nat → Nat → Hp → Prop, (∃ m, W 0 m (upd H1 D (.lst []))) ∧ ∀ i m H, W i m H →
      ((Itt K a).stop i H ∧ Qd H) ∨ ((Itt K a).go i H ∧ ∃ Nx : Hp → Prop, (∀ H', Nx H' → ∃ m', m' < m ∧ W (i + 1) m' H') ∧ ∀ x H', (Itt K a).yld i H x H' → gName p x (wipe σ vs) H' fun σ2 H2 => wipe σ2 vs = wipe σ vs ∧ tYes σ2 H2 fun c H3 =>
        if c = true then wi1 σ2 H3 fun J1 H4 => ∃ W1 : Nat → Nat → Hp → Prop, (∃ m, W1 0 m H4) ∧ ∀ j k H, W1 j k H →
          (J1.stop j H ∧ Nx H) ∨ (J1.go j H ∧ ∃ Nx1 : Hp → Prop, (∀ H', Nx1 H' → ∃ k', k' < k ∧ W1 (j + 1) k' H') ∧ ∀ x H', J1.yld j H x H' → gName q x (wipe σ2 vs1) H' fun σ3 H5 => wipe σ3 vs1 = wipe σ2 vs1 ∧ tt1 σ3 H5 fun c H6 =>
            if c = true then te σ3 H6 fun y H7 => ∃ acc, H7 D = some (.lst acc) ∧ acc.length < sizeLine ∧ Nx1 (upd H7 D (.lst (acc ++ [y]))) else Nx1 H6)
        else Nx H3) := by
  have sq : ∀ {c : Addr} {zs : List V} {H : Hp}, SqT K H1 c zs → Same H1 H → SqT K H c zs := fun {c zs H} h e => by
    rcases h with (h | ⟨o, h⟩) | h
    · exact .inl (.inl (e _ _ h))
    · exact .inl (.inr ⟨o, e _ _ h⟩)
    · exact .inr h
  refine ⟨fun i m H => m = xs.length - i ∧ i ≤ xs.length ∧ Same H1 H ∧ ∃ acc, H D = some (.lst acc) ∧ Ra H acc (out2 f as bs i 0), ⟨xs.length, rfl, Nat.zero_le _, Same.new hD, [], upd_same, by rw [out2_zero]; exact .nil⟩, ?_⟩
  rintro i m H ⟨rfl, hi, se, acc, hL, hR⟩
  by_cases hlt : i < xs.length
  · refine .inr ⟨⟨xs, xs[i], sq hx se, by simp [hlt]⟩, fun H' => Same H1 H' ∧ ∃ acc, H' D = some (.lst acc) ∧ Ra H' acc (out2 f as bs (i + 1) 0), fun H' p' => ⟨xs.length - (i + 1), by omega, rfl, hlt, p'⟩, fun x H' y => ?_⟩
    obtain ⟨e, y⟩ := y
    subst e
    have hxi := y xs (sq hx se)
    obtain ⟨u, hu⟩ : ∃ u, as[i]? = some u := ⟨_, List.getElem?_eq_getElem (by omega)⟩
    refine ⟨hwp x, hi1 x H' _ se ?_⟩
    refine ⟨fun j k H => k = ys.length - j ∧ j ≤ ys.length ∧ Same H1 H ∧ ∃ acc, H D = some (.lst acc) ∧ Ra H acc (out2 f as bs i j), ⟨ys.length, rfl, Nat.zero_le _, se, acc, hL, hR⟩, ?_⟩
    rintro j k H2 ⟨rfl, hj, se2, acc2, hL2, hR2⟩
    by_cases hlt2 : j < ys.length
    · refine .inr ⟨⟨ys, ys[j], sq hy se2, by simp [hlt2]⟩, fun H' => Same H1 H' ∧ ∃ acc, H' D = some (.lst acc) ∧ Ra H' acc (out2 f as bs i (j + 1)), fun H' p' => ⟨ys.length - (j + 1), by omega, rfl, hlt2, p'⟩, fun x2 H' y2 => ?_⟩
      obtain ⟨e, y2⟩ := y2
      subst e
      have hyj := y2 ys (sq hy se2)
      obtain ⟨v, hv⟩ : ∃ v, bs[j]? = some v := ⟨_, List.getElem?_eq_getElem (by omega)⟩
      refine ⟨hwq x x2, ?_⟩
      refine hs i j x x2 u v H' hxi hyj hu hv se2 _ _ (fun hf H3 s3 => ?_) (fun d hf z H3 s3 rz => ?_)
      · refine ⟨fun b o e => s3 _ _ (se2 b o e), acc2, s3 _ _ hL2, ?_⟩
        rw [out2_step f hu hv, hf]
        simpa using hR2.sm s3
      · have hl := hR2.len
        have hb := out2_len f as bs i j
        refine ⟨acc2, s3 _ _ hL2, small1000 (by omega), KR.Same.mut (fun b o e => s3 _ _ (se2 b o e)) hD, _, upd_same, ?_⟩
        rw [out2_step f hu hv, hf]
        exact ((hR2.sm s3).snoc rz).mono (Et.lst (s3 _ _ hL2))
    · have e : j = ys.length := by omega
      subst e
      refine .inl ⟨⟨ys, sq hy se2, Nat.le_refl _⟩, se2, acc2, hL2, ?_⟩
      rw [ly, out2_next f hu] at hR2
      exact hR2
  · have e : i = xs.length := by omega
    subst e
    rw [lx, out2_end] at hR
    exact .inl ⟨⟨xs, sq hx se, Nat.le_refl _⟩, hd H acc se hL hR⟩
end
section
variable {P : Program} {w : World} {K : PySem.W.Frag} {mg : Str → Option Value} {base : Heap} {CE CR CF CB c Pt : Addr} {X : Cx}
/-! ### joined_rule -/
def RSmall (r : K40.Key × K40.Don) : Prop := (0 ≤ r.1.st ∧ r.1.st < 1000) ∧ (0 ≤ r.2.st ∧ r.2.st < 1000) ∧ r.1.tops.length ≤ 400 ∧ r.2.mvs.length ≤ 400
def spJoinedRule : Sp := fun vs H Q _ => ∃ (u v : V) (m : Int) (a b : K40.Key × K40.Don), vs = [u, v, .int m] ∧ Rp H u (dRule a) ∧ Rp H v (dRule b) ∧ RSmall a ∧ RSmall b ∧ ∀ z H', Same H H' → Rp H' z (dRule (K40.joinRule m a b)) → Q z H'
theorem c_joined_rule (T : Tx K mg CE CR CF CB) : Cal P w K mg base 1 "joined_rule" spJoinedRule [] := by
  refine cal_of (N := ["mine", "its", "many", "state", "letter", "tops", "to", "moves", "other", "_", "others", "goes", "more"]) (ps := ["mine", "its", "many"]) T.joined_rule (by decide +kernel) (fun vs H Q E h => ?_) (fun _ _ _ _ _ _ us hl => match us, hl with | [_, _, _], _ => rfl) (fun cdv f A outer s H vs Q E hr h => ?_)
  · obtain ⟨u, v, m, a, b, rfl, _⟩ := h
    rfl
  · obtain ⟨u, v, m, a, b, rfl, ha, hb, sa, sb, k⟩ := h
    have nd : (["mine", "its", "many", "state", "letter", "tops", "to", "moves", "other", "_", "others", "goes", "more"] : List Str).Nodup := by decide +kernel
    refine ⟨_, pss_cons (ps_asg (pv 0) (pg_tup (n := 2) rfl (pgs_cons (pg_tup (n := 3) rfl (pgs_cons (pg_name (i := 3) nd rfl (Or.inl rfl)) (pgs_cons (pg_name (i := 4) nd rfl (Or.inl rfl)) (pgs_cons (pg_name (i := 5) nd rfl (Or.inl rfl)) pgs_nil)))) (pgs_cons (pg_tup (n := 2) rfl (pgs_cons (pg_name (i := 6) nd rfl (Or.inl rfl)) (pgs_cons (pg_name (i := 7) nd rfl (Or.inl rfl)) pgs_nil))) pgs_nil))))
      (pss_cons (ps_asg (pv 1) (pg_tup (n := 2) rfl (pgs_cons (pg_tup (n := 3) rfl (pgs_cons (pg_name (i := 8) nd rfl (Or.inl rfl)) (pgs_cons (pg_name (i := 9) nd rfl (Or.inl rfl)) (pgs_cons (pg_name (i := 10) nd rfl (Or.inl rfl)) pgs_nil)))) (pgs_cons (pg_tup (n := 2) rfl (pgs_cons (pg_name (i := 11) nd rfl (Or.inl rfl)) (pgs_cons (pg_name (i := 12) nd rfl (Or.inl rfl)) pgs_nil))) pgs_nil))))
      (pss_one (ps_ret (pe_tup (pa_cons (pe_tup (pa_cons (pe_op op_add (pe_op op_mul (pv 3) (pv 2)) (pv 8)) (pa_cons (pv 4) (pa_cons (pe_tup (StX.pa_star (pv 5) (StX.pa_star (pv 10) pa_nil))) pa_nil)))) (pa_cons (pe_tup (pa_cons (pe_op op_add (pe_op op_mul (pv 6) (pv 2)) (pv 11)) (pa_cons (pe_tup (StX.pa_star (pv 7) (StX.pa_star (pv 12) pa_nil))) pa_nil))) pa_nil)))))), ?_⟩
    obtain ⟨a0, ak, ad, rfl, h1, k1, d1⟩ := rule_parts ha
    obtain ⟨ka, kt, kts, rfl, ka1, ka2, ka3⟩ := key_parts k1
    obtain ⟨da, dt, dts, rfl, da1, da2, da3⟩ := don_parts d1
    obtain ⟨b0, bk, bd, rfl, h2, k2, d2⟩ := rule_parts hb
    obtain ⟨kb, lt, lts, rfl, kb1, kb2, kb3⟩ := key_parts k2
    obtain ⟨db, et, ets, rfl, db1, db2, db3⟩ := don_parts d2
    obtain ⟨⟨sa1, sa2⟩, ⟨sa3, sa4⟩, sa5, sa6⟩ := sa
    obtain ⟨⟨sb1, sb2⟩, ⟨sb3, sb4⟩, sb5, sb6⟩ := sb
    have l1 := ka3.len
    have l2 := kb3.len
    have l3 := da3.len
    have l4 := db3.len
    rw [List.length_map] at l1 l2 l3 l4
    have big : (1000 : Nat) ≤ sizeLine := by decide
    refine ⟨_, rfl, a0, _, rfl, SqT.of h1, rfl, _, _, rfl, ka, _, rfl, SqT.of ka1, rfl, _, _, rfl, _, _, rfl, _, _, rfl, rfl, _, _, rfl, da, _, rfl, SqT.of da1, rfl, _, _, rfl, _, _, rfl, rfl, rfl, ?_⟩
    refine ⟨_, rfl, b0, _, rfl, SqT.of h2, rfl, _, _, rfl, kb, _, rfl, SqT.of kb1, rfl, _, _, rfl, _, _, rfl, _, _, rfl, rfl, _, _, rfl, db, _, rfl, SqT.of db1, rfl, _, _, rfl, _, _, rfl, rfl, rfl, ?_⟩
    refine ⟨_, rfl, _, rfl, _, _, rfl, rfl, .inl ⟨by omega, by omega⟩, _, rfl, _, _, rfl, rfl, _, rfl, _, rfl, kt, _, rfl, .inl (SqT.of ka2), _, rfl, lt, _, rfl, .inl (SqT.of kb2), ?_⟩
    refine ⟨by simp only [List.length_append, List.length_nil]; omega, fun p1 hp1 => ⟨by show 3 ≤ sizeLine; decide, fun p2 hp2 => ?_⟩⟩
    have s1 : Same H (upd H p1 (.tup (kts ++ (lts ++ [])))) := Same.new hp1
    have s2 := Same.new (o := .tup [V.int (a.1.st * m + b.1.st), V.int a.1.lt, V.ref p1]) hp2
    have s12 := same_tr s1 s2
    refine ⟨_, rfl, _, rfl, _, _, rfl, rfl, .inl ⟨by omega, by omega⟩, _, rfl, _, _, rfl, rfl, _, rfl, dt, _, rfl, .inl (SqT.of (s12 _ _ da2)), _, rfl, et, _, rfl, .inl (SqT.of (s12 _ _ db2)), ?_⟩
    refine ⟨by simp only [List.length_append, List.length_nil]; omega, fun p3 hp3 => ⟨by show 2 ≤ sizeLine; decide, fun p4 hp4 => ⟨by show 2 ≤ sizeLine; decide, fun p5 hp5 => ?_⟩⟩⟩
    have s3 := Same.new (o := .tup (dts ++ (ets ++ []))) hp3
    have s4 := Same.new (o := .tup [V.int (a.2.st * m + b.2.st), V.ref p3]) hp4
    have s5 := Same.new (o := .tup [V.ref p2, V.ref p4]) hp5
    refine k _ _ (same_tr (same_tr (same_tr s12 s3) s4) s5) ?_
    have rt : Ra H (kts ++ (lts ++ [])) ((a.1.tops ++ b.1.tops).map dTop) := by
      rw [List.map_append, List.append_nil]
      exact ka3.app kb3
    have rm : Ra H (dts ++ (ets ++ [])) ((a.2.mvs ++ b.2.mvs).map dMv) := by
      rw [List.map_append, List.append_nil]
      exact da3.app db3
    have q1 : Rp _ (.ref p2) (dKey (K40.joinRule m a b).1) := .tup (H := upd (upd H p1 (.tup (kts ++ (lts ++ [])))) p2 (.tup [V.int (a.1.st * m + b.1.st), V.int a.1.lt, V.ref p1])) upd_same (.cons (.int _) (.cons (.int _) (.cons ((Rp.tup upd_same (rt.sm s1) : Rp _ (.ref p1) (.tuple _)).sm s2) .nil)))
    have q3 := (Rp.tup upd_same ((rm.sm s12).sm s3) : Rp _ (.ref p3) (.tuple _)).sm s4
    have q2 : Rp _ (.ref p4) (dDon (K40.joinRule m a b).2) := .tup (H := upd (upd (upd (upd H p1 (.tup (kts ++ (lts ++ [])))) p2 (.tup [V.int (a.1.st * m + b.1.st), V.int a.1.lt, V.ref p1])) p3 (.tup (dts ++ (ets ++ [])))) p4 (.tup [V.int (a.2.st * m + b.2.st), V.ref p3])) upd_same (.cons (.int _) (.cons q3 .nil))
    exact .tup upd_same (.cons (((q1.sm s3).sm s4).sm s5) (.cons (q2.sm s5) .nil))
end
end KR
end
section
set_option Elab.async false
set_option linter.all false
set_option maxRecDepth 100000
set_option maxHeartbeats 4000000
namespace KR
open PySem PySem.Spec PyProof.Rows L2 C8
def dPair (p : (K40.Key × K40.Don) × (K40.Key × K40.Don)) : PyData := .tuple [dRule p.1, dRule p.2]
def fPair (a b : K40.Key × K40.Don) : Option PyData := if a.1.lt = b.1.lt then some (.tuple [dRule a, dRule b]) else none
theorem fm_pair (a : K40.Key × K40.Don) : ∀ bs : List (K40.Key × K40.Don), bs.filterMap (fPair a) = ((bs.filter fun b => decide (a.1.lt = b.1.lt)).map fun b => (a, b)).map dPair
  | [] => rfl
  | b :: bs => by
    rw [List.filterMap_cons, List.filter_cons, fm_pair a bs]
    by_cases h : a.1.lt = b.1.lt
    · have e : fPair a b = some (.tuple [dRule a, dRule b]) := if_pos h
      rw [e, decide_eq_true h]
      rfl
    · have e : fPair a b = none := if_neg h
      rw [e, decide_eq_false h]
      rfl
theorem out_pairs (E F : K40.Eat) : (E.rules.flatMap fun a => F.rules.filterMap (fPair a)) = (K40.joinPairs E F).map dPair := by
  unfold K40.joinPairs
  rw [List.map_flatMap]
  congr 1
  funext a
  exact fm_pair a F.rules
def fYes (m : Int) (a b : Int) : Option PyData := some (.int (a * m + b))
theorem out_yes (E F : K40.Eat) : (E.yes.flatMap fun a => F.yes.filterMap (fYes F.states a)) = (K40.joinYes E F).map .int := by
  unfold K40.joinYes
  rw [List.map_flatMap]
  congr 1
  funext a
  induction F.yes with
  | nil => rfl
  | cons b bs ih =>
    rw [List.filterMap_cons, List.map_cons, List.map_cons, ← ih]
    rfl
def joinOf (E F : K40.Eat) : K40.Eat := ⟨E.letters, E.states * F.states, E.stacks + F.stacks, K40.joinRules E F, K40.joinYes E F⟩
theorem joinOf_j (E F : K40.Eat) : K40.Joined (E := E) (F := F) (joinOf E F) := ⟨rfl, rfl, rfl, .refl _, .refl _⟩
section
variable {P : Program} {w : World} {K : PySem.W.Frag} {mg : Str → Option Value} {base : Heap} {CE CR CF CB c Pt : Addr} {X : Cx}
/-- two eaters that fit -/
structure Fit (E F : K40.Eat) : Prop where
  oE : K40.Ok E
  oF : K40.Ok F
  l : E.letters = F.letters
  s : E.states * F.states ≤ 12
  k : E.stacks + F.stacks ≤ 2
  rE : E.rules.length ≤ 30
  rF : F.rules.length ≤ 30
  yE : E.yes.length ≤ 6
  yF : F.yes.length ≤ 6
def spSbs (P : Program) (w : World) (CE Pt : Addr) : Sp := fun vs H Q _ => ∃ (x y : Addr) (E F : K40.Eat), vs = [.ref x, .ref y] ∧ EatAt P w CE H x E ∧ EatAt P w CE H y F ∧ Fit E F ∧ LamX.Tabs (Tb Pt) H ∧
  ∀ (z : Addr) (J : K40.Eat) (H' : Hp), EatAt P w CE H' z J → K40.Joined (E := E) (F := F) J → LamX.ExtN H H' → LamX.Tabs (Tb Pt) H' → Q (.ref z) H'
theorem rsmall_of {E : K40.Eat} (oE : K40.Ok E) {r : K40.Key × K40.Don} (h : r ∈ E.rules) : RSmall r := by
  have q := oE.ru r h
  have := oE.s
  have := oE.k
  exact ⟨⟨q.st.1, by have := q.st.2; omega⟩, ⟨q.to.1, by have := q.to.2; omega⟩, by rw [q.nt]; omega, by rw [q.nm]; omega⟩
theorem sqT_same {H H' : Hp} {c : Addr} {zs : List V} (h : SqT K H c zs) (e : Same H H') : SqT K H' c zs := by
  rcases h with (h | ⟨o, h⟩) | h
  · exact .inl (.inl (e _ _ h))
  · exact .inl (.inr ⟨o, e _ _ h⟩)
  · exact .inr h
theorem c_side_by_side (T : Tx K mg CE CR CF CB) (R : RfTab K mg base c Pt) : Cal P w K mg base 10 "side_by_side" (spSbs P w CE Pt) [] := by
  have G1 : Cal P w K mg base 1 "need_eater" (spNeedEater CE) [] := c_need_eater2 T
  have G2 : Cal P w K mg base 1 "joined_rule" spJoinedRule [] := c_joined_rule T
  have G3 : Mak P w K mg base 8 "Eater" CE (spEaterInit P w CE Pt) [] := c_eater_init T R
  refine cal_of (N := ["one", "other", "many", "pairs", "yes", "rules", "mine", "its", "state"]) (ps := ["one", "other"]) T.side_by_side (by decide +kernel) (fun vs H Q E h => ?_) (fun _ _ _ _ _ _ us hl => match us, hl with | [_, _], _ => rfl) (fun cdv f A outer s H vs Q E hr h => ?_)
  · obtain ⟨x, y, E, F, rfl, _⟩ := h
    rfl
  · obtain ⟨x, y, E, F, rfl, hE, hF, ft, hT, k⟩ := h
    have nd : (["one", "other", "many", "pairs", "yes", "rules", "mine", "its", "state"] : List Str).Nodup := by decide +kernel
    have ok : ∀ {own : List (Str × Nat)} {sc : Scope}, _ := fun {own : List (Str × Nat)} {sc : Scope} => @blkOk_by (["one", "other", "many", "pairs", "yes", "rules", "mine", "its", "state"] : List Str) (fnScope sSideBySide) sc own
    refine ⟨_, pss_cons (ps_expr (pe_c G1 hr (by decide) rfl (pa_cons (pv 0) (pa_cons pe_str pa_nil))))
      (pss_cons (ps_expr (pe_c G1 hr (by decide) rfl (pa_cons (pv 1) (pa_cons pe_str pa_nil))))
      (pss_cons (ps_if (pt_cmpR op_ne (pe_fld (pv 0) rfl) (pe_fld (pv 1) rfl) (nomark _)) pss_never pss_nil)
      (pss_cons (ps_set (i := 2) nd rfl (Or.inr rfl) (pe_fld (pv 1) rfl))
      (pss_cons (ps_if (pt_cmpR op_gt (pe_op op_mul (pe_fld (pv 0) rfl) (pv 2)) (pe_con T (.int 12)) (nomark _)) pss_never pss_nil)
      (pss_cons (ps_if (pt_cmpR op_gt (pe_op op_add (pe_fld (pv 0) rfl) (pe_fld (pv 1) rfl)) (pe_con T (.int 2)) (nomark _)) pss_never pss_nil)
      (pss_cons (ps_setLc2 (i := 3) (own := [("mine", 6), ("its", 7)]) (vs1 := [7]) (g := gName 6) (tt := tYes) (g1 := gName 7) (wi1 := iTup K (tFld K (tVar 1) "rules")) (tt1 := tTest (tOp rEq (tOp (rIxT K) (tOp (rIxT K) (tVar 6) (tC (.int 0))) (tC (.int 1))) (tOp (rIxT K) (tOp (rIxT K) (tVar 7) (tC (.int 0))) (tC (.int 1))))) (te := tTup (tCons (tVar 6) (tCons (tVar 7) tNil))) rfl nd rfl rfl (sw_true rfl rfl rfl (by decide +kernel)) (pi_tup (pe_fld (pv 0) rfl)) (ok (by decide +kernel)) (by decide) (fun _ _ _ _ _ => pg_name (i := 6) nd rfl (Or.inl rfl)) (fun _ _ _ _ _ => pts_nil)
        (fun _ _ _ _ _ => pi_tup (pe_fld (pv 1) rfl)) (fun _ _ _ _ _ => pg_name (i := 7) nd rfl (Or.inl rfl)) (fun _ _ _ _ _ => pts_one (pt_cmpR op_eq (pe_ixT (pe_ixT (pv 6) pe_int) pe_int) (pe_ixT (pe_ixT (pv 7) pe_int) pe_int) (nomark _))) (fun _ _ _ _ _ => pe_tup (pa_cons (pv 6) (pa_cons (pv 7) pa_nil))))
      (pss_cons (ps_setLc2 (i := 4) (own := [("state", 8), ("its", 7)]) (vs1 := [7]) (g := gName 8) (tt := tYes) (g1 := gName 7) (wi1 := iTup K (tFld K (tVar 1) "yes")) (tt1 := tYes) (te := tOp (rI0 fun i j => .int (i + j)) (tOp (rI CMul fun i j => .int (i * j)) (tVar 8) (tVar 2)) (tVar 7)) rfl nd rfl rfl (sw_true rfl rfl rfl (by decide +kernel)) (pi_tup (pe_fld (pv 0) rfl)) (ok (by decide +kernel)) (by decide) (fun _ _ _ _ _ => pg_name (i := 8) nd rfl (Or.inl rfl)) (fun _ _ _ _ _ => pts_nil)
        (fun _ _ _ _ _ => pi_tup (pe_fld (pv 1) rfl)) (fun _ _ _ _ _ => pg_name (i := 7) nd rfl (Or.inl rfl)) (fun _ _ _ _ _ => pts_nil) (fun _ _ _ _ _ => pe_op op_add (pe_op op_mul (pv 8) (pv 2)) (pv 7)))
      (pss_cons (ps_setLc (i := 5) (own := [("mine", 6), ("its", 7)]) (g := gTup K 2 (gCons (gName 6) (gCons (gName 7) gNil))) (tt := tYes) rfl nd rfl rfl (sw_true rfl rfl rfl (by decide +kernel)) (pi_list (pv 3)) (ok (by decide +kernel)) (fun _ _ _ _ _ => pg_tup (n := 2) rfl (pgs_cons (pg_name (i := 6) nd rfl (Or.inl rfl)) (pgs_cons (pg_name (i := 7) nd rfl (Or.inl rfl)) pgs_nil))) (fun _ _ _ _ _ => pts_nil)
        (fun _ _ _ _ _ => pe_c G2 hr (by decide) rfl (pa_cons (pv 6) (pa_cons (pv 7) (pa_cons (pv 2) pa_nil)))))
      (pss_one (ps_ret (pe_mk G3 hr (by decide) rfl (pa_cons (pe_fld (pv 0) rfl) (pa_cons (pe_op op_mul (pe_fld (pv 0) rfl) (pv 2)) (pa_cons (pe_op op_add (pe_fld (pv 0) rfl) (pe_fld (pv 1) rfl)) (pa_cons (pv 5) (pa_cons (pv 4) pa_nil)))))))))))))))), ?_⟩
    obtain ⟨dxE, rE, yE, dE, xsE, e1, e2, e3, e4, e5⟩ := hE.ex
    obtain ⟨dxF, rF, yF, dF', xsF, f1, f2, f3, f4, f5⟩ := hF.ex
    have lE := e3.len
    have lF := f3.len
    rw [List.length_map] at lE lF
    have cE := T.eater.cl
    have nE := T.noE
    have sE := ft.oE.s
    have kE := ft.oE.k
    have J0 := K40.joined_ok ft.oE ft.oF ft.l ft.s ft.k (Nat.le_trans ft.rE (by decide)) (Nat.le_trans ft.rF (by decide)) (joinOf_j E F)
    refine ⟨_, rfl, x, dxE, _, _, rfl, e1, ?_⟩
    refine ⟨_, rfl, y, dxF, _, _, rfl, f1, ?_⟩
    refine ⟨_, rfl, x, CE, dxE, _, _, rfl, e1, cE, nE "letters" (by decide +kernel), eFl_letters, _, rfl, y, CE, dxF, _, _, rfl, f1, cE, nE "letters" (by decide +kernel), eFl_letters, rfl, false, congrArg V.bl (by rw [ft.l]; simp), iteF ?_⟩
    refine ⟨_, rfl, y, CE, dxF, _, _, rfl, f1, cE, nE "states" (by decide +kernel), eFl_states, ?_⟩
    refine ⟨_, rfl, x, CE, dxE, _, _, rfl, e1, cE, nE "states" (by decide +kernel), eFl_states, _, rfl, _, _, rfl, rfl, .inl ⟨by omega, by omega⟩, _, _, rfl, rfl, false, congrArg V.bl (dF (by have := ft.s; omega)), iteF ?_⟩
    refine ⟨_, rfl, x, CE, dxE, _, _, rfl, e1, cE, nE "stacks" (by decide +kernel), eFl_stacks, _, rfl, y, CE, dxF, _, _, rfl, f1, cE, nE "stacks" (by decide +kernel), eFl_stacks, _, _, rfl, rfl, _, _, rfl, rfl, false, congrArg V.bl (dF (by have := ft.k; omega)), iteF ?_⟩
    -- pairs
    refine ⟨_, rfl, x, CE, dxE, _, _, rfl, e1, cE, nE "rules" (by decide +kernel), eFl_rules, rE, rfl, ⟨xsE, e2.sq⟩, fun D hD => ?_⟩
    refine lc2_tup fPair hD e2.sq f2.sq lE lF (Nat.le_trans (Nat.mul_le_mul (Nat.succ_le_succ ft.rE) ft.rF) (by decide)) (fun _ => rfl) (fun _ _ => rfl)
      (fun _ H1 R s1 r1 => ⟨_, rfl, y, CE, dxF, _, _, rfl, s1 _ _ f1, cE, nE "rules" (by decide +kernel), eFl_rules, rF, rfl, ⟨xsF, sqT_same f2.sq s1⟩, r1⟩)
      (fun i j a b u v H1 hx hy hu hv s1 Qf Qy q1 q2 => ?_) (fun H1 acc s1 hL hR => ?_)
    · obtain ⟨u', hu', ru⟩ := Ra.map_get e3 hx
      obtain ⟨v', hv', rv⟩ := Ra.map_get f3 hy
      rw [hu] at hu'
      rw [hv] at hv'
      cases hu'
      cases hv'
      have ru1 := ru.sm s1
      have rv1 := rv.sm s1
      obtain ⟨a0, ak, ad, rfl, h1, k1, d1⟩ := rule_parts ru1
      obtain ⟨ka, kt, kts, rfl, ka1, ka2, ka3⟩ := key_parts k1
      obtain ⟨b0, bk, bd, rfl, h2, k2, d2⟩ := rule_parts rv1
      obtain ⟨kb, lt, lts, rfl, kb1, kb2, kb3⟩ := key_parts k2
      refine ⟨_, rfl, a0, _, 0, _, rfl, rfl, SqT.of h1, rfl, ka, _, 1, _, rfl, rfl, SqT.of ka1, rfl, _, rfl, b0, _, 0, _, rfl, rfl, SqT.of h2, rfl, kb, _, 1, _, rfl, rfl, SqT.of kb1, rfl, rfl, _, rfl, ?_⟩
      by_cases hlt : u.1.lt = v.1.lt
      · refine it_ (dT (by rw [hlt])) ?_
        refine ⟨_, rfl, _, rfl, by show 2 ≤ sizeLine; decide, fun p hp => q2 _ (if_pos hlt) _ _ (Same.new hp) ?_⟩
        exact .tup upd_same (.cons (ru1.sm (Same.new hp)) (.cons (rv1.sm (Same.new hp)) .nil))
      · refine if_ (dF (fun z => hlt (by injection z))) ?_
        exact q1 (if_neg hlt) _ (Same.refl _)
    rw [out_pairs] at hR
    have lp := hR.len
    rw [List.length_map] at lp
    have lpb : (K40.joinPairs E F).length ≤ 930 := by
      have q := K40.joinRules_len (E := E) (F := F) ft.rE ft.rF
      unfold K40.joinRules at q
      rw [List.length_map] at q
      omega
    have nD : H D = none := hD
    -- yes
    refine ⟨_, rfl, x, CE, dxE, _, _, rfl, s1 _ _ e1, cE, nE "yes" (by decide +kernel), eFl_yes, yE, rfl, ⟨_, SqT.of (s1 _ _ e4)⟩, fun D2 hD2 => ?_⟩
    refine lc2_tup (fYes F.states) hD2 (SqT.of (s1 _ _ e4)) (SqT.of (s1 _ _ f4)) (by rw [List.length_map]) (by rw [List.length_map]) (Nat.le_trans (Nat.mul_le_mul (Nat.succ_le_succ ft.yE) ft.yF) (by decide)) (fun _ => rfl) (fun _ _ => rfl)
      (fun _ H2 R s2 r2 => ⟨_, rfl, y, CE, dxF, _, _, rfl, s2 _ _ (s1 _ _ f1), cE, nE "yes" (by decide +kernel), eFl_yes, yF, rfl, ⟨_, SqT.of (s2 _ _ (s1 _ _ f4))⟩, r2⟩)
      (fun i j a b u v H2 hx hy hu hv s2 Qf Qy q1 q2 => ?_) (fun H2 ys s2 hL2 hR2 => ?_)
    · rw [List.getElem?_map, hu] at hx
      rw [List.getElem?_map, hv] at hy
      cases hx
      cases hy
      have bu := ft.oE.yr u (List.mem_of_getElem? hu)
      exact ⟨_, rfl, _, rfl, _, _, rfl, rfl, .inl ⟨by omega, by omega⟩, _, rfl, _, _, rfl, rfl, q2 _ rfl _ _ (Same.refl _) (.int _)⟩
    rw [out_yes] at hR2
    have eys := hR2.ints_inv
    subst eys
    have s12 := same_tr s1 s2
    have hL1 := s2 _ _ hL
    -- rules
    refine ⟨_, rfl, D, rfl, ⟨acc, SqL.of hL1⟩, fun D3 hD3 => ?_⟩
    refine lc_pure (walk_list (xs := acc)) hD3 (by rw [lp]; exact Nat.le_trans lpb (by decide)) (fun H3 s3 => SqL.of (s3 _ _ hL1)) (fun i H x H' y => yat_same y) (fun i z H => ∃ p, (K40.joinPairs E F)[i]? = some p ∧ Rp H z (dRule (K40.joinRule F.states p.1 p.2))) (fun i z H H' e ⟨p, h1, h2⟩ => ⟨p, h1, h2.nl e⟩)
      (fun i z H3 H4 hi s3 yy Qy hq => ?_) (fun H3 zs s3 hL3 hl3 hr3 => ?_)
    · obtain ⟨rfl, hz⟩ := yy
      obtain ⟨p, hp, rp⟩ := Ra.map_get hR hz
      have rp3 := (rp.sm s2).sm s3
      obtain ⟨pa, pxs, rfl, hpa, hpx⟩ := Rp.tup_inv (show Rp _ z (.tuple [dRule p.1, dRule p.2]) from rp3)
      cases hpx with
      | cons r1 t1 => cases t1 with
        | cons r2 t2 =>
          cases t2
          obtain ⟨m1, m2, _⟩ := K40.mem_joinPairs.mp (List.mem_of_getElem? hp)
          refine ⟨pa, _, rfl, SqT.of hpa, rfl, _, _, rfl, _, _, rfl, rfl, rfl, _, rfl, _, rfl, _, rfl, _, _, F.states, p.1, p.2, rfl, r1, r2, rsmall_of ft.oE m1, rsmall_of ft.oF m2, fun z' H5 s5 rz => hq _ _ s5 ⟨p, hp, rz⟩⟩
    have s13 := same_tr s12 s3
    have rz : Ra H3 zs ((K40.joinRules E F).map dRule) := by
      unfold K40.joinRules
      rw [List.map_map]
      refine Ra.of_map (f := dRule ∘ fun p : (K40.Key × K40.Don) × (K40.Key × K40.Don) => K40.joinRule F.states p.1 p.2) (by rw [hl3, lp]) fun i v hv => ?_
      obtain ⟨p, h1, h2⟩ := hr3 i v hv
      exact ⟨p, h1, h2⟩
    -- the eater of both
    refine ⟨_, rfl, x, CE, dxE, _, _, rfl, s13 _ _ e1, cE, nE "letters" (by decide +kernel), eFl_letters, _, rfl, x, CE, dxE, _, _, rfl, s13 _ _ e1, cE, nE "states" (by decide +kernel), eFl_states, _, rfl, _, _, rfl, rfl, .inl ⟨by omega, by omega⟩, _, rfl, x, CE, dxE, _, _, rfl, s13 _ _ e1, cE, nE "stacks" (by decide +kernel), eFl_stacks, _, rfl, y, CE, dxF, _, _, rfl, s13 _ _ f1, cE, nE "stacks" (by decide +kernel), eFl_stacks, _, _, rfl, rfl, _, rfl, _, rfl, fun z dz nz ndz ndzz => ?_⟩
    have sz : Same H3 (upd (upd H3 dz (.own z)) z (.ins CE dz [])) := same_tr (Same.new ndz) (Same.new (by rw [upd_ne ndzz.symm]; exact nz))
    have nz0 : H z = none := free_of s13 nz
    refine ⟨z, dz, D3, D2, E.letters, E.states * F.states, E.stacks + F.stacks, zs, K40.joinRules E F, K40.joinYes E F, rfl, upd_same, sz _ _ hL3, rz.sm sz, ⟨J0.ru, J0.nd, ?_, by have := ft.k; omega⟩, ft.oE.l, J0.s, ft.k, sz _ _ (s3 _ _ hL2), ?_, J0.yn, J0.yr, (hT.ext s13).ext sz, fun H5 J hJ j1 j2 j3 j4 j5 fr T5 => ⟨rfl, ?_⟩⟩
    · unfold K40.joinRules
      rw [List.length_map]
      omega
    · have q : (K40.joinYes E F).length ≤ 6 * 6 := by
        unfold K40.joinYes
        refine Nat.le_trans (K40.len_bind _ 6 fun a _ => ?_) (Nat.mul_le_mul_right _ ft.yE)
        rw [List.length_map]
        exact ft.yF
      omega
    · refine k z J H5 hJ ⟨j1, j2, j3, j4, j5⟩ (fun b o hb nt => fr b o (sz _ _ (s13 _ _ hb)) (fun e => ?_) nt) T5
      rw [e, nz0] at hb
      cases hb
end
end KR
end
section
set_option Elab.async false
set_option linter.all false
set_option maxRecDepth 100000
set_option maxHeartbeats 4000000
namespace KR
open PySem PySem.Spec PyProof.Rows L2 C8
section
variable {P : Program} {w : World} {K : PySem.W.Frag} {mg : Str → Option Value} {base : Heap} {CE CR CF CB c Pt : Addr} {X : Cx}
def spNeedRow (K : PySem.W.Frag) (CR : Addr) : Sp := fun vs H Q _ => ∃ (x C dx : Addr) (fs : List (Str × V)) (p : V), vs = [.ref x, p] ∧ H x = some (.ins C dx fs) ∧ InsC K C ∧ PySem.W.kitOne K (.ref C) (.ref CR) = some true ∧ Q .non H
theorem b_need_row (T : Tx K mg CE CR CF CB) : Body P w K mg base ["value", "part"] "need_row" sNeedRow 0 (spNeedRow K CR) := by
  intro cdv f A outer s H vs Q E hr h
  obtain ⟨x, C, dx, fs, p, rfl, hx, ic, kt, k⟩ := h
  refine ⟨_, pss_one (ps_if (pt_not (pt_val (pe_callB call_isi rfl (T.free "isinstance" (by decide +kernel)) boot_isinstance (pa_cons (pv 0) (pa_cons (pe_glob rfl T.row.mgC (v := .ref CR) rfl) pa_nil))))) pss_never pss_nil), ?_⟩
  exact ⟨_, rfl, _, _, _, _, true, rfl, .own CR, .base (.ins hx ic.cl ic.ha ic.hn ic.htk ic.hm), kt, true, rfl, if_ rfl k⟩
theorem c_need_row1 (T : Tx K mg CE CR CF CB) : Cal P w K mg base 1 "need_row" (spNeedRow K CR) [.str "row"] :=
  cal_ofD (N := ["value", "part"]) (ps := ["value", "part"]) T.need_row 1 0 (by simp) rfl (by decide +kernel) (fun vs H Q E h => by obtain ⟨x, C, dx, fs, p, rfl, _⟩ := h; rfl)
    (fun _ _ _ _ _ _ _ us its hl hi => match us, hl, its, hi with | [_], _, [_], _ => ⟨_, rfl, rfl⟩) (b_need_row T)
theorem c_need_row2 (T : Tx K mg CE CR CF CB) : Cal P w K mg base 1 "need_row" (spNeedRow K CR) [] :=
  cal_ofD (N := ["value", "part"]) (ps := ["value", "part"]) T.need_row 2 1 (by simp) rfl (by decide +kernel) (fun vs H Q E h => by obtain ⟨x, C, dx, fs, p, rfl, _⟩ := h; rfl)
    (fun _ _ _ _ _ _ _ us its hl hi => match us, hl, its, hi with | [_, _], _, [_], _ => ⟨_, rfl, rfl⟩) (b_need_row T)
/-! ### spread -/
theorem sl_one {H : Hp} {a : Addr} {st : List Int} {Q : VK} (ha : H a = some (.tup (st.map V.int))) (k : ∀ u H', Same H H' → Rp H' u (dStk (st.drop 1)) → Q u H') : rSlA K (.ref a) (some 1) none H Q := by
  refine ⟨a, _, rfl, SqT.of ha, fun e => ?_, fun _ p hp => ?_⟩
  · have e1 : st = [] := by
      have := e.1
      rw [List.length_map] at this
      rw [show (some (1 : Int)) = some ((1 : Nat) : Int) from rfl, HT.sIx_nat] at this
      cases st with
      | nil => rfl
      | cons x xs => simp at this
    subst e1
    exact k _ _ (Same.refl _) (stk_mk ha)
  · refine k _ _ (Same.new hp) (stk_mk ?_)
    rw [upd_same]
    have e : cutV (st.map V.int) (some 1) none = (st.drop 1).map V.int := by
      unfold cutV
      rw [show (some (1 : Int)) = some ((1 : Nat) : Int) from rfl, HT.sIx_nat, HT.sIx_none, List.length_map, List.map_drop]
      rcases Nat.lt_or_ge st.length 1 with q | q
      · have : st = [] := List.length_eq_zero_iff.mp (by omega)
        subst this
        rfl
      · rw [Nat.min_eq_left q]
        exact List.take_of_length_le (by rw [List.length_drop, List.length_map]; exact Nat.le_refl _)
    rw [e]
theorem sl_oneN {H : Hp} {a : Addr} {st : List Int} {σ : L2.St} {Q : VK} (ha : H a = some (.tup (st.map V.int))) (k : ∀ u H', Same H H' → Rp H' u (dStk (st.drop 1)) → Q u H') : tNoPart σ H fun u H3 => rSlA K (.ref a) (some 1) u H3 Q := sl_one ha k
theorem sl_cut {H : Hp} {a : Addr} {st : List Int} {Q : VK} (ha : H a = some (.tup (st.map V.int))) (h3 : st.length = 3) (k : ∀ u H', Same H H' → Rp H' u (dStk (st.take 2)) → Q u H') : rSlA K (.ref a) none (some (-1)) H Q := by
  have hs : HT.sIx (st.map V.int).length (st.map V.int).length (some (-1)) = 2 := by
    rw [List.length_map, h3]
    rfl
  refine ⟨a, _, rfl, SqT.of ha, fun e => ?_, fun _ p hp => ?_⟩
  · have := e.2
    rw [hs, List.length_map, h3] at this
    omega
  · refine k _ _ (Same.new hp) (stk_mk ?_)
    rw [upd_same]
    have e : cutV (st.map V.int) none (some (-1)) = (st.take 2).map V.int := by
      unfold cutV
      rw [hs, HT.sIx_none, List.map_take]
      rfl
    rw [e]
theorem drop2 : ∀ {l : List Int}, l.length = 3 → ∃ n, l.drop 2 = [n]
  | [_, _, c], _ => ⟨c, rfl⟩
def dOpt : Option (List Int) → PyData
  | none => .none
  | some l => dStk l
def spSpread : Sp := fun vs H Q _ => ∃ (o l r m : V) (own : List Int) (left : Option (List Int)) (right : List Int) (mv : K40.Mv), vs = [o, l, r, m] ∧ Rp H o (dStk own) ∧ Rp H l (dOpt left) ∧ Rp H r (dStk right) ∧ Rp H m (dMv mv) ∧ own.length ≤ 900 ∧
  ∀ u H', Same H H' → Rp H' u (dStk (K40.spread own left right mv)) → Q u H'
theorem c_spread (T : Tx K mg CE CR CF CB) : Cal P w K mg base 2 "spread" spSpread [] := by
  have G1 : Cal P w K mg base 1 "moved" spMoved [] := c_moved T
  refine cal_of (N := ["own", "left", "right", "move", "found"]) (ps := ["own", "left", "right", "move"]) T.spread (by decide +kernel) (fun vs H Q E h => ?_) (fun _ _ _ _ _ _ us hl => match us, hl with | [_, _, _, _], _ => rfl) (fun cdv f A outer s H vs Q E hr h => ?_)
  · obtain ⟨o, l, r, m, own, left, right, mv, rfl, _⟩ := h
    rfl
  · obtain ⟨o, l, r, m, own, left, right, mv, rfl, ho, hl, hr', hm, hb, k⟩ := h
    have nd : (["own", "left", "right", "move", "found"] : List Str).Nodup := by decide +kernel
    have hu := hr.units
    refine ⟨_, pss_cons (ps_set (i := 4) nd rfl (Or.inl rfl) (pe_ifExp (pt_cmpR op_eq (pe_len T (pv 0)) (pe_con T (.int 3)) (nomark _)) (pe_slice sl_tupA (pv 0) po_none (po_some (pe_un un_neg pe_int))) (pv 0)))
      (pss_cut (ps_if (pt_cmp (pc_isN (pv 1))) (pss_one (ps_set (i := 4) nd rfl (Or.inl rfl) (pe_c G1 hr (by decide) rfl (pa_cons (pv 4) (pa_cons (pv 3) pa_nil)))))
        (pss_one (ps_if (pt_cmpR op_le (pe_len T (pv 1)) pe_int (nomark _)) (pss_one (ps_set (i := 4) nd rfl (Or.inl rfl) (pe_slice sl_tupA (pv 4) (po_some pe_int) po_none)))
          (pss_one (ps_if (pt_cmpR op_eq (pe_len T (pv 1)) (pe_con T (.int 3)) (nomark _)) (pss_one (ps_set (i := 4) nd rfl (Or.inl rfl) (pe_tup (pa_cons (pe_ixT (pv 1) (pe_un un_neg pe_int)) (StX.pa_star (pv 4) pa_nil))))) pss_nil)))))
      (pss_one (ps_ret (pe_ifExp (PW.pt (pw_and (pt_cmpR op_le (pe_len T (pv 0)) pe_int (nomark _)) (pw_and1 (pt_cmpR (op_neD hu) (pv 2) (pe_tup pa_nil) (nomark _))))) (pe_tup (StX.pa_star (pv 4) (pa_cons (pe_ixT (pv 2) pe_int) pa_nil))) (pv 4))))), ?_⟩
    obtain ⟨oa, rfl, hoa⟩ := stk_parts ho
    obtain ⟨ra, rfl, hra⟩ := stk_parts hr'
    have big : (1000 : Nat) ≤ sizeLine := by decide
    obtain ⟨f0, hf0⟩ : ∃ f0, f0 = if own.length = 3 then own.dropLast else own := ⟨_, rfl⟩
    have lf0 : f0.length ≤ 900 := by
      rw [hf0]
      split
      · rw [List.length_dropLast]; omega
      · exact hb
    obtain ⟨f1, hf1⟩ : ∃ f1, f1 = (match left with | none => K40.moved f0 mv | some l => if l.length ≤ 1 then f0.drop 1 else if l.length = 3 then (l.drop 2) ++ f0 else f0) := ⟨_, rfl⟩
    have hsp : K40.spread own left right mv = if own.length ≤ 1 then f1 ++ right.take 1 else f1 := by
      unfold K40.spread
      simp only [← hf0]
      cases left <;> simp only [hf1]
    refine st_seq (st_setH (PV := fun v H1 => Same H H1 ∧ Rp H1 v (dStk f0)) (fun Q' hq => ?_) fun fv H1 ⟨s1, r1⟩ => ?_)
    · refine ⟨_, rfl, oa, _, rfl, .inr (SqT.of hoa), rfl, _, rfl, ?_⟩
      by_cases h3 : own.length = 3
      · refine it_ (dT (by rw [List.length_map, h3]; rfl)) ⟨_, rfl, _, rfl, -1, rfl, ?_⟩
        refine sl_cut (K := K) hoa h3 fun u H1 s1 ru => hq _ _ ⟨s1, ?_⟩
        rw [hf0, if_pos h3, List.dropLast_eq_take, h3]
        exact ru
      · refine if_ (dF (by rw [List.length_map]; intro z; injection z with z; omega)) ⟨_, rfl, hq _ _ ⟨Same.refl _, ?_⟩⟩
        rw [hf0, if_neg h3]
        exact ho
    have hm1 := hm.sm s1
    refine ⟨fun σ' H' => ∃ fv, σ' = [some (.ref oa), some l, some (.ref ra), some m, some fv] ∧ Same H H' ∧ Rp H' fv (dStk f1), ?_, ?_⟩
    · cases left with
      | none =>
        obtain rfl := Rp.non_inv (show Rp H l .none from hl)
        refine ⟨_, rfl, true, rfl, iteT ⟨_, rfl, _, rfl, fv, m, f0, mv, rfl, r1, hm1, by omega, fun u H2 s2 ru => ⟨u, rfl, same_tr s1 s2, ?_⟩⟩⟩
        rw [hf1]
        exact ru
      | some l0 =>
        obtain ⟨la, rfl, hla⟩ := stk_parts (show Rp H l (dStk l0) from hl)
        have hla1 := s1 _ _ hla
        refine ⟨_, rfl, false, rfl, iteF ?_⟩
        refine ⟨_, rfl, la, _, rfl, .inr (SqT.of hla1), _, _, rfl, rfl, _, rfl, ?_⟩
        by_cases h1 : l0.length ≤ 1
        · refine it_ (dT (by rw [List.length_map]; omega)) ?_
          obtain ⟨fa, rfl, hfa⟩ := stk_parts r1
          refine ⟨_, rfl, 1, rfl, ?_⟩
          refine sl_oneN (K := K) hfa fun u H2 s2 ru => ⟨u, rfl, same_tr s1 s2, ?_⟩
          rw [hf1]
          simp only [if_pos h1]
          exact ru
        · refine if_ (dF (by rw [List.length_map]; omega)) ?_
          refine ⟨_, rfl, la, _, rfl, .inr (SqT.of hla1), rfl, _, rfl, ?_⟩
          by_cases h3 : l0.length = 3
          · refine it_ (dT (by rw [List.length_map, h3]; rfl)) ?_
            obtain ⟨fa, rfl, hfa⟩ := stk_parts r1
            obtain ⟨n, hn⟩ := drop2 h3
            have e00 : l0 = l0.take 2 ++ [n] := by rw [← hn, List.take_append_drop]
            have e0 : l0.map V.int = (l0.take 2).map V.int ++ [V.int n] := (congrArg (List.map V.int) e00).trans (by rw [List.map_append]; rfl)
            refine ⟨_, rfl, _, rfl, la, _, -1, .int n, rfl, rfl, SqT.of hla1, by rw [e0]; exact atI_last _ _, _, rfl, fa, _, rfl, .inl (SqT.of hfa), by simp; omega, fun p hp => ⟨.ref p, rfl, same_tr s1 (Same.new hp), stk_mk ?_⟩⟩
            rw [upd_same, hf1]
            simp only [if_neg h1, if_pos h3, hn]
            simp
          · refine if_ (dF (by rw [List.length_map]; intro z; injection z with z; omega)) ⟨fv, rfl, s1, ?_⟩
            rw [hf1]
            simp only [if_neg h1, if_neg h3]
            exact r1
    · rintro σ' H2 ⟨fv2, rfl, s2, r2⟩
      obtain ⟨fa, rfl, hfa⟩ := stk_parts r2
      have hra2 := s2 _ _ hra
      refine ⟨_, rfl, oa, _, rfl, .inr (SqT.of (s2 _ _ hoa)), _, _, rfl, rfl, _, rfl, ?_⟩
      have lf1 : f1.length ≤ 903 := by
        rw [hf1]
        cases left with
        | none => have := moved_len f0 mv; simp only; omega
        | some l0 =>
          simp only
          split
          · rw [List.length_drop]; omega
          · split
            · rw [List.length_append, List.length_drop]; omega
            · omega
      by_cases h1 : own.length ≤ 1
      · refine it_ (dT (by rw [List.length_map]; omega)) ?_
        refine ⟨_, rfl, Nat.zero_le _, fun p hp => ⟨dStk right, .tuple [], ((stk_mk hra2).sm (Same.new hp)).dp, (Rp.tup upd_same .nil : Rp _ (.ref p) (.tuple [])).dp, shaped_stk right, by decide +kernel, _, rfl, ?_⟩⟩
        have s3 := same_tr s2 (Same.new (o := .tup []) hp)
        rw [eqv_nil]
        cases right with
        | nil =>
          refine iteF ⟨_, rfl, k _ _ s3 ?_⟩
          rw [hsp, if_pos h1]
          simpa using r2.sm (Same.new hp)
        | cons n right =>
          refine iteT ⟨_, rfl, fa, _, rfl, .inl (SqT.of (Same.new hp _ _ hfa)), _, rfl, ra, _, 0, _, rfl, rfl, SqT.of (Same.new hp _ _ hra2), atI_nat (j := 0) (by rfl), by simp; omega, fun p2 hp2 => k _ _ (same_tr s3 (Same.new hp2)) (stk_mk ?_)⟩
          rw [upd_same, hsp, if_pos h1]
          simp
      · refine if_ (dF (by rw [List.length_map]; omega)) ⟨_, rfl, k _ _ s2 ?_⟩
        rw [hsp, if_neg h1]
        exact r2
end
end KR
end
section
set_option Elab.async false
set_option linter.all false
set_option maxRecDepth 100000
set_option maxHeartbeats 4000000
/-! zip of four tuples -/
namespace KZ
open PySem PySem.Spec PyProof.Rows L2
theorem neA {a b : Nat} (h : a ≠ b) : @Ne Addr a b := h
abbrev Tup4 (h : Heap) (T : Addr) (a b c d : Value) : Prop := h.get? T = some { cls := .type "tuple", data := .seq #[a, b, c, d] }
/-- the zip's own records stand at n .. n + 6 -/
structure Z4 (h : Heap) (n l1 l2 l3 l4 k : Nat) (cur : Value) : Prop where
  z : IsZip h (n + 6) (n + 4) (n + 5) cur
  ti : Tup4 h (n + 4) (.ref n) (.ref (n + 1)) (.ref (n + 2)) (.ref (n + 3))
  to : ∃ a b c d, Tup4 h (n + 5) a b c d
  i1 : h.IsTupleIter n l1 k
  i2 : h.IsTupleIter (n + 1) l2 k
  i3 : h.IsTupleIter (n + 2) l3 k
  i4 : h.IsTupleIter (n + 3) l4 k
structure Far (n l1 l2 l3 l4 : Nat) : Prop where
  a1 : l1 < n
  a2 : l2 < n
  a3 : l3 < n
  a4 : l4 < n
section
variable {prog : Program} {w : World} {A : Around} {E : Value → Shared → Prop} {s : Shared} {n l1 l2 l3 l4 k : Nat} {x1 x2 x3 x4 : Array Value} {v1 v2 v3 v4 : Value}
theorem upd4 {T : Addr} {a b c d x : Value} {j : Nat} {Q : Unit → Shared → Prop} (hT : Tup4 s.heap T a b c d)
    (h : ∀ h', h'.get? T = some { cls := .type "tuple", data := .seq ((#[a, b, c, d] : Array Value).setIfInBounds j x) } → Heap.SameBut T s.heap h' → Q () { s with heap := h' }) :
    wpAny (model prog w) A (updateSeq T (·.setIfInBounds j x)) Q E s := by
  refine wpAny_updateSeq hT rfl (h _ ?_ (Heap.SameBut.update ..))
  rw [Heap.get?_update_self _ hT rfl]
  simp [Obj.mapSeq]
theorem z4_item {Q : Value → Shared → Prop} (F : Far n l1 l2 l3 l4) (Z : Z4 s.heap n l1 l2 l3 l4 k .none) (t1 : s.heap.IsTuple l1 x1) (t2 : s.heap.IsTuple l2 x2) (t3 : s.heap.IsTuple l3 x3) (t4 : s.heap.IsTuple l4 x4)
    (e1 : x1[k]? = some v1) (e2 : x2[k]? = some v2) (e3 : x3[k]? = some v3) (e4 : x4[k]? = some v4)
    (hQ : ∀ h', Z4 h' n l1 l2 l3 l4 (k + 1) (rawInt s.heap.objs.size) → Tup4 h' s.heap.objs.size v1 v2 v3 v4 → h'.objs.size = s.heap.objs.size + 1 → (∀ (c : Nat) o, c < n ∨ n + 7 ≤ c → s.heap.get? c = some o → h'.get? c = some o) → Q (.ref s.heap.objs.size) { s with heap := h' }) :
    wpAny (model prog w) A (Builtin.«zip.__next__» ⟨[.ref (n + 6)], []⟩) (fun fin s' => ∃ v, fin = .done (.ret v) ∧ Q v s') E s := by
  obtain ⟨f1, f2, f3, f4⟩ := F
  obtain ⟨hz, hTI, ⟨a, b, c, d, hTO⟩, j1, j2, j3, j4⟩ := Z
  show wpAny _ _ (field (.ref (n + 6)) 2 >>= _) _ _ _
  refine wpAny_bind (wpAny_field hz rfl (x := .bool false) rfl ?_)
  show wpAny _ _ (field (.ref (n + 6)) 3 >>= _) _ _ _
  refine wpAny_bind (wpAny_field hz rfl (x := .ref (n + 4)) rfl ?_)
  refine wpAny_bind (wpAny_seqItems hTI rfl ?_)
  show wpAny _ _ (Builtin.SmallTypes.ownedTupleIsFree (.ref (n + 6)) >>= _) _ _ _
  refine wpAny_bind ?_
  unfold Builtin.SmallTypes.ownedTupleIsFree
  refine wpAny_bind (wpAny_field hz rfl (x := .none) rfl (wpAny_pure ?_))
  simp only [if_true]
  refine wpAny_bind (wpAny_rule ?_)
  refine wpAny_bind (wpAny_field hz rfl (x := .ref (n + 5)) rfl ?_)
  refine wpAny_bind (wpAny_setField_rec hz (by simp) fun g0 hz0 s0 => ?_)
  replace hz0 : IsZip g0 (n + 6) (n + 4) (n + 5) .ellipsis := hz0
  refine wpAny_bind ?_
  simp only [List.zipIdx_cons, List.zipIdx_nil, List.forIn_cons, List.forIn_nil]
  -- the first
  refine wpAny_bind (wpAny_bind (wpAny_onRaise ?_))
  show wpAny _ _ (Builtin.SmallTypes.nextOf (.ref n) >>= _) _ _ _
  refine wpAny_bind (RZ.nextOf_tuple_item (j1.extBut s0.extBut (neA (by omega))) (t1.extBut s0.extBut (neA (by omega))) e1 fun g1 i1 s1 => wpAny_pure ?_)
  have u1 : Tup4 g1 (n + 5) a b c d := s1.extBut _ _ (neA (by omega)) (s0.extBut _ _ (neA (by omega)) hTO)
  refine wpAny_bind (wpAny_seqItems u1 rfl ?_)
  refine wpAny_bind (upd4 u1 fun g2 u2 s2 => ?_)
  replace u2 : Tup4 g2 (n + 5) v1 b c d := u2
  refine wpAny_bind (wpAny_letGo (wpAny_pure ?_))
  -- the second
  refine wpAny_bind (wpAny_bind (wpAny_onRaise ?_))
  show wpAny _ _ (Builtin.SmallTypes.nextOf (.ref (n + 1)) >>= _) _ _ _
  refine wpAny_bind (RZ.nextOf_tuple_item (((j2.extBut s0.extBut (neA (by omega))).extBut s1.extBut (neA (by omega))).extBut s2.extBut (neA (by omega))) (((t2.extBut s0.extBut (neA (by omega))).extBut s1.extBut (neA (by omega))).extBut s2.extBut (neA (by omega))) e2 fun g3 i2 s3 => wpAny_pure ?_)
  have u3 : Tup4 g3 (n + 5) v1 b c d := s3.extBut _ _ (neA (by omega)) u2
  refine wpAny_bind (wpAny_seqItems u3 rfl ?_)
  refine wpAny_bind (upd4 u3 fun g4 u4 s4 => ?_)
  replace u4 : Tup4 g4 (n + 5) v1 v2 c d := u4
  refine wpAny_bind (wpAny_letGo (wpAny_pure ?_))
  -- the third
  refine wpAny_bind (wpAny_bind (wpAny_onRaise ?_))
  show wpAny _ _ (Builtin.SmallTypes.nextOf (.ref (n + 2)) >>= _) _ _ _
  refine wpAny_bind (RZ.nextOf_tuple_item (((((j3.extBut s0.extBut (neA (by omega))).extBut s1.extBut (neA (by omega))).extBut s2.extBut (neA (by omega))).extBut s3.extBut (neA (by omega))).extBut s4.extBut (neA (by omega))) (((((t3.extBut s0.extBut (neA (by omega))).extBut s1.extBut (neA (by omega))).extBut s2.extBut (neA (by omega))).extBut s3.extBut (neA (by omega))).extBut s4.extBut (neA (by omega))) e3 fun g5 i3 s5 => wpAny_pure ?_)
  have u5 : Tup4 g5 (n + 5) v1 v2 c d := s5.extBut _ _ (neA (by omega)) u4
  refine wpAny_bind (wpAny_seqItems u5 rfl ?_)
  refine wpAny_bind (upd4 u5 fun g6 u6 s6 => ?_)
  replace u6 : Tup4 g6 (n + 5) v1 v2 v3 d := u6
  refine wpAny_bind (wpAny_letGo (wpAny_pure ?_))
  -- the fourth
  refine wpAny_bind (wpAny_bind (wpAny_onRaise ?_))
  show wpAny _ _ (Builtin.SmallTypes.nextOf (.ref (n + 3)) >>= _) _ _ _
  refine wpAny_bind (RZ.nextOf_tuple_item (((((((j4.extBut s0.extBut (neA (by omega))).extBut s1.extBut (neA (by omega))).extBut s2.extBut (neA (by omega))).extBut s3.extBut (neA (by omega))).extBut s4.extBut (neA (by omega))).extBut s5.extBut (neA (by omega))).extBut s6.extBut (neA (by omega)))
    (((((((t4.extBut s0.extBut (neA (by omega))).extBut s1.extBut (neA (by omega))).extBut s2.extBut (neA (by omega))).extBut s3.extBut (neA (by omega))).extBut s4.extBut (neA (by omega))).extBut s5.extBut (neA (by omega))).extBut s6.extBut (neA (by omega))) e4 fun g7 i4 s7 => wpAny_pure ?_)
  have u7 : Tup4 g7 (n + 5) v1 v2 v3 d := s7.extBut _ _ (neA (by omega)) u6
  refine wpAny_bind (wpAny_seqItems u7 rfl ?_)
  refine wpAny_bind (upd4 u7 fun g8 u8 s8 => ?_)
  replace u8 : Tup4 g8 (n + 5) v1 v2 v3 v4 := u8
  refine wpAny_bind (wpAny_letGo (wpAny_pure (wpAny_pure ?_)))
  -- the tuple handed out
  refine wpAny_bind (wpAny_seqItems u8 rfl ?_)
  refine wpAny_bind (wpAny_newTuple ?_)
  have hsz : g8.objs.size = s.heap.objs.size := by rw [s8.1, s7.1, s6.1, s5.1, s4.1, s3.1, s2.1, s1.1, s0.1]
  have far : ∀ (m : Nat) (g : Heap), (m < n ∨ n + 3 < m) → m ≠ n + 5 → ∀ o, g0.get? m = some o → g8.get? m = some o := fun m _ hm h5 o e =>
    s8.extBut _ _ h5 (s7.extBut _ _ (neA (by omega)) (s6.extBut _ _ h5 (s5.extBut _ _ (neA (by omega)) (s4.extBut _ _ h5 (s3.extBut _ _ (neA (by omega)) (s2.extBut _ _ h5 (s1.extBut _ _ (neA (by omega)) e)))))))
  have hz8 : IsZip g8 (n + 6) (n + 4) (n + 5) .ellipsis := far _ g0 (by omega) (neA (by omega)) _ hz0
  have hzlt : n + 6 < g8.objs.size := Heap.lt_size hz8
  show wpAny _ _ (Builtin.SmallTypes.ownedTupleHandOut (.ref (n + 6)) (.ref g8.objs.size) >>= _) _ _ _
  refine wpAny_bind ?_
  unfold Builtin.SmallTypes.ownedTupleHandOut
  have hz9 : IsZip (g8.push { cls := .type "tuple", data := .seq #[v1, v2, v3, v4] }) (n + 6) (n + 4) (n + 5) .ellipsis := Heap.get?_push_of_some _ hz8
  refine wpAny_bind (wpAny_setField_rec hz9 (by simp) fun p hp sp => ?_)
  replace hp : IsZip p (n + 6) (n + 4) (n + 5) (rawInt g8.objs.size) := hp
  refine wpAny_setField_rec hp (by simp) fun q hq sq => ?_
  replace hq : IsZip q (n + 6) (n + 4) (n + 5) (rawInt g8.objs.size) := hq
  have up : ∀ (c : Nat) o, c ≠ n + 6 → g8.get? c = some o → q.get? c = some o := fun c o h e => sq.extBut _ _ h (sp.extBut _ _ h (Heap.get?_push_of_some _ e))
  have hT : Tup4 q g8.objs.size v1 v2 v3 v4 := sq.extBut _ _ (Nat.ne_of_gt hzlt) (sp.extBut _ _ (Nat.ne_of_gt hzlt) (Heap.get?_push_size _ rfl))
  have hq1 : q.objs.size = g8.objs.size + 1 := by rw [sq.1, sp.1, Heap.size_push]
  have k1 : g8.IsTupleIter n l1 (k + 1) := ((((((i1.extBut s2.extBut (neA (by omega))).extBut s3.extBut (neA (by omega))).extBut s4.extBut (neA (by omega))).extBut s5.extBut (neA (by omega))).extBut s6.extBut (neA (by omega))).extBut s7.extBut (neA (by omega))).extBut s8.extBut (neA (by omega))
  have k2 : g8.IsTupleIter (n + 1) l2 (k + 1) := ((((i2.extBut s4.extBut (neA (by omega))).extBut s5.extBut (neA (by omega))).extBut s6.extBut (neA (by omega))).extBut s7.extBut (neA (by omega))).extBut s8.extBut (neA (by omega))
  have k3 : g8.IsTupleIter (n + 2) l3 (k + 1) := ((i3.extBut s6.extBut (neA (by omega))).extBut s7.extBut (neA (by omega))).extBut s8.extBut (neA (by omega))
  have k4 : g8.IsTupleIter (n + 3) l4 (k + 1) := i4.extBut s8.extBut (neA (by omega))
  rw [hsz] at hq hT hq1
  refine wpAny_pure ⟨_, rfl, ?_⟩
  show Q (.ref g8.objs.size) _
  rw [hsz]
  refine hQ q ⟨hq, up _ _ (neA (by omega)) (far _ g0 (by omega) (neA (by omega)) _ (s0.extBut _ _ (neA (by omega)) hTI)), ⟨_, _, _, _, up _ _ (neA (by omega)) u8⟩, k1.at fun o e => up _ o (neA (by omega)) e, k2.at fun o e => up _ o (neA (by omega)) e, k3.at fun o e => up _ o (neA (by omega)) e, k4.at fun o e => up _ o (neA (by omega)) e⟩ hT hq1 fun c o hc e => ?_
  exact up c o (neA (by omega)) (far c g0 (by omega) (neA (by omega)) o (s0.extBut _ _ (neA (by omega)) e))
theorem z4_end {Q : Fin → Shared → Prop} (hh : A.handled = none) (F : Far n l1 l2 l3 l4) (Z : Z4 s.heap n l1 l2 l3 l4 k .none) (t1 : s.heap.IsTuple l1 x1) (e1 : x1[k]? = none)
    (hE : ∀ h' e, (∀ (c : Nat) o, c < n ∨ n + 7 ≤ c → s.heap.get? c = some o → h'.get? c = some o) → (∃ o, h'.get? e = some o ∧ o.cls = .type "StopIteration") → E (.ref e) { s with heap := h' }) :
    wpAny (model prog w) A (Builtin.«zip.__next__» ⟨[.ref (n + 6)], []⟩) Q E s := by
  obtain ⟨f1, f2, f3, f4⟩ := F
  obtain ⟨hz, hTI, ⟨a, b, c, d, hTO⟩, j1, j2, j3, j4⟩ := Z
  show wpAny _ _ (field (.ref (n + 6)) 2 >>= _) _ _ _
  refine wpAny_bind (wpAny_field hz rfl (x := .bool false) rfl ?_)
  show wpAny _ _ (field (.ref (n + 6)) 3 >>= _) _ _ _
  refine wpAny_bind (wpAny_field hz rfl (x := .ref (n + 4)) rfl ?_)
  refine wpAny_bind (wpAny_seqItems hTI rfl ?_)
  show wpAny _ _ (Builtin.SmallTypes.ownedTupleIsFree (.ref (n + 6)) >>= _) _ _ _
  refine wpAny_bind ?_
  unfold Builtin.SmallTypes.ownedTupleIsFree
  refine wpAny_bind (wpAny_field hz rfl (x := .none) rfl (wpAny_pure ?_))
  simp only [if_true]
  refine wpAny_bind (wpAny_rule ?_)
  refine wpAny_bind (wpAny_field hz rfl (x := .ref (n + 5)) rfl ?_)
  refine wpAny_bind (wpAny_setField_rec hz (by simp) fun g0 hz0 s0 => ?_)
  replace hz0 : IsZip g0 (n + 6) (n + 4) (n + 5) .ellipsis := hz0
  refine wpAny_bind ?_
  simp only [List.zipIdx_cons, List.zipIdx_nil, List.forIn_cons, List.forIn_nil]
  refine wpAny_bind (wpAny_bind (wpAny_onRaise ?_))
  show wpAny _ _ (Builtin.SmallTypes.nextOf (.ref n) >>= _) _ _ _
  refine wpAny_bind (RZ.nextOf_tuple_end hh (j1.extBut s0.extBut (neA (by omega))) (t1.extBut s0.extBut (neA (by omega))) e1 fun g1 e s1 he => ?_)
  obtain ⟨oe, hoe, hce⟩ := he
  have hz1 : IsZip g1 (n + 6) (n + 4) (n + 5) .ellipsis := s1 _ _ (neA (by omega)) hz0
  have hez : e ≠ n + 6 := fun x => by
    subst x
    rw [hz1] at hoe
    cases hoe
    simp at hce
  refine wpAny_setField_rec hz1 (by simp) fun g2 _ s2 => hE g2 e (fun c o hc x => s2.extBut _ _ (neA (by omega)) (s1 _ _ (neA (by omega)) (s0.extBut _ _ (neA (by omega)) x))) ⟨oe, s2.extBut _ _ hez hoe, hce⟩
theorem next_item {Q : Option Value → Shared → Prop} (F : Far n l1 l2 l3 l4) (Z : Z4 s.heap n l1 l2 l3 l4 k .none) (t1 : s.heap.IsTuple l1 x1) (t2 : s.heap.IsTuple l2 x2) (t3 : s.heap.IsTuple l3 x3) (t4 : s.heap.IsTuple l4 x4)
    (e1 : x1[k]? = some v1) (e2 : x2[k]? = some v2) (e3 : x3[k]? = some v3) (e4 : x4[k]? = some v4)
    (hQ : ∀ h', Z4 h' n l1 l2 l3 l4 (k + 1) (rawInt s.heap.objs.size) → Tup4 h' s.heap.objs.size v1 v2 v3 v4 → h'.objs.size = s.heap.objs.size + 1 → (∀ (c : Nat) o, c < n ∨ n + 7 ≤ c → s.heap.get? c = some o → h'.get? c = some o) → Q (some (.ref s.heap.objs.size)) { s with heap := h' }) :
    wpAny (model prog w) A (pyNext (.ref (n + 6))) Q E s := by
  have hT : s.TypeIs (.ref (n + 6)) "zip" := ⟨_, Z.z, rfl⟩
  unfold pyNext
  exact wpAny_bind (wpAny_attempt (wpAny_callSpecial?_slot (name := Str.ofString "__next__") hT PySem.F.slot_zip_next
    (wpAny_call_entry PySem.F.slot_zip_next hT PySem.F.entry_zip_next (z4_item F Z t1 t2 t3 t4 e1 e2 e3 e4 fun h' b1 b2 b3 b4 => wpAny_pure (hQ h' b1 b2 b3 b4)) (PySem.F.args_zip_next_1 _))))
theorem next_end {Q : Option Value → Shared → Prop} (hh : A.handled = none) (F : Far n l1 l2 l3 l4) (Z : Z4 s.heap n l1 l2 l3 l4 k .none) (t1 : s.heap.IsTuple l1 x1) (e1 : x1[k]? = none)
    (hQ : ∀ h', (∀ (c : Nat) o, c < n ∨ n + 7 ≤ c → s.heap.get? c = some o → h'.get? c = some o) → Q none { s with heap := h' }) : wpAny (model prog w) A (pyNext (.ref (n + 6))) Q E s := by
  have hT : s.TypeIs (.ref (n + 6)) "zip" := ⟨_, Z.z, rfl⟩
  unfold pyNext
  refine wpAny_bind (wpAny_attempt (wpAny_callSpecial?_slot (name := Str.ofString "__next__") hT PySem.F.slot_zip_next
    (wpAny_call_entry PySem.F.slot_zip_next hT PySem.F.entry_zip_next (z4_end hh F Z t1 e1 fun h' e hk he => ?_) (PySem.F.args_zip_next_1 _))))
  obtain ⟨o, ho, hc⟩ := he
  refine wpAny_bind (wpAny_isInstance (T := "StopIteration") (b := true) ⟨o, ho, hc⟩ isSubtype_stop ?_)
  exact wpAny_pure (hQ _ hk)
end
theorem typeCall_4 (a b c d : Value) : checkTypeCall "zip" ⟨[a, b, c, d], []⟩ = pure () := by kernel_rfl
theorem newCall_4 (a b c d : Value) : checkBuiltinCall "zip.__new__" ⟨[.type "zip", a, b, c, d], []⟩ = pure () := by kernel_rfl
theorem args_init_5 (obj : Value) (a b c d : Value) : argsOk "object.__init__" ⟨[obj, a, b, c, d], []⟩ := by unfold argsOk; kernel_rfl
abbrev itO (l : Addr) : Obj := { cls := .type "tuple_iterator", data := .fields #[.ref l, .int 0 0] }
abbrev g1 (h : Heap) (l1 : Addr) : Heap := h.push (itO l1)
abbrev g2 (h : Heap) (l1 l2 : Addr) : Heap := (g1 h l1).push (itO l2)
abbrev g3 (h : Heap) (l1 l2 l3 : Addr) : Heap := (g2 h l1 l2).push (itO l3)
abbrev g4 (h : Heap) (l1 l2 l3 l4 : Addr) : Heap := (g3 h l1 l2 l3).push (itO l4)
abbrev g5 (h : Heap) (l1 l2 l3 l4 : Addr) : Heap := (g4 h l1 l2 l3 l4).push { cls := .type "tuple", data := .seq #[.ref h.objs.size, .ref (g1 h l1).objs.size, .ref (g2 h l1 l2).objs.size, .ref (g3 h l1 l2 l3).objs.size] }
abbrev g6 (h : Heap) (l1 l2 l3 l4 : Addr) : Heap := (g5 h l1 l2 l3 l4).push { cls := .type "tuple", data := .seq #[.none, .none, .none, .none] }
abbrev g7 (h : Heap) (l1 l2 l3 l4 : Addr) : Heap := (g6 h l1 l2 l3 l4).push { cls := .type "zip", data := .fields #[.none, .bool false, .bool false, .ref (g4 h l1 l2 l3 l4).objs.size, .ref (g5 h l1 l2 l3 l4).objs.size] }
theorem meets_new (l1 l2 l3 l4 : Addr) (x1 x2 x3 x4 : Array Value) :
    Meets (Builtin.«zip.__new__» ⟨[.type "zip", .ref l1, .ref l2, .ref l3, .ref l4], []⟩) (fun _ R s => s.heap.IsTuple l1 x1 ∧ s.heap.IsTuple l2 x2 ∧ s.heap.IsTuple l3 x3 ∧ s.heap.IsTuple l4 x4 ∧
      R (.ok (.ret (.ref (g6 s.heap l1 l2 l3 l4).objs.size))) { s with heap := g7 s.heap l1 l2 l3 l4 }) :=
  .of_wp fun prog w A R s h => by
    obtain ⟨hp, g, d, tk, os⟩ := s
    obtain ⟨h1, h2, h3, h4, h⟩ := h
    have hsub := sub_zip
    have hL1 : Heap.IsTuple (Shared.heap ⟨hp, g, d, tk, os⟩) l1 x1 := h1
    have hL2 : Heap.IsTuple (Shared.heap ⟨g1 hp l1, g, d, tk, os⟩) l2 x2 := Heap.IsTuple.push h2 _
    have hL3 : Heap.IsTuple (Shared.heap ⟨g2 hp l1 l2, g, d, tk, os⟩) l3 x3 := (Heap.IsTuple.push h3 _).push _
    have hL4 : Heap.IsTuple (Shared.heap ⟨g3 hp l1 l2 l3, g, d, tk, os⟩) l4 x4 := ((Heap.IsTuple.push h4 _).push _).push _
    wp_walk using wpAny_pyIter_tuple hL1, wpAny_pyIter_tuple hL2, wpAny_pyIter_tuple hL3, wpAny_pyIter_tuple hL4
    exact ⟨_, rfl, h⟩
theorem call_zip4 {prog : Program} {w : World} {A : Around} {E : Value → Shared → Prop} {s : Shared} {l1 l2 l3 l4 : Nat} {x1 x2 x3 x4 : Array Value} {Q : Value → Shared → Prop} (t1 : s.heap.IsTuple l1 x1) (t2 : s.heap.IsTuple l2 x2) (t3 : s.heap.IsTuple l3 x3) (t4 : s.heap.IsTuple l4 x4)
    (h : ∀ h', Z4 h' s.heap.objs.size l1 l2 l3 l4 0 .none → h'.objs.size = s.heap.objs.size + 7 → (∀ c o, s.heap.get? c = some o → h'.get? c = some o) → Q (.ref (s.heap.objs.size + 6)) { s with heap := h' }) :
    wpAny (model prog w) A (call (.type "zip") [.ref l1, .ref l2, .ref l3, .ref l4]) Q E s := by
  refine callType_new PySem.F.called_zip (by decide) (typeCall_4 _ _ _ _) (newCall_4 _ _ _ _) (fun obj => args_init_5 obj _ _ _ _) PySem.F.entry_zip_new (meets_new l1 l2 l3 l4 x1 x2 x3 x4) ⟨t1, t2, t3, t4, ?_⟩
  have z1 : (g1 s.heap l1).objs.size = s.heap.objs.size + 1 := Heap.size_push ..
  have z2 : (g2 s.heap l1 l2).objs.size = s.heap.objs.size + 2 := by rw [Heap.size_push, z1]
  have z3 : (g3 s.heap l1 l2 l3).objs.size = s.heap.objs.size + 3 := by rw [Heap.size_push, z2]
  have z4 : (g4 s.heap l1 l2 l3 l4).objs.size = s.heap.objs.size + 4 := by rw [Heap.size_push, z3]
  have z5 : (g5 s.heap l1 l2 l3 l4).objs.size = s.heap.objs.size + 5 := by rw [Heap.size_push, z4]
  have z6 : (g6 s.heap l1 l2 l3 l4).objs.size = s.heap.objs.size + 6 := by rw [Heap.size_push, z5]
  have z7 : (g7 s.heap l1 l2 l3 l4).objs.size = s.heap.objs.size + 7 := by rw [Heap.size_push, z6]
  have p := fun (h : Heap) (o : Obj) (c : Addr) (u : Obj) (e : h.get? c = some u) => (Heap.get?_push_of_some (h := h) o e)
  have k7 : (g7 s.heap l1 l2 l3 l4).get? (g6 s.heap l1 l2 l3 l4).objs.size = some _ := Heap.get?_push_size _ rfl
  have k6 : (g7 s.heap l1 l2 l3 l4).get? (g5 s.heap l1 l2 l3 l4).objs.size = some _ := Heap.get?_push_of_some _ (Heap.get?_push_size _ rfl)
  have k5 : (g7 s.heap l1 l2 l3 l4).get? (g4 s.heap l1 l2 l3 l4).objs.size = some _ := Heap.get?_push_of_some _ (Heap.get?_push_of_some _ (Heap.get?_push_size _ rfl))
  have k4 : (g7 s.heap l1 l2 l3 l4).get? (g3 s.heap l1 l2 l3).objs.size = some _ := Heap.get?_push_of_some _ (Heap.get?_push_of_some _ (Heap.get?_push_of_some _ (Heap.get?_push_size _ rfl)))
  have k3 : (g7 s.heap l1 l2 l3 l4).get? (g2 s.heap l1 l2).objs.size = some _ := Heap.get?_push_of_some _ (Heap.get?_push_of_some _ (Heap.get?_push_of_some _ (Heap.get?_push_of_some _ (Heap.get?_push_size _ rfl))))
  have k2 : (g7 s.heap l1 l2 l3 l4).get? (g1 s.heap l1).objs.size = some _ := Heap.get?_push_of_some _ (Heap.get?_push_of_some _ (Heap.get?_push_of_some _ (Heap.get?_push_of_some _ (Heap.get?_push_of_some _ (Heap.get?_push_size _ rfl)))))
  have k1 : (g7 s.heap l1 l2 l3 l4).get? s.heap.objs.size = some _ := Heap.get?_push_of_some _ (Heap.get?_push_of_some _ (Heap.get?_push_of_some _ (Heap.get?_push_of_some _ (Heap.get?_push_of_some _ (Heap.get?_push_of_some _ (Heap.get?_push_size _ rfl))))))
  have kk : ∀ c o, s.heap.get? c = some o → (g7 s.heap l1 l2 l3 l4).get? c = some o := fun c o x =>
    Heap.get?_push_of_some _ (Heap.get?_push_of_some _ (Heap.get?_push_of_some _ (Heap.get?_push_of_some _ (Heap.get?_push_of_some _ (Heap.get?_push_of_some _ (Heap.get?_push_of_some _ x))))))
  show _ ∧ _
  rw [z4, z5, z6] at k7
  rw [z5] at k6
  rw [z1, z2, z3, z4] at k5
  rw [z3] at k4
  rw [z2] at k3
  rw [z1] at k2
  rw [z6]
  exact ⟨⟨_, k7, rfl⟩, h _ ⟨k7, k5, ⟨_, _, _, _, k6⟩, ⟨_, k1, rfl, rfl⟩, ⟨_, k2, rfl, rfl⟩, ⟨_, k3, rfl, rfl⟩, ⟨_, k4, rfl, rfl⟩⟩ z7 kk⟩
end KZ
end
section
set_option Elab.async false
set_option linter.all false
set_option maxRecDepth 100000
set_option maxHeartbeats 4000000
namespace KZ
open PySem PySem.Spec PyProof.Rows L2
/-- four tuples at a turn, the items in a new tuple -/
def It4 (K : PySem.W.Frag) (a b c d : Addr) : It :=
  ⟨fun i H => ∃ (xs ys zs ws : List V) (x y z u : V), SqT K H a xs ∧ SqT K H b ys ∧ SqT K H c zs ∧ SqT K H d ws ∧ xs[i]? = some x ∧ ys[i]? = some y ∧ zs[i]? = some z ∧ ws[i]? = some u,
    fun i H v H' => ∃ T x y z u, v = .ref T ∧ H T = none ∧ H' = upd H T (.tup [x, y, z, u]) ∧ (∀ xs, SqT K H a xs → xs[i]? = some x) ∧ (∀ xs, SqT K H b xs → xs[i]? = some y) ∧ (∀ xs, SqT K H c xs → xs[i]? = some z) ∧ ∀ xs, SqT K H d xs → xs[i]? = some u,
    fun i H => ∃ xs : List V, SqT K H a xs ∧ xs.length ≤ i⟩
theorem ch_mem {n c : Nat} (h : c ∈ [n + 6, n + 4, n + 5, n, n + 1, n + 2, n + 3]) : n ≤ c ∧ c < n + 7 := by
  simp only [List.mem_cons, List.not_mem_nil, or_false] at h
  omega
theorem ch_not {n c : Nat} (h : c ∉ [n + 6, n + 4, n + 5, n, n + 1, n + 2, n + 3]) : c < n ∨ n + 7 ≤ c := by
  simp only [List.mem_cons, List.not_mem_nil, or_false] at h
  omega
theorem turn4 {P : Program} {w : World} {K : PySem.W.Frag} {elts : List Expr} {kk : Nat} {tpos : Pos} {n a b c d : Nat} (F : Far n a b c d) :
    Turn P w K (.Tuple elts kk tpos) (It4 K a b c d) [n + 6, n + 4, n + 5, n, n + 1, n + 2, n + 3] (n + 6) (fun i h => Z4 h n a b c d i .none) where
  mem := by simp
  obj := fun i h st m hm => by
    obtain ⟨hz, hTI, ⟨x, y, z, u, hTO⟩, ⟨o1, e1, _, d1⟩, ⟨o2, e2, _, d2⟩, ⟨o3, e3, _, d3⟩, ⟨o4, e4, _, d4⟩⟩ := st
    have e' : m = n + 6 ∨ m = n + 4 ∨ m = n + 5 ∨ m = n ∨ m = n + 1 ∨ m = n + 2 ∨ m = n + 3 := by simpa using hm
    rcases e' with q | q | q | q | q | q | q
    · rw [q]; exact ⟨_, hz, fun v q => nomatch q⟩
    · rw [q]; exact ⟨_, hTI, fun v q => nomatch q⟩
    · rw [q]; exact ⟨_, hTO, fun v q => nomatch q⟩
    · rw [q]; exact ⟨o1, e1, fun v q => by rw [d1] at q; cases q⟩
    · rw [q]; exact ⟨o2, e2, fun v q => by rw [d2] at q; cases q⟩
    · rw [q]; exact ⟨o3, e3, fun v q => by rw [d3] at q; cases q⟩
    · rw [q]; exact ⟨o4, e4, fun v q => by rw [d4] at q; cases q⟩
  keep := fun i h h' st k => by
    obtain ⟨hz, hTI, ⟨x, y, z, u, hTO⟩, h1, h2, h3, h4⟩ := st
    exact ⟨k (n + 6) (by simp) _ hz, k (n + 4) (by simp) _ hTI, ⟨x, y, z, u, k (n + 5) (by simp) _ hTO⟩, h1.at fun o q => k n (by simp) o q, h2.at fun o q => k (n + 1) (by simp) o q, h3.at fun o q => k (n + 2) (by simp) o q, h4.at fun o q => k (n + 3) (by simp) o q⟩
  item := by
    intro X hP hw hK hc i pins s σ H E I hf st hg
    subst hP hw hK
    obtain ⟨xs, ys, zs, ws, x, y, z, u, hqx, hqy, hqz, hqw, hx, hy, hz, hu⟩ := hg
    obtain ⟨its, rv, p, _⟩ := I.tuple hqx
    obtain ⟨its2, rv2, p2, _⟩ := I.tuple hqy
    obtain ⟨its3, rv3, p3, _⟩ := I.tuple hqz
    obtain ⟨its4, rv4, p4, _⟩ := I.tuple hqw
    obtain ⟨v1, e1, r1⟩ := rv.get hx
    obtain ⟨v2, e2, r2⟩ := rv2.get hy
    obtain ⟨v3, e3, r3⟩ := rv3.get hz
    obtain ⟨v4, e4, r4⟩ := rv4.get hu
    have hzl : n + 6 < s.heap.objs.size := Heap.lt_size st.z
    refine next_item F st p p2 p3 p4 (v1 := v1) (v2 := v2) (v3 := v3) (v4 := v4) (by simpa using e1) (by simpa using e2) (by simpa using e3) (by simpa using e4) fun h' Z' hT hsz hk => ?_
    refine ⟨_, rfl, wpAny_letOwnedTupleGo_zip (s := { s with heap := h' }) Z'.z fun h'' z'' sb => ?_⟩
    have hT2 : h''.get? s.heap.objs.size = some { cls := .type "tuple", data := .seq #[v1, v2, v3, v4] } := (sb.2 _ (Nat.ne_of_gt hzl)).trans hT
    have new : ObjOk X.prog X.w (upd H s.heap.objs.size (.tup [x, y, z, u])) h'' s.heap.objs.size (.tup [x, y, z, u]) :=
      ⟨by show 4 ≤ sizeLine; decide, [v1, v2, v3, v4], .cons r1 (.cons r2 (.cons r3 (.cons r4 .nil))), ⟨_, hT2, rfl, _, rfl⟩⟩
    have I1 : Inv X pins σ (upd H s.heap.objs.size (.tup [x, y, z, u])) { s with heap := h'' } :=
      I.turnedNew (t' := s.toks) (ch := [n + 6, n + 4, n + 5, n, n + 1, n + 2, n + 3]) (fun c o hb q => (sb.2 c (fun q' => hb (by rw [q']; simp))).trans (hk c o (ch_not hb) q)) hf (Nat.le_refl _) new
    have oth : ∀ (m : Nat), m ≠ n + 6 → ∀ o, h'.get? m = some o → h''.get? m = some o := fun m hm o q => (sb.2 m hm).trans q
    refine ⟨.ref s.heap.objs.size, _, I1, rfl, ⟨_, x, y, z, u, rfl, I.hok.fresh (Nat.le_refl _), rfl, fun l hl => by rw [I.tuple_inj hl hqx]; exact hx, fun l hl => by rw [I.tuple_inj hl hqy]; exact hy, fun l hl => by rw [I.tuple_inj hl hqz]; exact hz, fun l hl => by rw [I.tuple_inj hl hqw]; exact hu⟩, ⟨z'', ?_, ?_, ?_, ?_, ?_, ?_⟩, fun c hcm => ?_⟩
    · exact oth _ (by omega) _ Z'.ti
    · obtain ⟨a1, a2, a3, a4, q⟩ := Z'.to
      exact ⟨a1, a2, a3, a4, oth _ (by omega) _ q⟩
    · exact Z'.i1.at fun o q => oth _ (by omega) _ q
    · exact Z'.i2.at fun o q => oth _ (by omega) _ q
    · exact Z'.i3.at fun o q => oth _ (by omega) _ q
    · exact Z'.i4.at fun o q => oth _ (by omega) _ q
    · have hlt : c < s.heap.objs.size := by
        have := (ch_mem hcm).2
        exact Nat.lt_of_lt_of_le this (by omega)
      rw [upd_ne (Nat.ne_of_lt hlt)]
      exact (hf c hcm).1
  done := by
    intro X hP hw hK hc i pins s σ H E I hf st hg
    subst hP hw hK
    obtain ⟨xs, hqx, hend⟩ := hg
    obtain ⟨its, rv, p, _⟩ := I.tuple hqx
    have l1 := rv.length
    have he : its.toArray[i]? = none := by
      simp
      omega
    exact next_end (I.ok.hd hc) F st p he fun h' hk => ⟨rfl, I.turnedL (t' := s.toks) (ch := [n + 6, n + 4, n + 5, n, n + 1, n + 2, n + 3]) (fun c o hb q => hk c o (ch_not hb) q) hf⟩
  self := fun A i s Q E st h => wpAny_pyIter_zip st.z h
def iZip4 (K : PySem.W.Frag) (ta : TA) : TI := fun σ H R => ta σ H fun vs H1 => ∃ (a b c d : Addr) (xs ys zs ws : List V), vs = [.ref a, .ref b, .ref c, .ref d] ∧ SqT K H1 a xs ∧ SqT K H1 b ys ∧ SqT K H1 c zs ∧ SqT K H1 d ws ∧ R (It4 K a b c d) H1
theorem pi_zip4 {X : Cx} {e e2 e3 e4 : Expr} {ta : TA} {p pos tpos : Pos} {elts : List Expr} {kk : Nat} (hg : Gl X "zip") (hm : X.mg "zip" = none) (ha : PA X [e, e2, e3, e4] ta)
    (hs : starEach [e, e2, e3, e4] X.env = (false, eval e X.env) :: starEach [e2, e3, e4] X.env := by rfl) (hpl : (backTo pos (starEach [e2, e3, e4] X.env)).any (·.1) = false := by rfl) :
    PI X (.Tuple elts kk tpos) (.Call (.Name "zip" p) [e, e2, e3, e4] [] pos) (iZip4 X.K ta) := by
  refine ⟨fun pins s σ H R I h => ?_⟩
  refine Call_ (ld_blt I hg hm PyProof.Rows.boot_zip (PyProof.Rows.callWith_type1 (thn (ha.run pos pins s σ H _ I h) fun us s1 ⟨vs, H1, I1, r1, q1⟩ => ?_) hs hpl))
  obtain ⟨a, b, c, d, xs, ys, zs, ws, ex, hqx, hqy, hqz, hqw, q⟩ := q1
  subst ex
  cases r1 with
  | cons ra rr => cases rr with
    | cons rb rr => cases rr with
      | cons rc rr => cases rr with
        | cons rd rr =>
          cases rr
          cases ra
          cases rb
          cases rc
          cases rd
          obtain ⟨its, rv, p1, _⟩ := I1.tuple hqx
          obtain ⟨its2, rv2, p2, _⟩ := I1.tuple hqy
          obtain ⟨its3, rv3, p3, _⟩ := I1.tuple hqz
          obtain ⟨its4, rv4, p4, _⟩ := I1.tuple hqw
          obtain ⟨o1, ho1, _⟩ := id p1
          obtain ⟨o2, ho2, _⟩ := id p2
          obtain ⟨o3, ho3, _⟩ := id p3
          obtain ⟨o4, ho4, _⟩ := id p4
          refine call_zip4 (show s1.heap.IsTuple a its.toArray from p1) (show s1.heap.IsTuple b its2.toArray from p2) (show s1.heap.IsTuple c its3.toArray from p3) (show s1.heap.IsTuple d its4.toArray from p4) fun h' Z hsz hk => wpAny_pyIter_zip Z.z ?_
          have I2 : Inv X pins σ H1 { s1 with heap := h' } := I1.kept (t' := s1.toks) hk
          exact ⟨s1.heap.objs.size + 6, [s1.heap.objs.size + 6, s1.heap.objs.size + 4, s1.heap.objs.size + 5, s1.heap.objs.size, s1.heap.objs.size + 1, s1.heap.objs.size + 2, s1.heap.objs.size + 3], _, _, H1, rfl, I2, turn4 ⟨Heap.lt_size ho1, Heap.lt_size ho2, Heap.lt_size ho3, Heap.lt_size ho4⟩, Z,
            fun c hcm => I1.fpOk (ch_mem hcm).1 (I1.hok.fresh (ch_mem hcm).1), q⟩
/-- a new tuple of the four items -/
def Y4 (xs ys zs ws : List V) : Nat → Hp → V → Hp → Prop := fun i H v H' => ∃ T x y z u, v = .ref T ∧ H T = none ∧ H' = upd H T (.tup [x, y, z, u]) ∧ xs[i]? = some x ∧ ys[i]? = some y ∧ zs[i]? = some z ∧ ws[i]? = some u
theorem walk4 {K : PySem.W.Frag} {a b c d : Addr} {xs ys zs ws : List V} {n : Nat} (h1 : xs.length = n) (h2 : ys.length = n) (h3 : zs.length = n) (h4 : ws.length = n) : Walk (It4 K a b c d) n (fun H => SqT K H a xs ∧ SqT K H b ys ∧ SqT K H c zs ∧ SqT K H d ws) (Y4 xs ys zs ws) := by
  refine ⟨fun i _ hi q => ?_, fun _ q => ⟨xs, q.1, by omega⟩, fun i H v H' _ q y => ?_⟩
  · exact ⟨xs, ys, zs, ws, xs[i]'(by omega), ys[i]'(by omega), zs[i]'(by omega), ws[i]'(by omega), q.1, q.2.1, q.2.2.1, q.2.2.2, List.getElem?_eq_getElem _, List.getElem?_eq_getElem _, List.getElem?_eq_getElem _, List.getElem?_eq_getElem _⟩
  · obtain ⟨T, x, y, z, u, e1, e2, e3, e4, e5, e6, e7⟩ := y
    exact ⟨T, x, y, z, u, e1, e2, e3, e4 xs q.1, e5 ys q.2.1, e6 zs q.2.2.1, e7 ws q.2.2.2⟩
end KZ
end
section
set_option Elab.async false
set_option linter.all false
set_option maxRecDepth 100000
set_option maxHeartbeats 4000000
namespace KR
open PySem PySem.Spec PyProof.Rows L2 C8
def dWo (x : K40.Wo) : PyData := .tuple [dTop x.1, dTop x.2.1, dStks x.2.2]
def dDW (p : Option Int × List K40.Mv) : PyData := .tuple [dTop p.1, .tuple (p.2.map dMv)]
def fFl (e : Addr) (l : Int) : List (Str × V) := [("eater", .ref e), ("letters", .int l), ("ways", .int 2)]
theorem fFl_eater {e : Addr} {l : Int} : (fFl e l).lookup ("eater" : Str) = some (V.ref e) := by kernel_rfl
theorem fFl_letters {e : Addr} {l : Int} : (fFl e l).lookup ("letters" : Str) = some (V.int l) := by kernel_rfl
theorem fFl_ways {e : Addr} {l : Int} : (fFl e l).lookup ("ways" : Str) = some (V.int 2) := by kernel_rfl
theorem topV_rp {H : Hp} (t : Option Int) : Rp H (topV t) (dTop t) := by
  cases t with
  | none => exact .non
  | some n => exact .int n
theorem wo_parts {H : Hp} {v : V} {x : K40.Wo} (h : Rp H v (dWo x)) : ∃ (a t : Addr) (ts : List V), v = .ref a ∧ H a = some (.tup [topV x.1, topV x.2.1, .ref t]) ∧ H t = some (.tup ts) ∧ Ra H ts (x.2.2.map dStk) := by
  obtain ⟨a, xs, rfl, ha, hx⟩ := Rp.tup_inv (show Rp H v (.tuple [dTop x.1, dTop x.2.1, dStks x.2.2]) from h)
  cases hx with
  | cons r1 t1 => cases t1 with
    | cons r2 t2 => cases t2 with
      | cons r3 t3 =>
        cases t3
        obtain ⟨t, ts, rfl, ht, hts⟩ := Rp.tup_inv (show Rp H _ (.tuple (x.2.2.map dStk)) from r3)
        rw [dTop_v r1, dTop_v r2] at ha
        exact ⟨a, t, ts, rfl, ha, ht, hts⟩
theorem wo_mk {H : Hp} {a t : Addr} {x : K40.Wo} (h : H a = some (.tup [topV x.1, topV x.2.1, .ref t])) (ht : Rp H (.ref t) (dStks x.2.2)) : Rp H (.ref a) (dWo x) :=
  .tup h (.cons (topV_rp _) (.cons (topV_rp _) (.cons ht .nil)))
section
variable {P : Program} {w : World} {K : PySem.W.Frag} {mg : Str → Option Value} {base : Heap} {CE CR CF CB c Pt : Addr} {X : Cx}
/-! ### tops_of -/
def spTopsOf : Sp := fun vs H Q _ => ∃ (t : Addr) (ts : List V) (ss : List (List Int)), vs = [.ref t] ∧ H t = some (.tup ts) ∧ Ra H ts (ss.map dStk) ∧ ss.length ≤ 1000 ∧ ∀ L ys H', Same H H' → H' L = some (.lst ys) → Ra H' ys ((ss.map List.head?).map dTop) → Q (.ref L) H'
theorem c_tops_of (T : Tx K mg CE CR CF CB) : Cal P w K mg base 1 "tops_of" spTopsOf [] := by
  refine cal_of (N := ["stacks", "stack"]) (ps := ["stacks"]) T.tops_of (by decide +kernel) (fun vs H Q E h => ?_) (fun _ _ _ _ _ _ us hl => match us, hl with | [_], _ => rfl) (fun cdv f A outer s H vs Q E hr h => ?_)
  · obtain ⟨t, ts, ss, rfl, _⟩ := h
    rfl
  · obtain ⟨t, ts, ss, rfl, ht, hts, hl, k⟩ := h
    have nd : (["stacks", "stack"] : List Str).Nodup := by decide +kernel
    have hu := hr.units
    have lt := hts.len
    rw [List.length_map] at lt
    refine ⟨_, pss_one (ps_ret (pe_lc (own := [("stack", 1)]) (g := gName 1) (tt := tYes) rfl nd (pi_tup (pv 0)) (blkOk_by (N := ["stacks", "stack"]) (sc := fnScope sTopsOf) (by decide +kernel)) (fun _ _ _ _ _ => pg_name (i := 1) nd rfl (Or.inl rfl)) (fun _ _ _ _ _ => pts_nil)
        (fun _ _ _ _ _ => pe_ifExp (pt_cmpR (r := rNeD K) (op_neD hu) (pv 1) (pe_tup pa_nil) (nomark _)) (pe_ixT (pv 1) pe_int) pe_non))), ?_⟩
    refine ⟨_, rfl, t, rfl, ⟨ts, SqT.of ht⟩, fun D hD => ?_⟩
    refine lc_pure (walk_tup (xs := ts)) hD (by rw [lt]; exact Nat.le_trans hl (by decide)) (fun H2 s2 => SqT.of (s2 _ _ ht)) (fun i H x H' y => yat_same y) (fun i y _ => ∃ z, ss[i]? = some z ∧ y = topV z.head?) (fun _ _ _ _ _ e => e)
      (fun i x H2 H3 hi s2 y Qy hq => ?_) (fun H2 ys s2 hL hl hr2 => ?_)
    · obtain ⟨rfl, hx⟩ := y
      obtain ⟨z, hz, rz⟩ := Ra.map_get hts hx
      obtain ⟨sa, rfl, hsa⟩ := stk_parts (rz.sm s2)
      refine ⟨rfl, _, rfl, Nat.zero_le _, fun p hp => ⟨dStk z, .tuple [], ((stk_mk hsa).sm (Same.new hp)).dp, (Rp.tup upd_same .nil : Rp _ (.ref p) (.tuple [])).dp, shaped_stk z, by decide +kernel, _, rfl, ?_⟩⟩
      rw [eqv_nil]
      cases z with
      | nil => exact iteF (hq _ _ (Same.new hp) ⟨[], hz, rfl⟩)
      | cons n z => exact iteT ⟨_, rfl, sa, _, 0, _, rfl, rfl, SqT.of (Same.new hp _ _ hsa), atI_nat (j := 0) (by rfl), hq _ _ (Same.new hp) ⟨n :: z, hz, rfl⟩⟩
    · refine k D ys H2 s2 hL (Ra.of_map (by rw [hl, List.length_map, lt]) fun i v hv => ?_)
      obtain ⟨z, hz, rfl⟩ := hr2 i v hv
      exact ⟨z.head?, by rw [List.getElem?_map, hz]; rfl, topV_rp _⟩
/-! ### a fed row as an object -/
structure FedAt (P : Program) (w : World) (CE CF : Addr) (H : Hp) (x : Addr) (E : K40.Eat) : Prop where
  ex : ∃ (dx e : Addr), H x = some (.ins CF dx (fFl e E.letters)) ∧ EatAt P w CE H e E
theorem FedAt.kp {H H' : Hp} {x : Addr} {E : K40.Eat} (h : FedAt P w CE CF H x E) (e : Kp H H') : FedAt P w CE CF H' x E := by
  obtain ⟨dx, a, h1, h2⟩ := h.ex
  exact ⟨dx, a, e.ins h1, h2.kp e⟩
theorem FedAt.sm {H H' : Hp} {x : Addr} {E : K40.Eat} (h : FedAt P w CE CF H x E) (e : Same H H') : FedAt P w CE CF H' x E := h.kp (Kp.of e)
def spFedInit (P : Program) (w : World) (CE CF : Addr) : Sp := fun vs H Q _ => ∃ (x dx e : Addr) (E : K40.Eat), vs = [.ref x, .ref e] ∧ H x = some (.ins CF dx []) ∧ EatAt P w CE H e E ∧ ∀ H', FedAt P w CE CF H' x E → Fr [x] H H' → Q .non H'
theorem c_fed_init (T : Tx K mg CE CR CF CB) : Mak P w K mg base 2 "Fed" CF (spFedInit P w CE CF) [] := by
  have G1 : Cal P w K mg base 1 "need_eater" (spNeedEater CE) [.str "eater"] := c_need_eater1 T
  refine mak_of (N := ["self", "eater"]) (ps := ["self", "eater"]) T.fed_init (by decide +kernel) (fun vs H Q E h => ?_) (fun _ _ _ _ _ _ us hl => match us, hl with | [_, _], _ => rfl) (fun cdv f A outer s H vs Q E hr h => ?_)
  · obtain ⟨x, dx, e, E, rfl, _⟩ := h
    rfl
  · obtain ⟨x, dx, e, E, rfl, hx, hE, k⟩ := h
    obtain ⟨dxE, rE, yE, dE, xsE, e1, e2, e3, e4, e5⟩ := hE.ex
    refine ⟨_, pss_cons (ps_expr (pe_c G1 hr (by decide) rfl (pa_cons (pv 1) pa_nil)))
      (pss_cons (ps_fld (pv 0) (pv 1) rfl)
      (pss_one (ps_asg (pe_tup (pa_cons (pe_fld (pv 1) rfl) (pa_cons (pe_con T (.int 2)) pa_nil))) (pg_tup (n := 2) rfl (pgs_cons (pg_fld (pv 0) (fun _ => rfl)) (pgs_cons (pg_fld (pv 0) (fun _ => rfl)) pgs_nil)))))), ?_⟩
    have nex : e ≠ x := ne_of_kinds e1 hx (by intro z; injection z with z1 z2 z3; exact absurd (congrArg List.length z3) (by simp [eFl]))
    refine ⟨_, rfl, e, dxE, _, _, rfl, e1, ?_⟩
    refine ⟨_, rfl, _, rfl, x, CF, dx, [], rfl, hx, T.fed.cl, T.noF "eater" (by decide +kernel), by decide, ?_⟩
    have he1 : upd H x (.ins CF dx (putF "eater" (.ref e) [])) e = some (.ins CE dxE (eFl E.letters E.states (E.stacks : Int) rE yE dE)) := by rw [upd_ne nex]; exact e1
    refine ⟨_, rfl, e, CE, dxE, _, _, rfl, he1, T.eater.cl, T.noE "letters" (by decide +kernel), eFl_letters, by show 2 ≤ sizeLine; decide, fun q nq => ?_⟩
    have qx : q ≠ x := fun z => by rw [z, upd_same] at nq; cases nq
    refine ⟨q, _, rfl, SqT.of upd_same, rfl, _, _, rfl, _, rfl, x, CF, dx, _, rfl, by rw [upd_ne qx.symm, upd_same], T.fed.cl, T.noF "letters" (by decide +kernel), by show 1 < 1000; decide, _, _, rfl, _, rfl, x, CF, dx, _, rfl, upd_same, T.fed.cl, T.noF "ways" (by decide +kernel), by rw [fl_put (by kernel_rfl)]; show 2 < 1000; decide, rfl, ?_⟩
    have f1 : putF "ways" (.int 2) (putF "letters" (.int E.letters) (putF "eater" (.ref e) [])) = fFl e E.letters := by kernel_rfl
    rw [f1]
    have m : x ∈ [x] := List.mem_singleton.mpr rfl
    have nq' : upd H x (.ins CF dx (putF "eater" (.ref e) [])) q = none := nq
    have fr : Fr [x] H (upd (upd (upd (upd H x (.ins CF dx (putF "eater" (.ref e) []))) q (.tup [V.int E.letters, V.int 2])) x (.ins CF dx (putF "letters" (.int E.letters) (putF "eater" (.ref e) [])))) x (.ins CF dx (fFl e E.letters))) := by
      have hq0 : H q = none := by rw [upd_ne qx] at nq'; exact nq'
      exact (((fr_set (x := x)).new hq0).set m).set m
    refine k _ ⟨dx, e, upd_same, ?_⟩ fr
    -- the eater is as it was
    have off : ∀ {b : Addr}, b ≠ x → b ∉ [x] := fun n z => n (List.mem_singleton.mp z)
    have et : Et H _ := Fr.et fr fun y hy zs z => by
      rw [List.mem_singleton.mp hy, hx] at z
      cases z
    obtain ⟨o, o1, o2, o3⟩ := e2
    obtain ⟨ps, b1, b2, b3⟩ := e5
    exact ⟨dxE, rE, yE, dE, xsE, fr _ _ e1 (off nex), ⟨o, o1, o2, fr _ _ o3 (off (ne_of_kinds o3 hx (by intro z; cases z)))⟩, e3.mono et, et _ _ e4, ⟨ps, fr _ _ b1 (off (ne_of_kinds b1 hx (by intro z; unfold BookO at z; cases z))), b2, b3.mono et⟩⟩
/-! ### begin, done -/
def spFedBegin (P : Program) (w : World) (CE CF : Addr) : Sp := fun vs H Q _ => ∃ (x : Addr) (E : K40.Eat) (l : Int), vs = [.ref x, .int l] ∧ FedAt P w CE CF H x E ∧ K40.Ok E ∧ ∀ u H', Same H H' → Rp H' u (dWo ((K40.rowFed E).beg l)) → Q u H'
theorem c_fed_begin (T : Tx K mg CE CR CF CB) : Met P w K mg base 1 CF "begin" (spFedBegin P w CE CF) [] := by
  refine met_of (N := ["self", "letter"]) (ps := ["self", "letter"]) T.fed_begin (by decide +kernel) (fun vs H Q E h => ?_) (fun _ _ _ _ _ _ us hl => match us, hl with | [_, _], _ => rfl) (fun cdv f A outer s H vs Q E hr h => ?_)
  · obtain ⟨x, E, l, rfl, _⟩ := h
    rfl
  · obtain ⟨x, E, l, rfl, hF, oE, k⟩ := h
    obtain ⟨dx, e, h1, hE⟩ := hF.ex
    obtain ⟨dxE, rE, yE, dE, xsE, e1, e2, e3, e4, e5⟩ := hE.ex
    refine ⟨_, pss_one (ps_ret (pe_tup (pa_cons (pv 1) (pa_cons pe_int (pa_cons (pe_op op_repN (pe_tup (pa_cons (pe_tup pa_nil) pa_nil)) (pe_fld (pe_fld (pv 0) rfl) rfl)) pa_nil))))), ?_⟩
    refine ⟨_, rfl, Nat.zero_le _, fun p0 hp0 => ⟨by show 1 ≤ sizeLine; decide, fun p1 hp1 => ?_⟩⟩
    have s1 : Same H (upd (upd H p0 (.tup [])) p1 (.tup [V.ref p0])) := same_tr (Same.new hp0) (Same.new hp1)
    refine ⟨_, rfl, x, CF, dx, _, _, rfl, s1 _ _ h1, T.fed.cl, T.noF "eater" (by decide +kernel), fFl_eater, e, CE, dxE, _, _, rfl, s1 _ _ e1, T.eater.cl, T.noE "stacks" (by decide +kernel), eFl_stacks, p1, E.stacks, _, rfl, rfl, upd_same, oE.k, fun p2 H2 s2 hp2 => ?_⟩
    refine ⟨by show 3 ≤ sizeLine; decide, fun p3 hp3 => k _ _ (same_tr (same_tr s1 s2) (Same.new hp3)) ?_⟩
    have rz : Rp H2 (.ref p0) (dStk []) := (Rp.tup (s2 _ _ (Same.new hp1 _ _ upd_same)) .nil : Rp H2 (.ref p0) (.tuple []))
    exact wo_mk (x := (some l, some 0, List.replicate E.stacks [])) upd_same ((stks_nil hp2 rz).sm (Same.new hp3))
theorem mvs_stay {H : Hp} {a : Addr} {n : Nat} (h : H a = some (.tup (List.replicate n V.non))) : Rp H (.ref a) (.tuple ((List.replicate n K40.Mv.stay).map dMv)) := by
  refine .tup h ?_
  rw [List.map_replicate]
  clear h
  induction n with
  | zero => exact .nil
  | succ n ih => exact .cons .non ih
def spFedDone (P : Program) (w : World) (CE CF : Addr) : Sp := fun vs H Q _ => ∃ (x : Addr) (E : K40.Eat) (v : V) (y : K40.Wo), vs = [.ref x, v] ∧ FedAt P w CE CF H x E ∧ K40.Ok E ∧ Rp H v (dWo y) ∧ y.2.2.length ≤ 2 ∧ ∀ u H', Same H H' → Rp H' u (dDW (K40.doneW E y)) → Q u H'
theorem c_fed_done (T : Tx K mg CE CR CF CB) : Met P w K mg base 2 CF "done" (spFedDone P w CE CF) [] := by
  have G1 : Cal P w K mg base 1 "done_by" (spDoneBy P w CE) [] := c_done_by T
  have G2 : Cal P w K mg base 1 "tops_of" spTopsOf [] := c_tops_of T
  refine met_of (N := ["self", "worth", "letter", "state", "stacks", "stay", "found"]) (ps := ["self", "worth"]) T.fed_done (by decide +kernel) (fun vs H Q E h => ?_) (fun _ _ _ _ _ _ us hl => match us, hl with | [_, _], _ => rfl) (fun cdv f A outer s H vs Q E hr h => ?_)
  · obtain ⟨x, E, v, y, rfl, _⟩ := h
    rfl
  · obtain ⟨x, E, v, y, rfl, hF, oE, hv, hy, k⟩ := h
    have nd : (["self", "worth", "letter", "state", "stacks", "stay", "found"] : List Str).Nodup := by decide +kernel
    obtain ⟨dx, e, h1, hE⟩ := hF.ex
    obtain ⟨a, t, ts, rfl, ha, ht, hts⟩ := wo_parts hv
    have lt := hts.len
    rw [List.length_map] at lt
    refine ⟨_, pss_cons (ps_asg (pv 1) (pg_tup (n := 3) rfl (pgs_cons (pg_name (i := 2) nd rfl (Or.inl rfl)) (pgs_cons (pg_name (i := 3) nd rfl (Or.inl rfl)) (pgs_cons (pg_name (i := 4) nd rfl (Or.inl rfl)) pgs_nil)))))
      (pss_cons (ps_set (i := 5) nd rfl (Or.inl rfl) (pe_op op_repN (pe_tup (pa_cons pe_non pa_nil)) (pe_len T (pv 4))))
      (pss_cons (ps_if (pt_cmp (pc_isN (pv 2))) (pss_one (ps_ret (pe_tup (pa_cons (pv 3) (pa_cons (pv 5) pa_nil))))) pss_nil)
      (pss_cons (ps_set (i := 6) nd rfl (Or.inl rfl) (pe_c G1 hr (by decide) rfl (pa_cons (pe_fld (pv 0) rfl) (pa_cons (pv 3) (pa_cons (pv 2) (pa_cons (pe_c G2 hr (by decide) rfl (pa_cons (pv 4) pa_nil)) pa_nil))))))
      (pss_one (ps_ret (pe_ifExp (pt_cmp (pc_isN (pv 6))) (pe_tup (pa_cons pe_non (pa_cons (pv 5) pa_nil))) (pv 6))))))), ?_⟩
    refine ⟨_, rfl, a, _, rfl, SqT.of ha, rfl, _, _, rfl, _, _, rfl, _, _, rfl, rfl, ?_⟩
    refine ⟨by show 1 ≤ sizeLine; decide, fun p0 hp0 => ⟨_, rfl, t, ts, rfl, .inr (SqT.of (Same.new hp0 _ _ ht)), p0, ts.length, _, rfl, rfl, upd_same, by omega, fun p1 H1 s1' hp1 => ?_⟩⟩
    have s1 : Same H H1 := same_tr (Same.new hp0) s1'
    have rstay := mvs_stay hp1
    rw [lt] at rstay
    refine ⟨_, rfl, ?_⟩
    cases hl : y.1 with
    | none =>
      refine ⟨true, rfl, iteT ⟨_, rfl, _, rfl, by show 2 ≤ sizeLine; decide, fun p2 hp2 => k _ _ (same_tr s1 (Same.new hp2)) ?_⟩⟩
      have ed : K40.doneW E y = (y.2.1, List.replicate y.2.2.length .stay) := by
        unfold K40.doneW
        rw [hl]
      rw [ed]
      exact .tup upd_same (.cons (topV_rp _) (.cons (rstay.sm (Same.new hp2)) .nil))
    | some l =>
      refine ⟨false, rfl, iteF ?_⟩
      refine ⟨_, rfl, x, CF, dx, _, _, rfl, s1 _ _ h1, T.fed.cl, T.noF "eater" (by decide +kernel), fFl_eater, _, rfl, _, rfl, _, rfl, t, ts, y.2.2, rfl, s1 _ _ ht, hts.sm s1, by omega, fun L ys H2 s2 hL hys => ?_⟩
      refine ⟨e, L, E, y.2.1, l, ys, y.2.2.map List.head?, rfl, (hE.sm s1).sm s2, oE, hL, hys, fun v H3 s3 hv3 => ?_⟩
      have s03 := same_tr (same_tr s1 s2) s3
      have rstay3 := (rstay.sm s2).sm s3
      refine ⟨_, rfl, ?_⟩
      cases hd : K40.doneBy E y.2.1 l (y.2.2.map List.head?) with
      | none =>
        rw [hd] at hv3
        have hv3 : v = .non := hv3
        subst hv3
        refine ⟨true, rfl, iteT ⟨_, rfl, by show 2 ≤ sizeLine; decide, fun p2 hp2 => k _ _ (same_tr s03 (Same.new hp2)) ?_⟩⟩
        have ed : K40.doneW E y = (none, List.replicate y.2.2.length .stay) := by
          unfold K40.doneW
          rw [hl]
          simp only [hd]
        rw [ed]
        exact .tup upd_same (.cons .non (.cons (rstay3.sm (Same.new hp2)) .nil))
      | some d =>
        rw [hd] at hv3
        have hv3 : Rp H3 v (dDon d) := hv3
        have ed : K40.doneW E y = (some d.st, d.mvs) := by
          unfold K40.doneW
          rw [hl]
          simp only [hd]
        obtain ⟨da, dt, ds, rfl, d1, d2, d3⟩ := don_parts hv3
        refine ⟨false, rfl, iteF ⟨_, rfl, k _ _ s03 ?_⟩⟩
        rw [ed]
        exact hv3
end
end KR
end
section
set_option Elab.async false
set_option linter.all false
set_option maxRecDepth 100000
set_option maxHeartbeats 4000000
namespace KR
open PySem PySem.Spec PyProof.Rows L2 C8
def GoodW (E : K40.Eat) (b : Nat) (y : K40.Wo) : Prop := y.2.2.length = E.stacks ∧ ∀ z ∈ y.2.2, z.length ≤ b
def GoodO (E : K40.Eat) (b : Nat) : Option K40.Wo → Prop
  | none => True
  | some y => GoodW E b y
def dOW : Option K40.Wo → PyData
  | none => .none
  | some y => dWo y
theorem doneW_len {E : K40.Eat} (oE : K40.Ok E) {y : K40.Wo} (h : y.2.2.length = E.stacks) : (K40.doneW E y).2.length = E.stacks := by
  unfold K40.doneW
  cases y.1 with
  | none => simp [h]
  | some l =>
    simp only
    cases hd : K40.doneBy E y.2.1 l (y.2.2.map List.head?) with
    | none => simp [h]
    | some d =>
      simp only
      cases hs : y.2.1 with
      | none => rw [hs] at hd; cases hd
      | some q =>
        rw [hs] at hd
        have hd : K40.look E.rules ⟨q, l, y.2.2.map List.head?⟩ = some d := hd
        exact (oE.ru _ ((K40.look_some oE.nd).mp hd)).nm
theorem parts_len {E : K40.Eat} (oE : K40.Ok E) {left : Option K40.Wo} {own : K40.Wo} (h : own.2.2.length = E.stacks) : (K40.partsOf E left own).2.length = E.stacks := by
  cases left with
  | none => exact doneW_len oE h
  | some l => exact List.length_replicate
theorem lefts_len {E : K40.Eat} {b : Nat} {left : Option K40.Wo} (h : GoodO E b left) : (K40.leftsOf E left).length = E.stacks := by
  cases left with
  | none => exact List.length_replicate
  | some l =>
    show (l.2.2.map some).length = _
    rw [List.length_map]
    exact h.1
theorem rights_len {E : K40.Eat} {b : Nat} {r : Option K40.Wo} (h : GoodO E b r) : (K40.rightsOf E r).length = E.stacks := by
  cases r with
  | none => exact List.length_replicate
  | some l => exact h.1
theorem cut_len (f r : List Int) (own : List Int) (b : Nat) (h : f.length ≤ b + 1) : (if own.length ≤ 1 then f ++ r.take 1 else f).length ≤ b + 2 := by
  split
  · rw [List.length_append, List.length_take]; omega
  · omega
theorem spread_len (own : List Int) (left : Option (List Int)) (right : List Int) (mv : K40.Mv) (b : Nat) (ho : own.length ≤ b) : (K40.spread own left right mv).length ≤ b + 2 := by
  have h0 : (if own.length = 3 then own.dropLast else own).length ≤ b := by
    split
    · rw [List.length_dropLast]; omega
    · exact ho
  cases left with
  | none => exact cut_len _ right own b (Nat.le_trans (moved_len _ _) (Nat.succ_le_succ h0))
  | some l =>
    refine cut_len (if l.length ≤ 1 then (if own.length = 3 then own.dropLast else own).drop 1 else if l.length = 3 then (l.drop 2) ++ (if own.length = 3 then own.dropLast else own) else (if own.length = 3 then own.dropLast else own)) right own b ?_
    by_cases h1 : l.length ≤ 1
    · rw [if_pos h1, List.length_drop]; omega
    · rw [if_neg h1]
      by_cases h3 : l.length = 3
      · rw [if_pos h3, List.length_append, List.length_drop]; omega
      · rw [if_neg h3]; omega
theorem zip4_all {E : K40.Eat} {b : Nat} : ∀ (os : List (List Int)) (ls : List (Option (List Int))) (rs : List (List Int)) (ms : List K40.Mv), (∀ z ∈ os, z.length ≤ b) → ∀ z ∈ K40.zip4 os ls rs ms, z.length ≤ b + 2
  | [], _, _, _, _, z, hz => by simp [K40.zip4] at hz
  | o :: os, [], _, _, _, z, hz => by simp [K40.zip4] at hz
  | o :: os, l :: ls, [], _, _, z, hz => by simp [K40.zip4] at hz
  | o :: os, l :: ls, r :: rs, [], _, z, hz => by simp [K40.zip4] at hz
  | o :: os, l :: ls, r :: rs, m :: ms, h, z, hz => by
    have hz : z ∈ K40.spread o l r m :: K40.zip4 os ls rs ms := hz
    rcases List.mem_cons.mp hz with e | hz
    · rw [e]
      exact spread_len _ _ _ _ _ (h o (List.mem_cons_self ..))
    · exact zip4_all (E := E) os ls rs ms (fun y hy => h y (List.mem_cons_of_mem _ hy)) z hz
theorem good_next {E : K40.Eat} (oE : K40.Ok E) {b : Nat} {left : Option K40.Wo} {own : K40.Wo} {right : Option K40.Wo} (hl : GoodO E b left) (ho : GoodW E b own) (hr : GoodO E b right) : GoodW E (b + 2) (K40.nextW E left own right) :=
  ⟨K40.zip4_len ho.1 (lefts_len hl) (rights_len hr) (parts_len oE ho.1), fun z hz => zip4_all (E := E) _ _ _ _ ho.2 z hz⟩
section
variable {P : Program} {w : World} {K : PySem.W.Frag} {mg : Str → Option Value} {base : Heap} {CE CR CF CB c Pt : Addr} {X : Cx}
theorem asgH {te : TE} {g : TG} {D : Ends} {σ : L2.St} {H : Hp} {PV : V → Hp → Prop} (h : ValH te σ H PV) (q : ∀ v H', PV v H' → g v σ H' D.nx) : tAsg te g D σ H := h _ q
theorem dw_parts {H : Hp} {v : V} {p : Option Int × List K40.Mv} (h : Rp H v (dDW p)) : ∃ (a t : Addr) (ts : List V), v = .ref a ∧ H a = some (.tup [topV p.1, .ref t]) ∧ H t = some (.tup ts) ∧ Ra H ts (p.2.map dMv) := by
  obtain ⟨a, xs, rfl, ha, hx⟩ := Rp.tup_inv (show Rp H v (.tuple [dTop p.1, .tuple (p.2.map dMv)]) from h)
  cases hx with
  | cons r1 t1 => cases t1 with
    | cons r3 t3 =>
      cases t3
      obtain ⟨t, ts, rfl, ht, hts⟩ := Rp.tup_inv r3
      rw [dTop_v r1] at ha
      exact ⟨a, t, ts, rfl, ha, ht, hts⟩
/-- what stands on the right, stack by stack -/
theorem rights_read {E : K40.Eat} {σ : L2.St} {H : Hp} {Q : VK} {rv : V} {na : Addr} {right : Option K40.Wo} (h3 : σ[3]? = some (some rv)) (h7 : σ[7]? = some (some (.ref na))) (hr : Rp H rv (dOW right)) (hn : Rp H (.ref na) (dStks (List.replicate E.stacks [])))
    (k : ∀ (ra : Addr) (rs : List V), H ra = some (.tup rs) → Ra H rs ((K40.rightsOf E right).map dStk) → Q (.ref ra) H) : tIf (tB (tIsN (tVar 3))) (tVar 7) (tOp (rIxT K) (tVar 3) (tC (.int 2))) σ H Q := by
  cases right with
  | none =>
    obtain rfl := Rp.non_inv (show Rp H rv .none from hr)
    obtain ⟨a, ts, e, ha, hts⟩ := Rp.tup_inv (show Rp H (.ref na) (.tuple ((List.replicate E.stacks []).map dStk)) from hn)
    cases e
    exact ⟨_, h3, true, rfl, iteT ⟨_, h7, k na ts ha hts⟩⟩
  | some r =>
    obtain ⟨a, t, ts, rfl, ha, ht, hts⟩ := wo_parts (show Rp H rv (dWo r) from hr)
    exact ⟨_, h3, false, rfl, iteF ⟨_, h3, a, _, 2, _, rfl, rfl, SqT.of ha, rfl, k t ts ht hts⟩⟩
theorem non_opts {H : Hp} {a : Addr} {n : Nat} (h : H a = some (.tup (List.replicate n V.non))) : Ra H (List.replicate n V.non) ((List.replicate n (none : Option (List Int))).map dOpt) := by
  rw [List.map_replicate]
  clear h
  induction n with
  | zero => exact .nil
  | succ n ih => exact .cons .non ih
def spFedNext (P : Program) (w : World) (CE CF : Addr) : Sp := fun vs H Q _ => ∃ (x : Addr) (E : K40.Eat) (lv ov rv : V) (left : Option K40.Wo) (own : K40.Wo) (right : Option K40.Wo), vs = [.ref x, lv, ov, rv] ∧ FedAt P w CE CF H x E ∧ K40.Ok E ∧ Rp H lv (dOW left) ∧ Rp H ov (dWo own) ∧ Rp H rv (dOW right) ∧
  GoodO E 900 left ∧ GoodW E 900 own ∧ GoodO E 900 right ∧ ∀ u H', Same H H' → Rp H' u (dWo (K40.nextW E left own right)) → Q u H'
theorem c_fed_next (T : Tx K mg CE CR CF CB) : Met P w K mg base 3 CF "next" (spFedNext P w CE CF) [] := by
  have G1 : Met P w K mg base 2 CF "done" (spFedDone P w CE CF) [] := c_fed_done T
  have G2 : Cal P w K mg base 2 "spread" spSpread [] := c_spread T
  refine met_of (N := ["self", "left", "own", "right", "state", "moves", "stacks", "none", "lefts", "mine", "its", "far", "move"]) (ps := ["self", "left", "own", "right"]) T.fed_next (by decide +kernel) (fun vs H Q E h => ?_) (fun _ _ _ _ _ _ us hl => match us, hl with | [_, _, _, _], _ => rfl) (fun cdv f A outer s H vs Q E hr h => ?_)
  · obtain ⟨x, E, lv, ov, rv, left, own, right, rfl, _⟩ := h
    rfl
  · obtain ⟨x, E, lv, ov, rv, left, own, right, rfl, hF, oE, hl, ho, hri, gl, go, gr, k⟩ := h
    have nd : (["self", "left", "own", "right", "state", "moves", "stacks", "none", "lefts", "mine", "its", "far", "move"] : List Str).Nodup := by decide +kernel
    have k2 := oE.k
    refine ⟨_, pss_cons (ps_asg (pe_ifExp (pt_cmp (pc_isN (pv 1))) (pe_mt G1 hr (by decide) (pv 0) (pa_cons (pv 2) pa_nil)) (pe_tup (pa_cons pe_int (pa_cons (pe_op op_repN (pe_tup (pa_cons pe_non pa_nil)) (pe_fld (pe_fld (pv 0) rfl) rfl)) pa_nil)))) (pg_tup (n := 2) rfl (pgs_cons (pg_name (i := 4) nd rfl (Or.inl rfl)) (pgs_cons (pg_name (i := 5) nd rfl (Or.inl rfl)) pgs_nil))))
      (pss_cons (ps_par (i := 6) (j := 7) rfl nd rfl rfl (by decide) rfl rfl (pa_cons (pe_lst pa_nil) (pa_cons (pe_op op_repN (pe_tup (pa_cons (pe_tup pa_nil) pa_nil)) (pe_fld (pe_fld (pv 0) rfl) rfl)) pa_nil)) rfl)
      (pss_cons (ps_set (i := 8) nd rfl (Or.inl rfl) (pe_ifExp (pt_cmp (pc_isN (pv 1))) (pe_op op_repN (pe_tup (pa_cons pe_non pa_nil)) (pe_fld (pe_fld (pv 0) rfl) rfl)) (pe_ixT (pv 1) pe_int)))
      (pss_cons (ps_for PassesOwn.never rfl (KZ.pi_zip4 rfl (T.free "zip" (by decide +kernel)) (pa_cons (pe_ixT (pv 2) pe_int) (pa_cons (pv 8) (pa_cons (pe_ifExp (pt_cmp (pc_isN (pv 3))) (pv 7) (pe_ixT (pv 3) pe_int)) (pa_cons (pv 5) pa_nil))))) (pg_tup (n := 4) rfl (pgs_cons (pg_name (i := 9) nd rfl (Or.inl rfl)) (pgs_cons (pg_name (i := 10) nd rfl (Or.inl rfl)) (pgs_cons (pg_name (i := 11) nd rfl (Or.inl rfl)) (pgs_cons (pg_name (i := 12) nd rfl (Or.inl rfl)) pgs_nil)))))
        (pss_one (ps_expr (pe_bm PySem.F.plainAttrs_list PySem.F.slot_list_append PySem.F.type_list_append mt_append (pv 6) (pa_cons (pe_c G2 hr (by decide) rfl (pa_cons (pv 9) (pa_cons (pv 10) (pa_cons (pv 11) (pa_cons (pv 12) pa_nil))))) pa_nil)))))
      (pss_one (ps_ret (pe_tup (pa_cons (pe_ifExp (pt_cmp (pc_isN (pv 3))) pe_non (pe_ixT (pv 3) pe_int)) (pa_cons (pv 4) (pa_cons (pe_tupc T (pv 6)) pa_nil))))))))), ?_⟩
    obtain ⟨dx, e, h1, hE⟩ := hF.ex
    obtain ⟨dxE, rE, yE, dE, xsE, e1, e2, e3, e4, e5⟩ := hE.ex
    have cF := T.fed.cl
    have nF := T.noF
    have cE := T.eater.cl
    have nE := T.noE
    -- state, moves
    refine st_seq (asgH (PV := fun v H1 => Same H H1 ∧ Rp H1 v (dDW (K40.partsOf E left own))) (fun Q' hq => ?_) fun v H1 ⟨s1, r1⟩ => ?_)
    · cases left with
      | none =>
        obtain rfl := Rp.non_inv (show Rp H lv .none from hl)
        exact ⟨_, rfl, true, rfl, iteT ⟨_, rfl, x, dx, _, rfl, h1, by kernel_rfl, _, rfl, x, E, ov, own, rfl, hF, oE, ho, by rw [go.1]; exact k2, fun u H1 s1 ru => hq u H1 ⟨s1, ru⟩⟩⟩
      | some y =>
        obtain ⟨a, t, ts, rfl, ha, ht, hts⟩ := wo_parts (show Rp H lv (dWo y) from hl)
        refine ⟨_, rfl, false, rfl, iteF ⟨by show 1 ≤ sizeLine; decide, fun p0 hp0 => ?_⟩⟩
        have s0 : Same H (upd H p0 (.tup [V.non])) := Same.new hp0
        refine ⟨_, rfl, x, CF, dx, _, _, rfl, s0 _ _ h1, cF, nF "eater" (by decide +kernel), fFl_eater, e, CE, dxE, _, _, rfl, s0 _ _ e1, cE, nE "stacks" (by decide +kernel), eFl_stacks, p0, E.stacks, _, rfl, rfl, upd_same, k2, fun p1 H1 s1 hp1 => ⟨by show 2 ≤ sizeLine; decide, fun p2 hp2 => hq _ _ ⟨same_tr (same_tr s0 s1) (Same.new hp2), ?_⟩⟩⟩
        exact .tup upd_same (.cons (.int 0) (.cons ((mvs_stay hp1).sm (Same.new hp2)) .nil))
    obtain ⟨ma, mt, ms, rfl, hma, hmt, hms⟩ := dw_parts r1
    refine ⟨ma, _, rfl, SqT.of hma, rfl, _, _, rfl, _, _, rfl, rfl, ?_⟩
    -- stacks, none
    refine ⟨Nat.zero_le _, fun L hL => ⟨Nat.zero_le _, fun p0 hp0 => ⟨by show 1 ≤ sizeLine; decide, fun p1 hp1 => ?_⟩⟩⟩
    have s2 : Same H1 (upd (upd (upd H1 L (.lst [])) p0 (.tup [])) p1 (.tup [V.ref p0])) := same_tr (same_tr (Same.new hL) (Same.new hp0)) (Same.new hp1)
    have hL2 : upd (upd (upd H1 L (.lst [])) p0 (.tup [])) p1 (.tup [V.ref p0]) L = some (.lst []) := Same.new hp1 _ _ (Same.new hp0 _ _ upd_same)
    have nL : H L = none := free_of s1 hL
    have s02 := same_tr s1 s2
    refine ⟨_, rfl, x, CF, dx, _, _, rfl, s02 _ _ h1, cF, nF "eater" (by decide +kernel), fFl_eater, e, CE, dxE, _, _, rfl, s02 _ _ e1, cE, nE "stacks" (by decide +kernel), eFl_stacks, p1, E.stacks, _, rfl, rfl, upd_same, k2, fun na H3 s3 hna => ?_⟩
    have s03 := same_tr s02 s3
    have hL3 := s3 _ _ hL2
    have hnone : Rp H3 (.ref na) (dStks (List.replicate E.stacks [])) := stks_nil hna (Rp.tup (s3 _ _ (Same.new hp1 _ _ upd_same)) .nil : Rp H3 (.ref p0) (.tuple []))
    refine ⟨_, _, rfl, ?_⟩
    -- lefts
    dsimp only
    refine st_seq (asgH (PV := fun v H4 => Same H3 H4 ∧ ∃ (la : Addr) (ls : List V), v = .ref la ∧ H4 la = some (.tup ls) ∧ Ra H4 ls ((K40.leftsOf E left).map dOpt)) (fun Q' hq => ?_) fun v H4 ⟨s4, la, ls, ev, hla, hls⟩ => ?_)
    · cases left with
      | none =>
        obtain rfl := Rp.non_inv (show Rp H lv .none from hl)
        refine ⟨_, rfl, true, rfl, iteT ⟨by show 1 ≤ sizeLine; decide, fun q0 hq0 => ?_⟩⟩
        have s4 : Same H3 (upd H3 q0 (.tup [V.non])) := Same.new hq0
        refine ⟨_, rfl, x, CF, dx, _, _, rfl, s4 _ _ (s03 _ _ h1), cF, nF "eater" (by decide +kernel), fFl_eater, e, CE, dxE, _, _, rfl, s4 _ _ (s03 _ _ e1), cE, nE "stacks" (by decide +kernel), eFl_stacks, q0, E.stacks, _, rfl, rfl, upd_same, k2, fun q1 H4 s5 hq1 => hq _ _ ⟨same_tr s4 s5, q1, _, rfl, hq1, non_opts hq1⟩⟩
      | some y =>
        obtain ⟨a, t, ts, rfl, ha, ht, hts⟩ := wo_parts (show Rp H lv (dWo y) from hl)
        refine ⟨_, rfl, false, rfl, iteF ⟨_, rfl, a, _, 2, _, rfl, rfl, SqT.of (s03 _ _ ha), rfl, hq _ _ ⟨Same.refl _, t, ts, rfl, s03 _ _ ht, ?_⟩⟩⟩
        show Ra H3 ts ((y.2.2.map some).map dOpt)
        rw [List.map_map]
        exact hts.sm s03
    subst ev
    have s04 := same_tr s03 s4
    have hL4 := s4 _ _ hL3
    obtain ⟨oa, ot, ots, rfl, hoa, hot, hots⟩ := wo_parts (ho.sm s04)
    have lo := hots.len
    have ll := hls.len
    have lm := hms.len
    rw [List.length_map] at lo ll lm
    rw [go.1] at lo
    rw [lefts_len gl] at ll
    rw [parts_len oE go.1] at lm
    have hmt4 := s4 _ _ (s3 _ _ (s2 _ _ hmt))
    have hms4 := ((hms.sm s2).sm s3).sm s4
    -- the loop
    refine ⟨_, rfl, oa, _, 2, _, rfl, rfl, SqT.of hoa, rfl, _, rfl, ?_⟩
    refine rights_read (E := E) rfl rfl (hri.sm s04) (hnone.sm s4) fun ra rs hra hrs => ?_
    have lr := hrs.len
    rw [List.length_map, rights_len gr] at lr
    refine ⟨_, rfl, ot, la, ra, mt, ots, ls, rs, ms, rfl, SqT.of hot, SqT.of hla, SqT.of hra, SqT.of hmt4, ?_⟩
    refine for_it (KZ.walk4 (n := E.stacks) lo ll lr lm) (fun i σ H' => ∃ (ys : List V) (o1 o2 o3 o4 : Option V), σ = [some (.ref x), some lv, some (.ref oa), some rv, some (topV (K40.partsOf E left own).1), some (.ref mt), some (.ref L), some (.ref na), some (.ref la), o1, o2, o3, o4] ∧ Fr [L] H4 H' ∧ H' L = some (.lst ys) ∧ ys.length = i ∧
        ∀ (j : Nat) (v : V), ys[j]? = some v → ∃ z, (K40.zip4 own.2.2 (K40.leftsOf E left) (K40.rightsOf E right) (K40.partsOf E left own).2)[j]? = some z ∧ Rp H' v (dStk z))
      ⟨[], none, none, none, none, rfl, Fr.refl _ _, hL4, rfl, fun j v e => by simp at e⟩ (fun i σ H' _ ⟨ys, o1, o2, o3, o4, _, fr, _⟩ => ?_) (fun i xx σ H' H5 hi hPv hy => ?_) (fun σ H' hPv => ?_)
    · have off : ∀ {b : Addr} {zs : List V}, H4 b = some (.tup zs) → SqT K H' b zs := fun {b zs} h => SqT.of (fr _ _ h fun z => by rw [List.mem_singleton.mp z, hL4] at h; cases h)
      exact ⟨off hot, off hla, off hra, off hmt4⟩
    · obtain ⟨ys, o1, o2, o3, o4, rfl, fr, hL', hlen, hys⟩ := hPv
      obtain ⟨Z, x1, x2, x3, x4, rfl, hZ, rfl, q1, q2, q3, q4⟩ := hy
      obtain ⟨d1, b1, r1'⟩ := Ra.map_get hots q1
      obtain ⟨d2, b2, r2'⟩ := Ra.map_get hls q2
      obtain ⟨d3, b3, r3'⟩ := Ra.map_get hrs q3
      obtain ⟨d4, b4, r4'⟩ := Ra.map_get hms4 q4
      have et : Et H4 (upd H' Z (.tup [x1, x2, x3, x4])) := Et.trans (Fr.et fr fun y hy zs z => by rw [List.mem_singleton.mp hy, hL4] at z; cases z) (Et.new hZ)
      have sZ := Same.new (o := .tup [x1, x2, x3, x4]) hZ
      refine ⟨Z, _, rfl, SqT.of upd_same, rfl, _, _, rfl, _, _, rfl, _, _, rfl, _, _, rfl, rfl, ?_⟩
      refine ⟨_, rfl, .inl ⟨rfl, _, SqL.of (sZ _ _ hL')⟩, _, rfl, _, rfl, _, rfl, _, rfl, x1, x2, x3, x4, d1, d2, d3, d4, rfl, r1'.mono et, r2'.mono et, r3'.mono et, r4'.mono et, go.2 d1 (List.mem_of_getElem? b1), fun u H6 s6 ru => ?_⟩
      have hL6 := s6 _ _ (sZ _ _ hL')
      refine ⟨L, _, _, rfl, rfl, hL6, small1000 (by omega), ?_⟩
      refine ⟨ys ++ [u], _, _, _, _, rfl, ?_, upd_same, by rw [List.length_append, hlen]; rfl, fun j v ev => ?_⟩
      · exact ((fr.trans (Fr.of sZ)).trans (Fr.of s6)).set (List.mem_singleton.mpr rfl)
      · have nl : Nl H' (upd H6 L (.lst (ys ++ [u]))) := ((Nl.of sZ).trans (Nl.of s6)).trans (Nl.set hL6)
        rcases Nat.lt_or_ge j ys.length with q | q
        · rw [List.getElem?_append_left q] at ev
          obtain ⟨z, z1, z2⟩ := hys j v ev
          exact ⟨z, z1, z2.nl nl⟩
        · rw [List.getElem?_append_right q] at ev
          have hj : j - ys.length = 0 := by
            rcases Nat.eq_zero_or_pos (j - ys.length) with q0 | q0
            · exact q0
            · rw [List.getElem?_eq_none (by simp; omega)] at ev
              cases ev
          rw [hj] at ev
          have e' := Option.some.inj ev
          subst e'
          have ji : j = i := by omega
          subst ji
          exact ⟨_, K40.zip4_get b1 b2 b3 b4, ru.nl (Nl.set hL6)⟩
    · obtain ⟨ys, o1, o2, o3, o4, rfl, fr, hL', hlen, hys⟩ := hPv
      -- back
      have s0' : Same H H' := fun b o hb => fr b o (s04 _ _ hb) fun z => by
        rw [List.mem_singleton.mp z, nL] at hb
        cases hb
      have rz : Ra H' ys ((K40.nextW E left own right).2.2.map dStk) := Ra.of_map (by rw [hlen]; exact (K40.zip4_len go.1 (lefts_len gl) (rights_len gr) (parts_len oE go.1)).symm) hys
      cases right with
      | none =>
        obtain rfl := Rp.non_inv (show Rp H rv .none from hri)
        refine ⟨_, rfl, true, rfl, iteT ⟨_, rfl, _, rfl, L, ys, rfl, .inl ⟨SqL.of hL', fun p hp => ⟨by show 3 ≤ sizeLine; decide, fun p2 hp2 => k _ _ (same_tr (same_tr s0' (Same.new hp)) (Same.new hp2)) ?_⟩⟩⟩⟩
        exact wo_mk (x := K40.nextW E left own none) upd_same ((Rp.tup upd_same (rz.sm (Same.new hp)) : Rp _ (.ref p) (.tuple _)).sm (Same.new hp2))
      | some r =>
        obtain ⟨ra2, rt, rts, rfl, hra2, hrt, hrts⟩ := wo_parts (show Rp H rv (dWo r) from hri)
        refine ⟨_, rfl, false, rfl, iteF ⟨_, rfl, ra2, _, 0, _, rfl, rfl, SqT.of (s0' _ _ hra2), rfl, _, rfl, _, rfl, L, ys, rfl, .inl ⟨SqL.of hL', fun p hp => ⟨by show 3 ≤ sizeLine; decide, fun p2 hp2 => k _ _ (same_tr (same_tr s0' (Same.new hp)) (Same.new hp2)) ?_⟩⟩⟩⟩
        exact wo_mk (x := K40.nextW E left own (some r)) upd_same ((Rp.tup upd_same (rz.sm (Same.new hp)) : Rp _ (.ref p) (.tuple _)).sm (Same.new hp2))
end
end KR
end
section
set_option Elab.async false
set_option linter.all false
set_option maxRecDepth 100000
set_option maxHeartbeats 4000000
namespace KR
open PySem PySem.Spec PyProof.Rows L2 C8
theorem in_non (ms : List Int) : inV .non (ms.map V.int) = false := by
  unfold inV
  rw [List.any_map, List.any_eq_false]
  intro m _ e
  cases (show false = true from e)
theorem in_yes (E : K40.Eat) (o : Option Int) : inV (topV o) (E.yes.map V.int) = K40.yesOf E o := by
  cases o with
  | none => exact in_non _
  | some n => exact in_ints n _
theorem flat_top (o : Option Int) : flatV (topV o) = true := by cases o <;> rfl
def bFl (a b : Addr) (l : Int) : List (Str × V) := [("one", .ref a), ("other", .ref b), ("letters", .int l), ("ways", .int 2)]
theorem bFl_one {a b : Addr} {l : Int} : (bFl a b l).lookup ("one" : Str) = some (V.ref a) := by kernel_rfl
theorem bFl_other {a b : Addr} {l : Int} : (bFl a b l).lookup ("other" : Str) = some (V.ref b) := by kernel_rfl
theorem bFl_letters {a b : Addr} {l : Int} : (bFl a b l).lookup ("letters" : Str) = some (V.int l) := by kernel_rfl
theorem bFl_ways {a b : Addr} {l : Int} : (bFl a b l).lookup ("ways" : Str) = some (V.int 2) := by kernel_rfl
section
variable {P : Program} {w : World} {K : PySem.W.Frag} {mg : Str → Option Value} {base : Heap} {CE CR CF CB c Pt : Addr} {X : Cx}
def spFedSays (P : Program) (w : World) (CE CF : Addr) : Sp := fun vs H Q _ => ∃ (x : Addr) (E : K40.Eat) (v : V) (y : K40.Wo), vs = [.ref x, v] ∧ FedAt P w CE CF H x E ∧ K40.Ok E ∧ Rp H v (dWo y) ∧ y.2.2.length ≤ 2 ∧ ∀ H', Same H H' → Q (.bl ((K40.rowFed E).sys y)) H'
theorem c_fed_says (T : Tx K mg CE CR CF CB) : Met P w K mg base 3 CF "says" (spFedSays P w CE CF) [] := by
  have G1 : Met P w K mg base 2 CF "done" (spFedDone P w CE CF) [] := c_fed_done T
  refine met_of (N := ["self", "worth"]) (ps := ["self", "worth"]) T.fed_says (by decide +kernel) (fun vs H Q E h => ?_) (fun _ _ _ _ _ _ us hl => match us, hl with | [_, _], _ => rfl) (fun cdv f A outer s H vs Q E hr h => ?_)
  · obtain ⟨x, E, v, y, rfl, _⟩ := h
    rfl
  · obtain ⟨x, E, v, y, rfl, hF, oE, hv, hy, k⟩ := h
    obtain ⟨dx, e, h1, hE⟩ := hF.ex
    obtain ⟨dxE, rE, yE, dE, xsE, e1, e2, e3, e4, e5⟩ := hE.ex
    refine ⟨_, pss_one (ps_ret (pe_cmpR op_in_seq (pe_ixT (pe_mt G1 hr (by decide) (pv 0) (pa_cons (pv 1) pa_nil)) pe_int) (pe_fld (pe_fld (pv 0) rfl) rfl) rfl)), ?_⟩
    refine ⟨_, rfl, x, dx, _, rfl, h1, by kernel_rfl, _, rfl, x, E, v, y, rfl, hF, oE, hv, hy, fun u H1 s1 ru => ?_⟩
    obtain ⟨ma, mt, ms, rfl, hma, hmt, hms⟩ := dw_parts ru
    refine ⟨ma, _, 0, _, rfl, rfl, SqT.of hma, rfl, _, rfl, x, CF, dx, _, _, rfl, s1 _ _ h1, T.fed.cl, T.noF "eater" (by decide +kernel), fFl_eater, e, CE, dxE, _, _, rfl, s1 _ _ e1, T.eater.cl, T.noE "yes" (by decide +kernel), eFl_yes, yE, _, rfl, .inr (SqT.of (s1 _ _ e4)), flat_top _, flat_ints _, ?_⟩
    show Q (.bl (inV (topV (K40.doneW E y).1) (E.yes.map V.int))) H1
    rw [in_yes]
    exact k H1 s1
/-! ### both rows side by side -/
structure BothAt (P : Program) (w : World) (CE CF CB : Addr) (H : Hp) (x : Addr) (E F : K40.Eat) : Prop where
  ex : ∃ (dx a b : Addr), H x = some (.ins CB dx (bFl a b E.letters)) ∧ FedAt P w CE CF H a E ∧ FedAt P w CE CF H b F
theorem BothAt.kp {H H' : Hp} {x : Addr} {E F : K40.Eat} (h : BothAt P w CE CF CB H x E F) (e : Kp H H') : BothAt P w CE CF CB H' x E F := by
  obtain ⟨dx, a, b, h1, h2, h3⟩ := h.ex
  exact ⟨dx, a, b, e.ins h1, h2.kp e, h3.kp e⟩
/-- a fed row stays where one instance of another class is made -/
theorem fed_fr {H H' : Hp} {x a C dx : Addr} {fs : List (Str × V)} {E : K40.Eat} (h : FedAt P w CE CF H a E) (hx : H x = some (.ins C dx fs)) (hf : fs.length = 0) (fr : Fr [x] H H') : FedAt P w CE CF H' a E := by
  obtain ⟨dF, e, h1, h2⟩ := h.ex
  obtain ⟨dxE, rE, yE, dE, xsE, e1, e2, e3, e4, e5⟩ := h2.ex
  have off : ∀ {b : Addr}, b ≠ x → b ∉ [x] := fun n z => n (List.mem_singleton.mp z)
  have et : Et H H' := Fr.et fr fun y hy zs z => by
    rw [List.mem_singleton.mp hy, hx] at z
    cases z
  obtain ⟨o, o1, o2, o3⟩ := e2
  obtain ⟨ps, b1, b2, b3⟩ := e5
  have n1 : a ≠ x := ne_of_kinds h1 hx (by intro z; injection z with z1 z2 z3; rw [← z3] at hf; exact absurd hf (by simp [fFl]))
  have n2 : e ≠ x := ne_of_kinds e1 hx (by intro z; injection z with z1 z2 z3; rw [← z3] at hf; exact absurd hf (by simp [eFl]))
  exact ⟨dF, e, fr _ _ h1 (off n1), ⟨dxE, rE, yE, dE, xsE, fr _ _ e1 (off n2), ⟨o, o1, o2, fr _ _ o3 (off (ne_of_kinds o3 hx (by intro z; cases z)))⟩, e3.mono et, et _ _ e4, ⟨ps, fr _ _ b1 (off (ne_of_kinds b1 hx (by intro z; unfold BookO at z; cases z))), b2, b3.mono et⟩⟩⟩
def spBothInit (P : Program) (w : World) (CE CF CB : Addr) : Sp := fun vs H Q _ => ∃ (x dx a b : Addr) (E F : K40.Eat), vs = [.ref x, .ref a, .ref b] ∧ H x = some (.ins CB dx []) ∧ FedAt P w CE CF H a E ∧ FedAt P w CE CF H b F ∧ E.letters = F.letters ∧
  ∀ H', BothAt P w CE CF CB H' x E F → Fr [x] H H' → Q .non H'
theorem c_both_init (T : Tx K mg CE CR CF CB) : Mak P w K mg base 2 "Both" CB (spBothInit P w CE CF CB) [] := by
  have G1 : Cal P w K mg base 1 "need_row" (spNeedRow K CR) [] := c_need_row2 T
  refine mak_of (N := ["self", "one", "other"]) (ps := ["self", "one", "other"]) T.both_init (by decide +kernel) (fun vs H Q E h => ?_) (fun _ _ _ _ _ _ us hl => match us, hl with | [_, _, _], _ => rfl) (fun cdv f A outer s H vs Q E hr h => ?_)
  · obtain ⟨x, dx, a, b, E, F, rfl, _⟩ := h
    rfl
  · obtain ⟨x, dx, a, b, E, F, rfl, hx, hA, hB, hl, k⟩ := h
    obtain ⟨dA, eA, a1, a2⟩ := hA.ex
    obtain ⟨dB, eB, b1, b2⟩ := hB.ex
    have cF := T.fed.cl
    have nF := T.noF
    have cB := T.both.cl
    have nB := T.noB
    refine ⟨_, pss_cons (ps_expr (pe_c G1 hr (by decide) rfl (pa_cons (pv 1) (pa_cons pe_str pa_nil))))
      (pss_cons (ps_expr (pe_c G1 hr (by decide) rfl (pa_cons (pv 2) (pa_cons pe_str pa_nil))))
      (pss_cons (ps_if (pt_cmpR op_ne (pe_fld (pv 1) rfl) (pe_fld (pv 2) rfl) (nomark _)) pss_never pss_nil)
      (pss_cons (ps_if (pt_cmpR op_ne (pe_fld (pv 1) rfl) (pe_fld (pv 2) rfl) (nomark _)) pss_never pss_nil)
      (pss_one (ps_asg (pe_tup (pa_cons (pv 1) (pa_cons (pv 2) (pa_cons (pe_fld (pv 1) rfl) (pa_cons (pe_fld (pv 1) rfl) pa_nil))))) (pg_tup (n := 4) rfl (pgs_cons (pg_fld (pv 0) (fun _ => rfl)) (pgs_cons (pg_fld (pv 0) (fun _ => rfl)) (pgs_cons (pg_fld (pv 0) (fun _ => rfl)) (pgs_cons (pg_fld (pv 0) (fun _ => rfl)) pgs_nil)))))))))), ?_⟩
    refine ⟨_, rfl, a, CF, dA, _, _, rfl, a1, T.fed.ins, T.kFE, ?_⟩
    refine ⟨_, rfl, b, CF, dB, _, _, rfl, b1, T.fed.ins, T.kFE, ?_⟩
    refine ⟨_, rfl, a, CF, dA, _, _, rfl, a1, cF, nF "ways" (by decide +kernel), fFl_ways, _, rfl, b, CF, dB, _, _, rfl, b1, cF, nF "ways" (by decide +kernel), fFl_ways, rfl, false, congrArg V.bl (by simp), iteF ?_⟩
    refine ⟨_, rfl, a, CF, dA, _, _, rfl, a1, cF, nF "letters" (by decide +kernel), fFl_letters, _, rfl, b, CF, dB, _, _, rfl, b1, cF, nF "letters" (by decide +kernel), fFl_letters, rfl, false, congrArg V.bl (by rw [hl]; simp), iteF ?_⟩
    refine ⟨_, rfl, _, rfl, _, rfl, a, CF, dA, _, _, rfl, a1, cF, nF "letters" (by decide +kernel), fFl_letters, _, rfl, a, CF, dA, _, _, rfl, a1, cF, nF "ways" (by decide +kernel), fFl_ways, by show 4 ≤ sizeLine; decide, fun q nq => ?_⟩
    have s1 := Same.new (o := .tup [V.ref a, V.ref b, V.int E.letters, V.int 2]) nq
    refine ⟨q, _, rfl, SqT.of upd_same, rfl, _, _, rfl, _, rfl, x, CB, dx, [], rfl, s1 _ _ hx, cB, nB "one" (by decide +kernel), by decide, _, _, rfl, _, rfl, x, CB, dx, _, rfl, upd_same, cB, nB "other" (by decide +kernel), by show 1 < 1000; decide,
      _, _, rfl, _, rfl, x, CB, dx, _, rfl, upd_same, cB, nB "letters" (by decide +kernel), by rw [fl_put (by kernel_rfl)]; show 2 < 1000; decide, _, _, rfl, _, rfl, x, CB, dx, _, rfl, upd_same, cB, nB "ways" (by decide +kernel), by rw [fl_put (by kernel_rfl), fl_put (by kernel_rfl)]; show 3 < 1000; decide, rfl, ?_⟩
    have f1 : putF "ways" (.int 2) (putF "letters" (.int E.letters) (putF "other" (.ref b) (putF "one" (.ref a) []))) = bFl a b E.letters := by kernel_rfl
    rw [f1]
    have m : x ∈ [x] := List.mem_singleton.mpr rfl
    have fr : Fr [x] H _ := ((((Fr.of (S := [x]) s1).set m (o := .ins CB dx (putF "one" (.ref a) []))).set m (o := .ins CB dx (putF "other" (.ref b) (putF "one" (.ref a) [])))).set m (o := .ins CB dx (putF "letters" (.int E.letters) (putF "other" (.ref b) (putF "one" (.ref a) []))))).set m (o := .ins CB dx (bFl a b E.letters))
    exact k _ ⟨dx, a, b, upd_same, fed_fr hA hx rfl fr, fed_fr hB hx rfl fr⟩ fr
def dBo (p : K40.Wo × K40.Wo) : PyData := .tuple [dWo p.1, dWo p.2]
theorem bo_parts {H : Hp} {v : V} {p : K40.Wo × K40.Wo} (h : Rp H v (dBo p)) : ∃ (a : Addr) (x y : V), v = .ref a ∧ H a = some (.tup [x, y]) ∧ Rp H x (dWo p.1) ∧ Rp H y (dWo p.2) := by
  obtain ⟨a, xs, rfl, ha, hx⟩ := Rp.tup_inv (show Rp H v (.tuple [dWo p.1, dWo p.2]) from h)
  cases hx with
  | cons r1 t1 => cases t1 with
    | cons r3 t3 =>
      cases t3
      exact ⟨a, _, _, rfl, ha, r1, r3⟩
def spBothBegin (P : Program) (w : World) (CE CF CB : Addr) : Sp := fun vs H Q _ => ∃ (x : Addr) (E F : K40.Eat) (l : Int), vs = [.ref x, .int l] ∧ BothAt P w CE CF CB H x E F ∧ K40.Ok E ∧ K40.Ok F ∧ ∀ u H', Same H H' → Rp H' u (dBo ((K40.rowBoth (K40.rowFed E) (K40.rowFed F)).beg l)) → Q u H'
theorem c_both_begin (T : Tx K mg CE CR CF CB) : Met P w K mg base 2 CB "begin" (spBothBegin P w CE CF CB) [] := by
  have G1 : Met P w K mg base 1 CF "begin" (spFedBegin P w CE CF) [] := c_fed_begin T
  refine met_of (N := ["self", "letter"]) (ps := ["self", "letter"]) T.both_begin (by decide +kernel) (fun vs H Q E h => ?_) (fun _ _ _ _ _ _ us hl => match us, hl with | [_, _], _ => rfl) (fun cdv f A outer s H vs Q E hr h => ?_)
  · obtain ⟨x, E, F, l, rfl, _⟩ := h
    rfl
  · obtain ⟨x, E, F, l, rfl, hB, oE, oF, k⟩ := h
    obtain ⟨dx, a, b, h1, hA, hB'⟩ := hB.ex
    obtain ⟨dA, eA, a1, a2⟩ := hA.ex
    obtain ⟨dB, eB, b1, b2⟩ := hB'.ex
    refine ⟨_, pss_one (ps_ret (pe_tup (pa_cons (pe_mt G1 hr (by decide) (pe_fld (pv 0) rfl) (pa_cons (pv 1) pa_nil)) (pa_cons (pe_mt G1 hr (by decide) (pe_fld (pv 0) rfl) (pa_cons (pv 1) pa_nil)) pa_nil)))), ?_⟩
    refine ⟨_, rfl, x, CB, dx, _, _, rfl, h1, T.both.cl, T.noB "one" (by decide +kernel), bFl_one, a, dA, _, rfl, a1, by kernel_rfl, _, rfl, a, E, l, rfl, hA, oE, fun u H1 s1 ru => ?_⟩
    refine ⟨_, rfl, x, CB, dx, _, _, rfl, s1 _ _ h1, T.both.cl, T.noB "other" (by decide +kernel), bFl_other, b, dB, _, rfl, s1 _ _ b1, by kernel_rfl, _, rfl, b, F, l, rfl, hB'.sm s1, oF, fun u2 H2 s2 ru2 => ?_⟩
    refine ⟨by show 2 ≤ sizeLine; decide, fun p hp => k _ _ (same_tr (same_tr s1 s2) (Same.new hp)) ?_⟩
    exact .tup upd_same (.cons ((ru.sm s2).sm (Same.new hp)) (.cons (ru2.sm (Same.new hp)) .nil))
def dOB : Option (K40.Wo × K40.Wo) → PyData
  | none => .none
  | some y => dBo y
def GoodB2 (E F : K40.Eat) (b : Nat) (p : K40.Wo × K40.Wo) : Prop := GoodW E b p.1 ∧ GoodW F b p.2
def GoodOB (E F : K40.Eat) (b : Nat) : Option (K40.Wo × K40.Wo) → Prop
  | none => True
  | some y => GoodB2 E F b y
def spBothNext (P : Program) (w : World) (CE CF CB : Addr) : Sp := fun vs H Q _ => ∃ (x : Addr) (E F : K40.Eat) (lv ov rv : V) (left : Option (K40.Wo × K40.Wo)) (own : K40.Wo × K40.Wo) (right : Option (K40.Wo × K40.Wo)), vs = [.ref x, lv, ov, rv] ∧ BothAt P w CE CF CB H x E F ∧ K40.Ok E ∧ K40.Ok F ∧
  Rp H lv (dOB left) ∧ Rp H ov (dBo own) ∧ Rp H rv (dOB right) ∧ GoodOB E F 900 left ∧ GoodB2 E F 900 own ∧ GoodOB E F 900 right ∧ ∀ u H', Same H H' → Rp H' u (dBo ((K40.rowBoth (K40.rowFed E) (K40.rowFed F)).nxt left own right)) → Q u H'
theorem c_both_next (T : Tx K mg CE CR CF CB) : Met P w K mg base 4 CB "next" (spBothNext P w CE CF CB) [] := by
  have G1 : Met P w K mg base 3 CF "next" (spFedNext P w CE CF) [] := c_fed_next T
  refine met_of (N := ["self", "left", "own", "right", "lefts", "rights"]) (ps := ["self", "left", "own", "right"]) T.both_next (by decide +kernel) (fun vs H Q E h => ?_) (fun _ _ _ _ _ _ us hl => match us, hl with | [_, _, _, _], _ => rfl) (fun cdv f A outer s H vs Q E hr h => ?_)
  · obtain ⟨x, E, F, lv, ov, rv, left, own, right, rfl, _⟩ := h
    rfl
  · obtain ⟨x, E, F, lv, ov, rv, left, own, right, rfl, hB, oE, oF, hl, ho, hri, gl, go, gr, k⟩ := h
    have nd : (["self", "left", "own", "right", "lefts", "rights"] : List Str).Nodup := by decide +kernel
    obtain ⟨dx, a, b, h1, hA, hB'⟩ := hB.ex
    obtain ⟨dA, eA, a1, a2⟩ := hA.ex
    obtain ⟨dB, eB, b1, b2⟩ := hB'.ex
    refine ⟨_, pss_cons (ps_set (i := 4) nd rfl (Or.inl rfl) (pe_ifExp (pt_cmp (pc_isN (pv 1))) (pe_tup (pa_cons pe_non (pa_cons pe_non pa_nil))) (pv 1)))
      (pss_cons (ps_set (i := 5) nd rfl (Or.inl rfl) (pe_ifExp (PW.pt (pw_or (pt_cmp (pc_isN (pv 3))) (pw_or1 (pt_cmpR op_eq (pe_fld (pv 0) rfl) (pe_con T (.int 1)) (nomark _))))) (pe_tup (pa_cons pe_non (pa_cons pe_non pa_nil))) (pv 3)))
      (pss_one (ps_ret (pe_tup (pa_cons (pe_mt G1 hr (by decide) (pe_fld (pv 0) rfl) (pa_cons (pe_ixT (pv 4) pe_int) (pa_cons (pe_ixT (pv 2) pe_int) (pa_cons (pe_ixT (pv 5) pe_int) pa_nil))))
        (pa_cons (pe_mt G1 hr (by decide) (pe_fld (pv 0) rfl) (pa_cons (pe_ixT (pv 4) pe_int) (pa_cons (pe_ixT (pv 2) pe_int) (pa_cons (pe_ixT (pv 5) pe_int) pa_nil)))) pa_nil)))))), ?_⟩
    refine st_seq (st_setH (PV := fun v H1 => Same H H1 ∧ ∃ (q : Addr) (u1 u2 : V), v = .ref q ∧ H1 q = some (.tup [u1, u2]) ∧ Rp H1 u1 (dOW (left.map (·.1))) ∧ Rp H1 u2 (dOW (left.map (·.2)))) (fun Q' hq => ?_) fun v H1 ⟨s1, la, l1, l2, ev, hla, rl1, rl2⟩ => ?_)
    · cases left with
      | none =>
        obtain rfl := Rp.non_inv (show Rp H lv .none from hl)
        exact ⟨_, rfl, true, rfl, iteT ⟨by show 2 ≤ sizeLine; decide, fun p hp => hq _ _ ⟨Same.new hp, p, _, _, rfl, upd_same, .non, .non⟩⟩⟩
      | some y =>
        obtain ⟨q, u1, u2, rfl, hq', r1, r2⟩ := bo_parts (show Rp H lv (dBo y) from hl)
        exact ⟨_, rfl, false, rfl, iteF ⟨_, rfl, hq _ _ ⟨Same.refl _, q, u1, u2, rfl, hq', r1, r2⟩⟩⟩
    subst ev
    dsimp only
    refine st_seq (st_setH (PV := fun v H2 => Same H1 H2 ∧ ∃ (q : Addr) (u1 u2 : V), v = .ref q ∧ H2 q = some (.tup [u1, u2]) ∧ Rp H2 u1 (dOW (right.map (·.1))) ∧ Rp H2 u2 (dOW (right.map (·.2)))) (fun Q' hq => ?_) fun v H2 ⟨s2, ra, r1, r2, ev, hra, rr1, rr2⟩ => ?_)
    · have hri1 := hri.sm s1
      cases right with
      | none =>
        obtain rfl := Rp.non_inv (show Rp H1 rv .none from hri1)
        exact ⟨_, rfl, true, rfl, iteT (iteT ⟨by show 2 ≤ sizeLine; decide, fun p hp => hq _ _ ⟨Same.new hp, p, _, _, rfl, upd_same, .non, .non⟩⟩)⟩
      | some y =>
        obtain ⟨q, u1, u2, rfl, hq', q1, q2⟩ := bo_parts (show Rp H1 rv (dBo y) from hri1)
        exact ⟨_, rfl, false, rfl, iteF ⟨_, rfl, x, CB, dx, _, _, rfl, s1 _ _ h1, T.both.cl, T.noB "ways" (by decide +kernel), bFl_ways, rfl, false, congrArg V.bl (by decide), iteF ⟨_, rfl, hq _ _ ⟨Same.refl _, q, u1, u2, rfl, hq', q1, q2⟩⟩⟩⟩
    subst ev
    have s12 := same_tr s1 s2
    obtain ⟨oa, o1, o2, rfl, hoa, ro1, ro2⟩ := bo_parts (ho.sm s12)
    have hla2 := s2 _ _ hla
    have gl1 : GoodO E 900 (left.map (·.1)) := by cases left with | none => exact True.intro | some y => exact gl.1
    have gl2 : GoodO F 900 (left.map (·.2)) := by cases left with | none => exact True.intro | some y => exact gl.2
    have gr1 : GoodO E 900 (right.map (·.1)) := by cases right with | none => exact True.intro | some y => exact gr.1
    have gr2 : GoodO F 900 (right.map (·.2)) := by cases right with | none => exact True.intro | some y => exact gr.2
    refine ⟨_, rfl, x, CB, dx, _, _, rfl, s12 _ _ h1, T.both.cl, T.noB "one" (by decide +kernel), bFl_one, a, dA, _, rfl, s12 _ _ a1, by kernel_rfl, _, rfl, la, _, 0, _, rfl, rfl, SqT.of hla2, rfl, _, rfl, oa, _, 0, _, rfl, rfl, SqT.of hoa, rfl, _, rfl, ra, _, 0, _, rfl, rfl, SqT.of hra, rfl, a, E, l1, o1, r1, left.map (·.1), own.1, right.map (·.1), rfl, hA.sm s12, oE, rl1.sm s2, ro1, rr1, gl1, go.1, gr1, fun u H3 s3 ru => ?_⟩
    have s13 := same_tr s12 s3
    refine ⟨_, rfl, x, CB, dx, _, _, rfl, s13 _ _ h1, T.both.cl, T.noB "other" (by decide +kernel), bFl_other, b, dB, _, rfl, s13 _ _ b1, by kernel_rfl, _, rfl, la, _, 1, _, rfl, rfl, SqT.of (s3 _ _ hla2), rfl, _, rfl, oa, _, 1, _, rfl, rfl, SqT.of (s3 _ _ hoa), rfl, _, rfl, ra, _, 1, _, rfl, rfl, SqT.of (s3 _ _ hra), rfl, b, F, l2, o2, r2, left.map (·.2), own.2, right.map (·.2), rfl, hB'.sm s13, oF, (rl2.sm s2).sm s3, ro2.sm s3, rr2.sm s3, gl2, go.2, gr2, fun u2 H4 s4 ru2 => ?_⟩
    refine ⟨by show 2 ≤ sizeLine; decide, fun p hp => k _ _ (same_tr (same_tr s13 s4) (Same.new hp)) ?_⟩
    exact .tup upd_same (.cons ((ru.sm s4).sm (Same.new hp)) (.cons (ru2.sm (Same.new hp)) .nil))
def spBothSays (P : Program) (w : World) (CE CF CB : Addr) : Sp := fun vs H Q _ => ∃ (x : Addr) (E F : K40.Eat) (v : V) (y : K40.Wo × K40.Wo), vs = [.ref x, v] ∧ BothAt P w CE CF CB H x E F ∧ K40.Ok E ∧ K40.Ok F ∧ Rp H v (dBo y) ∧ y.1.2.2.length ≤ 2 ∧ y.2.2.2.length ≤ 2 ∧ ∀ H', Same H H' → Q (.bl ((K40.rowBoth (K40.rowFed E) (K40.rowFed F)).sys y)) H'
theorem c_both_says (T : Tx K mg CE CR CF CB) : Met P w K mg base 4 CB "says" (spBothSays P w CE CF CB) [] := by
  have G1 : Met P w K mg base 3 CF "says" (spFedSays P w CE CF) [] := c_fed_says T
  refine met_of (N := ["self", "worth"]) (ps := ["self", "worth"]) T.both_says (by decide +kernel) (fun vs H Q E h => ?_) (fun _ _ _ _ _ _ us hl => match us, hl with | [_, _], _ => rfl) (fun cdv f A outer s H vs Q E hr h => ?_)
  · obtain ⟨x, E, F, v, y, rfl, _⟩ := h
    rfl
  · obtain ⟨x, E, F, v, y, rfl, hB, oE, oF, hv, hy1, hy2, k⟩ := h
    obtain ⟨dx, a, b, h1, hA, hB'⟩ := hB.ex
    obtain ⟨dA, eA, a1, a2⟩ := hA.ex
    obtain ⟨dB, eB, b1, b2⟩ := hB'.ex
    obtain ⟨q, v1, v2, rfl, hq, r1, r2⟩ := bo_parts hv
    refine ⟨_, pss_one (ps_ret (pe_and (pe_mt G1 hr (by decide) (pe_fld (pv 0) rfl) (pa_cons (pe_ixT (pv 1) pe_int) pa_nil)) (pe_one (pe_mt G1 hr (by decide) (pe_fld (pv 0) rfl) (pa_cons (pe_ixT (pv 1) pe_int) pa_nil))))), ?_⟩
    refine ⟨_, rfl, x, CB, dx, _, _, rfl, h1, T.both.cl, T.noB "one" (by decide +kernel), bFl_one, a, dA, _, rfl, a1, by kernel_rfl, _, rfl, q, _, 0, _, rfl, rfl, SqT.of hq, rfl, a, E, v1, y.1, rfl, hA, oE, r1, hy1, fun H1 s1 => ⟨_, rfl, ?_⟩⟩
    have ed : (K40.rowBoth (K40.rowFed E) (K40.rowFed F)).sys y = ((K40.rowFed E).sys y.1 && (K40.rowFed F).sys y.2) := rfl
    cases hs : (K40.rowFed E).sys y.1 with
    | false =>
      refine iteF ?_
      have := k H1 s1
      rw [ed, hs] at this
      exact this
    | true =>
      refine iteT ?_
      refine ⟨_, rfl, x, CB, dx, _, _, rfl, s1 _ _ h1, T.both.cl, T.noB "other" (by decide +kernel), bFl_other, b, dB, _, rfl, s1 _ _ b1, by kernel_rfl, _, rfl, q, _, 1, _, rfl, rfl, SqT.of (s1 _ _ hq), rfl, b, F, v2, y.2, rfl, hB'.sm s1, oF, r2.sm s1, hy2, fun H2 s2 => ?_⟩
      have := k H2 (same_tr s1 s2)
      rw [ed, hs] at this
      exact this
end
end KR
end
section
set_option Elab.async false
set_option linter.all false
set_option maxRecDepth 100000
set_option maxHeartbeats 4000000
namespace KR
open PySem PySem.Spec PyProof.Rows L2 C8
def encO {W : Type} (enc : W → PyData) : Option W → PyData
  | none => .none
  | some y => enc y
def gOpt {W : Type} (g : W → Prop) : Option W → Prop
  | none => True
  | some y => g y
theorem FnOk.imp {P : Program} {w : World} {K : PySem.W.Frag} {mg : Str → Option Value} {base : Heap} {CX : CXT} {k : Nat} {f : Addr} {fd : FuncData} {ps : List Str} {sp sp' : Sp} (F : FnOk P w K mg base CX k f fd ps sp) (h : ∀ vs H Q E, sp' vs H Q E → sp vs H Q E) : FnOk P w K mg base CX k f fd ps sp' :=
  ⟨fun vs H Q E q => F.len vs H Q E (h _ _ _ _ q), fun A outer s H args us vs Q E hr e0 hb r q => F.run A outer s H args us vs Q E hr e0 hb r (h _ _ _ _ q)⟩
theorem met_imp {P : Program} {w : World} {K : PySem.W.Frag} {mg : Str → Option Value} {base : Heap} {k : Nat} {C : Addr} {m : Str} {sp sp' : Sp} (M : Met P w K mg base k C m sp []) (h : ∀ vs H Q E, sp' vs H Q E → sp vs H Q E) : Met P w K mg base k C m sp' [] := by
  obtain ⟨f, fd, ps, ds, h1, h2, h3, h4, h5⟩ := M.ex
  exact ⟨f, fd, ps, ds, h1, h2, FnOk.imp h3 h, h4, h5⟩
/-- a kind of row that may be run -/
structure Kind (P : Program) (w : World) (K : PySem.W.Frag) (mg : Str → Option Value) (base : Heap) (CR : Addr) where
  C : Addr
  W : Type
  R : K40.RowF W
  enc : W → PyData
  At : Hp → Addr → Prop
  Good : Nat → W → Prop
  l : Int
  kp : ∀ {H H' : Hp} {x : Addr}, At H x → Kp H H' → At H' x
  fld : ∀ {H : Hp} {x : Addr}, At H x → ∃ (dx : Addr) (fs : List (Str × V)), H x = some (.ins C dx fs) ∧ fs.lookup ("letters" : Str) = some (V.int l) ∧ fs.lookup ("ways" : Str) = some (V.int 2) ∧ fs.lookup ("begin" : Str) = none ∧ fs.lookup ("next" : Str) = none ∧ fs.lookup ("says" : Str) = none
  ic : InsC K C
  kt : PySem.W.kitOne K (.ref C) (.ref CR) = some true
  nl : NoAttr K C "letters"
  nw : NoAttr K C "ways"
  kb : Nat
  kn : Nat
  ks : Nat
  lb : kb ≤ 4
  ln : kn ≤ 4
  ls : ks ≤ 4
  beg : Met P w K mg base kb C "begin" (fun vs H Q _ => ∃ (x : Addr) (n : Int), vs = [.ref x, .int n] ∧ At H x ∧ ∀ u H', Same H H' → Rp H' u (enc (R.beg n)) → Q u H') []
  nxt : Met P w K mg base kn C "next" (fun vs H Q _ => ∃ (x : Addr) (lv ov rv : V) (left : Option W) (own : W) (right : Option W), vs = [.ref x, lv, ov, rv] ∧ At H x ∧ Rp H lv (encO enc left) ∧ Rp H ov (enc own) ∧ Rp H rv (encO enc right) ∧ gOpt (Good 900) left ∧ Good 900 own ∧ gOpt (Good 900) right ∧ ∀ u H', Same H H' → Rp H' u (enc (R.nxt left own right)) → Q u H') []
  sys : Met P w K mg base ks C "says" (fun vs H Q _ => ∃ (x : Addr) (v : V) (y : W), vs = [.ref x, v] ∧ At H x ∧ Rp H v (enc y) ∧ Good 900 y ∧ ∀ H', Same H H' → Q (.bl (R.sys y)) H') []
  gb : ∀ n, Good 0 (R.beg n)
  gn : ∀ {b : Nat} {left : Option W} {own : W} {right : Option W}, gOpt (Good b) left → Good b own → gOpt (Good b) right → Good (b + 2) (R.nxt left own right)
  gm : ∀ {b b' : Nat} {y : W}, b ≤ b' → Good b y → Good b' y
section
variable {P : Program} {w : World} {K : PySem.W.Frag} {mg : Str → Option Value} {base : Heap} {CE CR CF CB c Pt : Addr} {X : Cx}
theorem Kind.sm (D : Kind P w K mg base CR) {H H' : Hp} {x : Addr} (h : D.At H x) (e : Same H H') : D.At H' x := D.kp h (Kp.of e)
def spBegun (D : Kind P w K mg base CR) : Sp := fun vs H Q _ => ∃ (x t : Addr) (ns : List Int), vs = [.ref x, .ref t] ∧ D.At H x ∧ H t = some (.tup (ns.map V.int)) ∧ ns.length ≤ 200 ∧ ∀ p ys H', Same H H' → H' p = some (.tup ys) → Ra H' ys ((ns.map D.R.beg).map D.enc) → Q (.ref p) H'
theorem c_begun (T : Tx K mg CE CR CF CB) (D : Kind P w K mg base CR) : Cal P w K mg base 5 "begun" (spBegun D) [] := by
  refine cal_of (N := ["row", "word", "letter"]) (ps := ["row", "word"]) T.begun (by decide +kernel) (fun vs H Q E h => ?_) (fun _ _ _ _ _ _ us hl => match us, hl with | [_, _], _ => rfl) (fun cdv f A outer s H vs Q E hr h => ?_)
  · obtain ⟨x, t, ns, rfl, _⟩ := h
    rfl
  · obtain ⟨x, t, ns, rfl, hA, ht, hl, k⟩ := h
    have nd : (["row", "word", "letter"] : List Str).Nodup := by decide +kernel
    refine ⟨_, pss_one (ps_ret (pe_tupc T (pe_lc (own := [("letter", 2)]) (g := gName 2) (tt := tYes) rfl nd (pi_tup (pv 1)) (blkOk_by (N := ["row", "word", "letter"]) (sc := fnScope sBegun) (by decide +kernel)) (fun _ _ _ _ _ => pg_name (i := 2) nd rfl (Or.inl rfl)) (fun _ _ _ _ _ => pts_nil)
        (fun _ _ _ _ _ => pe_mt D.beg hr D.lb (pv 0) (pa_cons (pv 2) pa_nil))))), ?_⟩
    refine ⟨_, rfl, t, rfl, ⟨_, SqT.of ht⟩, fun L hL => ?_⟩
    refine lc_pure (walk_tup (xs := ns.map V.int)) hL (by rw [List.length_map]; exact Nat.le_trans hl (by decide)) (fun H2 s2 => SqT.of (s2 _ _ ht)) (fun i H x H' y => yat_same y) (fun i y H => ∃ n, ns[i]? = some n ∧ Rp H y (D.enc (D.R.beg n))) (fun i y H H' e ⟨n, h1, h2⟩ => ⟨n, h1, h2.nl e⟩)
      (fun i x H2 H3 hi s2 y Qy hq => ?_) (fun H2 ys s2 hLs hl2 hr2 => ?_)
    · obtain ⟨rfl, hx⟩ := y
      rw [List.getElem?_map] at hx
      obtain ⟨n, hn, rfl⟩ := Option.map_eq_some_iff.mp hx
      have hA2 := D.sm hA s2
      obtain ⟨dx, fs, f1, f2, f3, f4, f5, f6⟩ := D.fld hA2
      exact ⟨rfl, _, rfl, _, dx, fs, rfl, f1, f4, _, rfl, _, n, rfl, hA2, fun u H4 s4 ru => hq _ _ s4 ⟨n, hn, ru⟩⟩
    · refine ⟨L, ys, rfl, .inl ⟨SqL.of hLs, fun p hp => k p ys _ (same_tr s2 (Same.new hp)) upd_same ?_⟩⟩
      refine (Ra.of_map (f := D.enc) (by rw [hl2, List.length_map, List.length_map]) fun i v hv => ?_).sm (Same.new hp)
      obtain ⟨n, h1, h2⟩ := hr2 i v hv
      exact ⟨D.R.beg n, by rw [List.getElem?_map, h1]; rfl, h2⟩
/-! ### ticked -/
def spTicked (D : Kind P w K mg base CR) : Sp := fun vs H Q _ => ∃ (x t : Addr) (h : Nat) (ys : List V) (ws : List D.W) (b : Nat), vs = [.ref x, .ref t, .int 0, .int (h : Int)] ∧ D.At H x ∧ H t = some (.tup ys) ∧ Ra H ys (ws.map D.enc) ∧ h ≤ ws.length ∧ ws.length ≤ 200 ∧ (∀ y ∈ ws, D.Good b y) ∧ b ≤ 900 ∧
  ∀ p zs H', Same H H' → H' p = some (.tup zs) → Ra H' zs (((K40.tk D.R none ws).take (ws.length - h)).map D.enc) → Q (.ref p) H'
theorem beside_get {ys : List V} {i : Nat} (h : i < ys.length) : ([V.non] ++ (ys ++ [V.non]))[i]? = some (if i = 0 then V.non else (ys[i - 1]?).getD .non) := by
  cases i with
  | zero => rfl
  | succ i =>
    rw [if_neg (by omega)]
    show (ys ++ [V.non])[i]? = _
    rw [List.getElem?_append_left (by omega), Nat.add_sub_cancel, List.getElem?_eq_getElem (by omega)]
    rfl
theorem beside_get2 {ys : List V} {i : Nat} (h : i < ys.length) : ([V.non] ++ (ys ++ [V.non]))[i + 2]? = some ((ys[i + 1]?).getD .non) := by
  show (ys ++ [V.non])[i + 1]? = _
  rcases Nat.lt_or_ge (i + 1) ys.length with q | q
  · rw [List.getElem?_append_left q, List.getElem?_eq_getElem q]
    rfl
  · have e : i + 1 = ys.length := by omega
    rw [e, List.getElem?_append_right (Nat.le_refl _), List.getElem?_eq_none (Nat.le_refl _)]
    simp
theorem ra_opt {H : Hp} {W : Type} {enc : W → PyData} {ys : List V} {ws : List W} (h : Ra H ys (ws.map enc)) (i : Nat) : Rp H ((ys[i]?).getD .non) (encO enc ws[i]?) := by
  have hl := h.len
  rw [List.length_map] at hl
  rcases Nat.lt_or_ge i ys.length with q | q
  · have e := List.getElem?_eq_getElem q
    obtain ⟨d, h1, h2⟩ := Ra.map_get h e
    rw [e, h1]
    exact h2
  · rw [List.getElem?_eq_none q, List.getElem?_eq_none (by omega)]
    exact .non
theorem g_opt {W : Type} {g : W → Prop} {ws : List W} (h : ∀ y ∈ ws, g y) (i : Nat) : gOpt g ws[i]? := by
  cases q : ws[i]? with
  | none => exact True.intro
  | some y => exact h y (List.mem_of_getElem? q)
theorem c_ticked (T : Tx K mg CE CR CF CB) (D : Kind P w K mg base CR) : Cal P w K mg base 5 "ticked" (spTicked D) [] := by
  refine cal_ofD (N := ["row", "worths", "low", "high", "beside", "cells", "at"]) (ps := ["row", "worths", "low", "high"]) T.ticked 4 2 (by simp) rfl (by decide +kernel) (fun vs H Q E h => ?_) (fun _ _ _ _ _ _ _ us its hl hi => match us, hl, its, hi with | [_, _, _, _], _, [_, _], _ => ⟨_, rfl, rfl⟩) (fun cdv f A outer s H vs Q E hr h => ?_)
  · obtain ⟨x, t, h, ys, ws, b, rfl, _⟩ := h
    rfl
  · obtain ⟨x, t, h, ys, ws, b, rfl, hA, ht, hys, hh, hl, hg, hb, k⟩ := h
    have nd : (["row", "worths", "low", "high", "beside", "cells", "at"] : List Str).Nodup := by decide +kernel
    have ly := hys.len
    rw [List.length_map] at ly
    have hg9 : ∀ y ∈ ws, D.Good 900 y := fun y hy => D.gm hb (hg y hy)
    refine ⟨_, pss_cons (ps_set (i := 4) nd rfl (Or.inr rfl) (pe_tup (pa_cons pe_non (StX.pa_star (pv 1) (pa_cons pe_non pa_nil)))))
      (pss_cons (ps_set (i := 5) nd rfl (Or.inl rfl) (pe_callTy cr_range2 rfl (T.free "range" (by decide +kernel)) PyProof.Rows.boot_range (pa_cons (pv 2) (pa_cons (pe_op op_sub (pe_len T (pv 1)) (pv 3)) pa_nil))))
      (pss_cons (ps_if (pt_cmpR op_eq (pe_fld (pv 0) rfl) (pe_con T (.int 1)) (nomark _)) pss_never pss_nil)
      (pss_one (ps_ret (pe_tupc T (pe_lc (own := [("at", 6)]) (g := gName 6) (tt := tYes) rfl nd (pi_rng (pv 5)) (blkOk_by (N := ["row", "worths", "low", "high", "beside", "cells", "at"]) (sc := fnScope sTicked) (by decide +kernel)) (fun _ _ _ _ _ => pg_name (i := 6) nd rfl (Or.inl rfl)) (fun _ _ _ _ _ => pts_nil)
        (fun _ _ _ _ _ => pe_mt D.nxt hr D.ln (pv 0) (pa_cons (pe_ixT (pv 4) (pv 6)) (pa_cons (pe_ixT (pv 1) (pv 6)) (pa_cons (pe_ixT (pv 4) (pe_op op_add (pv 6) pe_int)) pa_nil)))))))))), ?_⟩
    refine ⟨_, rfl, t, ys, rfl, .inl (SqT.of ht), by simp; have : (300 : Nat) ≤ sizeLine := by decide
                                                     omega, fun B hB => ?_⟩
    have s1 : Same H (upd H B (.tup ([V.non] ++ (ys ++ [V.non])))) := Same.new hB
    have hB1 : upd H B (.tup ([V.non] ++ (ys ++ [V.non]))) B = some (.tup ([V.non] ++ (ys ++ [V.non]))) := upd_same
    refine ⟨_, rfl, _, rfl, t, ys, rfl, .inr (SqT.of (s1 _ _ ht)), _, rfl, _, _, rfl, rfl, 0, (ys.length : Int) - (h : Int), rfl, fun c hc => ?_⟩
    have s2 := Same.new (o := .rng 0 ((ys.length : Int) - (h : Int))) hc
    have s12 := same_tr s1 s2
    obtain ⟨dx, fs, f1, f2, f3, f4, f5, f6⟩ := D.fld (D.sm hA s12)
    refine ⟨_, rfl, x, D.C, dx, fs, _, rfl, f1, D.ic.cl, D.nw, f3, rfl, false, congrArg V.bl (by decide), iteF ?_⟩
    have hB2 := s2 _ _ hB1
    refine ⟨_, rfl, c, 0, _, rfl, upd_same, ⟨by omega, by omega, by omega, by omega⟩, fun L hL => ?_⟩
    have en : ((ys.length : Int) - (h : Int) - 0).toNat = ws.length - h := by omega
    rw [en]
    refine lc_pure (walk_range (lo := 0) (n := ws.length - h)) hL (by have : (300 : Nat) ≤ sizeLine := by decide
                                                                      omega) (fun _ _ => True.intro) (fun i H x H' y => by rw [y.1]; exact Same.refl _) (fun i z H => ∃ y, (K40.tk D.R none ws)[i]? = some y ∧ Rp H z (D.enc y)) (fun i y H H' e ⟨n, h1, h2⟩ => ⟨n, h1, h2.nl e⟩)
      (fun i z H2 H3 hi s3 y Qy hq => ?_) (fun H2 zs s3 hLs hl2 hr2 => ?_)
    · obtain ⟨rfl, rfl⟩ := y
      have s13 := same_tr s12 s3
      have hi' : i < ys.length := by omega
      have hA3 := D.sm hA s13
      obtain ⟨dx, fs, f1, f2, f3, f4, f5, f6⟩ := D.fld hA3
      have hys3 := hys.sm s13
      have e0 : (0 : Int) + (i : Int) = ((i : Nat) : Int) := by omega
      have e2 : ((i : Nat) : Int) + 2 = ((i + 2 : Nat) : Int) := by omega
      have hyi : ys[i]? = some ys[i] := List.getElem?_eq_getElem hi'
      obtain ⟨wi, hwi, rwi⟩ := Ra.map_get hys3 hyi
      have hlv : Rp H3 (if i = 0 then V.non else (ys[i - 1]?).getD .non) (encO D.enc (if i = 0 then none else ws[i - 1]?)) := by
        by_cases h0 : i = 0
        · rw [if_pos h0, if_pos h0]
          exact .non
        · rw [if_neg h0, if_neg h0]
          exact ra_opt hys3 _
      have hgl : gOpt (D.Good 900) (if i = 0 then none else ws[i - 1]?) := by
        by_cases h0 : i = 0
        · rw [if_pos h0]
          exact True.intro
        · rw [if_neg h0]
          exact g_opt hg9 _
      refine ⟨rfl, _, rfl, x, dx, fs, rfl, f1, f5, _, rfl, _, rfl, B, _, _, _, rfl, rfl, SqT.of (s3 _ _ hB2), by rw [e0]; exact atI_nat (beside_get hi'), _, rfl, _, rfl, t, ys, _, _, rfl, rfl, SqT.of (s13 _ _ ht), by rw [e0]; exact atI_nat hyi, _, rfl, _, rfl, _, _, rfl, rfl, B, _, _, _, rfl, rfl, SqT.of (s3 _ _ hB2), by rw [e0, e2]; exact atI_nat (beside_get2 hi'), ?_⟩
      exact ⟨x, _, _, _, if i = 0 then none else ws[i - 1]?, wi, ws[i + 1]?, rfl, hA3, hlv, rwi, ra_opt hys3 _, hgl, hg9 wi (List.mem_of_getElem? hwi), g_opt hg9 _, fun u H4 s4 ru => hq _ _ s4 ⟨_, K40.tk_get D.R ws none i wi hwi, ru⟩⟩
    · refine ⟨L, zs, rfl, .inl ⟨SqL.of hLs, fun p hp => k p zs _ (same_tr (same_tr s12 s3) (Same.new hp)) upd_same ?_⟩⟩
      refine (Ra.of_map (f := D.enc) ?_ fun i v hv => ?_).sm (Same.new hp)
      · rw [hl2, List.length_take, K40.tk_len]
        omega
      · obtain ⟨y, h1, h2⟩ := hr2 i v hv
        have hi : i < ws.length - h := by
          have := (List.getElem?_eq_some_iff.mp hv).1
          omega
        exact ⟨y, by rw [List.getElem?_take_of_lt hi]; exact h1, h2⟩
end
end KR
end
section
set_option Elab.async false
set_option linter.all false
set_option maxRecDepth 100000
set_option maxHeartbeats 4000000
namespace KR
open PySem PySem.Spec PyProof.Rows L2 C8
section
variable {P : Program} {w : World} {K : PySem.W.Frag} {mg : Str → Option Value} {base : Heap} {CE CR CF CB c Pt : Addr} {X : Cx}
theorem sl_pre {H : Hp} {a : Addr} {ns : List Int} {m : Nat} {Q : VK} (ha : H a = some (.tup (ns.map V.int))) (k : ∀ p H', Same H H' → H' p = some (.tup ((ns.take m).map V.int)) → Q (.ref p) H') : rSlA K (.ref a) (some 0) (some (m : Int)) H Q := by
  have h0 : HT.sIx (ns.map V.int).length 0 (some 0) = 0 := by
    rw [show (some (0 : Int)) = some ((0 : Nat) : Int) from rfl, HT.sIx_nat]
    omega
  have h1 : HT.sIx (ns.map V.int).length (ns.map V.int).length (some (m : Int)) = min m ns.length := by
    rw [HT.sIx_nat, List.length_map]
  refine ⟨a, _, rfl, SqT.of ha, fun e => ?_, fun _ p hp => ?_⟩
  · have e2 := e.2
    rw [h1, List.length_map] at e2
    refine k a H (Same.refl _) ?_
    rw [List.take_of_length_le (by omega)]
    exact ha
  · refine k p _ (Same.new hp) ?_
    rw [upd_same]
    have e : cutV (ns.map V.int) (some 0) (some (m : Int)) = (ns.take m).map V.int := by
      unfold cutV
      rw [h0, h1, List.map_take]
      show ((ns.map V.int).drop 0).take (min m ns.length - 0) = _
      rw [List.drop_zero, Nat.sub_zero]
      rcases Nat.le_total m ns.length with q | q
      · rw [Nat.min_eq_left q]
      · rw [Nat.min_eq_right q, List.take_of_length_le (by rw [List.length_map]; exact Nat.le_refl _), List.take_of_length_le (by rw [List.length_map]; exact q)]
    rw [e]
theorem and_bl {c : Bool} {tb : TE} {σ : L2.St} {H : Hp} {Q : VK} (h : Q (.bl c) H) (ht : ∀ Q' : VK, Q' (.bl true) H → tb σ H Q') : if c = true then tb σ H Q else Q (.bl false) H := by
  cases c with
  | false => exact iteF h
  | true => exact iteT (ht Q h)
def spWorthIn (D : Kind P w K mg base CR) : Sp := fun vs H Q _ => ∃ (x t : Addr) (ns : List Int) (tick : Nat), vs = [.ref x, .ref t, .int 0, .int (tick : Int)] ∧ D.At H x ∧ H t = some (.tup (ns.map V.int)) ∧ 1 ≤ ns.length ∧ ns.length ≤ 200 ∧ tick < ns.length ∧
  ∀ v y H', Same H H' → (K40.runL D.R ns.length tick (min (ns.length - 1) tick) ((ns.take (min (ns.length - 1) tick + 1)).map D.R.beg)).head? = some y → Rp H' v (D.enc y) → D.Good 900 y → Q v H'
theorem c_worth_in (T : Tx K mg CE CR CF CB) (D : Kind P w K mg base CR) : Cal P w K mg base 6 "worth_in" (spWorthIn D) [] := by
  have G1 : Cal P w K mg base 5 "begun" (spBegun D) [] := c_begun T D
  have G2 : Cal P w K mg base 5 "ticked" (spTicked D) [] := c_ticked T D
  refine cal_of (N := ["row", "word", "cell", "tick", "low", "high", "worths", "_", "cut_low", "cut_high"]) (ps := ["row", "word", "cell", "tick"]) T.worth_in (by decide +kernel) (fun vs H Q E h => ?_) (fun _ _ _ _ _ _ us hl => match us, hl with | [_, _, _, _], _ => rfl) (fun cdv f A outer s H vs Q E hr h => ?_)
  · obtain ⟨x, t, ns, tick, rfl, _⟩ := h
    rfl
  · obtain ⟨x, t, ns, tick, rfl, hA, ht, h1, h2, h3, k⟩ := h
    have nd : (["row", "word", "cell", "tick", "low", "high", "worths", "_", "cut_low", "cut_high"] : List Str).Nodup := by decide +kernel
    have cD := D.ic.cl
    refine ⟨_, pss_cons (ps_set (i := 4) nd rfl (Or.inl rfl) (pe_callB (call_max2 rfl) rfl (T.free "max" (by decide +kernel)) PyProof.Rows.boot_max (pa_cons pe_int (pa_cons (pe_op op_sub (pv 2) (pv 3)) pa_nil))))
      (pss_cons (ps_set (i := 5) nd rfl (Or.inl rfl) (pe_ifExp (pt_cmpR op_eq (pe_fld (pv 0) rfl) (pe_con T (.int 1)) (nomark _)) (pv 2) (pe_callB (call_min2 rfl) rfl (T.free "min" (by decide +kernel)) PyProof.Rows.boot_min (pa_cons (pe_op op_sub (pe_len T (pv 1)) pe_int) (pa_cons (pe_op op_add (pv 2) (pv 3)) pa_nil)))))
      (pss_cons (ps_set (i := 6) nd rfl (Or.inl rfl) (pe_c G1 hr (by decide) rfl (pa_cons (pv 0) (pa_cons (pe_slice sl_tupA (pv 1) (po_some (pv 4)) (po_some (pe_op op_add (pv 5) pe_int))) pa_nil))))
      (pss_cons (ps_for PassesOwn.never rfl (pi_range1 rfl (T.free "range" (by decide +kernel)) (pa_cons (pv 3) pa_nil)) (pg_name (i := 7) nd rfl (Or.inl rfl))
        (pss_cons (ps_par (i := 8) (j := 9) rfl nd rfl rfl (by decide) rfl rfl (pa_cons (pe_callTy call_int1 rfl (T.free "int" (by decide +kernel)) PyProof.Rows.boot_int (pa_cons (pe_cmpR op_gt (pv 4) pe_int (nomark _)) pa_nil)) (pa_cons (pe_callTy call_int1 rfl (T.free "int" (by decide +kernel)) PyProof.Rows.boot_int (pa_cons (pe_and (pe_cmpR op_lt (pv 5) (pe_op op_sub (pe_len T (pv 1)) pe_int) (nomark _)) (pe_one (pe_cmpR op_ne (pe_fld (pv 0) rfl) (pe_con T (.int 1)) (nomark _)))) pa_nil)) pa_nil)) rfl)
        (pss_cons (ps_set (i := 6) nd rfl (Or.inl rfl) (pe_c G2 hr (by decide) rfl (pa_cons (pv 0) (pa_cons (pv 6) (pa_cons (pv 8) (pa_cons (pv 9) pa_nil))))))
        (pss_one (ps_par (i := 4) (j := 5) rfl nd rfl rfl (by decide) rfl rfl (pa_cons (pe_op op_add (pv 4) (pv 8)) (pa_cons (pe_op op_sub (pv 5) (pv 9)) pa_nil)) rfl)))))
      (pss_one (ps_ret (pe_ixT (pv 6) (pe_op op_sub (pv 2) (pv 4)))))))), ?_⟩
    obtain ⟨dx, fs, f1, f2, f3, f4, f5, f6⟩ := D.fld hA
    -- low
    refine ⟨_, rfl, _, rfl, _, _, rfl, rfl, _, _, rfl, ?_⟩
    rw [if_neg (show ¬ ((0 : Int) - (tick : Int) > 0) by omega)]
    -- high
    refine ⟨_, rfl, x, D.C, dx, fs, _, rfl, f1, cD, D.nw, f3, rfl, false, congrArg V.bl (by decide), iteF ?_⟩
    refine ⟨_, rfl, t, _, rfl, .inr (SqT.of ht), _, _, rfl, rfl, _, rfl, _, rfl, _, _, rfl, rfl, _, _, rfl, ?_⟩
    have eh : (if (0 : Int) + (tick : Int) < ((ns.map V.int).length : Int) - 1 then (0 : Int) + (tick : Int) else ((ns.map V.int).length : Int) - 1) = ((min (ns.length - 1) tick : Nat) : Int) := by
      rw [List.length_map]
      split <;> omega
    rw [eh]
    obtain ⟨h0, hh0⟩ : ∃ h0, h0 = min (ns.length - 1) tick := ⟨_, rfl⟩
    rw [← hh0] at k ⊢
    -- worths
    refine ⟨_, rfl, _, rfl, _, rfl, 0, rfl, _, rfl, _, _, rfl, rfl, ((h0 + 1 : Nat) : Int), congrArg V.int (by omega), ?_⟩
    refine sl_pre (K := K) ht fun wt H1 s1 hwt => ?_
    refine ⟨x, wt, ns.take (h0 + 1), rfl, D.sm hA s1, hwt, by rw [List.length_take]; omega, fun wp0 ys0 H2 s2 hwp0 hys0 => ?_⟩
    have s12 := same_tr s1 s2
    obtain ⟨ws0, hws0⟩ : ∃ ws0, ws0 = (ns.take (h0 + 1)).map D.R.beg := ⟨_, rfl⟩
    rw [← hws0] at k hys0
    have lw0 : ws0.length = h0 + 1 := by
      rw [hws0, List.length_map, List.length_take]
      omega
    have et : (tick : Int).toNat = tick := by omega
    refine ⟨_, rfl, (tick : Int), rfl, by omega, by omega, ?_⟩
    rw [et]
    refine for_it (walk_range (lo := 0) (n := tick)) (fun i σ H' => ∃ (hi : Nat) (wp : Addr) (ys : List V) (ws : List D.W) (o7 o8 o9 : Option V), σ = [some (.ref x), some (.ref t), some (.int 0), some (.int (tick : Int)), some (.int 0), some (.int (hi : Int)), some (.ref wp), o7, o8, o9] ∧ Same H H' ∧ H' wp = some (.tup ys) ∧ Ra H' ys (ws.map D.enc) ∧
        ws.length = hi + 1 ∧ (hi + 1 = ns.length ∨ hi = tick - i) ∧ hi + 1 ≤ ns.length ∧ (∀ y ∈ ws, D.Good (2 * i) y) ∧ K40.runL D.R ns.length (tick - i) hi ws = K40.runL D.R ns.length tick h0 ws0)
      ⟨h0, wp0, ys0, ws0, none, none, none, rfl, s12, hwp0, hys0, lw0, by omega, by omega, fun y hy => ?_, rfl⟩ (fun _ _ _ _ _ => True.intro) (fun i z σ H3 H3' hi hPv hy => ?_) (fun σ H3 hPv => ?_)
    · rw [hws0] at hy
      obtain ⟨n, _, rfl⟩ := List.mem_map.mp hy
      exact D.gb n
    · obtain ⟨hg, wp, ys, ws, o7, o8, o9, rfl, s3, hwp, hys, lw, hor, hle, hgd, hrun⟩ := hPv
      obtain ⟨rfl, rfl⟩ := hy
      obtain ⟨dx, fs, f1, f2, f3, f4, f5, f6⟩ := D.fld (D.sm hA s3)
      obtain ⟨cut, hcut⟩ : ∃ cut : Nat, cut = if hg + 1 < ns.length then 1 else 0 := ⟨_, rfl⟩
      have hc1 : cut ≤ 1 := by rw [hcut]; split <;> omega
      have hcg : cut ≤ hg := by
        rw [hcut]
        split <;> omega
      have ec : (if decide ((hg : Int) < ((ns.map V.int).length : Int) - 1) = true then (1 : Int) else 0) = (cut : Int) := by
        rw [hcut, List.length_map]
        by_cases q : hg + 1 < ns.length
        · rw [if_pos q, decide_eq_true (by omega)]
          rfl
        · rw [if_neg q, decide_eq_false (by omega)]
          rfl
      refine ⟨_, rfl, _, _, rfl, rfl, .inr ⟨false, rfl, ?_⟩⟩
      refine ⟨_, rfl, _, rfl, t, _, rfl, .inr (SqT.of (s3 _ _ ht)), _, _, rfl, rfl, _, _, rfl, rfl, _, rfl, and_bl (c := decide ((hg : Int) < ((ns.map V.int).length : Int) - 1)) (.inr ⟨_, rfl, ?_⟩) fun Q' hq => ⟨_, rfl, x, D.C, dx, fs, _, rfl, f1, cD, D.nw, f3, rfl, hq⟩⟩
      rw [ec]
      refine ⟨_, _, rfl, ?_⟩
      refine ⟨_, rfl, _, rfl, _, rfl, _, rfl, x, wp, cut, ys, ws, 2 * i, rfl, D.sm hA s3, hwp, hys, by omega, by omega, hgd, by omega, fun p zs H4 s4 hp hzs => ?_⟩
      refine ⟨_, rfl, _, rfl, _, _, rfl, rfl, _, rfl, _, rfl, _, _, rfl, rfl, _, _, rfl, ?_⟩
      have e5 : V.int ((hg : Int) - (cut : Int)) = V.int ((hg - cut : Nat) : Int) := congrArg V.int (by omega)
      refine ⟨hg - cut, p, zs, (K40.tk D.R none ws).take (ws.length - cut), _, _, _, congrArg (fun z : V => [some (V.ref x), some (V.ref t), some (V.int 0), some (V.int (tick : Int)), some (V.int 0), some z, some (V.ref p), some (V.int (0 + (i : Int))), some (V.int 0), some (V.int (cut : Int))]) e5, same_tr s3 s4, hp, hzs, ?_, ?_, by omega, fun y hy => ?_, ?_⟩
      · rw [List.length_take, K40.tk_len]
        omega
      · rcases hor with q | q
        · left
          rw [hcut, if_neg (by omega)]
          omega
        · by_cases q2 : hg + 1 < ns.length
          · right
            rw [hcut, if_pos q2]
            omega
          · left
            rw [hcut, if_neg q2]
            omega
      · have hy' := List.mem_of_mem_take hy
        obtain ⟨j, hj⟩ := List.getElem?_of_mem hy'
        have lj : j < ws.length := by
          have := (List.getElem?_eq_some_iff.mp hj).1
          rw [K40.tk_len] at this
          exact this
        rw [K40.tk_get D.R ws none j _ (List.getElem?_eq_getElem lj)] at hj
        have e := Option.some.inj hj
        rw [← e]
        have hl : gOpt (D.Good (2 * i)) (if j = 0 then none else ws[j - 1]?) := by
          by_cases q : j = 0
          · rw [if_pos q]; exact True.intro
          · rw [if_neg q]; exact g_opt hgd _
        exact D.gn hl (hgd _ (List.getElem_mem lj)) (g_opt hgd _)
      · have et2 : tick - i = (tick - (i + 1)) + 1 := by omega
        rw [et2] at hrun
        rw [← hrun]
        show _ = K40.runL D.R ns.length (tick - (i + 1)) (hg - if hg + 1 < ns.length then 1 else 0) ((K40.tk D.R none ws).take (ws.length - if hg + 1 < ns.length then 1 else 0))
        rw [← hcut]
    · obtain ⟨hg, wp, ys, ws, o7, o8, o9, rfl, s3, hwp, hys, lw, hor, hle, hgd, hrun⟩ := hPv
      rw [Nat.sub_self] at hrun
      have hrun : ws = K40.runL D.R ns.length tick h0 ws0 := hrun
      have ly := hys.len
      rw [List.length_map] at ly
      have h0y : ys[0]? = some (ys[0]'(by omega)) := List.getElem?_eq_getElem (by omega)
      obtain ⟨y, hy, ry⟩ := Ra.map_get hys h0y
      refine ⟨_, rfl, _, rfl, _, rfl, _, _, rfl, rfl, wp, ys, _, _, rfl, rfl, SqT.of hwp, (show atI ys ((0 : Nat) : Int) = _ from atI_nat h0y), k _ y H3 s3 ?_ ry (D.gm (by omega) (hgd y (List.mem_of_getElem? hy)))⟩
      rw [← hrun, List.head?_eq_getElem?]
      exact hy
/-! ### the rest -/
def spSeat (D : Kind P w K mg base CR) (g : Nat → Nat) : Sp := fun vs H Q _ => ∃ (x : Addr) (n : Nat), vs = [.ref x, .int (n : Int)] ∧ D.At H x ∧ 1 ≤ n ∧ Q (.int (g n : Nat)) H
theorem c_seat_in (T : Tx K mg CE CR CF CB) (D : Kind P w K mg base CR) : Cal P w K mg base 1 "seat_in" (spSeat D fun _ => 0) [] := by
  refine cal_of (N := ["row", "many"]) (ps := ["row", "many"]) T.seat_in (by decide +kernel) (fun vs H Q E h => ?_) (fun _ _ _ _ _ _ us hl => match us, hl with | [_, _], _ => rfl) (fun cdv f A outer s H vs Q E hr h => ?_)
  · obtain ⟨x, n, rfl, _⟩ := h
    rfl
  · obtain ⟨x, n, rfl, hA, hn, k⟩ := h
    obtain ⟨dx, fs, f1, f2, f3, f4, f5, f6⟩ := D.fld hA
    refine ⟨_, pss_one (ps_ret (pe_ifExp (pt_cmpR op_eq (pe_fld (pv 0) rfl) (pe_con T (.int 1)) (nomark _)) (pe_op op_sub (pv 1) pe_int) pe_int)), ?_⟩
    exact ⟨_, rfl, x, D.C, dx, fs, _, rfl, f1, D.ic.cl, D.nw, f3, rfl, false, congrArg V.bl (by decide), iteF k⟩
theorem c_due_in (T : Tx K mg CE CR CF CB) (D : Kind P w K mg base CR) : Cal P w K mg base 1 "due_in" (spSeat D fun n => n - 1) [] := by
  refine cal_of (N := ["row", "many"]) (ps := ["row", "many"]) T.due_in (by decide +kernel) (fun vs H Q E h => ?_) (fun _ _ _ _ _ _ us hl => match us, hl with | [_, _], _ => rfl) (fun cdv f A outer s H vs Q E hr h => ?_)
  · obtain ⟨x, n, rfl, _⟩ := h
    rfl
  · obtain ⟨x, n, rfl, hA, hn, k⟩ := h
    obtain ⟨dx, fs, f1, f2, f3, f4, f5, f6⟩ := D.fld hA
    refine ⟨_, pss_one (ps_ret (pe_ifExp (pt_cmpR op_eq (pe_fld (pv 0) rfl) (pe_con T (.int 1)) (nomark _)) (pe_op op_sub (pe_op op_mul pe_int (pv 1)) pe_int) (pe_op op_sub (pv 1) pe_int))), ?_⟩
    refine ⟨_, rfl, x, D.C, dx, fs, _, rfl, f1, D.ic.cl, D.nw, f3, rfl, false, congrArg V.bl (by decide), iteF ⟨_, rfl, _, _, rfl, rfl, ?_⟩⟩
    have e : (n : Int) - 1 = ((n - 1 : Nat) : Int) := by omega
    show Q (.int ((n : Int) - 1)) H
    rw [e]
    exact k
def spSaidIn (D : Kind P w K mg base CR) : Sp := fun vs H Q _ => ∃ (x t : Addr) (ns : List Int) (tick : Nat), vs = [.ref x, .ref t, .int (tick : Int)] ∧ D.At H x ∧ H t = some (.tup (ns.map V.int)) ∧ 1 ≤ ns.length ∧ ns.length ≤ 200 ∧ tick < ns.length ∧ ∀ b H', Same H H' → K40.saidL D.R ns tick = some b → Q (.bl b) H'
theorem c_said_in (T : Tx K mg CE CR CF CB) (D : Kind P w K mg base CR) : Cal P w K mg base 7 "said_in" (spSaidIn D) [] := by
  have G1 : Cal P w K mg base 6 "worth_in" (spWorthIn D) [] := c_worth_in T D
  have G2 : Cal P w K mg base 1 "seat_in" (spSeat D fun _ => 0) [] := c_seat_in T D
  refine cal_of (N := ["row", "word", "tick"]) (ps := ["row", "word", "tick"]) T.said_in (by decide +kernel) (fun vs H Q E h => ?_) (fun _ _ _ _ _ _ us hl => match us, hl with | [_, _, _], _ => rfl) (fun cdv f A outer s H vs Q E hr h => ?_)
  · obtain ⟨x, t, ns, tick, rfl, _⟩ := h
    rfl
  · obtain ⟨x, t, ns, tick, rfl, hA, ht, h1, h2, h3, k⟩ := h
    obtain ⟨dx, fs, f1, f2, f3, f4, f5, f6⟩ := D.fld hA
    refine ⟨_, pss_one (ps_ret (pe_mt D.sys hr (Nat.le_trans D.ls (by decide)) (pv 0) (pa_cons (pe_c G1 hr (by decide) rfl (pa_cons (pv 0) (pa_cons (pv 1) (pa_cons (pe_c G2 hr (by decide) rfl (pa_cons (pv 0) (pa_cons (pe_len T (pv 1)) pa_nil))) (pa_cons (pv 2) pa_nil))))) pa_nil))), ?_⟩
    refine ⟨_, rfl, x, dx, fs, rfl, f1, f6, _, rfl, _, rfl, _, rfl, _, rfl, t, _, rfl, .inr (SqT.of ht), x, (ns.map V.int).length, rfl, hA, by rw [List.length_map]; exact h1, ?_⟩
    refine ⟨_, rfl, x, t, ns, tick, rfl, hA, ht, h1, h2, h3, fun v y H1 s1 hy rv gy => ?_⟩
    refine ⟨x, v, y, rfl, D.sm hA s1, rv, gy, fun H2 s2 => k _ H2 (same_tr s1 s2) ?_⟩
    unfold K40.saidL
    rw [hy]
    rfl
theorem c_told_in (T : Tx K mg CE CR CF CB) (D : Kind P w K mg base CR) : Cal P w K mg base 8 "told_in" (fun vs H Q _ => ∃ (x t : Addr) (ns : List Int), vs = [.ref x, .ref t] ∧ D.At H x ∧ H t = some (.tup (ns.map V.int)) ∧ 1 ≤ ns.length ∧ ns.length ≤ 200 ∧ ∀ b H', Same H H' → K40.saidL D.R ns (ns.length - 1) = some b → Q (.bl b) H') [] := by
  have G1 : Cal P w K mg base 7 "said_in" (spSaidIn D) [] := c_said_in T D
  have G2 : Cal P w K mg base 1 "due_in" (spSeat D fun n => n - 1) [] := c_due_in T D
  refine cal_of (N := ["row", "word"]) (ps := ["row", "word"]) T.told_in (by decide +kernel) (fun vs H Q E h => ?_) (fun _ _ _ _ _ _ us hl => match us, hl with | [_, _], _ => rfl) (fun cdv f A outer s H vs Q E hr h => ?_)
  · obtain ⟨x, t, ns, rfl, _⟩ := h
    rfl
  · obtain ⟨x, t, ns, rfl, hA, ht, h1, h2, k⟩ := h
    refine ⟨_, pss_one (ps_ret (pe_c G1 hr (by decide) rfl (pa_cons (pv 0) (pa_cons (pv 1) (pa_cons (pe_c G2 hr (by decide) rfl (pa_cons (pv 0) (pa_cons (pe_len T (pv 1)) pa_nil))) pa_nil))))), ?_⟩
    refine ⟨_, rfl, _, rfl, _, rfl, _, rfl, t, _, rfl, .inr (SqT.of ht), x, (ns.map V.int).length, rfl, hA, by rw [List.length_map]; exact h1, ?_⟩
    exact ⟨x, t, ns, (ns.map V.int).length - 1, rfl, hA, ht, h1, h2, by rw [List.length_map]; omega, fun b H1 s1 hb => k b H1 s1 (by rw [List.length_map] at hb; exact hb)⟩
def spNeedBoth (D : Kind P w K mg base CR) : Sp := fun vs H Q _ => ∃ (x p : Addr) (ns : List Int), vs = [.ref x, .ref p] ∧ D.At H x ∧ H p = some (.lst (ns.map V.int)) ∧ 1 ≤ ns.length ∧ ns.length ≤ 200 ∧ (∀ n ∈ ns, 0 ≤ n ∧ n < D.l) ∧ ∀ (t : Addr) (H' : Hp), Same H H' → H' t = some (.tup (ns.map V.int)) → Q (.ref t) H'
theorem c_need_both (T : Tx K mg CE CR CF CB) (D : Kind P w K mg base CR) : Cal P w K mg base 6 "need_both" (spNeedBoth D) [] := by
  have G1 : Cal P w K mg base 1 "need_row" (spNeedRow K CR) [.str "row"] := c_need_row1 T
  have G2 : Cal P w K mg base 5 "need_word" spNeedWord [] := c_need_word T
  refine cal_of (N := ["row", "word"]) (ps := ["row", "word"]) T.need_both (by decide +kernel) (fun vs H Q E h => ?_) (fun _ _ _ _ _ _ us hl => match us, hl with | [_, _], _ => rfl) (fun cdv f A outer s H vs Q E hr h => ?_)
  · obtain ⟨x, p, ns, rfl, _⟩ := h
    rfl
  · obtain ⟨x, p, ns, rfl, hA, hp, h1, h2, h3, k⟩ := h
    obtain ⟨dx, fs, f1, f2, f3, f4, f5, f6⟩ := D.fld hA
    refine ⟨_, pss_cons (ps_expr (pe_c G1 hr (by decide) rfl (pa_cons (pv 0) pa_nil)))
      (pss_one (ps_ret (pe_c G2 hr (by decide) rfl (pa_cons (pv 1) (pa_cons (pe_fld (pv 0) rfl) (pa_cons pe_str pa_nil)))))), ?_⟩
    refine ⟨_, rfl, x, D.C, dx, fs, _, rfl, f1, D.ic, D.kt, ?_⟩
    exact ⟨_, rfl, _, rfl, x, D.C, dx, fs, _, rfl, f1, D.ic.cl, D.nl, f2, p, ns, D.l, _, rfl, hp, h1, h2, h3, fun t H1 s1 ht => k t H1 s1 ht⟩
def spTold (D : Kind P w K mg base CR) : Sp := fun vs H Q _ => ∃ (x p : Addr) (ns : List Int), vs = [.ref x, .ref p] ∧ D.At H x ∧ H p = some (.lst (ns.map V.int)) ∧ 1 ≤ ns.length ∧ ns.length ≤ 200 ∧ (∀ n ∈ ns, 0 ≤ n ∧ n < D.l) ∧ ∀ b H', Same H H' → K40.saidL D.R ns (ns.length - 1) = some b → Q (.bl b) H'
theorem c_told (T : Tx K mg CE CR CF CB) (D : Kind P w K mg base CR) : Cal P w K mg base 9 "told" (spTold D) [] := by
  have G1 := c_told_in T D
  have G2 : Cal P w K mg base 6 "need_both" (spNeedBoth D) [] := c_need_both T D
  refine cal_of (N := ["row", "word"]) (ps := ["row", "word"]) T.told (by decide +kernel) (fun vs H Q E h => ?_) (fun _ _ _ _ _ _ us hl => match us, hl with | [_, _], _ => rfl) (fun cdv f A outer s H vs Q E hr h => ?_)
  · obtain ⟨x, p, ns, rfl, _⟩ := h
    rfl
  · obtain ⟨x, p, ns, rfl, hA, hp, h1, h2, h3, k⟩ := h
    refine ⟨_, pss_one (ps_ret (pe_c G1 hr (by decide) rfl (pa_cons (pv 0) (pa_cons (pe_c G2 hr (by decide) rfl (pa_cons (pv 0) (pa_cons (pv 1) pa_nil))) pa_nil)))), ?_⟩
    exact ⟨_, rfl, _, rfl, _, rfl, x, p, ns, rfl, hA, hp, h1, h2, h3, fun t H1 s1 ht => ⟨x, t, ns, rfl, D.sm hA s1, ht, h1, h2, fun b H2 s2 hb => k b H2 (same_tr s1 s2) hb⟩⟩
def spSaid (D : Kind P w K mg base CR) : Sp := fun vs H Q _ => ∃ (x p : Addr) (ns : List Int) (tick : Nat), vs = [.ref x, .ref p, .int (tick : Int)] ∧ D.At H x ∧ H p = some (.lst (ns.map V.int)) ∧ 1 ≤ ns.length ∧ ns.length ≤ 200 ∧ (∀ n ∈ ns, 0 ≤ n ∧ n < D.l) ∧ tick < ns.length ∧ ∀ b H', Same H H' → K40.saidL D.R ns tick = some b → Q (.bl b) H'
theorem c_said (T : Tx K mg CE CR CF CB) (D : Kind P w K mg base CR) : Cal P w K mg base 8 "said" (spSaid D) [] := by
  have G1 : Cal P w K mg base 7 "said_in" (spSaidIn D) [] := c_said_in T D
  have G2 : Cal P w K mg base 6 "need_both" (spNeedBoth D) [] := c_need_both T D
  have G3 : Cal P w K mg base 3 "need_number" spNeedNumber [] := c_need_number T
  refine cal_of (N := ["row", "word", "tick", "letters"]) (ps := ["row", "word", "tick"]) T.said (by decide +kernel) (fun vs H Q E h => ?_) (fun _ _ _ _ _ _ us hl => match us, hl with | [_, _, _], _ => rfl) (fun cdv f A outer s H vs Q E hr h => ?_)
  · obtain ⟨x, p, ns, tick, rfl, _⟩ := h
    rfl
  · obtain ⟨x, p, ns, tick, rfl, hA, hp, h1, h2, h3, h4, k⟩ := h
    have nd : (["row", "word", "tick", "letters"] : List Str).Nodup := by decide +kernel
    refine ⟨_, pss_cons (ps_set (i := 3) nd rfl (Or.inl rfl) (pe_c G2 hr (by decide) rfl (pa_cons (pv 0) (pa_cons (pv 1) pa_nil))))
      (pss_cons (ps_expr (pe_c G3 hr (by decide) rfl (pa_cons (pv 2) (pa_cons pe_str (pa_cons pe_int (pa_cons (pe_con T (.int 1000)) pa_nil))))))
      (pss_one (ps_ret (pe_c G1 hr (by decide) rfl (pa_cons (pv 0) (pa_cons (pv 3) (pa_cons (pv 2) pa_nil))))))), ?_⟩
    refine ⟨_, rfl, _, rfl, x, p, ns, rfl, hA, hp, h1, h2, h3, fun t H1 s1 ht => ?_⟩
    refine ⟨_, rfl, (tick : Int), 0, 1000, _, rfl, by omega, by omega, ?_⟩
    exact ⟨_, rfl, _, rfl, _, rfl, x, t, ns, tick, rfl, D.sm hA s1, ht, h1, h2, h4, fun b H2 s2 hb => k b H2 (same_tr s1 s2) hb⟩
end
end KR
end
section
set_option Elab.async false
set_option linter.all false
set_option maxRecDepth 100000
set_option maxHeartbeats 4000000
namespace KR
open PySem PySem.Spec PyProof.Rows L2 C8
section
variable {P : Program} {w : World} {K : PySem.W.Frag} {mg : Str → Option Value} {base : Heap} {CE CR CF CB c Pt : Addr} {X : Cx}
theorem encO_fed (o : Option K40.Wo) : encO dWo o = dOW o := by cases o <;> rfl
theorem encO_both (o : Option (K40.Wo × K40.Wo)) : encO dBo o = dOB o := by cases o <;> rfl
theorem gOpt_fed {E : K40.Eat} {b : Nat} {o : Option K40.Wo} (h : gOpt (GoodW E b) o) : GoodO E b o := by cases o <;> exact h
theorem gOpt_both {E F : K40.Eat} {b : Nat} {o : Option (K40.Wo × K40.Wo)} (h : gOpt (GoodB2 E F b) o) : GoodOB E F b o := by cases o <;> exact h
theorem good_mono {E : K40.Eat} {b b' : Nat} {y : K40.Wo} (h : b ≤ b') (g : GoodW E b y) : GoodW E b' y := ⟨g.1, fun z hz => Nat.le_trans (g.2 z hz) h⟩
theorem good_beg {E : K40.Eat} (n : Int) : GoodW E 0 ((K40.rowFed E).beg n) := ⟨List.length_replicate, fun z hz => by
  have hz : z ∈ List.replicate E.stacks ([] : List Int) := hz
  rw [List.eq_of_mem_replicate hz]
  exact Nat.le_refl _⟩
def fedKind (T : Tx K mg CE CR CF CB) (E : K40.Eat) (oE : K40.Ok E) (hk : E.stacks ≤ 2) : Kind P w K mg base CR where
  C := CF
  W := K40.Wo
  R := K40.rowFed E
  enc := dWo
  At := fun H x => FedAt P w CE CF H x E
  Good := GoodW E
  l := E.letters
  kp := fun h e => h.kp e
  fld := fun h => by
    obtain ⟨dx, e, h1, h2⟩ := h.ex
    exact ⟨dx, _, h1, by kernel_rfl, by kernel_rfl, by kernel_rfl, by kernel_rfl, by kernel_rfl⟩
  ic := T.fed.ins
  kt := T.kFE
  nl := T.noF "letters" (by decide +kernel)
  nw := T.noF "ways" (by decide +kernel)
  kb := 1
  kn := 3
  ks := 3
  lb := by decide
  ln := by decide
  ls := by decide
  beg := met_imp (c_fed_begin T) fun vs H Q X h => by
    obtain ⟨x, n, rfl, hA, k⟩ := h
    exact ⟨x, E, n, rfl, hA, oE, k⟩
  nxt := met_imp (c_fed_next T) fun vs H Q X h => by
    obtain ⟨x, lv, ov, rv, left, own, right, rfl, hA, h1, h2, h3, g1, g2, g3, k⟩ := h
    rw [encO_fed] at h1 h3
    exact ⟨x, E, lv, ov, rv, left, own, right, rfl, hA, oE, h1, h2, h3, gOpt_fed g1, g2, gOpt_fed g3, k⟩
  sys := met_imp (c_fed_says T) fun vs H Q X h => by
    obtain ⟨x, v, y, rfl, hA, h1, g1, k⟩ := h
    exact ⟨x, E, v, y, rfl, hA, oE, h1, by rw [g1.1]; exact hk, k⟩
  gb := good_beg
  gn := fun g1 g2 g3 => good_next oE (gOpt_fed g1) g2 (gOpt_fed g3)
  gm := good_mono
theorem gOpt_map {W U : Type} {g : U → Prop} {f : W → U} {o : Option W} (h : gOpt (fun y => g (f y)) o) : gOpt g (o.map f) := by cases o <;> exact h
theorem gOpt_imp {W : Type} {g g' : W → Prop} {o : Option W} (h : gOpt g o) (q : ∀ y, g y → g' y) : gOpt g' o := by
  cases o with
  | none => exact True.intro
  | some y => exact q y h
def bothKind (T : Tx K mg CE CR CF CB) (E F : K40.Eat) (oE : K40.Ok E) (oF : K40.Ok F) (hE : E.stacks ≤ 2) (hF : F.stacks ≤ 2) : Kind P w K mg base CR where
  C := CB
  W := K40.Wo × K40.Wo
  R := K40.rowBoth (K40.rowFed E) (K40.rowFed F)
  enc := dBo
  At := fun H x => BothAt P w CE CF CB H x E F
  Good := GoodB2 E F
  l := E.letters
  kp := fun h e => h.kp e
  fld := fun h => by
    obtain ⟨dx, a, b, h1, h2, h3⟩ := h.ex
    exact ⟨dx, _, h1, by kernel_rfl, by kernel_rfl, by kernel_rfl, by kernel_rfl, by kernel_rfl⟩
  ic := T.both.ins
  kt := T.kBE
  nl := T.noB "letters" (by decide +kernel)
  nw := T.noB "ways" (by decide +kernel)
  kb := 2
  kn := 4
  ks := 4
  lb := by decide
  ln := by decide
  ls := by decide
  beg := met_imp (c_both_begin T) fun vs H Q X h => by
    obtain ⟨x, n, rfl, hA, k⟩ := h
    exact ⟨x, E, F, n, rfl, hA, oE, oF, k⟩
  nxt := met_imp (c_both_next T) fun vs H Q X h => by
    obtain ⟨x, lv, ov, rv, left, own, right, rfl, hA, h1, h2, h3, g1, g2, g3, k⟩ := h
    rw [encO_both] at h1 h3
    exact ⟨x, E, F, lv, ov, rv, left, own, right, rfl, hA, oE, oF, h1, h2, h3, gOpt_both g1, g2, gOpt_both g3, k⟩
  sys := met_imp (c_both_says T) fun vs H Q X h => by
    obtain ⟨x, v, y, rfl, hA, h1, g1, k⟩ := h
    exact ⟨x, E, F, v, y, rfl, hA, oE, oF, h1, by rw [g1.1.1]; exact hE, by rw [g1.2.1]; exact hF, k⟩
  gb := fun n => ⟨good_beg n, good_beg n⟩
  gn := fun {b} {left} {own} {right} g1 g2 g3 => ⟨good_next oE (gOpt_fed (gOpt_map (f := Prod.fst) (gOpt_imp g1 fun _ z => z.1))) g2.1 (gOpt_fed (gOpt_map (f := Prod.fst) (gOpt_imp g3 fun _ z => z.1))), good_next oF (gOpt_fed (gOpt_map (f := Prod.snd) (gOpt_imp g1 fun _ z => z.2))) g2.2 (gOpt_fed (gOpt_map (f := Prod.snd) (gOpt_imp g3 fun _ z => z.2)))⟩
  gm := fun h g => ⟨good_mono h g.1, good_mono h g.2⟩
end
end KR
end
section
set_option Elab.async false
set_option linter.all false
set_option maxRecDepth 100000
set_option maxHeartbeats 4000000
namespace KR
open PySem PySem.Spec PyProof.Rows L2 C8
/-- the plough: its cells at ca, its turn, its rest -/
def PlAt (H : Hp) (p ca : Addr) (T : Nat) : Prop := ∃ (turn rest : Int) (cs : List Int), H p = some (.lst [.ref ca, .int turn, .int rest]) ∧ H ca = some (.lst (cs.map V.int)) ∧ 0 ≤ turn ∧ turn ≤ T ∧ 0 ≤ rest
/-- lists stay -/
def Ls (H H' : Hp) : Prop := ∀ b ys, H b = some (.lst ys) → H' b = some (.lst ys)
theorem PlAt.ls {H H' : Hp} {p ca : Addr} {T : Nat} (h : PlAt H p ca T) (e : Ls H H') : PlAt H' p ca T := by
  obtain ⟨t, r, cs, h1, h2, h3, h4, h5⟩ := h
  exact ⟨t, r, cs, e _ _ h1, e _ _ h2, h3, h4, h5⟩
theorem PlAt.sm {H H' : Hp} {p ca : Addr} {T : Nat} (h : PlAt H p ca T) (e : Same H H') : PlAt H' p ca T := h.ls fun b ys z => e _ _ z
theorem PlAt.le {H : Hp} {p ca : Addr} {T U : Nat} (h : PlAt H p ca T) (e : T ≤ U) : PlAt H p ca U := by
  obtain ⟨t, r, cs, h1, h2, h3, h4, h5⟩ := h
  exact ⟨t, r, cs, h1, h2, h3, by omega, h5⟩
theorem PlAt.lst {H : Hp} {p ca : Addr} {T : Nat} (h : PlAt H p ca T) : ∃ ys, H p = some (.lst ys) := by
  obtain ⟨t, r, cs, h1, _⟩ := h
  exact ⟨_, h1⟩
theorem PlAt.kp {H H' : Hp} {p ca : Addr} {T : Nat} (h : PlAt H p ca T) (e : Fr [p] H H') : Nl H H' := e.nl fun x hx => by
  rw [List.mem_singleton.mp hx]
  exact h.lst
theorem PlAt.ne {H : Hp} {p ca D : Addr} {T : Nat} (h : PlAt H p ca T) (hD : H D = none) : D ≠ p ∧ D ≠ ca := by
  obtain ⟨t, r, cs, h1, h2, h3, h4, h5⟩ := h
  refine ⟨fun e => ?_, fun e => ?_⟩
  · rw [e, h1] at hD
    cases hD
  · rw [e, h2] at hD
    cases hD
theorem PlAt.upd {H : Hp} {p ca D : Addr} {T : Nat} {o : HO} (h : PlAt H p ca T) (n : D ≠ p ∧ D ≠ ca) : PlAt (L2.upd H D o) p ca T := by
  obtain ⟨t, r, cs, h1, h2, h3, h4, h5⟩ := h
  exact ⟨t, r, cs, by rw [upd_ne (Ne.symm n.1)]; exact h1, by rw [upd_ne (Ne.symm n.2)]; exact h2, h3, h4, h5⟩
theorem seq_by {t1 t2 : TS} {D : Ends} {σ : L2.St} {H : Hp} (R : L2.St → Hp → Prop) (h : (∀ σ' H', R σ' H' → t2 D σ' H') → t1 { D with nx := t2 D } σ H) (q : ∀ σ' H', R σ' H' → t2 D σ' H') : tSeq t1 t2 D σ H := h q
theorem mix_bound {m t : Int} (h1 : 0 ≤ m) (h2 : m < 2147483563) (h3 : 0 ≤ t) (h4 : t ≤ 1000000) : (m * (2 * t + 7753) + 121351 * t * t + 95989).natAbs < 2 ^ 64 := by
  have a1 : 0 ≤ m * (2 * t + 7753) := Int.mul_nonneg h1 (by omega)
  have a2 : m * (2 * t + 7753) ≤ 2147483563 * 2007753 := Int.mul_le_mul (by omega) (by omega) (by omega) (by omega)
  have b1 : 0 ≤ 121351 * t * t := Int.mul_nonneg (by omega) h3
  have b2 : 121351 * t * t ≤ 121351000000 * 1000000 := Int.mul_le_mul (by omega) h4 h3 (by omega)
  omega
theorem int_dp {K : PySem.W.Frag} {H : Hp} : ∀ (cs : List Int), DpAll K H (cs.map V.int) (cs.map PyData.int)
  | [] => .nil
  | c :: cs => .cons (.int c) (int_dp cs)
section
variable {P : Program} {w : World} {K : PySem.W.Frag} {mg : Str → Option Value} {base : Heap} {CE CR CF CB c Pt : Addr} {X : Cx}
theorem pe_ixL {a b : Expr} {ta tb : TE} {pos : Pos} (ha : PE X a ta) (hb : PE X b tb) (hs : PlainIx b := by exact fun _ _ => rfl) (hK : X.K = K := by rfl) : PE X (.Subscript a b pos) (tOp (rIxL K) ta tb) := by
  subst hK
  exact pe_ix ix_list ha hb hs
def rInt1 : List V → Hp → VK → Prop := fun xs H Q => (∃ i, xs = [V.int i] ∧ Q (.int i) H) ∨ ∃ k, xs = [V.bl k] ∧ Q (.int (if k then 1 else 0)) H
theorem cr_int1 : CallR X (.type "int") rInt1 := call_int1
theorem pe_i1 {e : Expr} {te : TE} {p pos : Pos} (T : Tx K mg CE CR CF CB) (he : PE X e te) (hg : Gl X "int" := by rfl) (hm : X.mg = mg := by rfl)
    (h1 : starEach [e] X.env = (false, eval e X.env) :: starEach [] X.env := by rfl) (h2 : (backTo pos (starEach [] X.env)).any (·.1) = false := by rfl) : PE X (.Call (.Name "int" p) [e] [] pos) (tCB rInt1 (tCons te tNil)) := by
  subst hm
  exact pe_callTy cr_int1 hg (T.free "int" (by decide +kernel)) PyProof.Rows.boot_int (pa_cons (hs := h1) he pa_nil) (he := h1) (hpl := h2)
def rAbs : List V → Hp → VK → Prop := fun xs H Q => ∃ i, xs = [V.int i] ∧ Q (.int (if i < 0 then -i else i)) H
theorem cr_abs : CallR X (.builtin "abs") rAbs := call_abs
theorem pe_abs {e : Expr} {te : TE} {p pos : Pos} (T : Tx K mg CE CR CF CB) (he : PE X e te) (hg : Gl X "abs" := by rfl) (hm : X.mg = mg := by rfl)
    (h1 : starEach [e] X.env = (false, eval e X.env) :: starEach [] X.env := by rfl) (h2 : (backTo pos (starEach [] X.env)).any (·.1) = false := by rfl) : PE X (.Call (.Name "abs" p) [e] [] pos) (tCB rAbs (tCons te tNil)) := by
  subst hm
  exact pe_callB cr_abs hg (T.free "abs" (by decide +kernel)) (by first | exact PyProof.Rows.boot_abs | exact PySem.boot_abs | decide +kernel | kernel_rfl) (pa_cons (hs := h1) he pa_nil) (he := h1) (hpl := h2)
theorem cut_ints {ns : List Int} {lo hi : Option Int} : ∃ cs, cutV (ns.map V.int) lo hi = List.map V.int cs := by
  unfold cutV
  exact ⟨_, by rw [List.map_take, List.map_drop]⟩
/-! ### _law_plough -/
def spPlough (K : PySem.W.Frag) : Sp := fun vs H Q _ => ∃ (a : Addr) (ns : List Int), vs = [.ref a] ∧ SqL K H a (ns.map V.int) ∧ ns.length ≤ 1000 ∧ ∀ p ca H', Same H H' → H p = none → PlAt H' p ca 0 → Q (.ref p) H'
theorem c_plough (T : Tx K mg CE CR CF CB) : Cal P w K mg base 1 "_law_plough" (spPlough K) [] := by
  refine cal_of (N := ["_law_script", "_law_cell"]) (ps := ["_law_script"]) T.plough (by decide +kernel) (fun vs H Q E h => ?_) (fun _ _ _ _ _ _ us hl => match us, hl with | [_], _ => rfl) (fun cdv f A outer s H vs Q E hr h => ?_)
  · obtain ⟨a, ns, rfl, _⟩ := h
    rfl
  · obtain ⟨a, ns, rfl, ha, hn, k⟩ := h
    have nd : (["_law_script", "_law_cell"] : List Str).Nodup := by decide +kernel
    refine ⟨_, pss_one (ps_ret (pe_lst (pa_cons (pe_lc (own := [("_law_cell", 1)]) (g := gName 1) (tt := tYes) rfl nd (pi_list (pe_slice sl_list (pv 0) po_none (po_some pe_int))) (blkOk_by (N := ["_law_script", "_law_cell"]) (sc := fnScope sPlough) (by decide +kernel)) (fun _ _ _ _ _ => pg_name (i := 1) nd rfl (Or.inl rfl)) (fun _ _ _ _ _ => pts_nil)
        (fun _ _ _ _ _ => pe_i1 T (pv 1))) (pa_cons pe_int (pa_cons pe_int pa_nil))))), ?_⟩
    refine ⟨_, rfl, 60, rfl, a, _, rfl, ha, fun q hq => ?_⟩
    obtain ⟨cs, hcs⟩ := @cut_ints ns none (some 60)
    have lc : cs.length ≤ 1000 := by
      have e := congrArg List.length hcs
      rw [List.length_map] at e
      rw [← e]
      unfold cutV
      rw [List.length_take, List.length_drop, List.length_map]
      omega
    rw [hcs]
    have s1 : Same H (upd H q (.lst (cs.map V.int))) := Same.new hq
    refine ⟨q, rfl, ⟨_, SqL.of upd_same⟩, fun L hL => ?_⟩
    refine lc_pure (walk_list (xs := cs.map V.int)) hL (by rw [List.length_map]; exact Nat.le_trans lc (by decide)) (fun H2 s2 => SqL.of (s2 _ _ upd_same)) (fun i H x H' y => by rw [y.1]; exact Same.refl _) (fun i y H => ∃ n, cs[i]? = some n ∧ y = .int n) (fun i y H H' e z => z)
      (fun i x H2 H3 hi s2 y Qy hq => ?_) (fun H2 ys s2 hLs hl2 hr2 => ?_)
    · obtain ⟨rfl, hx⟩ := y
      rw [List.getElem?_map] at hx
      obtain ⟨n, hn, rfl⟩ := Option.map_eq_some_iff.mp hx
      exact ⟨rfl, _, rfl, .inl ⟨n, rfl, hq _ _ (Same.refl _) ⟨n, hn, rfl⟩⟩⟩
    · have ey : ys = cs.map V.int := by
        apply List.ext_getElem?
        intro i
        rcases Nat.lt_or_ge i ys.length with h1 | h1
        · obtain ⟨n, h2, h3⟩ := hr2 i _ (List.getElem?_eq_getElem h1)
          rw [List.getElem?_eq_getElem h1, h3, List.getElem?_map, h2]
          rfl
        · rw [List.getElem?_eq_none h1, List.getElem?_eq_none (by rw [← hl2]; exact h1)]
      rw [ey] at hLs
      refine ⟨by show 3 ≤ sizeLine; decide, fun p hp => k p L _ (same_tr (same_tr s1 s2) (Same.new hp)) (free_of (same_tr s1 s2) hp) ⟨0, 0, cs, upd_same, Same.new hp _ _ hLs, by omega, by omega, by omega⟩⟩
/-! ### _law_yoke -/
def spYoke : Sp := fun vs H Q _ => ∃ (p ca : Addr) (many : Int) (T : Nat), vs = [.ref p, .int many] ∧ PlAt H p ca T ∧ T ≤ 1000000 ∧ 0 < many ∧ many < 1073741824 ∧ ∀ n H', 0 ≤ n → n < many → PlAt H' p ca (T + 1) → Fr [p] H H' → Q (.int n) H'
theorem c_yoke (T : Tx K mg CE CR CF CB) : Cal P w K mg base 1 "_law_yoke" spYoke [] := by
  refine cal_of (N := ["_law_plough_here", "_law_many", "_law_rest", "_law_turn", "_law_cell", "_law_mixed"]) (ps := ["_law_plough_here", "_law_many"]) T.yoke (by decide +kernel) (fun vs H Q E h => ?_) (fun _ _ _ _ _ _ us hl => match us, hl with | [_, _], _ => rfl) (fun cdv f A outer s H vs Q E hr h => ?_)
  · obtain ⟨p, ca, many, T, rfl, _⟩ := h
    rfl
  · obtain ⟨p, ca, many, U, rfl, hP, hU, hm1, hm2, k⟩ := h
    have hu := hr.units
    have nd : (["_law_plough_here", "_law_many", "_law_rest", "_law_turn", "_law_cell", "_law_mixed"] : List Str).Nodup := by decide +kernel
    refine ⟨_, pss_cons (ps_if (pt_cmpR op_gt (pe_ixL (pv 0) pe_int) pe_int (nomark _))
        (pss_cons (ps_set (i := 2) nd rfl (Or.inl rfl) (pe_i1 T (pe_ixL (pv 0) pe_int)))
        (pss_cons (ps_asg (pe_op op_fdiv (pv 2) (pv 1)) (pg_sub (pv 0) pe_int set_list))
        (pss_one (ps_ret (pe_op op_mod (pe_i1 T (pv 2)) (pv 1)))))) pss_nil)
      (pss_cons (ps_set (i := 3) nd rfl (Or.inl rfl) (pe_ixL (pv 0) pe_int))
      (pss_cons (ps_asg (pe_op op_add (pv 3) pe_int) (pg_sub (pv 0) pe_int set_list))
      (pss_cons (ps_set (i := 4) nd rfl (Or.inl rfl) (pe_op op_add (pe_op op_mul pe_int (pv 3)) pe_int))
      (pss_cons (ps_if (pt_cmpR (r := rNeD K) (op_neD hu) (pe_ixL (pv 0) pe_int) (pe_lst pa_nil) (nomark _))
        (pss_one (ps_set (i := 4) nd rfl (Or.inl rfl) (pe_ixL (pe_ixL (pv 0) pe_int) (pe_op op_mod (pe_i1 T (pv 3)) (pe_len T (pe_ixL (pv 0) pe_int)))))) pss_nil)
      (pss_cons (ps_if (PW.pt (pw_and (pt_cmpR op_lt (pv 3) (pe_len T (pe_ixL (pv 0) pe_int)) (nomark _)) (pw_and1 (pt_cmpR op_ge (pe_abs T (pv 4)) (pe_op op_pow pe_int pe_int) (nomark _)))))
        (pss_cons (ps_set (i := 2) nd rfl (Or.inl rfl) (pe_op op_add (pe_op op_mul pe_int (pe_op op_sub (pe_abs T (pe_i1 T (pv 4))) (pe_op op_pow pe_int pe_int))) (pe_i1 T (pe_cmpR op_lt (pv 4) pe_int (nomark _)))))
        (pss_cons (ps_asg (pe_op op_fdiv (pv 2) (pv 1)) (pg_sub (pv 0) pe_int set_list))
        (pss_one (ps_ret (pe_op op_mod (pe_i1 T (pv 2)) (pv 1)))))) pss_nil)
      (pss_cons (ps_set (i := 5) nd rfl (Or.inl rfl) (pe_op op_mod (pe_i1 T (pe_op op_pow (pe_op op_add (pe_op op_add (pe_op op_mod (pe_i1 T (pv 4)) pe_int) (pe_op op_mul pe_int (pv 3))) pe_int) pe_int)) pe_int))
      (pss_cons (ps_set (i := 5) nd rfl (Or.inl rfl) (pe_op op_mod (pe_i1 T (pe_op op_pow (pe_op op_add (pe_op op_add (pe_op op_mul (pv 5) (pe_op op_add (pe_op op_mul pe_int (pv 3)) pe_int)) (pe_op op_mul (pe_op op_mul pe_int (pv 3)) (pv 3))) pe_int) pe_int)) pe_int))
      (pss_one (ps_ret (pe_op op_mod (pe_i1 T (pe_op op_fdiv (pv 5) pe_int)) (pv 1))))))))))), ?_⟩
    obtain ⟨turn, rest, cs, h1, h2, h3, h4, h5⟩ := hP
    have hne : ca ≠ p := ne_of h2 h1 (by intro z; injection z with z; cases cs with | nil => cases z | cons a b => injection z with z1 z2; cases z1)
    refine ⟨_, rfl, p, _, 2, _, rfl, rfl, SqL.of h1, rfl, _, _, rfl, rfl, decide (rest > 0), rfl, ?_⟩
    by_cases hr0 : rest > 0
    · refine it_ (decide_eq_true hr0) ?_
      refine ⟨_, rfl, p, _, 2, _, rfl, rfl, SqL.of h1, rfl, .inl ⟨_, rfl, ?_⟩⟩
      refine ⟨_, rfl, _, rfl, _, _, rfl, rfl, ⟨hm1, hm2⟩, ?_⟩
      refine ⟨_, rfl, p, _, 2, 2, rfl, rfl, h1, rfl, ?_⟩
      refine ⟨_, rfl, .inl ⟨_, rfl, _, rfl, _, _, rfl, rfl, hm1, ?_⟩⟩
      exact k _ _ (Int.emod_nonneg _ (by omega)) (Int.emod_lt_of_pos _ hm1) ⟨turn, rest / many, cs, upd_same, by rw [upd_ne hne]; exact h2, h3, by omega, Int.ediv_nonneg h5 (by omega)⟩ fr_set
    · refine if_ (decide_eq_false hr0) ?_
      refine ⟨_, rfl, p, _, 1, _, rfl, rfl, SqL.of h1, rfl, ?_⟩
      refine ⟨_, rfl, _, _, rfl, rfl, _, rfl, p, _, 1, 1, rfl, rfl, h1, rfl, ?_⟩
      refine ⟨_, rfl, _, _, rfl, rfl, .inl ⟨by omega, by omega⟩, _, _, rfl, rfl, ?_⟩
      have hb : upd H p (.lst [V.ref ca, V.int (turn + 1), V.int rest]) p = some (.lst [V.ref ca, V.int (turn + 1), V.int rest]) := upd_same
      have hca : upd H p (.lst [V.ref ca, V.int (turn + 1), V.int rest]) ca = some (.lst (cs.map V.int)) := by rw [upd_ne hne]; exact h2
      have fb : Fr [p] H (upd H p (.lst [V.ref ca, V.int (turn + 1), V.int rest])) := fr_set
      dsimp only
      refine seq_by (fun σ' H' => ∃ c : Int, σ' = [some (.ref p), some (.int many), none, some (.int turn), some (.int c), none] ∧ Same (upd H p (.lst [V.ref ca, V.int (turn + 1), V.int rest])) H') (fun key => ?_) fun σ' H3 ⟨cc, e, s3⟩ => ?_
      · refine ⟨_, rfl, p, _, 0, _, rfl, rfl, SqL.of hb, rfl, Nat.zero_le _, fun q hq => ?_⟩
        have sq : Same (upd H p (.lst [V.ref ca, V.int (turn + 1), V.int rest])) (upd (upd H p (.lst [V.ref ca, V.int (turn + 1), V.int rest])) q (.lst [])) := Same.new hq
        refine ⟨.list (cs.map PyData.int), .list [], .lst (SqL.of (sq _ _ hca)) (int_dp cs), .lst (SqL.of upd_same) .nil, PySem.W.shaped_ints cs, by decide +kernel, _, rfl, ?_⟩
        cases cs with
        | nil => exact if_ (by decide +kernel) (key _ _ ⟨_, rfl, sq⟩)
        | cons c0 cs =>
          refine it_ (by simp [PyData.eqv, PyData.eqvAll]) ?_
          have hp2 := sq _ _ hb
          have hc2 := sq _ _ hca
          have hl : (0 : Int) < ((List.map V.int (c0 :: cs)).length : Int) := by rw [List.length_map, List.length_cons]; omega
          have e1 := Int.emod_nonneg turn (show ((List.map V.int (c0 :: cs)).length : Int) ≠ 0 by omega)
          have e2 := Int.emod_lt_of_pos turn hl
          obtain ⟨j, hj⟩ : ∃ j : Nat, turn % ((List.map V.int (c0 :: cs)).length : Int) = (j : Int) := ⟨(turn % ((List.map V.int (c0 :: cs)).length : Int)).toNat, by omega⟩
          have jl : j < (List.map V.int (c0 :: cs)).length := by omega
          have jc : j < (c0 :: cs).length := by rw [List.length_map] at jl; exact jl
          refine ⟨_, rfl, p, _, 0, _, rfl, rfl, SqL.of hp2, rfl, _, rfl, .inl ⟨_, rfl, _, rfl, p, _, 0, _, rfl, rfl, SqL.of hp2, rfl, ca, _, rfl, .inl (SqL.of hc2), _, _, rfl, rfl, hl, ca, _, _, .int ((c0 :: cs)[j]'jc), rfl, rfl, SqL.of hc2, ?_, ?_⟩⟩
          · rw [hj]
            exact atI_nat (by rw [List.getElem?_map, List.getElem?_eq_getElem jc]; rfl)
          · exact key _ _ ⟨_, rfl, sq⟩
      · subst e
        have hp3 := s3 _ _ hb
        have hc3 := s3 _ _ hca
        have f3 : Fr [p] H H3 := fb.trans (Fr.of s3)
        refine seq_by (fun σ' H' => σ' = [some (.ref p), some (.int many), none, some (.int turn), some (.int cc), none] ∧ H' = H3) (fun key => ?_) fun σ' H4 ⟨e1, e2⟩ => ?_
        · refine ⟨_, rfl, _, rfl, p, _, 0, _, rfl, rfl, SqL.of hp3, rfl, ca, _, rfl, .inl (SqL.of hc3), _, _, rfl, rfl, decide (turn < ((cs.map V.int).length : Int)), rfl, ?_⟩
          by_cases hlt : turn < ((cs.map V.int).length : Int)
          · refine it_ (decide_eq_true hlt) ?_
            refine ⟨_, rfl, _, rfl, _, _, rfl, rfl, ⟨by omega, by omega, by decide⟩, _, _, rfl, rfl, decide ((10 : Int) ^ (18 : Int).toNat ≤ if cc < 0 then -cc else cc), rfl, ?_⟩
            by_cases hge : (10 : Int) ^ (18 : Int).toNat ≤ if cc < 0 then -cc else cc
            · refine it_ (decide_eq_true hge) ?_
              refine ⟨_, rfl, .inl ⟨_, rfl, _, rfl, _, _, rfl, rfl, ⟨by omega, by omega, by decide⟩, _, _, rfl, rfl, _, _, rfl, rfl, .inl ⟨by omega, by omega⟩, _, rfl, _, _, rfl, rfl, .inr ⟨_, rfl, _, _, rfl, rfl, ?_⟩⟩⟩
              refine ⟨_, rfl, _, rfl, _, _, rfl, rfl, ⟨hm1, hm2⟩, _, rfl, p, _, 2, 2, rfl, rfl, hp3, rfl, ?_⟩
              refine ⟨_, rfl, .inl ⟨_, rfl, _, rfl, _, _, rfl, rfl, hm1, ?_⟩⟩
              refine k _ _ (Int.emod_nonneg _ (by omega)) (Int.emod_lt_of_pos _ hm1) ⟨turn + 1, _, cs, upd_same, by rw [upd_ne hne]; exact hc3, by omega, by omega, Int.ediv_nonneg ?_ (by omega)⟩ (f3.trans fr_set)
              split <;> omega
            · exact if_ (decide_eq_false hge) (key _ _ ⟨rfl, rfl⟩)
          · exact if_ (decide_eq_false hlt) (iteF (key _ _ ⟨rfl, rfl⟩))
        · subst e1 e2
          have c1 := Int.emod_nonneg cc (show (2147483587 : Int) ≠ 0 by omega)
          have c2 := Int.emod_lt_of_pos cc (show (0 : Int) < 2147483587 by omega)
          refine ⟨_, rfl, .inl ⟨_, rfl, _, _, rfl, rfl, by omega, _, rfl, _, _, rfl, rfl, .inl ⟨by omega, by omega⟩, _, _, rfl, rfl, _, _, rfl, rfl, _, _, rfl, rfl, ⟨by omega, by omega, ?_⟩, .inl ⟨_, rfl, _, _, rfl, rfl, by omega, ?_⟩⟩⟩
          · omega
          refine (fun (fin : ∀ m1 : Int, 0 ≤ m1 → m1 < 2147483563 → gName 5 (V.int m1) _ _ _) => fin _ (Int.emod_nonneg _ (by omega)) (Int.emod_lt_of_pos _ (by omega))) fun m1 d1 d2 => ?_
          refine ⟨_, rfl, _, rfl, _, _, rfl, rfl, .inl ⟨by omega, by omega⟩, _, _, rfl, rfl, _, _, rfl, rfl, .inl ⟨by omega, by omega⟩, _, rfl, _, _, rfl, rfl, .inl ⟨by omega, by omega⟩, _, rfl, _, _, rfl, rfl, .inr ⟨by omega, by omega⟩, _, _, rfl, rfl, _, _, rfl, rfl, _, _, rfl, rfl, ⟨by omega, by omega, mix_bound d1 d2 h3 (by omega)⟩, .inl ⟨_, rfl, _, _, rfl, rfl, by omega, ?_⟩⟩
          refine ⟨_, rfl, _, _, rfl, rfl, ⟨by omega, by omega⟩, .inl ⟨_, rfl, _, rfl, _, _, rfl, rfl, hm1, ?_⟩⟩
          exact k _ _ (Int.emod_nonneg _ (by omega)) (Int.emod_lt_of_pos _ hm1) ⟨turn + 1, rest, cs, hp3, hc3, by omega, by omega, h5⟩ f3
end
end KR
end
section
set_option Elab.async false
set_option linter.all false
set_option maxRecDepth 100000
set_option maxHeartbeats 4000000
namespace KR
open PySem PySem.Spec PyProof.Rows L2 C8
section
variable {P : Program} {w : World} {K : PySem.W.Frag} {mg : Str → Option Value} {base : Heap} {CE CR CF CB c Pt : Addr} {X : Cx}
/-! ### _law_any -/
def spAny : Sp := fun vs H Q _ => ∃ (p ca s : Addr) (xs : List V) (T : Nat), vs = [.ref p, .ref s] ∧ PlAt H p ca T ∧ T ≤ 1000000 ∧ H s = some (.lst xs) ∧ s ≠ p ∧ 1 ≤ xs.length ∧ xs.length ≤ 1000 ∧ ∀ v H', v ∈ xs → PlAt H' p ca (T + 1) → Fr [p] H H' → Q v H'
theorem c_any (T : Tx K mg CE CR CF CB) : Cal P w K mg base 2 "_law_any" spAny [] := by
  have G1 : Cal P w K mg base 1 "_law_yoke" spYoke [] := c_yoke T
  refine cal_of (N := ["_law_plough_here", "_law_some"]) (ps := ["_law_plough_here", "_law_some"]) T.any (by decide +kernel) (fun vs H Q E h => ?_) (fun _ _ _ _ _ _ us hl => match us, hl with | [_, _], _ => rfl) (fun cdv f A outer s H vs Q E hr h => ?_)
  · obtain ⟨p, ca, s, xs, T, rfl, _⟩ := h
    rfl
  · obtain ⟨p, ca, s, xs, U, rfl, hP, hU, hs, hne, hx1, hx2, k⟩ := h
    refine ⟨_, pss_one (ps_ret (pe_ixL (pv 1) (pe_c G1 hr (by decide) rfl (pa_cons (pv 0) (pa_cons (pe_len T (pv 1)) pa_nil))))), ?_⟩
    refine ⟨_, rfl, _, rfl, _, rfl, s, xs, rfl, .inl (SqL.of hs), p, ca, (xs.length : Int), U, rfl, hP, hU, by omega, by omega, fun n H1 n1 n2 hP1 f1 => ?_⟩
    have hs1 := f1 _ _ hs (fun z => hne (List.mem_singleton.mp z))
    obtain ⟨j, rfl⟩ : ∃ j : Nat, n = (j : Int) := ⟨n.toNat, by omega⟩
    have hj : j < xs.length := by omega
    exact ⟨s, xs, _, xs[j], rfl, rfl, SqL.of hs1, atI_nat (List.getElem?_eq_getElem hj), k _ H1 (List.getElem_mem hj) hP1 f1⟩
/-! ### _law_yes -/
def spYes : Sp := fun vs H Q _ => ∃ (p ca : Addr) (s : Int) (T : Nat), vs = [.ref p, .int s] ∧ PlAt H p ca T ∧ T ≤ 100000 ∧ 1 ≤ s ∧ s ≤ 12 ∧ ∀ L (ys : List Int) H', H L = none → H' L = some (.lst (ys.map V.int)) → ys.Nodup → (∀ y ∈ ys, 0 ≤ y ∧ y < s) → ys.length ≤ s.toNat → PlAt H' p ca (T + s.toNat) → Fr [p] H H' → Q (.ref L) H'
theorem c_yes (T : Tx K mg CE CR CF CB) : Cal P w K mg base 2 "_law_yes" spYes [] := by
  have G1 : Cal P w K mg base 1 "_law_yoke" spYoke [] := c_yoke T
  refine cal_of (N := ["_law_plough_here", "_law_states", "_law_state"]) (ps := ["_law_plough_here", "_law_states"]) T.yes (by decide +kernel) (fun vs H Q E h => ?_) (fun _ _ _ _ _ _ us hl => match us, hl with | [_, _], _ => rfl) (fun cdv f A outer s H vs Q E hr h => ?_)
  · obtain ⟨p, ca, s, T, rfl, _⟩ := h
    rfl
  · obtain ⟨p, ca, st, U, rfl, hP, hU, hs1, hs2, k⟩ := h
    have nd : (["_law_plough_here", "_law_states", "_law_state"] : List Str).Nodup := by decide +kernel
    refine ⟨_, pss_one (ps_ret (pe_lc (own := [("_law_state", 2)]) (g := gName 2) rfl nd (pi_range1 rfl (T.free "range" (by decide +kernel)) (pa_cons (pv 1) pa_nil)) (blkOk_by (N := ["_law_plough_here", "_law_states", "_law_state"]) (sc := fnScope sYes) (by decide +kernel)) (fun _ _ _ _ _ => pg_name (i := 2) nd rfl (Or.inl rfl)) (fun _ _ _ _ _ => pts_one (pt_cmpR op_eq (pe_c G1 hr (by decide) rfl (pa_cons (pv 0) (pa_cons pe_int pa_nil))) pe_int (nomark _)))
        (fun _ _ _ _ _ => pv 2))), ?_⟩
    refine ⟨_, rfl, st, rfl, by omega, by omega, fun D hD => ?_⟩
    have hn := hP.ne hD
    refine lc_it (walk_range (lo := 0) (n := st.toNat)) (fun i H' => ∃ ys : List Int, H' D = some (.lst (ys.map V.int)) ∧ ys.length ≤ i ∧ ys.Nodup ∧ (∀ y ∈ ys, 0 ≤ y ∧ y < (i : Int)) ∧ PlAt H' p ca (U + i) ∧ Fr [p] H H')
      ⟨[], upd_same, Nat.le_refl _, .nil, fun y hy => (by cases hy), hP.upd hn, (Fr.refl [p] H).new hD⟩ (fun _ _ _ _ => True.intro) (fun i x H2 H3 hi hv y => ?_) (fun H2 hv => ?_)
    · obtain ⟨ys, h1, h2, h3, h4, h5, h6⟩ := hv
      obtain ⟨rfl, rfl⟩ := y
      refine ⟨rfl, _, rfl, p, ca, 2, U + i, rfl, h5, by omega, by omega, by omega, fun n H4 n1 n2 hP4 f4 => ⟨rfl, _, rfl, ?_⟩⟩
      have hD4 := f4 _ _ h1 (fun z => hn.1 (List.mem_singleton.mp z))
      have f64 := h6.trans f4
      by_cases q : n = 0
      · refine it_ (dT (by rw [q])) ?_
        refine ⟨_, rfl, _, hD4, by rw [List.length_map]; exact Nat.lt_of_le_of_lt h2 (Nat.lt_of_lt_of_le hi (Nat.le_trans (by omega : st.toNat ≤ 12) (by decide))), ys ++ [0 + (i : Int)], by rw [upd_same, List.map_append]; rfl, by rw [List.length_append]; exact Nat.succ_le_succ h2, ?_, fun y hy => ?_, hP4.upd hn, ?_⟩
        · rw [List.nodup_append]
          refine ⟨h3, by simp, fun a ha b hb e => ?_⟩
          rw [List.mem_singleton.mp hb] at e
          have := h4 a ha
          omega
        · rcases List.mem_append.mp hy with z | z
          · have := h4 y z
            omega
          · rw [List.mem_singleton.mp z]
            omega
        · exact f64.new hD
      · refine if_ (dF (fun z => q (by injection z))) ?_
        exact ⟨ys, hD4, by omega, h3, fun y hy => by have := h4 y hy; omega, hP4, f64⟩
    · obtain ⟨ys, h1, h2, h3, h4, h5, h6⟩ := hv
      exact k D ys H2 hD h1 h3 (fun y hy => by have := h4 y hy; omega) h2 h5 h6
/-! ### _law_word -/
theorem cut_pre {ns : List Int} {m : Nat} : cutV (ns.map V.int) none (some (m : Int)) = (ns.take m).map V.int := by
  have h0 : HT.sIx (ns.map V.int).length 0 none = 0 := rfl
  have h1 : HT.sIx (ns.map V.int).length (ns.map V.int).length (some (m : Int)) = min m ns.length := by
    rw [HT.sIx_nat, List.length_map]
  unfold cutV
  rw [h0, h1, List.map_take]
  show ((ns.map V.int).drop 0).take (min m ns.length - 0) = _
  rw [List.drop_zero, Nat.sub_zero]
  rcases Nat.le_total m ns.length with q | q
  · rw [Nat.min_eq_left q]
  · rw [Nat.min_eq_right q, List.take_of_length_le (by rw [List.length_map]; exact Nat.le_refl _), List.take_of_length_le (by rw [List.length_map]; exact q)]
theorem rep_flat (v : V) : ∀ (n : Nat), (List.replicate n [v]).flatten = List.replicate n v
  | 0 => rfl
  | n + 1 => by
    rw [List.replicate_succ, List.flatten_cons, rep_flat v n]
    rfl
def spWord : Sp := fun vs H Q _ => ∃ (p ca : Addr) (l : Int) (most T : Nat), vs = [.ref p, .int l, .int (most : Int)] ∧ PlAt H p ca T ∧ T ≤ 100000 ∧ 1 ≤ l ∧ l ≤ 6 ∧ 1 ≤ most ∧ most ≤ 200 ∧
  ∀ L (ns : List Int) H', H L = none → H' L = some (.lst (ns.map V.int)) → 1 ≤ ns.length → ns.length ≤ most → (∀ n ∈ ns, 0 ≤ n ∧ n < l) → PlAt H' p ca (T + 1 + 3 * most) → Fr [p] H H' → Q (.ref L) H'
theorem c_word (T : Tx K mg CE CR CF CB) : Cal P w K mg base 3 "_law_word" spWord [] := by
  have G1 : Cal P w K mg base 1 "_law_yoke" spYoke [] := c_yoke T
  have G2 : Cal P w K mg base 2 "_law_any" spAny [] := c_any T
  refine cal_of (N := ["_law_plough_here", "_law_letters", "_law_most", "_law_many", "_law_found", "_law_letter"]) (ps := ["_law_plough_here", "_law_letters", "_law_most"]) T.word (by decide +kernel) (fun vs H Q E h => ?_) (fun _ _ _ _ _ _ us hl => match us, hl with | [_, _, _], _ => rfl) (fun cdv f A outer s H vs Q E hr h => ?_)
  · obtain ⟨p, ca, l, most, T, rfl, _⟩ := h
    rfl
  · obtain ⟨p, ca, l, most, U, rfl, hP, hU, hl1, hl2, hm1, hm2, k⟩ := h
    have nd : (["_law_plough_here", "_law_letters", "_law_most", "_law_many", "_law_found", "_law_letter"] : List Str).Nodup := by decide +kernel
    refine ⟨_, pss_cons (ps_par (i := 3) (j := 4) rfl nd rfl rfl (by decide) rfl rfl (pa_cons (pe_op op_add pe_int (pe_c G1 hr (by decide) rfl (pa_cons (pv 0) (pa_cons (pv 2) pa_nil)))) (pa_cons (pe_lst pa_nil) pa_nil)) rfl)
      (pss_cons (ps_while PassesOwn.never (PW.pt (pw_and (pt_cmpR op_lt (pe_len T (pv 4)) (pv 3) (nomark _)) (pw_and1 (pt_cmpR op_lt (pe_len T (pv 4)) (pv 2) (nomark _)))))
        (pss_cons (ps_set (i := 5) nd rfl (Or.inl rfl) (pe_c G1 hr (by decide) rfl (pa_cons (pv 0) (pa_cons (pv 1) pa_nil))))
        (pss_one (ps_expr (pe_bm PySem.F.plainAttrs_list PySem.F.slot_list_extend PySem.F.type_list_extend mt_extend (pv 4) (pa_cons (pe_op op_rep (pe_lst (pa_cons (pv 5) pa_nil)) (pe_op op_add pe_int (pe_c G1 hr (by decide) rfl (pa_cons (pv 0) (pa_cons (pe_c G2 hr (by decide) rfl (pa_cons (pv 0) (pa_cons (pe_lst (pa_cons pe_int (pa_cons pe_int (pa_cons pe_int (pa_cons pe_int pa_nil))))) pa_nil))) pa_nil))))) pa_nil))))))
      (pss_one (ps_ret (pe_slice sl_list (pv 4) po_none (po_some (pv 3)))))), ?_⟩
    refine ⟨_, rfl, _, rfl, p, ca, (most : Int), U, rfl, hP, by omega, by omega, by omega, fun m0 H1 g1 g2 hP1 f1 => ⟨_, _, rfl, rfl, Nat.zero_le _, fun F hF => ⟨_, _, rfl, ?_⟩⟩⟩
    obtain ⟨many, em⟩ : ∃ many : Nat, 1 + m0 = (many : Int) := ⟨(1 + m0).toNat, by omega⟩
    have hn := hP1.ne hF
    have nF : H F = none := f1.free hF (fun z => hn.1 (List.mem_singleton.mp z))
    refine ⟨fun m σ' H' => ∃ (ns : List Int) (o5 : Option V), σ' = [some (.ref p), some (.int l), some (.int (most : Int)), some (.int (1 + m0)), some (.ref F), o5] ∧ H' F = some (.lst (ns.map V.int)) ∧ (∀ n ∈ ns, 0 ≤ n ∧ n < l) ∧ ns.length ≤ most + 6 ∧ PlAt H' p ca (U + 1 + 3 * min ns.length most) ∧ Fr [p] H H' ∧ m = most - ns.length,
      ⟨most, [], none, rfl, upd_same, fun n hn => (by cases hn), Nat.zero_le _, (hP1.upd hn).le (by omega), f1.new nF, rfl⟩, fun m σ' H2 hv => ?_⟩
    obtain ⟨ns, o5, rfl, h1, h2, h3, h4, h5, rfl⟩ := hv
    have z3 : (1000 : Nat) ≤ sizeLine := by decide
    have fin : many ≤ ns.length → ∀ q, H2 q = none → Q (.ref q) (upd H2 q (.lst (cutV (ns.map V.int) none (some (1 + m0))))) := by
      intro hge q hq
      have hq' := h4.ne hq
      rw [em, cut_pre]
      refine k q (ns.take many) _ (h5.free hq (fun z => hq'.1 (List.mem_singleton.mp z))) upd_same (by rw [List.length_take]; omega) (by rw [List.length_take]; omega) (fun n hn => h2 n (List.mem_of_mem_take hn)) ((h4.upd hq').le (by omega)) (h5.new (h5.free hq (fun z => hq'.1 (List.mem_singleton.mp z))))
    refine ⟨_, rfl, F, _, rfl, .inl (SqL.of h1), _, rfl, _, _, rfl, rfl, decide (((ns.map V.int).length : Int) < 1 + m0), rfl, ?_⟩
    by_cases c1 : ((ns.map V.int).length : Int) < 1 + m0
    · refine it_ (decide_eq_true c1) ?_
      refine ⟨_, rfl, F, _, rfl, .inl (SqL.of h1), _, rfl, _, _, rfl, rfl, decide (((ns.map V.int).length : Int) < (most : Int)), rfl, ?_⟩
      by_cases c2 : ((ns.map V.int).length : Int) < (most : Int)
      · refine it_ (decide_eq_true c2) ?_
        rw [List.length_map] at c1 c2
        refine ⟨_, fun _ _ z => z, ?_⟩
        refine ⟨_, rfl, _, rfl, p, ca, l, _, rfl, h4, by omega, by omega, by omega, fun n H3 n1 n2 hP3 f3 => ?_⟩
        have hF3 := f3 _ _ h1 (fun z => hn.1 (List.mem_singleton.mp z))
        refine ⟨_, rfl, .inl ⟨rfl, _, SqL.of hF3⟩, _, rfl, by show 1 ≤ sizeLine; decide, fun D1 hD1 => ?_⟩
        have hn1 := hP3.ne hD1
        have nD1 : D1 ≠ F := by
          intro z
          rw [z, hF3] at hD1
          cases hD1
        refine ⟨_, rfl, _, rfl, by show 4 ≤ sizeLine; decide, fun D2 hD2 => ?_⟩
        have hP4 := hP3.upd (o := .lst [V.int n]) hn1
        have hn2 := hP4.ne hD2
        have nD2 : D2 ≠ F ∧ D2 ≠ D1 := by
          refine ⟨fun z => ?_, fun z => ?_⟩
          · rw [z, upd_ne (Ne.symm nD1), hF3] at hD2
            cases hD2
          · rw [z, upd_same] at hD2
            cases hD2
        have hP5 := hP4.upd (o := .lst [V.int 1, V.int 2, V.int 1, V.int 6]) hn2
        refine ⟨p, ca, D2, _, _, rfl, hP5, by omega, upd_same, hn2.1, by decide, by decide, fun v H6 hv hP6 f6 => ?_⟩
        obtain ⟨vi, rfl, v1, v2⟩ : ∃ vi : Int, v = .int vi ∧ 1 ≤ vi ∧ vi ≤ 6 := by
          simp only [List.mem_cons, List.not_mem_nil, or_false] at hv
          rcases hv with z | z | z | z <;> exact ⟨_, z, by omega, by omega⟩
        refine ⟨p, ca, vi, _, rfl, hP6, by omega, by omega, by omega, fun n2' H7 e1 e2 hP7 f7 => ?_⟩
        obtain ⟨m2, em2⟩ : ∃ m2 : Nat, 1 + n2' = (m2 : Int) := ⟨(1 + n2').toNat, by omega⟩
        have offp : ∀ {b : Addr}, b ≠ p → b ∉ [p] := fun n z => n (List.mem_singleton.mp z)
        have hD17 : H7 D1 = some (.lst [V.int n]) := f7 _ _ (f6 _ _ (Same.new hD2 _ _ upd_same) (offp hn1.1)) (offp hn1.1)
        have hF7 : H7 F = some (.lst (ns.map V.int)) := f7 _ _ (f6 _ _ (Same.new hD2 _ _ (Same.new hD1 _ _ hF3)) (offp hn.1)) (offp hn.1)
        have fr7 : Fr [p] H H7 := (((h5.trans f3).trans (Fr.of (Same.new hD1))).trans (Fr.of (Same.new hD2))).trans (f6.trans f7)
        refine ⟨_, _, rfl, rfl, D1, 1 + n2', [V.int n], rfl, rfl, hD17, by omega, by omega, ?_, fun D3 hD3 => ?_⟩
        · rw [List.length_singleton, em2]
          have : m2 ≤ 6 := by omega
          have z4 : (1000 : Nat) ≤ sizeLine := by decide
          rw [Int.toNat_natCast]
          omega
        rw [em2, Int.toNat_natCast, rep_flat]
        have hn3 := hP7.ne hD3
        have nD3 : D3 ≠ F := by
          intro z
          rw [z, hF7] at hD3
          cases hD3
        have er : List.replicate m2 (V.int n) = (List.replicate m2 n).map V.int := by rw [List.map_replicate]
        refine ⟨F, D3, _, _, rfl, rfl, Same.new hD3 _ _ hF7, upd_same, ?_, ?_⟩
        · rw [List.length_map, List.length_replicate]
          omega
        refine ⟨most - (ns.length + m2), by omega, ns ++ List.replicate m2 n, some (.int n), rfl, ?_, fun q hq => ?_, by rw [List.length_append, List.length_replicate]; omega, ?_, ?_, by rw [List.length_append, List.length_replicate]⟩
        · rw [upd_same, er, List.map_append]
        · rcases List.mem_append.mp hq with z | z
          · exact h2 q z
          · rw [List.eq_of_mem_replicate z]
            exact ⟨n1, n2⟩
        · rw [List.length_append, List.length_replicate]
          exact ((hP7.upd hn3).upd hn).le (by omega)
        · exact (fr7.trans (Fr.of (Same.new hD3))).new nF
      · refine if_ (decide_eq_false c2) ?_
        rw [List.length_map] at c2
        exact ⟨_, rfl, _, rfl, _, rfl, F, _, rfl, SqL.of h1, fin (by omega)⟩
    · refine if_ (decide_eq_false c1) (iteF ?_)
      rw [List.length_map] at c1
      exact ⟨_, rfl, _, rfl, _, rfl, F, _, rfl, SqL.of h1, fin (by omega)⟩
end
end KR
end
section
set_option Elab.async false
set_option linter.all false
set_option maxRecDepth 100000
set_option maxHeartbeats 4000000
namespace KR
open PySem PySem.Spec PyProof.Rows L2 C8
def tops5 : List (Option Int) := [none, some 0, some 1, some 2, some 3]
def tssOf : Nat → List (List (Option Int))
  | 0 => [[]]
  | n + 1 => (tssOf n).flatMap fun t => tops5.map fun x => t ++ [x]
def dTs (t : List (Option Int)) : PyData := .tuple (t.map dTop)
section
variable {P : Program} {w : World} {K : PySem.W.Frag} {mg : Str → Option Value} {base : Heap} {CE CR CF CB c Pt : Addr} {X : Cx}
def spTops : Sp := fun vs H Q _ => ∃ (n : Nat), vs = [.int (n : Int)] ∧ n ≤ 1 ∧ ∀ L xs H', H L = none → Same H H' → H' L = some (.lst xs) → Ra H' xs ((tssOf n).map dTs) → Q (.ref L) H'
theorem tss_len (n : Nat) (h : n ≤ 1) : (tssOf n).length ≤ 5 := by
  match n, h with
  | 0, _ => decide
  | 1, _ => decide
theorem tss_one (n : Nat) (h : n ≤ 1) : ∀ t ∈ tssOf n, t.length ≤ 1 := by
  match n, h with
  | 0, _ => decide
  | 1, _ => decide
theorem take_flat {α β : Type} (f : α → List β) (l : List α) (i : Nat) (a : α) (h : l[i]? = some a) : (l.take (i + 1)).flatMap f = (l.take i).flatMap f ++ f a := by
  have e := List.getElem?_eq_some_iff.mp h
  obtain ⟨e1, e2⟩ := e
  rw [List.take_succ_eq_append_getElem e1, List.flatMap_append, e2]
  simp
theorem c_tops (T : Tx K mg CE CR CF CB) : Cal P w K mg base 1 "_law_tops" spTops [] := by
  refine cal_of (N := ["_law_stacks", "_law_found", "_law_turn", "_law_longer", "_law_some", "_law_top"]) (ps := ["_law_stacks"]) T.tops (by decide +kernel) (fun vs H Q E h => ?_) (fun _ _ _ _ _ _ us hl => match us, hl with | [_], _ => rfl) (fun cdv f A outer s H vs Q E hr h => ?_)
  · obtain ⟨n, rfl, _⟩ := h
    rfl
  · obtain ⟨n, rfl, hn, k⟩ := h
    have nd : (["_law_stacks", "_law_found", "_law_turn", "_law_longer", "_law_some", "_law_top"] : List Str).Nodup := by decide +kernel
    refine ⟨_, pss_cons (ps_set (i := 1) nd rfl (Or.inl rfl) (pe_lst (pa_cons (pe_tup pa_nil) pa_nil)))
      (pss_cons (ps_for PassesOwn.never rfl (pi_range1 rfl (T.free "range" (by decide +kernel)) (pa_cons (pv 0) pa_nil)) (pg_name (i := 2) nd rfl (Or.inl rfl))
        (pss_cons (ps_set (i := 3) nd rfl (Or.inl rfl) (pe_lst pa_nil))
        (pss_cons (ps_for PassesOwn.never rfl (pi_list (pv 1)) (pg_name (i := 4) nd rfl (Or.inr rfl))
          (pss_one (ps_expr (pe_bm PySem.F.plainAttrs_list PySem.F.slot_list_extend PySem.F.type_list_extend mt_extend (pv 3) (pa_cons (pe_lc (own := [("_law_top", 5)]) (g := gName 5) (tt := tYes) (te := tOp (rCatA K) (tVar 4) (tTup (tCons (tVar 5) tNil))) rfl nd (pi_tup (pe_tup (pa_cons pe_non (pa_cons pe_int (pa_cons pe_int (pa_cons pe_int (pa_cons pe_int pa_nil))))))) (blkOk_by (N := ["_law_stacks", "_law_found", "_law_turn", "_law_longer", "_law_some", "_law_top"]) (sc := fnScope sTops) (by decide +kernel)) (fun _ _ _ _ _ => pg_name (i := 5) nd rfl (Or.inl rfl)) (fun _ _ _ _ _ => pts_nil)
            (fun _ _ _ _ _ => pe_op op_catA (pv 4) (pe_tup (pa_cons (pv 5) pa_nil)))) pa_nil)))))
        (pss_one (ps_set (i := 1) nd rfl (Or.inl rfl) (pv 3))))))
      (pss_one (ps_ret (pv 1)))), ?_⟩
    refine ⟨Nat.zero_le _, fun q0 hq0 => ⟨by show 1 ≤ sizeLine; decide, fun F0 hF0 => ?_⟩⟩
    have s0 : Same H (upd (upd H q0 (.tup [])) F0 (.lst [V.ref q0])) := same_tr (Same.new hq0) (Same.new hF0)
    refine ⟨_, rfl, (n : Int), rfl, by omega, by omega, ?_⟩
    rw [show ((n : Int)).toNat = n from by omega]
    refine for_it (walk_range (lo := 0) (n := n)) (fun i σ H' => ∃ (F : Addr) (xs : List V) (o2 o3 o4 : Option V), σ = [some (.int (n : Int)), some (.ref F), o2, o3, o4, none] ∧ Same H H' ∧ H F = none ∧ H' F = some (.lst xs) ∧ Ra H' xs ((tssOf i).map dTs))
      ⟨F0, _, none, none, none, rfl, s0, free_of (Same.new hq0) hF0, upd_same, .cons (.tup (Same.new hF0 _ _ upd_same) .nil) .nil⟩ (fun _ _ _ _ _ => True.intro) (fun i x σ H1 H1' hi hv y => ?_) (fun σ H1 hv => ?_)
    · obtain ⟨F, xs, o2, o3, o4, rfl, s1, nF, hF, hxs⟩ := hv
      obtain ⟨rfl, rfl⟩ := y
      have i0 : i ≤ 1 := by omega
      have lx := hxs.len
      rw [List.length_map] at lx
      have lx5 := tss_len i i0
      refine ⟨Nat.zero_le _, fun Lg hLg => ?_⟩
      have sL : Same H (upd H1' Lg (.lst [])) := same_tr s1 (Same.new hLg)
      have nL : H Lg = none := free_of s1 hLg
      have hF2 := Same.new (o := .lst []) hLg _ _ hF
      refine ⟨_, rfl, F, rfl, ⟨_, SqL.of hF2⟩, ?_⟩
      refine for_it (walk_list (xs := xs)) (fun j σ H' => ∃ (ys : List V) (o4 : Option V), σ = [some (.int (n : Int)), some (.ref F), some (.int (0 + (i : Int))), some (.ref Lg), o4, none] ∧ Same H H' ∧ Same H1' H' ∧ H' Lg = some (.lst ys) ∧ Ra H' ys ((((tssOf i).take j).flatMap fun t => tops5.map fun x => t ++ [x]).map dTs) ∧ ys.length = 5 * j)
        ⟨[], o4, rfl, sL, Same.new hLg, upd_same, .nil, rfl⟩ (fun j σ H2 hj hv => ?_) (fun j x σ H2 H2' hj hv y => ?_) (fun σ H2 hv => ?_)
      · obtain ⟨ys, o4, rfl, s2, s12, hL2, hy2, hl2⟩ := hv
        exact SqL.of (s12 _ _ hF)
      · obtain ⟨ys, o4, rfl, s2, s12, hL2, hy2, hl2⟩ := hv
        obtain ⟨rfl, hx⟩ := y
        obtain ⟨t, ht, rt⟩ := Ra.map_get (hxs.sm s12) hx
        obtain ⟨ta, ts, rfl, hta, hts⟩ := Rp.tup_inv (show Rp H2' x (.tuple (t.map dTop)) from rt)
        refine ⟨_, rfl, .inl ⟨rfl, _, SqL.of hL2⟩, by show 5 ≤ sizeLine; decide, fun C5 hC5 => ?_⟩
        have s5 : Same H2' (upd H2' C5 (.tup [V.non, V.int 0, V.int 1, V.int 2, V.int 3])) := Same.new hC5
        refine ⟨C5, rfl, ⟨_, SqT.of upd_same⟩, fun D hD => ?_⟩
        refine lc_pure (walk_tup (xs := tops5.map topV)) hD (by show 5 ≤ sizeLine; decide) (fun H4 s4 => SqT.of (s4 _ _ upd_same)) (fun i H x H' y => yat_same y) (fun m y H => ∃ o, tops5[m]? = some o ∧ Rp H y (dTs (t ++ [o]))) (fun m y H H' e ⟨o, h1, h2⟩ => ⟨o, h1, h2.nl e⟩)
          (fun m x H4 H5 hm s4 y Qy hq => ?_) (fun H4 zs s4 hLs hlz hrz => ?_)
        · obtain ⟨rfl, hx5⟩ := y
          rw [List.getElem?_map] at hx5
          obtain ⟨o, ho, rfl⟩ := Option.map_eq_some_iff.mp hx5
          refine ⟨rfl, _, rfl, _, rfl, by show 1 ≤ sizeLine; decide, fun q hq' => ?_⟩
          have sq := Same.new (o := .tup [topV o]) hq'
          have hta4 := s4 _ _ (s5 _ _ hta)
          have hts4 := (hts.sm s5).sm s4
          refine ⟨ta, q, ts, _, rfl, rfl, SqT.of (sq _ _ hta4), SqT.of upd_same, ?_, fun e => ?_, fun _ e => (by cases e), fun _ _ r hr' => ?_⟩
          · have := hts.len
            have z5 : (1000 : Nat) ≤ sizeLine := by decide
            have lt := tss_one i i0 t (List.mem_of_getElem? ht)
            rw [List.length_map] at this
            show ts.length + 1 ≤ sizeLine
            omega
          · refine hq _ _ sq ⟨o, ho, ?_⟩
            subst e
            have e0 : t = [] := by
              have := hts.len
              cases t with
              | nil => rfl
              | cons a b => cases this
            subst e0
            exact .tup upd_same (.cons (topV_rp o) .nil)
          · refine hq _ _ (same_tr sq (Same.new hr')) ⟨o, ho, .tup upd_same ?_⟩
            show Ra _ (ts ++ [topV o]) ((t ++ [o]).map dTop)
            rw [List.map_append]
            exact ((hts4.sm sq).sm (Same.new hr')).snoc (topV_rp o)
        · have lz : zs.length = 5 := hlz
          have s24 := same_tr s5 s4
          have hL4 := s24 _ _ hL2
          refine ⟨Lg, D, ys, zs, rfl, rfl, hL4, hLs, by have z5 : (1000 : Nat) ≤ sizeLine := by decide
                                                        omega, ?_⟩
          have hz : Ra H4 zs ((tops5.map fun x => t ++ [x]).map dTs) := by
            refine Ra.of_map (by rw [lz, List.length_map]; rfl) fun m v hv => ?_
            obtain ⟨o, h1, h2⟩ := hrz m v hv
            exact ⟨t ++ [o], by rw [List.getElem?_map, h1]; rfl, h2⟩
          refine ⟨ys ++ zs, some (.ref ta), rfl, KR.Same.mut (same_tr s2 s24) nL, KR.Same.mut (same_tr s12 s24) hLg, upd_same, ?_, by rw [List.length_append, lz, hl2]; omega⟩
          rw [take_flat _ _ _ _ ht, List.map_append]
          have et : Et H4 (upd H4 Lg (.lst (ys ++ zs))) := Et.lst hL4
          exact ((hy2.sm s24).mono et).app (hz.mono et)
      · obtain ⟨ys, o4, rfl, s2, s12, hL2, hy2, hl2⟩ := hv
        refine ⟨_, rfl, Lg, ys, _, _, _, rfl, s2, nL, hL2, ?_⟩
        rw [lx, List.take_length] at hy2
        exact hy2
    · obtain ⟨F, xs, o2, o3, o4, rfl, s1, nF, hF, hxs⟩ := hv
      exact ⟨_, rfl, k F xs H1 nF s1 hF hxs⟩
end
end KR
end
section
set_option Elab.async false
set_option linter.all false
set_option maxRecDepth 100000
set_option maxHeartbeats 4000000
namespace KR
open PySem PySem.Spec PyProof.Rows L2 C8
/-- the moves made so far -/
structure DInv (H : Hp) (p ca M : Addr) (t : List (Option Int)) (U i : Nat) (ms : List V) (mvs : List K40.Mv) (H' : Hp) : Prop where
  at_ : H' M = some (.lst ms)
  ra : Ra H' ms (mvs.map dMv)
  len : mvs.length = i
  push : ∀ x ∈ mvs, ∀ n, x = .push n → 0 ≤ n ∧ n ≤ 3
  pop : ∀ j : Nat, mvs[j]? = some K40.Mv.pop → ∃ n, t[j]? = some (some n)
  pl : PlAt H' p ca (U + 3 * i)
  fr : Fr [p] H H'
theorem DInv.step {H H2 H5 : Hp} {p ca M : Addr} {t : List (Option Int)} {U i : Nat} {ms : List V} {mvs : List K40.Mv} {mv : K40.Mv} {u : V} (h : DInv H p ca M t U i ms mvs H2) (nM : H M = none) (hn : M ≠ p ∧ M ≠ ca) (f : Fr [p] H2 H5) (hp : PlAt H5 p ca (U + 3 * i + 3)) (hu : Rp H5 u (dMv mv))
    (h1 : ∀ n, mv = .push n → 0 ≤ n ∧ n ≤ 3) (h2 : mv = .pop → ∃ n, t[i]? = some (some n)) : H5 M = some (.lst ms) ∧ DInv H p ca M t U (i + 1) (ms ++ [u]) (mvs ++ [mv]) (upd H5 M (.lst (ms ++ [u]))) := by
  have hM : H5 M = some (.lst ms) := f _ _ h.at_ fun z => hn.1 (List.mem_singleton.mp z)
  have et : Et H5 (upd H5 M (.lst (ms ++ [u]))) := Et.lst hM
  refine ⟨hM, upd_same, ?_, by rw [List.length_append, h.len]; rfl, fun x hx n e => ?_, fun j e => ?_, (hp.upd hn).le (by omega), (h.fr.trans f).new nM⟩
  · rw [List.map_append]
    exact ((h.ra.mono (h.pl.kp f).et).mono et).app (.cons (hu.mono et) .nil)
  · rcases List.mem_append.mp hx with z | z
    · exact h.push x z n e
    · rw [List.mem_singleton.mp z] at e
      exact h1 n e
  · rcases Nat.lt_or_ge j mvs.length with q | q
    · rw [List.getElem?_append_left q] at e
      exact h.pop j e
    · rw [List.getElem?_append_right q] at e
      have hj : j - mvs.length = 0 := by
        rcases Nat.eq_zero_or_pos (j - mvs.length) with q0 | q0
        · exact q0
        · rw [List.getElem?_eq_none (by simp; omega)] at e
          cases e
      rw [hj] at e
      have e' : mv = .pop := Option.some.inj e
      have hl := h.len
      have : j = i := by omega
      rw [this]
      exact h2 e'
section
variable {P : Program} {w : World} {K : PySem.W.Frag} {mg : Str → Option Value} {base : Heap} {CE CR CF CB c Pt : Addr} {X : Cx}
def spDone : Sp := fun vs H Q _ => ∃ (p ca ta : Addr) (s tall : Int) (ts : List V) (t : List (Option Int)) (T : Nat), vs = [.ref p, .int s, .ref ta, .int tall] ∧ PlAt H p ca T ∧ T ≤ 100000 ∧ 1 ≤ s ∧ s ≤ 12 ∧ H ta = some (.tup ts) ∧ Ra H ts (t.map dTop) ∧ t.length ≤ 1 ∧
  ∀ v (d : K40.Don) H', Rp H' v (dDon d) → 0 ≤ d.st → d.st < s → d.mvs.length = t.length → (∀ x ∈ d.mvs, ∀ n, x = .push n → 0 ≤ n ∧ n ≤ 3) → (∀ j : Nat, d.mvs[j]? = some K40.Mv.pop → ∃ n, t[j]? = some (some n)) → PlAt H' p ca (T + 4) → Fr [p] H H' → Q v H'
theorem c_law_done (T : Tx K mg CE CR CF CB) : Cal P w K mg base 2 "_law_done" spDone [] := by
  have G1 : Cal P w K mg base 1 "_law_yoke" spYoke [] := c_yoke T
  refine cal_of (N := ["_law_plough_here", "_law_states", "_law_tops_here", "_law_tall", "_law_moves", "_law_top", "_law_way"]) (ps := ["_law_plough_here", "_law_states", "_law_tops_here", "_law_tall"]) T.done (by decide +kernel) (fun vs H Q E h => ?_) (fun _ _ _ _ _ _ us hl => match us, hl with | [_, _, _, _], _ => rfl) (fun cdv f A outer s H vs Q E hr h => ?_)
  · obtain ⟨p, ca, ta, s, tall, ts, t, T, rfl, _⟩ := h
    rfl
  · obtain ⟨p, ca, ta, st, tall, ts, t, U, rfl, hP, hU, hs1, hs2, hta, hts, lt, k⟩ := h
    have nd : (["_law_plough_here", "_law_states", "_law_tops_here", "_law_tall", "_law_moves", "_law_top", "_law_way"] : List Str).Nodup := by decide +kernel
    refine ⟨_, pss_cons (ps_set (i := 4) nd rfl (Or.inl rfl) (pe_lst pa_nil))
      (pss_cons (ps_for PassesOwn.never rfl (pi_tup (pv 2)) (pg_name (i := 5) nd rfl (Or.inl rfl))
        (pss_cons (ps_set (i := 6) nd rfl (Or.inl rfl) (pe_c G1 hr (by decide) rfl (pa_cons (pv 0) (pa_cons pe_int pa_nil))))
        (pss_one (ps_if (pt_cmpR op_lt (pv 6) (pv 3) (nomark _))
          (pss_one (ps_expr (pe_bm PySem.F.plainAttrs_list PySem.F.slot_list_append PySem.F.type_list_append mt_append (pv 4) (pa_cons (pe_tup (pa_cons pe_str (pa_cons (pe_ifExp (pt_cmpR op_eq (pe_c G1 hr (by decide) rfl (pa_cons (pv 0) (pa_cons pe_int pa_nil))) pe_int (nomark _)) (pe_c G1 hr (by decide) rfl (pa_cons (pv 0) (pa_cons pe_int pa_nil))) (pe_c G1 hr (by decide) rfl (pa_cons (pv 0) (pa_cons pe_int pa_nil)))) pa_nil))) pa_nil))))
          (pss_one (ps_expr (pe_bm PySem.F.plainAttrs_list PySem.F.slot_list_append PySem.F.type_list_append mt_append (pv 4) (pa_cons (pe_ifExp (PW.pt (pw_and (pt_cmp (pc_notN (pv 5))) (pw_and1 (pt_cmpR op_lt (pv 6) pe_int (nomark _))))) pe_str pe_non) pa_nil))))))))
      (pss_one (ps_ret (pe_tup (pa_cons (pe_c G1 hr (by decide) rfl (pa_cons (pv 0) (pa_cons (pv 1) pa_nil))) (pa_cons (pe_tupc T (pv 4)) pa_nil)))))), ?_⟩
    refine ⟨Nat.zero_le _, fun M hM => ?_⟩
    have hn := hP.ne hM
    have offp : ∀ {b : Addr}, b ≠ p → b ∉ [p] := fun n z => n (List.mem_singleton.mp z)
    obtain ⟨ys0, hy0⟩ := hP.lst
    have tp : ta ≠ p := ne_of hta hy0 (by intro z; cases z)
    have lts := hts.len
    rw [List.length_map] at lts
    refine ⟨_, rfl, ta, rfl, ⟨_, SqT.of (Same.new hM _ _ hta)⟩, ?_⟩
    refine for_it (walk_tup (xs := ts)) (fun i σ H' => ∃ (ms : List V) (mvs : List K40.Mv) (o5 o6 : Option V), σ = [some (.ref p), some (.int st), some (.ref ta), some (.int tall), some (.ref M), o5, o6] ∧ DInv H p ca M t U i ms mvs H')
      ⟨[], [], none, none, rfl, upd_same, .nil, rfl, fun x hx => (by cases hx), fun j e => (by cases e), hP.upd hn, (Fr.refl [p] H).new hM⟩ (fun i σ H2 hi hv => ?_) (fun i x σ H2 H2' hi hv y => ?_) (fun σ H2 hv => ?_)
    · obtain ⟨ms, mvs, o5, o6, rfl, D⟩ := hv
      exact SqT.of (D.fr _ _ hta (offp tp))
    · obtain ⟨ms, mvs, o5, o6, rfl, D⟩ := hv
      obtain ⟨rfl, hx⟩ := y
      obtain ⟨o, ho, ro⟩ := Ra.map_get hts hx
      obtain rfl : x = topV o := by
        cases o with
        | none => exact Rp.non_inv ro
        | some n => exact Rp.int_inv ro
      have i1 : i < 1 := by omega
      have lm : ms.length < sizeLine := by
        have := D.ra.len
        rw [List.length_map, D.len] at this
        have z5 : (1000 : Nat) ≤ sizeLine := by decide
        omega
      refine ⟨_, rfl, p, ca, 6, _, rfl, D.pl, by omega, by omega, by omega, fun way H3 w1 w2 hP3 f3 => ?_⟩
      have hM3 := f3 _ _ D.at_ (offp hn.1)
      refine ⟨_, rfl, _, rfl, _, _, rfl, rfl, decide (way < tall), rfl, ?_⟩
      by_cases hw : way < tall
      · refine it_ (decide_eq_true hw) ?_
        have fin : ∀ n H5, 0 ≤ n → n ≤ 3 → PlAt H5 p ca (U + 3 * i + 3) → Fr [p] H2' H5 → ∀ q, H5 q = none → ∃ (l : Addr) (xs : List V) (y : V), V.ref M = .ref l ∧ [V.ref q] = [y] ∧ upd H5 q (.tup [V.str "push", .int n]) l = some (.lst xs) ∧ xs.length < sizeLine ∧ ∃ (ms : List V) (mvs : List K40.Mv) (o5' o6' : Option V), [some (V.ref p), some (.int st), some (.ref ta), some (.int tall), some (.ref M), some (topV o), some (V.int way)] = [some (V.ref p), some (.int st), some (.ref ta), some (.int tall), some (.ref M), o5', o6'] ∧ DInv H p ca M t U (i + 1) ms mvs (upd (upd H5 q (.tup [V.str "push", .int n])) l (.lst (xs ++ [y]))) := by
          intro n H5 n1 n2 hP5 f5 q hq
          obtain ⟨z1, z2⟩ := D.step (mv := .push n) (u := .ref q) hM hn (f5.trans (Fr.of (Same.new hq))) (hP5.upd (o := .tup [V.str "push", .int n]) (hP5.ne hq)) (.tup upd_same (.cons (.str _) (.cons (.int _) .nil))) (fun m e => by injection e with e; rw [← e]; exact ⟨n1, n2⟩) (fun e => by cases e)
          exact ⟨M, _, _, rfl, rfl, z1, lm, _, _, _, _, rfl, z2⟩
        refine ⟨_, rfl, .inl ⟨rfl, _, SqL.of hM3⟩, _, rfl, p, ca, 3, _, rfl, hP3, by omega, by omega, by omega, fun n H4 n1 n2 hP4 f4 => ⟨rfl, _, rfl, ?_⟩⟩
        by_cases q0 : n = 0
        · refine it_ (dT (by rw [q0])) ?_
          exact ⟨_, rfl, p, ca, 4, _, rfl, hP4, by omega, by omega, by omega, fun m H5 m1 m2 hP5 f5 => ⟨by show 2 ≤ sizeLine; decide, fun q hq => fin m H5 m1 (by omega) hP5 ((f3.trans f4).trans f5) q hq⟩⟩
        · refine if_ (dF (fun z => q0 (by injection z))) ?_
          exact ⟨_, rfl, p, ca, 2, _, rfl, hP4, by omega, by omega, by omega, fun m H5 m1 m2 hP5 f5 => ⟨by show 2 ≤ sizeLine; decide, fun q hq => fin m H5 m1 (by omega) hP5 ((f3.trans f4).trans f5) q hq⟩⟩
      · refine if_ (decide_eq_false hw) ?_
        have fin : ∀ mv u, Rp H3 u (dMv mv) → (∀ n, mv ≠ .push n) → (mv = .pop → ∃ n, t[i]? = some (some n)) → ∃ (l : Addr) (xs : List V) (y : V), V.ref M = .ref l ∧ [u] = [y] ∧ H3 l = some (.lst xs) ∧ xs.length < sizeLine ∧ ∃ (ms : List V) (mvs : List K40.Mv) (o5' o6' : Option V), [some (V.ref p), some (.int st), some (.ref ta), some (.int tall), some (.ref M), some (topV o), some (V.int way)] = [some (V.ref p), some (.int st), some (.ref ta), some (.int tall), some (.ref M), o5', o6'] ∧ DInv H p ca M t U (i + 1) ms mvs (upd H3 l (.lst (xs ++ [y]))) := by
          intro mv u hu hp1 hp2
          obtain ⟨z1, z2⟩ := D.step (mv := mv) (u := u) hM hn f3 (hP3.le (by omega)) hu (fun m e => absurd e (hp1 m)) hp2
          exact ⟨M, _, _, rfl, rfl, z1, lm, _, _, _, _, rfl, z2⟩
        refine ⟨_, rfl, .inl ⟨rfl, _, SqL.of hM3⟩, ?_⟩
        cases o with
        | none => exact ⟨_, rfl, false, rfl, iteF (iteF (fin .stay .non .non (fun n e => by cases e) fun e => by cases e))⟩
        | some n =>
          refine ⟨_, rfl, true, rfl, iteT ⟨_, rfl, _, _, rfl, rfl, decide (way < 5), rfl, ?_⟩⟩
          by_cases h5 : way < 5
          · exact it_ (decide_eq_true h5) (fin .pop (.str "pop") (.str _) (fun n e => by cases e) fun _ => ⟨n, ho⟩)
          · exact if_ (decide_eq_false h5) (fin .stay .non .non (fun n e => by cases e) fun e => by cases e)
    · obtain ⟨ms, mvs, o5, o6, rfl, D⟩ := hv
      refine ⟨_, rfl, _, rfl, p, ca, st, _, rfl, D.pl, by omega, by omega, by omega, fun n H3 n1 n2 hP3 f3 => ?_⟩
      have hM3 := f3 _ _ D.at_ (offp hn.1)
      refine ⟨_, rfl, M, ms, rfl, .inl ⟨SqL.of hM3, fun q hq => ⟨by show 2 ≤ sizeLine; decide, fun r hr' => ?_⟩⟩⟩
      have sq : Same H3 (upd (upd H3 q (.tup ms)) r (.tup [V.int n, V.ref q])) := same_tr (Same.new hq) (Same.new hr')
      refine k _ ⟨n, mvs⟩ _ ?_ n1 n2 (by rw [D.len]; exact lts) D.push D.pop ((hP3.sm sq).le (by omega)) ((D.fr.trans f3).trans (Fr.of sq))
      exact .tup upd_same (.cons (.int _) (.cons (.tup (Same.new hr' _ _ upd_same) ((D.ra.mono (D.pl.kp f3).et).mono (Same.et sq))) .nil))
end
end KR
end
section
set_option Elab.async false
set_option linter.all false
set_option maxRecDepth 100000
set_option maxHeartbeats 4000000
namespace KR
open PySem PySem.Spec PyProof.Rows L2 C8
def topOk : Option Int → Bool
  | none => true
  | some m => decide (0 ≤ m ∧ m ≤ 3)
theorem tss_ok (n : Nat) (h : n ≤ 1) : ∀ t ∈ tssOf n, t.length = n ∧ t.all topOk = true := by
  match n, h with
  | 0, _ => decide
  | 1, _ => decide
theorem tss_nodup (n : Nat) (h : n ≤ 1) : (tssOf n).Nodup := by
  match n, h with
  | 0, _ => decide
  | 1, _ => decide
theorem nodup_take {α : Type} {l : List α} (h : l.Nodup) {j : Nat} {t : α} (e : l[j]? = some t) : t ∉ l.take j := by
  intro ht
  rw [← List.take_append_drop j l, List.nodup_append] at h
  exact h.2.2 t ht t (List.mem_of_getElem? (i := 0) (by rw [List.getElem?_drop]; exact e)) rfl
/-- the rules made so far; A: the keys that may be among them -/
structure RInv (H : Hp) (p ca F : Addr) (l s : Int) (n U b : Nat) (A : K40.Key → Prop) (xs : List V) (rs : List (K40.Key × K40.Don)) (H' : Hp) : Prop where
  at_ : H' F = some (.lst xs)
  ra : Ra H' xs (rs.map dRule)
  ok : ∀ r ∈ rs, K40.RuleOk l s n r
  nd : (rs.map (·.1)).Nodup
  old : ∀ r ∈ rs, A r.1
  len : rs.length ≤ b
  pl : PlAt H' p ca (U + 5 * b)
  fr : Fr [p] H H'
theorem RInv.skip {H H2 H5 : Hp} {p ca F : Addr} {l s : Int} {n U b : Nat} {A A' : K40.Key → Prop} {xs : List V} {rs : List (K40.Key × K40.Don)} (h : RInv H p ca F l s n U b A xs rs H2) (hn : F ≠ p ∧ F ≠ ca) (f : Fr [p] H2 H5) (hp : PlAt H5 p ca (U + 5 * b + 5)) (hA : ∀ k, A k → A' k) : RInv H p ca F l s n U (b + 1) A' xs rs H5 :=
  ⟨f _ _ h.at_ fun z => hn.1 (List.mem_singleton.mp z), h.ra.mono (h.pl.kp f).et, h.ok, h.nd, fun r hr => hA _ (h.old r hr), Nat.le_succ_of_le h.len, hp.le (by omega), h.fr.trans f⟩
theorem RInv.step {H H2 H5 : Hp} {p ca F : Addr} {l s : Int} {n U b : Nat} {A A' : K40.Key → Prop} {xs : List V} {rs : List (K40.Key × K40.Don)} {r : K40.Key × K40.Don} {u : V} (h : RInv H p ca F l s n U b A xs rs H2) (nF : H F = none) (hn : F ≠ p ∧ F ≠ ca) (f : Fr [p] H2 H5) (hp : PlAt H5 p ca (U + 5 * b + 5)) (hA : ∀ k, A k → A' k) (hA' : A' r.1) (hno : ¬ A r.1) (hok : K40.RuleOk l s n r) (hu : Rp H5 u (dRule r)) :
    H5 F = some (.lst xs) ∧ RInv H p ca F l s n U (b + 1) A' (xs ++ [u]) (rs ++ [r]) (upd H5 F (.lst (xs ++ [u]))) := by
  have hF : H5 F = some (.lst xs) := f _ _ h.at_ fun z => hn.1 (List.mem_singleton.mp z)
  have et : Et H5 (upd H5 F (.lst (xs ++ [u]))) := Et.lst hF
  refine ⟨hF, upd_same, ?_, fun x hx => ?_, ?_, fun x hx => ?_, by rw [List.length_append]; exact Nat.succ_le_succ h.len, (hp.upd hn).le (by omega), (h.fr.trans f).new nF⟩
  · rw [List.map_append]
    exact ((h.ra.mono (h.pl.kp f).et).mono et).app (.cons (hu.mono et) .nil)
  · rcases List.mem_append.mp hx with z | z
    · exact h.ok x z
    · rw [List.mem_singleton.mp z]
      exact hok
  · rw [List.map_append, List.nodup_append]
    refine ⟨h.nd, by simp, fun a ha b hb e => ?_⟩
    obtain ⟨q, hq, rfl⟩ := List.mem_map.mp ha
    have hb' : b = r.1 := List.mem_singleton.mp hb
    rw [hb'] at e
    exact hno (by rw [← e]; exact h.old q hq)
  · rcases List.mem_append.mp hx with z | z
    · exact hA _ (h.old x z)
    · rw [List.mem_singleton.mp z]
      exact hA'
section
variable {P : Program} {w : World} {K : PySem.W.Frag} {mg : Str → Option Value} {base : Heap} {CE CR CF CB c Pt : Addr} {X : Cx}
def spLawRules : Sp := fun vs H Q _ => ∃ (p ca z : Addr) (l s : Int) (n T : Nat), vs = [.ref p, .ref z] ∧ H z = some (.tup [.int l, .int s, .int (n : Int)]) ∧ PlAt H p ca T ∧ T ≤ 50000 ∧ 1 ≤ l ∧ l ≤ 6 ∧ 1 ≤ s ∧ s ≤ 12 ∧ s * l ≤ 6 ∧ n ≤ 1 ∧
  ∀ L xs (rs : List (K40.Key × K40.Don)) H', H L = none → H' L = some (.lst xs) → Ra H' xs (rs.map dRule) → (∀ r ∈ rs, K40.RuleOk l s n r) → (rs.map (·.1)).Nodup → rs.length ≤ 30 → PlAt H' p ca (T + 152) → Fr [p] H H' → Q (.ref L) H'
theorem c_law_rules (T : Tx K mg CE CR CF CB) : Cal P w K mg base 3 "_law_rules" spLawRules [] := by
  have G1 : Cal P w K mg base 1 "_law_yoke" spYoke [] := c_yoke T
  have G2 : Cal P w K mg base 2 "_law_any" spAny [] := c_any T
  have G3 : Cal P w K mg base 1 "_law_tops" spTops [] := c_tops T
  have G4 : Cal P w K mg base 2 "_law_done" spDone [] := c_law_done T
  refine cal_of (N := ["_law_plough_here", "_law_sizes_here", "_law_letters", "_law_states", "_law_stacks", "_law_lack", "_law_tall", "_law_found", "_law_place", "_law_tops_here"]) (ps := ["_law_plough_here", "_law_sizes_here"]) T.rules (by decide +kernel) (fun vs H Q E h => ?_) (fun _ _ _ _ _ _ us hl => match us, hl with | [_, _], _ => rfl) (fun cdv f A outer s H vs Q E hr h => ?_)
  · obtain ⟨p, ca, z, l, s, n, T, rfl, _⟩ := h
    rfl
  · obtain ⟨p, ca, z, l, st, n, U, rfl, hz, hP, hU, hl1, hl2, hs1, hs2, hsl, hn, k⟩ := h
    have nd : (["_law_plough_here", "_law_sizes_here", "_law_letters", "_law_states", "_law_stacks", "_law_lack", "_law_tall", "_law_found", "_law_place", "_law_tops_here"] : List Str).Nodup := by decide +kernel
    refine ⟨_, pss_cons (ps_asg (pv 1) (pg_tup (n := 3) rfl (pgs_cons (pg_name (i := 2) nd rfl (Or.inl rfl)) (pgs_cons (pg_name (i := 3) nd rfl (Or.inl rfl)) (pgs_cons (pg_name (i := 4) nd rfl (Or.inl rfl)) pgs_nil)))))
      (pss_cons (ps_par3 (i := 5) (j := 6) (l := 7) rfl nd rfl rfl rfl (by decide) (by decide) (by decide) rfl rfl rfl (pa_cons (pe_c G2 hr (by decide) rfl (pa_cons (pv 0) (pa_cons (pe_lst (pa_cons pe_int (pa_cons pe_int (pa_cons pe_int (pa_cons pe_int pa_nil))))) pa_nil))) (pa_cons (pe_c G2 hr (by decide) rfl (pa_cons (pv 0) (pa_cons (pe_lst (pa_cons pe_int (pa_cons pe_int (pa_cons pe_int (pa_cons pe_int pa_nil))))) pa_nil))) (pa_cons (pe_lst pa_nil) pa_nil))) rfl)
      (pss_cons (ps_for PassesOwn.never rfl (pi_range1 rfl (T.free "range" (by decide +kernel)) (pa_cons (pe_op op_mul (pv 3) (pv 2)) pa_nil)) (pg_name (i := 8) nd rfl (Or.inl rfl))
        (pss_one (ps_for PassesOwn.never rfl (pi_list (pe_c G3 hr (by decide) rfl (pa_cons (pv 4) pa_nil))) (pg_name (i := 9) nd rfl (Or.inl rfl))
          (pss_one (ps_if (pt_cmpR op_gt (pe_c G1 hr (by decide) rfl (pa_cons (pv 0) (pa_cons (pv 5) pa_nil))) pe_int (nomark _))
            (pss_one (ps_expr (pe_bm PySem.F.plainAttrs_list PySem.F.slot_list_append PySem.F.type_list_append mt_append (pv 7) (pa_cons (pe_tup (pa_cons (pe_tup (pa_cons (pe_op op_fdiv (pv 8) (pv 2)) (pa_cons (pe_op op_mod (pe_i1 T (pv 8)) (pv 2)) (pa_cons (pv 9) pa_nil)))) (pa_cons (pe_c G4 hr (by decide) rfl (pa_cons (pv 0) (pa_cons (pv 3) (pa_cons (pv 9) (pa_cons (pv 6) pa_nil))))) pa_nil))) pa_nil)))) pss_nil)))))
      (pss_one (ps_ret (pv 7))))), ?_⟩
    have offp : ∀ {b : Addr}, b ≠ p → b ∉ [p] := fun n z => n (List.mem_singleton.mp z)
    have hmul : 0 ≤ st * l := Int.mul_nonneg (by omega) (by omega)
    refine ⟨_, rfl, z, _, rfl, SqT.of hz, rfl, _, _, rfl, _, _, rfl, _, _, rfl, rfl, ?_⟩
    refine ⟨_, rfl, by show 4 ≤ sizeLine; decide, fun D1 hD1 => ?_⟩
    have hn1 := hP.ne hD1
    refine ⟨p, ca, D1, _, _, rfl, hP.upd hn1, by omega, upd_same, hn1.1, by decide, by decide, fun v1 H1 hv1 hP1 f1 => ?_⟩
    obtain ⟨lack, rfl, k1, k2⟩ : ∃ vi : Int, v1 = .int vi ∧ 1 ≤ vi ∧ vi ≤ 40 := by
      simp only [List.mem_cons, List.not_mem_nil, or_false] at hv1
      rcases hv1 with z | z | z | z <;> exact ⟨_, z, by omega, by omega⟩
    refine ⟨_, rfl, by show 4 ≤ sizeLine; decide, fun D2 hD2 => ?_⟩
    have hn2 := hP1.ne hD2
    refine ⟨p, ca, D2, _, _, rfl, hP1.upd hn2, by omega, upd_same, hn2.1, by decide, by decide, fun v2 H2 hv2 hP2 f2 => ?_⟩
    obtain ⟨tall, rfl⟩ : ∃ vi : Int, v2 = .int vi := by
      simp only [List.mem_cons, List.not_mem_nil, or_false] at hv2
      rcases hv2 with z | z | z | z <;> exact ⟨_, z⟩
    refine ⟨Nat.zero_le _, fun F hF => ⟨_, _, _, rfl, ?_⟩⟩
    have f02 : Fr [p] H H2 := ((Fr.of (Same.new hD1)).trans f1).trans ((Fr.of (Same.new hD2)).trans f2)
    have hnF := hP2.ne hF
    have nF : H F = none := f02.free hF (offp hnF.1)
    refine ⟨_, rfl, _, rfl, _, _, rfl, rfl, .inl ⟨by omega, by omega⟩, st * l, rfl, by omega, by omega, ?_⟩
    have m5 := tss_len n hn
    refine for_it (walk_range (lo := 0) (n := (st * l).toNat)) (fun i σ H' => ∃ (xs : List V) (rs : List (K40.Key × K40.Don)) (o8 o9 : Option V), σ = [some (.ref p), some (.ref z), some (.int l), some (.int st), some (.int (n : Int)), some (.int lack), some (.int tall), some (.ref F), o8, o9] ∧ RInv H p ca F l st n (U + 2) (5 * i) (fun kk => kk.st * l + kk.lt < (i : Int)) xs rs H')
      ⟨[], [], none, none, rfl, upd_same, .nil, fun r hr => (by cases hr), .nil, fun r hr => (by cases hr), Nat.le_refl _, (hP2.upd hnF).le (by omega), f02.new nF⟩ (fun _ _ _ _ _ => True.intro) (fun i x σ H3 H3' hi hv y => ?_) (fun σ H3 hv => ?_)
    · obtain ⟨xs, rs, o8, o9, rfl, R⟩ := hv
      obtain ⟨rfl, rfl⟩ := y
      refine ⟨_, rfl, n, rfl, hn, fun L ts H4 nL s4 hL rts => ⟨L, rfl, ⟨_, SqL.of hL⟩, ?_⟩⟩
      have lts := rts.len
      rw [List.length_map] at lts
      have hnL := R.pl.ne nL
      have nLF : L ≠ F := by
        intro e
        rw [e, R.at_] at nL
        cases nL
      refine for_it (walk_list (xs := ts)) (fun j σ H' => ∃ (xs : List V) (rs : List (K40.Key × K40.Don)) (o9 : Option V), σ = [some (.ref p), some (.ref z), some (.int l), some (.int st), some (.int (n : Int)), some (.int lack), some (.int tall), some (.ref F), some (.int (0 + (i : Int))), o9] ∧ H' L = some (.lst ts) ∧ Ra H' ts ((tssOf n).map dTs) ∧ RInv H p ca F l st n (U + 2) (5 * i + j) (fun kk => kk.st * l + kk.lt < (i : Int) ∨ (kk.st * l + kk.lt = (i : Int) ∧ kk.tops ∈ (tssOf n).take j)) xs rs H')
        ⟨xs, rs, o9, rfl, hL, rts, s4 _ _ R.at_, R.ra.sm s4, R.ok, R.nd, fun r hr => .inl (R.old r hr), R.len, R.pl.sm s4, R.fr.trans (Fr.of s4)⟩ (fun j σ H5 hj hv => ?_) (fun j x σ H5 H5' hj hv y => ?_) (fun σ H5 hv => ?_)
      · obtain ⟨xs, rs, o9, rfl, hL5, _, R5⟩ := hv
        exact SqL.of hL5
      · obtain ⟨xs, rs, o9, rfl, hL5, rt5, R5⟩ := hv
        obtain ⟨rfl, hx⟩ := y
        obtain ⟨t, ht, rt⟩ := Ra.map_get rt5 hx
        obtain ⟨ta, tv, rfl, hta, htv⟩ := Rp.tup_inv (show Rp H5' x (.tuple (t.map dTop)) from rt)
        obtain ⟨lt, tok⟩ := tss_ok n hn t (List.mem_of_getElem? ht)
        have hj5 : j < 5 := by omega
        have hi6 : i < 6 := by omega
        have hmono : ∀ kk : K40.Key, (kk.st * l + kk.lt < (i : Int) ∨ (kk.st * l + kk.lt = (i : Int) ∧ kk.tops ∈ (tssOf n).take j)) → (kk.st * l + kk.lt < (i : Int) ∨ (kk.st * l + kk.lt = (i : Int) ∧ kk.tops ∈ (tssOf n).take (j + 1))) := by
          intro kk hk
          rcases hk with h | ⟨h, h'⟩
          · exact .inl h
          · refine .inr ⟨h, ?_⟩
            rw [List.take_succ]
            exact List.mem_append_left _ h'
        refine ⟨_, rfl, _, rfl, p, ca, lack, _, rfl, R5.pl, by omega, by omega, by omega, fun q H6 q1 q2 hP6 f6 => ⟨_, _, rfl, rfl, decide (q > 0), rfl, ?_⟩⟩
        by_cases hq : q > 0
        · refine it_ (decide_eq_true hq) ?_
          have hF6 := f6 _ _ R5.at_ (offp hnF.1)
          have hL6 := f6 _ _ hL5 (offp hnL.1)
          have et6 := (R5.pl.kp f6).et
          refine ⟨_, rfl, .inl ⟨rfl, _, SqL.of hF6⟩, ?_⟩
          refine ⟨_, rfl, _, rfl, _, _, rfl, rfl, ⟨by omega, by omega⟩, _, rfl, .inl ⟨_, rfl, _, rfl, _, _, rfl, rfl, by omega, _, rfl, by show 3 ≤ sizeLine; decide, fun b1 hb1 => ?_⟩⟩
          have s7 := Same.new (o := .tup [V.int ((0 + (i : Int)) / l), V.int ((0 + (i : Int)) % l), V.ref ta]) hb1
          have hta7 : upd H6 b1 (.tup [V.int ((0 + (i : Int)) / l), V.int ((0 + (i : Int)) % l), V.ref ta]) ta = some (.tup tv) := s7 _ _ (et6 _ _ hta)
          have htv7 := (htv.mono et6).mono (Same.et s7)
          refine ⟨_, rfl, _, rfl, _, rfl, _, rfl, p, ca, ta, st, tall, tv, t, _, rfl, hP6.sm s7, by omega, hs1, hs2, hta7, htv7, by omega, fun v d H8 rd d1 d2 d3 d4 d5 hP8 f8 => ?_⟩
          refine ⟨by show 2 ≤ sizeLine; decide, fun b2 hb2 => ?_⟩
          have s9 := Same.new (o := .tup [V.ref b1, v]) hb2
          have f9 : Fr [p] H5' (upd H8 b2 (.tup [V.ref b1, v])) := ((f6.trans (Fr.of s7)).trans f8).trans (Fr.of s9)
          have e1 := Int.emod_def (0 + (i : Int)) l
          have e2 := Int.mul_comm l ((0 + (i : Int)) / l)
          have e3 : (0 + (i : Int)) / l * l + (0 + (i : Int)) % l = (i : Int) := by omega
          have b1p : b1 ≠ p := (hP6.ne hb1).1
          have et89 : Et (upd H6 b1 (.tup [V.int ((0 + (i : Int)) / l), V.int ((0 + (i : Int)) % l), V.ref ta])) (upd H8 b2 (.tup [V.ref b1, v])) := Et.trans ((hP6.sm s7).kp f8).et (Same.et s9)
          obtain ⟨z1, z2⟩ := R5.step (r := (⟨(0 + (i : Int)) / l, (0 + (i : Int)) % l, t⟩, d)) (u := .ref b2) (A' := fun kk => kk.st * l + kk.lt < (i : Int) ∨ (kk.st * l + kk.lt = (i : Int) ∧ kk.tops ∈ (tssOf n).take (j + 1))) nF hnF f9 ((hP8.sm s9).le (by omega)) hmono
            (.inr ⟨e3, List.mem_of_getElem? (i := j) (by rw [List.getElem?_take_of_lt (Nat.lt_succ_self j)]; exact ht)⟩)
            (fun h => by
              rcases h with h | ⟨_, h⟩
              · have h : (0 + (i : Int)) / l * l + (0 + (i : Int)) % l < (i : Int) := h
                omega
              · exact nodup_take (tss_nodup n hn) ht h)
            ⟨⟨Int.ediv_nonneg (by omega) (by omega), Int.ediv_lt_of_lt_mul (by omega) (by omega)⟩, ⟨Int.emod_nonneg _ (by omega), Int.emod_lt_of_pos _ (by omega)⟩, ⟨d1, d2⟩, lt, by rw [d3]; exact lt, fun x hx m e => by
              have := List.all_eq_true.mp tok x hx
              rw [e] at this
              exact of_decide_eq_true this, d4, d5⟩
            (.tup upd_same (.cons (.tup (et89 _ _ upd_same) (.cons (.int _) (.cons (.int _) (.cons (.tup (et89 _ _ hta7) (htv7.mono et89)) .nil)))) (.cons (rd.sm s9) .nil)))
          refine ⟨F, xs, _, rfl, rfl, z1, ?_, xs ++ [.ref b2], _, _, rfl, ?_, ?_, z2⟩
          · have := R5.ra.len
            have := R5.len
            have z5 : (1000 : Nat) ≤ sizeLine := by decide
            simp only [List.length_map] at *
            omega
          · rw [upd_ne nLF]
            exact f9 _ _ hL5 (offp hnL.1)
          · exact (rt5.mono (R5.pl.kp f9).et).mono (Et.lst z1)
        · refine if_ (decide_eq_false hq) ?_
          exact ⟨xs, rs, _, rfl, f6 _ _ hL5 (offp hnL.1), rt5.mono (R5.pl.kp f6).et, R5.skip hnF f6 (hP6.le (by omega)) hmono⟩
      · obtain ⟨xs, rs, o9, rfl, hL5, _, R5⟩ := hv
        refine ⟨xs, rs, _, _, rfl, R5.at_, R5.ra, R5.ok, R5.nd, fun r hr => ?_, Nat.le_trans R5.len (by omega), R5.pl.le (by omega), R5.fr⟩
        rcases R5.old r hr with h | ⟨h, _⟩
        · show _ < ((i + 1 : Nat) : Int)
          omega
        · show _ < ((i + 1 : Nat) : Int)
          omega
    · obtain ⟨xs, rs, o8, o9, rfl, R⟩ := hv
      exact ⟨_, rfl, k F xs rs H3 nF R.at_ R.ra R.ok R.nd (Nat.le_trans R.len (by omega)) (R.pl.le (by omega)) R.fr⟩
end
end KR
end
section
set_option Elab.async false
set_option linter.all false
set_option maxRecDepth 100000
set_option maxHeartbeats 4000000
namespace KR
open PySem PySem.Spec PyProof.Rows L2 C8
/-- all but the plough and the tables stays -/
def Fx (p : Addr) (H H' : Hp) : Prop := ∀ b o, H b = some o → b ≠ p → (∀ ps, o ≠ .tbl ps) → H' b = some o
theorem Fx.trans {p : Addr} {H H1 H2 : Hp} (a : Fx p H H1) (b : Fx p H1 H2) : Fx p H H2 := fun c o h n t => b c o (a c o h n t) n t
theorem Fx.of {p : Addr} {H H1 : Hp} (a : Fr [p] H H1) : Fx p H H1 := fun c o h n t => a c o h fun z => n (List.mem_singleton.mp z)
theorem Fx.sm {p : Addr} {H H1 : Hp} (a : Same H H1) : Fx p H H1 := fun c o h n t => a c o h
theorem Fx.ext {p : Addr} {H H1 : Hp} (a : LamX.ExtN H H1) : Fx p H H1 := fun c o h n t => a c o h t
theorem Fx.kp {p ca : Addr} {T : Nat} {H H1 : Hp} (a : Fx p H H1) (h : PlAt H p ca T) : Kp H H1 := fun c o hc n t => a c o hc (fun e => by
  obtain ⟨ys, hy⟩ := h.lst
  rw [e, hy] at hc
  exact n ys (Option.some.inj hc).symm) t
theorem range_ints (s : Int) : rgV 0 s = (((List.range s.toNat).map fun i : Nat => ((i : Nat) : Int)).map V.int) := by
  unfold rgV
  rw [List.map_map, show (s - 0).toNat = s.toNat from by omega]
  apply List.map_congr_left
  intro i _
  show V.int (0 + (i : Int)) = V.int (i : Int)
  rw [Int.zero_add]
theorem range_nd (n : Nat) : ((List.range n).map fun i : Nat => ((i : Nat) : Int)).Nodup := by
  rw [List.nodup_iff_pairwise_ne, List.pairwise_map]
  exact List.nodup_range.imp fun {a b} h e => h (Int.ofNat_inj.mp e)
section
variable {P : Program} {w : World} {K : PySem.W.Frag} {mg : Str → Option Value} {base : Heap} {CE CR CF CB c Pt : Addr} {X : Cx}
def spLawEater (P : Program) (w : World) (CE Pt : Addr) : Sp := fun vs H Q _ => ∃ (p ca : Addr) (l s : Int) (n T : Nat), vs = [.ref p, .int l, .int s, .int (n : Int)] ∧ PlAt H p ca T ∧ T ≤ 40000 ∧ 1 ≤ l ∧ l ≤ 6 ∧ 1 ≤ s ∧ s ≤ 6 ∧ s * l ≤ 6 ∧ n ≤ 1 ∧ LamX.Tabs (Tb Pt) H ∧
  ∀ x (E : K40.Eat) H', H x = none → EatAt P w CE H' x E → K40.Ok E → E.letters = l → E.states = s → E.stacks = n → E.rules.length ≤ 30 → E.yes.length ≤ 6 → PlAt H' p ca (T + 160) → Fx p H H' → LamX.Tabs (Tb Pt) H' → Q (.ref x) H'
theorem c_law_eater (T : Tx K mg CE CR CF CB) (R : RfTab K mg base c Pt) : Cal P w K mg base 10 "_law_eater" (spLawEater P w CE Pt) [] := by
  have G1 : Cal P w K mg base 3 "_law_rules" spLawRules [] := c_law_rules T
  have G2 : Cal P w K mg base 2 "_law_any" spAny [] := c_any T
  have G3 : Cal P w K mg base 2 "_law_yes" spYes [] := c_yes T
  have G4 : Mak P w K mg base 8 "Eater" CE (spEaterInit P w CE Pt) [] := c_eater_init T R
  refine cal_of (N := ["_law_plough_here", "_law_letters", "_law_states", "_law_stacks", "_law_rules_here"]) (ps := ["_law_plough_here", "_law_letters", "_law_states", "_law_stacks"]) T.law_eater (by decide +kernel) (fun vs H Q E h => ?_) (fun _ _ _ _ _ _ us hl => match us, hl with | [_, _, _, _], _ => rfl) (fun cdv f A outer s H vs Q E hr h => ?_)
  · obtain ⟨p, ca, l, s, n, T, rfl, _⟩ := h
    rfl
  · obtain ⟨p, ca, l, st, n, U, rfl, hP, hU, hl1, hl2, hs1, hs2, hsl, hn, hT, k⟩ := h
    have nd : (["_law_plough_here", "_law_letters", "_law_states", "_law_stacks", "_law_rules_here"] : List Str).Nodup := by decide +kernel
    refine ⟨_, pss_cons (ps_set (i := 4) nd rfl (Or.inl rfl) (pe_c G1 hr (by decide) rfl (pa_cons (pv 0) (pa_cons (pe_tup (pa_cons (pv 1) (pa_cons (pv 2) (pa_cons (pv 3) pa_nil)))) pa_nil))))
      (pss_one (ps_ret (pe_mk G4 hr (by decide) rfl (pa_cons (pv 1) (pa_cons (pv 2) (pa_cons (pv 3) (pa_cons (pv 4) (pa_cons (pe_c G2 hr (by decide) rfl (pa_cons (pv 0) (pa_cons (pe_lst (pa_cons (pe_c G3 hr (by decide) rfl (pa_cons (pv 0) (pa_cons (pv 2) pa_nil))) (pa_cons (pe_listRg rfl rfl (T.free "list" (by decide +kernel)) (prg_1 rfl (T.free "range" (by decide +kernel)) (pv 2))) (pa_cons (pe_lst (pa_cons pe_int pa_nil)) pa_nil)))) pa_nil))) pa_nil)))))))), ?_⟩
    have offp : ∀ {b : Addr}, b ≠ p → b ∉ [p] := fun n z => n (List.mem_singleton.mp z)
    refine ⟨_, rfl, _, rfl, _, rfl, _, rfl, by show 3 ≤ sizeLine; decide, fun z hz => ?_⟩
    have s1 := Same.new (o := .tup [V.int l, V.int st, V.int (n : Int)]) hz
    refine ⟨p, ca, z, l, st, n, U, rfl, upd_same, hP.sm s1, by omega, hl1, hl2, hs1, by omega, hsl, hn, fun Lr xs rs H2 nLr hLr hrs rok rnd rlen hP2 f2 => ?_⟩
    have f02 : Fr [p] H H2 := (Fr.of s1).trans f2
    have nLp := (hP.sm s1).ne nLr
    have hT2 : LamX.Tabs (Tb Pt) H2 := tabs_fr (hT.ext s1) f2 fun y hy => .inl (by rw [List.mem_singleton.mp hy]; exact (hP.sm s1).lst)
    refine ⟨_, rfl, _, rfl, _, rfl, _, rfl, _, rfl, _, rfl, _, rfl, p, ca, st, _, rfl, hP2, by omega, hs1, by omega, fun L1 ys1 H3 nL1 hL1 y1 y2 y3 hP3 f3 => ?_⟩
    refine ⟨_, rfl, st, rfl, RgOk.of_le (by omega) (by omega) (by omega) (by omega), fun q2 hq2 => ⟨by show 1 ≤ sizeLine; decide, fun q3 hq3 => ⟨by show 3 ≤ sizeLine; decide, fun q4 hq4 => ?_⟩⟩⟩
    have t2 := Same.new (o := .lst (rgV 0 st)) hq2
    have t3 := Same.new (o := .lst [V.int 0]) hq3
    have t4 := Same.new (o := .lst [V.ref L1, .ref q2, .ref q3]) hq4
    have n1 := (hP2.ne nL1).1
    have n2 := (hP3.ne hq2).1
    have n3 := ((hP3.sm t2).ne hq3).1
    have n4 := (((hP3.sm t2).sm t3).ne hq4).1
    have t24 := same_tr (same_tr t2 t3) t4
    refine ⟨p, ca, q4, _, _, rfl, hP3.sm t24, by omega, upd_same, n4, by show 1 ≤ 3; decide, by show 3 ≤ 1000; decide, fun v H4 hv hP4 f4 => ?_⟩
    obtain ⟨py, ys, rfl, hpy, yl, yn, yr⟩ : ∃ (py : Addr) (ys : List Int), v = .ref py ∧ H4 py = some (.lst (ys.map V.int)) ∧ ys.length ≤ 6 ∧ ys.Nodup ∧ ∀ y ∈ ys, 0 ≤ y ∧ y < st := by
      simp only [List.mem_cons, List.not_mem_nil, or_false] at hv
      rcases hv with z | z | z
      · exact ⟨L1, ys1, z, f4 _ _ (t24 _ _ hL1) (offp n1), by omega, y1, y2⟩
      · refine ⟨q2, (List.range st.toNat).map fun i : Nat => ((i : Nat) : Int), z, ?_, ?_, range_nd _, fun y hy => ?_⟩
        · rw [← range_ints]
          exact f4 _ _ (t4 _ _ (t3 _ _ upd_same)) (offp n2)
        · rw [List.length_map, List.length_range]
          omega
        · obtain ⟨i, hi, rfl⟩ := List.mem_map.mp hy
          have := List.mem_range.mp hi
          omega
      · refine ⟨q3, [0], z, f4 _ _ (t4 _ _ upd_same) (offp n3), by decide, by decide, fun y hy => ?_⟩
        rw [List.mem_singleton.mp hy]
        omega
    have f24 : Fr [p] H2 H4 := (f3.trans (Fr.of t24)).trans f4
    have hLr4 := f24 _ _ hLr (offp nLp.1)
    have hrs4 := hrs.mono (hP2.kp f24).et
    have hT4 : LamX.Tabs (Tb Pt) H4 := tabs_fr hT2 f24 fun y hy => .inl (by rw [List.mem_singleton.mp hy]; exact hP2.lst)
    refine fun x dx nx ndx ndxx => ?_
    have sz : Same H4 (upd (upd H4 dx (.own x)) x (.ins CE dx [])) := same_tr (Same.new ndx) (Same.new (by rw [upd_ne ndxx.symm]; exact nx))
    have f04 : Fr [p] H H4 := f02.trans f24
    have xp : x ≠ p := (hP4.ne nx).1
    have nx0 : H x = none := f04.free nx (offp xp)
    refine ⟨x, dx, Lr, py, l, st, n, xs, rs, ys, rfl, upd_same, sz _ _ hLr4, hrs4.sm sz, ⟨rok, rnd, by omega, by omega⟩, ⟨hl1, hl2⟩, ⟨hs1, by omega⟩, by omega, sz _ _ hpy, by omega, yn, yr, hT4.ext sz, fun H5 E hE j1 j2 j3 j4 j5 fr T5 => ⟨rfl, ?_⟩⟩
    have oE : K40.Ok E := by
      refine ⟨by rw [j1]; exact ⟨hl1, hl2⟩, by rw [j2]; exact ⟨hs1, by omega⟩, by rw [j3]; omega, ?_, fun r hr => ?_, by rw [j4.length_eq]; omega, fun y hy => ?_, j5.nodup_iff.mpr yn⟩
      · exact (j4.map (·.1)).nodup_iff.mpr rnd
      · rw [j1, j2, j3]
        exact rok r (j4.mem_iff.mp hr)
      · rw [j2]
        exact yr y (j5.mem_iff.mp hy)
    have xz : ∀ {b : Addr} {o : HO}, H4 b = some o → b ≠ x := fun h e => by
      rw [e, nx] at h
      cases h
    refine k x E H5 nx0 hE oE j1 j2 j3 (by rw [j4.length_eq]; exact rlen) (by rw [j5.length_eq]; exact yl) ((hP4.ls fun b ys hb => fr b _ (sz _ _ hb) (xz hb) fun ps z => by cases z).le (by omega)) ((Fx.of f04).trans fun b o hb hbp nt => fr b o (sz _ _ hb) (xz hb) nt) T5
end
end KR
end
section
set_option Elab.async false
set_option linter.all false
set_option maxRecDepth 100000
set_option maxHeartbeats 4000000
namespace KR
open PySem PySem.Spec PyProof.Rows L2 C8
section
variable {P : Program} {w : World} {K : PySem.W.Frag} {mg : Str → Option Value} {base : Heap} {CE CR CF CB c Pt : Addr} {X : Cx}
theorem c_saidX (T : Tx K mg CE CR CF CB) : Cal P w K mg base 8 "said" (fun vs H Q X => ∃ D : Kind P w K mg base CR, spSaid D vs H Q X) [] := by
  have G3 : Cal P w K mg base 3 "need_number" spNeedNumber [] := c_need_number T
  refine cal_of (N := ["row", "word", "tick", "letters"]) (ps := ["row", "word", "tick"]) T.said (by decide +kernel) (fun vs H Q E h => ?_) (fun _ _ _ _ _ _ us hl => match us, hl with | [_, _, _], _ => rfl) (fun cdv f A outer s H vs Q E hr h => ?_)
  · obtain ⟨D, x, p, ns, tick, rfl, _⟩ := h
    rfl
  · obtain ⟨D, x, p, ns, tick, rfl, hA, hp, h1, h2, h3, h4, k⟩ := h
    have G1 : Cal P w K mg base 7 "said_in" (spSaidIn D) [] := c_said_in T D
    have G2 : Cal P w K mg base 6 "need_both" (spNeedBoth D) [] := c_need_both T D
    have nd : (["row", "word", "tick", "letters"] : List Str).Nodup := by decide +kernel
    refine ⟨_, pss_cons (ps_set (i := 3) nd rfl (Or.inl rfl) (pe_c G2 hr (by decide) rfl (pa_cons (pv 0) (pa_cons (pv 1) pa_nil))))
      (pss_cons (ps_expr (pe_c G3 hr (by decide) rfl (pa_cons (pv 2) (pa_cons pe_str (pa_cons pe_int (pa_cons (pe_con T (.int 1000)) pa_nil))))))
      (pss_one (ps_ret (pe_c G1 hr (by decide) rfl (pa_cons (pv 0) (pa_cons (pv 3) (pa_cons (pv 2) pa_nil))))))), ?_⟩
    refine ⟨_, rfl, _, rfl, x, p, ns, rfl, hA, hp, h1, h2, h3, fun t H1 s1 ht => ?_⟩
    refine ⟨_, rfl, (tick : Int), 0, 1000, _, rfl, by omega, by omega, ?_⟩
    exact ⟨_, rfl, _, rfl, _, rfl, x, t, ns, tick, rfl, D.sm hA s1, ht, h1, h2, h4, fun b H2 s2 hb => k b H2 (same_tr s1 s2) hb⟩
theorem c_toldX (T : Tx K mg CE CR CF CB) : Cal P w K mg base 9 "told" (fun vs H Q X => ∃ D : Kind P w K mg base CR, spTold D vs H Q X) [] := by
  refine cal_of (N := ["row", "word"]) (ps := ["row", "word"]) T.told (by decide +kernel) (fun vs H Q E h => ?_) (fun _ _ _ _ _ _ us hl => match us, hl with | [_, _], _ => rfl) (fun cdv f A outer s H vs Q E hr h => ?_)
  · obtain ⟨D, x, p, ns, rfl, _⟩ := h
    rfl
  · obtain ⟨D, x, p, ns, rfl, hA, hp, h1, h2, h3, k⟩ := h
    have G1 := c_told_in T D
    have G2 : Cal P w K mg base 6 "need_both" (spNeedBoth D) [] := c_need_both T D
    refine ⟨_, pss_one (ps_ret (pe_c G1 hr (by decide) rfl (pa_cons (pv 0) (pa_cons (pe_c G2 hr (by decide) rfl (pa_cons (pv 0) (pa_cons (pv 1) pa_nil))) pa_nil)))), ?_⟩
    exact ⟨_, rfl, _, rfl, _, rfl, x, p, ns, rfl, hA, hp, h1, h2, h3, fun t H1 s1 ht => ⟨x, t, ns, rfl, D.sm hA s1, ht, h1, h2, fun b H2 s2 hb => k b H2 (same_tr s1 s2) hb⟩⟩

theorem same_mk {H H' : Hp} {x dx C : Addr} (nx : H x = none) (ndx : H dx = none) (nn : dx ≠ x) (fr : Fr [x] (L2.upd (L2.upd H dx (.own x)) x (.ins C dx [])) H') : Same H H' := fun b o h => fr b o (same_tr (Same.new ndx) (Same.new (by rw [upd_ne nn.symm]; exact nx)) b o h) (fun z => by
  rw [List.mem_singleton.mp z, nx] at h
  cases h)
theorem same_in {H : Hp} {x dx C : Addr} (nx : H x = none) (ndx : H dx = none) (nn : dx ≠ x) : Same H (L2.upd (L2.upd H dx (.own x)) x (.ins C dx [])) := same_tr (Same.new ndx) (Same.new (by rw [upd_ne nn.symm]; exact nx))
theorem eq_bools : ∀ e f : Bool, (!PyData.eqv (.list [.bool (e && f), .bool (e && f)]) (.list [.bool (e && f), .bool (e && f)])) = false := by decide +kernel
theorem in_bools : ∀ e f : Bool, (!inV (.bl false) [.bl e, .bl f]) = (e && f) := by
  intro e f
  cases e <;> cases f <;> rfl
theorem shaped_bools : ∀ e f : Bool, SeqAt.shaped (.list [.bool e, .bool f]) = true := by decide +kernel
theorem dp_bools {K : PySem.W.Frag} {H : Hp} {a : Addr} {e f : Bool} (h : H a = some (.lst [.bl e, .bl f])) : Dp K H (.ref a) (.list [.bool e, .bool f]) := .lst (SqL.of h) (.cons (.bl e) (.cons (.bl f) .nil))
def lawN : List Str := ["_law_script", "_law_plough_here", "_law_letters", "_law_first", "_law_second", "_law_one", "_law_other", "_law_mine", "_law_its", "_law_row", "_law_joined", "_law_turn", "_law_word_here", "_law_tick", "_law_says", "_law_due", "_law_each"]
def spLaw (K : PySem.W.Frag) (Pt : Addr) : Sp := fun vs H Q _ => ∃ (a : Addr) (ns : List Int), vs = [.ref a] ∧ SqL K H a (ns.map V.int) ∧ ns.length ≤ 1000 ∧ LamX.Tabs (Tb Pt) H ∧ ∀ H', Q (.bl true) H'
theorem b_law (T : Tx K mg CE CR CF CB) (R : RfTab K mg base c Pt) : Body P w K mg base lawN "law" sLaw 10 (spLaw K Pt) := by
  have GP : Cal P w K mg base 1 "_law_plough" (spPlough K) [] := c_plough T
  have GY : Cal P w K mg base 1 "_law_yoke" spYoke [] := c_yoke T
  have GA : Cal P w K mg base 2 "_law_any" spAny [] := c_any T
  have GW : Cal P w K mg base 3 "_law_word" spWord [] := c_word T
  have GE : Cal P w K mg base 10 "_law_eater" (spLawEater P w CE Pt) [] := c_law_eater T R
  have GF : Mak P w K mg base 2 "Fed" CF (spFedInit P w CE CF) [] := c_fed_init T
  have GB : Mak P w K mg base 2 "Both" CB (spBothInit P w CE CF CB) [] := c_both_init T
  have GJ : Cal P w K mg base 10 "side_by_side" (spSbs P w CE Pt) [] := c_side_by_side T R
  have GS : Cal P w K mg base 8 "said" (fun vs H Q X => ∃ D : Kind P w K mg base CR, spSaid D vs H Q X) [] := c_saidX T
  have GT : Cal P w K mg base 9 "told" (fun vs H Q X => ∃ D : Kind P w K mg base CR, spTold D vs H Q X) [] := c_toldX T
  have GK : Cal P w K mg base 7 "takes" (spTakes P w CE fun E ns v _ => v = .bl (K40.takes E ns)) [] := c_takes T
  intro cdv f A outer s H vs Q E hr h
  obtain ⟨a, ns, rfl, ha, hns, hT, k⟩ := h
  have nd : lawN.Nodup := by decide +kernel
  have hu := hr.units
  refine ⟨_, pss_cons (ps_set (i := 1) nd rfl (Or.inl rfl) (pe_c GP hr (by decide) rfl (pa_cons (pv 0) pa_nil)))
    (pss_cons (ps_set (i := 2) nd rfl (Or.inl rfl) (pe_op op_add pe_int (pe_c GY hr (by decide) rfl (pa_cons (pv 1) (pa_cons pe_int pa_nil)))))
    (pss_cons (ps_asg (pe_c GA hr (by decide) rfl (pa_cons (pv 1) (pa_cons (pe_lst (pa_cons (pe_tup (pa_cons pe_int (pa_cons pe_int pa_nil))) (pa_cons (pe_tup (pa_cons pe_int (pa_cons pe_int pa_nil))) (pa_cons (pe_tup (pa_cons pe_int (pa_cons pe_int pa_nil))) (pa_cons (pe_tup (pa_cons pe_int (pa_cons pe_int pa_nil))) (pa_cons (pe_tup (pa_cons pe_int (pa_cons pe_int pa_nil))) pa_nil)))))) pa_nil))) (pg_tup (n := 2) rfl (pgs_cons (pg_name (i := 3) nd rfl (Or.inl rfl)) (pgs_cons (pg_name (i := 4) nd rfl (Or.inl rfl)) pgs_nil))))
    (pss_cons (ps_par (i := 5) (j := 6) rfl nd rfl rfl (by decide) rfl rfl
      (pa_cons (pe_c GE hr (by decide) rfl (pa_cons (pv 1) (pa_cons (pv 2) (pa_cons (pe_op op_add pe_int (pe_c GY hr (by decide) rfl (pa_cons (pv 1) (pa_cons pe_int pa_nil)))) (pa_cons (pv 3) pa_nil)))))
      (pa_cons (pe_c GE hr (by decide) rfl (pa_cons (pv 1) (pa_cons (pv 2) (pa_cons (pe_op op_add pe_int (pe_c GY hr (by decide) rfl (pa_cons (pv 1) (pa_cons pe_int pa_nil)))) (pa_cons (pv 4) pa_nil))))) pa_nil)) rfl)
    (pss_cons (ps_par3 (i := 7) (j := 8) (l := 9) rfl nd rfl rfl rfl (by decide) (by decide) (by decide) rfl rfl rfl
      (pa_cons (pe_mk GF hr (by decide) rfl (pa_cons (pv 5) pa_nil)) (pa_cons (pe_mk GF hr (by decide) rfl (pa_cons (pv 6) pa_nil)) (pa_cons (pe_mk GF hr (by decide) rfl (pa_cons (pe_c GJ hr (by decide) rfl (pa_cons (pv 5) (pa_cons (pv 6) pa_nil))) pa_nil)) pa_nil))) rfl)
    (pss_cons (ps_set (i := 10) nd rfl (Or.inl rfl) (pe_mk GB hr (by decide) rfl (pa_cons (pv 7) (pa_cons (pv 8) pa_nil))))
    (pss_cons (ps_for PassesOwn.never rfl (pi_range1 rfl (T.free "range" (by decide +kernel)) (pa_cons pe_int pa_nil)) (pg_name (i := 11) nd rfl (Or.inl rfl))
      (pss_cons (ps_set (i := 12) nd rfl (Or.inr rfl) (pe_c GW hr (by decide) rfl (pa_cons (pv 1) (pa_cons (pv 2) (pa_cons pe_int pa_nil)))))
      (pss_cons (ps_set (i := 13) nd rfl (Or.inr rfl) (pe_c GY hr (by decide) rfl (pa_cons (pv 1) (pa_cons (pe_len T (pv 12)) pa_nil))))
      (pss_cons (ps_setLc (i := 14) (own := [("_law_each", 16)]) (g := gName 16) (tt := tYes) rfl nd rfl rfl (sw_true rfl rfl rfl (by decide +kernel)) (pi_tup (pe_tup (pa_cons (pv 7) (pa_cons (pv 8) pa_nil)))) (blkOk_by (N := lawN) (sc := fnScope sLaw) (by decide +kernel)) (fun _ _ _ _ _ => pg_name (i := 16) nd rfl (Or.inl rfl)) (fun _ _ _ _ _ => pts_nil)
        (fun _ _ _ _ _ => pe_c GS hr (by decide) rfl (pa_cons (pv 16) (pa_cons (pv 12) (pa_cons (pv 13) pa_nil)))))
      (pss_cons (ps_if (pt_cmpR (r := rNeD K) (op_neD hu) (pe_lst (pa_cons (pe_c GS hr (by decide) rfl (pa_cons (pv 9) (pa_cons (pv 12) (pa_cons (pv 13) pa_nil)))) (pa_cons (pe_c GS hr (by decide) rfl (pa_cons (pv 10) (pa_cons (pv 12) (pa_cons (pv 13) pa_nil)))) pa_nil)))
          (pe_op op_rep (pe_lst (pa_cons (pe_cmpR op_notIn_seq pe_bl (pv 14) rfl) pa_nil)) pe_int) (nomark _)) (pss_one (ps_ret pe_bl)) pss_nil)
      (pss_cons (ps_set (i := 15) nd rfl (Or.inl rfl) (pe_and (pe_c GK hr (by decide) rfl (pa_cons (pv 5) (pa_cons (pv 12) pa_nil))) (pe_one (pe_c GK hr (by decide) rfl (pa_cons (pv 6) (pa_cons (pv 12) pa_nil))))))
      (pss_one (ps_if (PW.pt (pw_or (pt_cmpR (r := rNeD K) (op_neD hu) (pe_lst (pa_cons (pe_c GT hr (by decide) rfl (pa_cons (pv 9) (pa_cons (pv 12) pa_nil))) (pa_cons (pe_c GT hr (by decide) rfl (pa_cons (pv 10) (pa_cons (pv 12) pa_nil))) pa_nil))) (pe_lst (pa_cons (pv 15) (pa_cons (pv 15) pa_nil))) (nomark _))
          (pw_or1 (pt_cmpR op_ne (pe_c GT hr (by decide) rfl (pa_cons (pv 7) (pa_cons (pv 12) pa_nil))) (pe_c GK hr (by decide) rfl (pa_cons (pv 5) (pa_cons (pv 12) pa_nil))) (nomark _))))) (pss_one (ps_ret pe_bl)) pss_nil))))))))
    (pss_one (ps_ret pe_bl)))))))), ?_⟩
  have offp : ∀ {p b : Addr}, b ≠ p → b ∉ [p] := fun n z => n (List.mem_singleton.mp z)
  refine ⟨_, rfl, a, ns, rfl, ha, hns, fun p ca H1 s1 np hP1 => ?_⟩
  have hT1 : LamX.Tabs (Tb Pt) H1 := hT.ext s1
  refine ⟨_, rfl, p, ca, 2, 0, rfl, hP1, by omega, by omega, by omega, fun n2 H2 e1 e2 hP2 f2 => ⟨_, _, rfl, rfl, ?_⟩⟩
  have hT2 : LamX.Tabs (Tb Pt) H2 := tabs_fr hT1 f2 fun y hy => .inl (by rw [List.mem_singleton.mp hy]; exact hP1.lst)
  have z2 : (2 : Nat) ≤ sizeLine := by decide
  refine ⟨_, rfl, z2, fun t1 ht1 => ⟨z2, fun t2 ht2 => ⟨z2, fun t3 ht3 => ⟨z2, fun t4 ht4 => ⟨z2, fun t5 ht5 => ⟨by show 5 ≤ sizeLine; decide, fun tl htl => ?_⟩⟩⟩⟩⟩⟩
  have r1 := Same.new (o := .tup [V.int 1, V.int 1]) ht1
  have r2 := Same.new (o := .tup [V.int 1, V.int 0]) ht2
  have r3 := Same.new (o := .tup [V.int 0, V.int 1]) ht3
  have r4 := Same.new (o := .tup [V.int 0, V.int 0]) ht4
  have r5 := Same.new (o := .tup [V.int 1, V.int 1]) ht5
  have r6 := Same.new (o := .lst [V.ref t1, V.ref t2, V.ref t3, V.ref t4, V.ref t5]) htl
  have r25 := same_tr r2 (same_tr r3 (same_tr r4 (same_tr r5 r6)))
  have r35 := same_tr r3 (same_tr r4 (same_tr r5 r6))
  have r45 := same_tr r4 (same_tr r5 r6)
  have r55 := same_tr r5 r6
  have r15 := same_tr r1 r25
  have nl := ((hP2.sm (same_tr r1 (same_tr r2 (same_tr r3 (same_tr r4 r5))))).ne htl).1
  refine ⟨p, ca, tl, _, _, rfl, hP2.sm r15, by omega, upd_same, nl, by show 1 ≤ 5; decide, by show 5 ≤ 1000; decide, fun v H3 hv hP3 f3 => ?_⟩
  have f23 : Fr [p] H2 H3 := (Fr.of r15).trans f3
  have hT3 : LamX.Tabs (Tb Pt) H3 := tabs_fr hT2 f23 fun y hy => .inl (by rw [List.mem_singleton.mp hy]; exact hP2.lst)
  obtain ⟨tq, m1, m2, rfl, htq, hm1, hm2⟩ : ∃ (q : Addr) (m1 m2 : Nat), v = .ref q ∧ H3 q = some (.tup [.int (m1 : Int), .int (m2 : Int)]) ∧ m1 ≤ 1 ∧ m2 ≤ 1 := by
    simp only [List.mem_cons, List.not_mem_nil, or_false] at hv
    rcases hv with z | z | z | z | z
    · exact ⟨t1, 1, 1, z, f3 _ _ (r25 _ _ upd_same) (offp (hP2.ne ht1).1), by decide, by decide⟩
    · exact ⟨t2, 1, 0, z, f3 _ _ (r35 _ _ upd_same) (offp ((hP2.sm r1).ne ht2).1), by decide, by decide⟩
    · exact ⟨t3, 0, 1, z, f3 _ _ (r45 _ _ upd_same) (offp ((hP2.sm (same_tr r1 r2)).ne ht3).1), by decide, by decide⟩
    · exact ⟨t4, 0, 0, z, f3 _ _ (r55 _ _ upd_same) (offp ((hP2.sm (same_tr r1 (same_tr r2 r3))).ne ht4).1), by decide, by decide⟩
    · exact ⟨t5, 1, 1, z, f3 _ _ (r6 _ _ upd_same) (offp ((hP2.sm (same_tr r1 (same_tr r2 (same_tr r3 r4)))).ne ht5).1), by decide, by decide⟩
  refine ⟨tq, _, rfl, SqT.of htq, rfl, _, _, rfl, _, _, rfl, rfl, ?_⟩
  -- one, other
  have hl1 : 1 ≤ 1 + n2 := by omega
  have hl2 : 1 + n2 ≤ 2 := by omega
  obtain ⟨l, hl⟩ : ∃ l, l = 1 + n2 := ⟨_, rfl⟩
  have lm : ∀ s : Int, 1 ≤ s → s ≤ 3 → s * (1 + n2) ≤ 6 := fun s h1 h2 => Int.le_trans (Int.mul_le_mul h2 hl2 (by omega) (by omega)) (by decide)
  refine ⟨_, rfl, _, rfl, _, rfl, p, ca, 3, _, rfl, hP3, by omega, by omega, by omega, fun n3 H4 e3 e4 hP4 f4 => ⟨_, _, rfl, rfl, _, rfl, p, ca, 1 + n2, 1 + n3, m1, _, rfl, hP4, by omega, hl1, by omega, by omega, by omega, lm _ (by omega) (by omega), hm1, tabs_fr hT3 f4 (fun y hy => .inl (by rw [List.mem_singleton.mp hy]; exact hP3.lst)), fun x E H5 nx hE oE E1 E2 E3 E4 E5 hP5 f5 hT5 => ?_⟩⟩
  refine ⟨_, rfl, _, rfl, _, rfl, p, ca, 3, _, rfl, hP5, by omega, by omega, by omega, fun n4 H6 e5 e6 hP6 f6 => ⟨_, _, rfl, rfl, _, rfl, p, ca, 1 + n2, 1 + n4, m2, _, rfl, hP6, by omega, hl1, by omega, by omega, by omega, lm _ (by omega) (by omega), hm2, tabs_fr hT5 f6 (fun y hy => .inl (by rw [List.mem_singleton.mp hy]; exact hP5.lst)), fun y F H7 ny hF oF F1 F2 F3 F4 F5 hP7 f7 hT7 => ⟨_, _, rfl, ?_⟩⟩⟩
  have hE7 : EatAt P w CE H7 x E := (hE.kp (Kp.nl (hP5.kp f6))).kp (f7.kp hP6)
  have fit : Fit E F := ⟨oE, oF, by rw [E1, F1], by
      rw [E2, F2]
      exact Int.le_trans (Int.mul_le_mul (show 1 + n3 ≤ 3 by omega) (show 1 + n4 ≤ 3 by omega) (by omega) (by omega)) (by decide), by rw [E3, F3]; omega, E4, F4, E5, F5⟩
  -- the rows
  refine ⟨_, rfl, fun m d nm ndm nnm => ?_⟩
  refine ⟨m, d, x, E, rfl, upd_same, hE7.kp (Kp.of (same_in nm ndm nnm)), fun H8 hM8 fr8 => ⟨rfl, ?_⟩⟩
  have s8 := same_mk nm ndm nnm fr8
  have hP8 := hP7.sm s8
  refine ⟨_, rfl, fun m' d' nm' ndm' nnm' => ?_⟩
  refine ⟨m', d', y, F, rfl, upd_same, (hF.kp (Kp.of s8)).kp (Kp.of (same_in nm' ndm' nnm')), fun H9 hI9 fr9 => ⟨rfl, ?_⟩⟩
  have s9 := same_mk nm' ndm' nnm' fr9
  have s79 := same_tr s8 s9
  refine ⟨_, rfl, _, rfl, x, y, E, F, rfl, hE7.kp (Kp.of s79), hF.kp (Kp.of s79), fit, hT7.ext s79, fun z J HA hJ jn xA TA => ?_⟩
  have k7A : Kp H7 HA := (Kp.of s79).trans (Kp.ext xA)
  have lsA : Ls H9 HA := fun b ys hb => xA b _ hb fun ps z => by cases z
  have hPA := (hP8.sm s9).ls lsA
  refine fun r dr nr ndr nnr => ?_
  refine ⟨r, dr, z, J, rfl, upd_same, hJ.kp (Kp.of (same_in nr ndr nnr)), fun HB hRB frB => ⟨rfl, _, _, _, rfl, ?_⟩⟩
  have sB := same_mk nr ndr nnr frB
  have hPB := hPA.sm sB
  have hMB : FedAt P w CE CF HB m E := ((hM8.sm s9).kp (Kp.ext xA)).sm sB
  have hIB : FedAt P w CE CF HB m' F := (hI9.kp (Kp.ext xA)).sm sB
  -- joined
  refine ⟨_, rfl, _, rfl, fun j dj nj ndj nnj => ?_⟩
  refine ⟨j, dj, m, m', E, F, rfl, upd_same, hMB.sm (same_in nj ndj nnj), hIB.sm (same_in nj ndj nnj), fit.l, fun HC hBC frC => ⟨rfl, ?_⟩⟩
  have sC := same_mk nj ndj nnj frC
  have kC : Kp H7 HC := (k7A.trans (Kp.of sB)).trans (Kp.of sC)
  have hPC := hPB.sm sC
  have hEC := hE7.kp kC
  have hFC := hF.kp kC
  have hMC := hMB.sm sC
  have hIC := hIB.sm sC
  have hRC := hRB.sm sC
  have oJ : K40.Ok J := K40.joined_ok oE oF fit.l fit.s fit.k (Nat.le_trans fit.rE (by decide)) (Nat.le_trans fit.rF (by decide)) jn
  have jt : ∀ u, K40.takes J u = (K40.takes E u && K40.takes F u) := K40.join_takes oE oF jn
  obtain ⟨T0, hT0, hPL⟩ : ∃ T0, T0 ≤ 1000 ∧ PlAt HC p ca T0 := ⟨_, by omega, hPC⟩
  -- the loop
  have l3 : ((3 : Int)).toNat = 3 := rfl
  refine ⟨3, rfl, by decide, by decide, ?_⟩
  rw [l3]
  refine for_it (walk_range (lo := 0) (n := 3)) (fun i σ H' => ∃ (o11 o12 o13 o14 o15 : Option V), σ = [some (.ref a), some (.ref p), some (.int (1 + n2)), some (.int (m1 : Int)), some (.int (m2 : Int)), some (.ref x), some (.ref y), some (.ref m), some (.ref m'), some (.ref r), some (.ref j), o11, o12, o13, o14, o15, none] ∧ PlAt H' p ca (T0 + 50 * i) ∧ Fr [p] HC H')
    ⟨none, none, none, none, none, rfl, hPL, Fr.refl _ _⟩ (fun _ _ _ _ _ => True.intro) (fun i xi σ HD HD' hi hv yi => ?_) (fun σ HD hv => ?_)
  · obtain ⟨o11, o12, o13, o14, o15, rfl, hPD, frD⟩ := hv
    obtain ⟨rfl, rfl⟩ := yi
    have i3 : i < 3 := hi
    refine ⟨_, rfl, _, rfl, p, ca, 1 + n2, 12, _, rfl, hPD, by omega, hl1, by omega, by decide, by decide, fun L ws HE nL hL w1 w2 w3 hPE fE => ?_⟩
    have Lp : L ≠ p := (hPD.ne nL).1
    refine ⟨_, rfl, _, rfl, L, _, rfl, .inl (SqL.of hL), p, ca, _, _, rfl, hPE, by omega, by rw [List.length_map]; omega, by rw [List.length_map]; omega, fun tk HF q1 q2 hPF fF => ?_⟩
    rw [List.length_map] at q2
    obtain ⟨tick, rfl⟩ : ∃ t : Nat, tk = (t : Int) := ⟨tk.toNat, by omega⟩
    have ht : tick < ws.length := by omega
    have hLF : HF L = some (.lst (ws.map V.int)) := fF _ _ hL (offp Lp)
    have frF : Fr [p] HC HF := (frD.trans fE).trans fF
    have kF : Kp HC HF := Kp.nl (hPL.kp frF)
    have hEF := hEC.kp kF
    have hFF := hFC.kp kF
    have hMF := hMC.kp kF
    have hIF := hIC.kp kF
    have hRF := hRC.kp kF
    have hBF := hBC.kp kF
    have w200 : ws.length ≤ 200 := by omega
    have wE : ∀ n ∈ ws, 0 ≤ n ∧ n < E.letters := by rw [E1]; exact w3
    have wF : ∀ n ∈ ws, 0 ≤ n ∧ n < F.letters := by rw [F1]; exact w3
    have wJ : ∀ n ∈ ws, 0 ≤ n ∧ n < J.letters := by rw [jn.l, E1]; exact w3
    have kE2 : E.stacks ≤ 2 := oE.k
    have kF2 : F.stacks ≤ 2 := oF.k
    have kJ2 : J.stacks ≤ 2 := oJ.k
    have dE : ∀ {t : Nat} {b : Bool}, t < ws.length → K40.saidL (K40.rowFed E) ws t = some b → b = K40.takes E (ws.take (t + 1)) := fun h e => by rw [K40.fed_said oE h] at e; exact (Option.some.inj e).symm
    have dF' : ∀ {t : Nat} {b : Bool}, t < ws.length → K40.saidL (K40.rowFed F) ws t = some b → b = K40.takes F (ws.take (t + 1)) := fun h e => by rw [K40.fed_said oF h] at e; exact (Option.some.inj e).symm
    have dJ : ∀ {t : Nat} {b : Bool}, t < ws.length → K40.saidL (K40.rowFed J) ws t = some b → b = (K40.takes E (ws.take (t + 1)) && K40.takes F (ws.take (t + 1))) := fun h e => by rw [K40.fed_said oJ h, jt] at e; exact (Option.some.inj e).symm
    have dB : ∀ {t : Nat} {b : Bool}, t < ws.length → K40.saidL (K40.rowBoth (K40.rowFed E) (K40.rowFed F)) ws t = some b → b = (K40.takes E (ws.take (t + 1)) && K40.takes F (ws.take (t + 1))) := fun h e => by rw [K40.said_both _ _ _ h (K40.fed_said oE h) (K40.fed_said oF h)] at e; exact (Option.some.inj e).symm
    have tw : ws.take (ws.length - 1 + 1) = ws := List.take_of_length_le (by omega)
    -- says
    refine ⟨_, rfl, _, rfl, z2, fun c2 hc2 => ⟨c2, rfl, ⟨_, SqT.of upd_same⟩, fun D hD => ?_⟩⟩
    have sc := Same.new (o := .tup [V.ref m, V.ref m']) hc2
    refine lc_pure (walk_tup (xs := [V.ref m, V.ref m'])) hD z2 (fun H4 s4 => SqT.of (s4 _ _ upd_same)) (fun i H x H' y => yat_same y) (fun u b H => [V.bl (K40.takes E (ws.take (tick + 1))), V.bl (K40.takes F (ws.take (tick + 1)))][u]? = some b) (fun i y H H' e z => z)
      (fun u xu H4 H5 hu2 s4 yu Qy hq => ?_) (fun H4 zs s4 hLs hlz hrz => ?_)
    · obtain ⟨rfl, hx⟩ := yu
      have s45 := same_tr sc s4
      match u, hu2, hx with
      | 0, _, hx =>
        cases hx
        exact ⟨rfl, _, rfl, _, rfl, _, rfl, fedKind T E oE kE2, m, L, ws, tick, rfl, hMF.sm s45, s45 _ _ hLF, w1, w200, wE, ht, fun b H6 s6 hb => hq _ H6 s6 (by rw [dE ht hb]; rfl)⟩
      | 1, _, hx =>
        cases hx
        exact ⟨rfl, _, rfl, _, rfl, _, rfl, fedKind T F oF kF2, m', L, ws, tick, rfl, hIF.sm s45, s45 _ _ hLF, w1, w200, wF, ht, fun b H6 s6 hb => hq _ H6 s6 (by rw [dF' ht hb]; rfl)⟩
      | u + 2, hu2, _ => exact absurd hu2 (by show ¬ u + 2 < 2; omega)
    have s44 := same_tr sc s4
    have ez : zs = [V.bl (K40.takes E (ws.take (tick + 1))), V.bl (K40.takes F (ws.take (tick + 1)))] := by
      apply List.ext_getElem?
      intro u
      rcases Nat.lt_or_ge u zs.length with g | g
      · rw [hrz u _ (List.getElem?_eq_getElem g)]
        exact List.getElem?_eq_getElem g
      · rw [List.getElem?_eq_none g, List.getElem?_eq_none (by rw [hlz] at g; exact g)]
    subst ez
    obtain ⟨e, he⟩ : ∃ e, e = K40.takes E (ws.take (tick + 1)) := ⟨_, rfl⟩
    obtain ⟨g, hg⟩ : ∃ g, g = K40.takes F (ws.take (tick + 1)) := ⟨_, rfl⟩
    rw [← he, ← hg] at hLs
    -- row and joined say the same
    refine ⟨_, rfl, _, rfl, _, rfl, fedKind T J oJ kJ2, r, L, ws, tick, rfl, hRF.sm s44, s44 _ _ hLF, w1, w200, wJ, ht, fun b1 H5 s5 hb1 => ?_⟩
    have s45 := same_tr s44 s5
    refine ⟨_, rfl, _, rfl, _, rfl, bothKind T E F oE oF kE2 kF2, j, L, ws, tick, rfl, hBF.kp (Kp.of s45), s45 _ _ hLF, w1, w200, wE, ht, fun b2 H6 s6 hb2 => ?_⟩
    obtain rfl : b1 = (e && g) := by rw [dJ ht hb1, he, hg]
    obtain rfl : b2 = (e && g) := by rw [dB ht hb2, he, hg]
    have s46 := same_tr s45 s6
    refine ⟨z2, fun q1' hq1' => ?_⟩
    have u1 := Same.new (o := .lst [V.bl (e && g), V.bl (e && g)]) hq1'
    have hD6 : H6 D = some (.lst [V.bl e, V.bl g]) := s6 _ _ (s5 _ _ hLs)
    refine ⟨_, rfl, D, _, rfl, .inl (SqL.of (u1 _ _ hD6)), rfl, rfl, by show 1 ≤ sizeLine; decide, fun q2' hq2' => ?_⟩
    have u2 := Same.new (o := .lst [V.bl (if true = true then !inV (.bl false) [.bl e, .bl g] else inV (.bl false) [.bl e, .bl g])]) hq2'
    refine ⟨q2', 2, _, rfl, rfl, upd_same, by decide, by decide, by show 1 * 2 ≤ sizeLine; decide, fun q3' hq3' => ?_⟩
    have u3 := Same.new (o := .lst (List.replicate (2 : Int).toNat [V.bl (if true = true then !inV (.bl false) [.bl e, .bl g] else inV (.bl false) [.bl e, .bl g])]).flatten) hq3'
    have s47 := same_tr s46 (same_tr u1 (same_tr u2 u3))
    refine ⟨.list [.bool (e && g), .bool (e && g)], .list [.bool (e && g), .bool (e && g)], dp_bools (u3 _ _ (u2 _ _ upd_same)), dp_bools (by rw [upd_same, ← in_bools e g]; rfl), shaped_bools _ _, shaped_bools _ _, _, rfl, if_ (eq_bools e g) ?_⟩
    -- due
    refine st_next ?_
    dsimp only
    refine st_seq (st_setH (PV := fun v H1 => Same HF H1 ∧ v = .bl (K40.takes E ws && K40.takes F ws)) (fun Q' hq => ?_) fun v H7' ⟨s7, ev⟩ => ?_)
    · refine ⟨_, rfl, _, rfl, x, L, E, ws, rfl, hEF.kp (Kp.of s47), oE, s47 _ _ hLF, w1, w200, wE, fun v H8' s8' hv => ⟨K40.takes E ws, hv, ?_⟩⟩
      have s48 := same_tr s47 s8'
      cases hte : K40.takes E ws with
      | false => exact iteF (hq _ _ ⟨s48, by rw [hte]; rfl⟩)
      | true => exact iteT ⟨_, rfl, _, rfl, y, L, F, ws, rfl, hFF.kp (Kp.of s48), oF, s48 _ _ hLF, w1, w200, wF, fun v H9' s9' hv => hq _ _ ⟨same_tr s48 s9', by rw [hv, hte]; rfl⟩⟩
    subst ev
    obtain ⟨e', he'⟩ : ∃ e, e = K40.takes E ws := ⟨_, rfl⟩
    obtain ⟨g', hg'⟩ : ∃ g, g = K40.takes F ws := ⟨_, rfl⟩
    rw [← he', ← hg']
    have lt1 : ws.length - 1 < ws.length := by omega
    refine ⟨_, rfl, _, rfl, fedKind T J oJ kJ2, r, L, ws, rfl, hRF.sm s7, s7 _ _ hLF, w1, w200, wJ, fun b1 H8' s8' hb1 => ?_⟩
    have s78 := same_tr s7 s8'
    refine ⟨_, rfl, _, rfl, bothKind T E F oE oF kE2 kF2, j, L, ws, rfl, hBF.kp (Kp.of s78), s78 _ _ hLF, w1, w200, wE, fun b2 H9' s9' hb2 => ?_⟩
    obtain rfl : b1 = (e' && g') := by rw [dJ lt1 hb1, tw, he', hg']
    obtain rfl : b2 = (e' && g') := by rw [dB lt1 hb2, tw, he', hg']
    have s79' := same_tr s78 s9'
    refine ⟨z2, fun q5 hq5 => ⟨_, rfl, _, rfl, z2, fun q6 hq6 => ?_⟩⟩
    have v1 := Same.new (o := .lst [V.bl (e' && g'), V.bl (e' && g')]) hq5
    have v2 := Same.new (o := .lst [V.bl (e' && g'), V.bl (e' && g')]) hq6
    have s7A := same_tr s79' (same_tr v1 v2)
    refine ⟨.list [.bool (e' && g'), .bool (e' && g')], .list [.bool (e' && g'), .bool (e' && g')], dp_bools (v2 _ _ upd_same), dp_bools upd_same, shaped_bools _ _, shaped_bools _ _, _, rfl, if_ (eq_bools e' g') ?_⟩
    refine ⟨_, rfl, _, rfl, fedKind T E oE kE2, m, L, ws, rfl, hMF.sm s7A, s7A _ _ hLF, w1, w200, wE, fun b3 HG sG hb3 => ?_⟩
    have s7G := same_tr s7A sG
    refine ⟨_, rfl, _, rfl, x, L, E, ws, rfl, hEF.kp (Kp.of s7G), oE, s7G _ _ hLF, w1, w200, wE, fun v HH sH hv => ?_⟩
    have s7H := same_tr s7G sH
    obtain rfl : b3 = K40.takes E ws := by rw [dE lt1 hb3, tw]
    subst hv
    refine ⟨rfl, false, congrArg V.bl (by simp), iteF ?_⟩
    exact ⟨_, _, _, _, _, rfl, (hPF.sm s7H).le (by omega), frF.trans (Fr.of s7H)⟩
  · obtain ⟨o11, o12, o13, o14, o15, rfl, hPD, frD⟩ := hv
    exact k HD
end
end KR
end
section
set_option Elab.async false
set_option linter.all false
set_option maxRecDepth 100000
set_option maxHeartbeats 0
namespace KR
open PySem PySem.Spec PyProof.Rows L2 C8
/-! ### the head: what is asked of the program's top -/
theorem insB_ok {K : PySem.W.Frag} {C : Addr} (c : Cls K C) (h : insB K C = true) : InsC K C := by
  obtain ⟨h1, h⟩ := He.ba h
  obtain ⟨h2, h⟩ := He.ba h
  obtain ⟨h3, h⟩ := He.ba h
  obtain ⟨h4, h5⟩ := He.ba h
  exact ⟨c, He.eqO_ok h1, He.eqO_ok h2, of_decide_eq_true h3, of_decide_eq_true h4, of_decide_eq_true h5⟩
/-- the facts that the walks ask -/
theorem tx_of {w : World} {K : PySem.W.Frag} {h h0 : Heap} {mg : Str → Option Value} (X : K.In h) (G : h.Ns mainGlobals mg) (c : He.SaysX faL fnL [] tfL exL w h0 K) : Tx K mg (He.ga K "Eater") (He.ga K "Row") (He.ga K "Fed") (He.ga K "Both") := by
  have al : ∀ f, f ∈ faL → f.ok K = true := fun f hf => c.t.d.facts hf
  have glo : ∀ x : Str, x ∈ gloA ++ gloB → (He.Fa.glo x).ok K = true := fun x hx => al _ (List.mem_append_left _ (by
    rw [← List.map_append]
    exact List.mem_map_of_mem hx))
  have ka : ∀ f, f ∈ faK → f.ok K = true := fun f hf => al _ (List.mem_append_right _ (List.mem_append_right _ (List.mem_append_right _ hf)))
  obtain ⟨m1, m2⟩ := He.ba c.more
  obtain ⟨i1, m1⟩ := He.ba m1
  obtain ⟨i2, m1⟩ := He.ba m1
  obtain ⟨i3, i4⟩ := He.ba m1
  obtain ⟨k1, k2⟩ := He.ba m2
  exact {
    free := fun x hx => He.free_ok X G (al (.free x) (List.mem_append_right _ (List.mem_append_left _ (List.mem_map_of_mem hx))))
    con := fun p hp => by
      have h := al (cFa p) (List.mem_append_right _ (List.mem_append_right _ (List.mem_append_left _ (List.mem_map_of_mem hp))))
      rcases p with ⟨x, v⟩
      cases v with
      | int i =>
        obtain ⟨t, e⟩ := He.int_ok X G (show (He.Fa.int x i).ok K = true from h)
        exact ⟨_, e, t, rfl⟩
      | str z =>
        obtain ⟨t, e⟩ := He.str_ok X G (show (He.Fa.str x z).ok K = true from h)
        exact ⟨_, e, t, rfl⟩
      | _ => simp [consts] at hp
    eater := ⟨insB_ok (He.cls_ok (ka (.cls "Eater") (by simp [faK]))) i1, He.glo_ok X G (ka (.glo "Eater") (by simp [faK])), He.keep_ok (ka (.keep "Eater") (by simp [faK]))⟩
    row := ⟨insB_ok (He.cls_ok (ka (.cls "Row") (by simp [faK]))) i2, He.glo_ok X G (ka (.glo "Row") (by simp [faK])), He.keep_ok (ka (.keep "Row") (by simp [faK]))⟩
    fed := ⟨insB_ok (He.cls_ok (ka (.cls "Fed") (by simp [faK]))) i3, He.glo_ok X G (ka (.glo "Fed") (by simp [faK])), He.keep_ok (ka (.keep "Fed") (by simp [faK]))⟩
    both := ⟨insB_ok (He.cls_ok (ka (.cls "Both") (by simp [faK]))) i4, He.glo_ok X G (ka (.glo "Both") (by simp [faK])), He.keep_ok (ka (.keep "Both") (by simp [faK]))⟩
    kFE := of_decide_eq_true k1
    kBE := of_decide_eq_true k2
    noE := fun f hf => He.noat_ok (ka (.noat "Eater" f) (by simp only [List.mem_cons, List.not_mem_nil, or_false] at hf; rcases hf with rfl | rfl | rfl | rfl | rfl | rfl <;> simp [faK]))
    noF := fun f hf => He.noat_ok (ka (.noat "Fed" f) (by simp only [List.mem_cons, List.not_mem_nil, or_false] at hf; rcases hf with rfl | rfl | rfl <;> simp [faK]))
    noB := fun f hf => He.noat_ok (ka (.noat "Both" f) (by simp only [List.mem_cons, List.not_mem_nil, or_false] at hf; rcases hf with rfl | rfl | rfl | rfl <;> simp [faK]))
    is_integer := by
      obtain ⟨fd, F⟩ := c.t.d.def_ (d := dd "is_integer" sIsInteger []) 0 rfl
      exact ⟨He.ga K "is_integer", fd, F, He.glo_ok X G (glo "is_integer" (by decide +kernel))⟩
    is_within := by
      obtain ⟨fd, F⟩ := c.t.d.def_ (d := dd "is_within" sIsWithin []) 1 rfl
      exact ⟨He.ga K "is_within", fd, F, He.glo_ok X G (glo "is_within" (by decide +kernel))⟩
    is_letter := by
      obtain ⟨fd, F⟩ := c.t.d.def_ (d := dd "is_letter" sIsLetter []) 2 rfl
      exact ⟨He.ga K "is_letter", fd, F, He.glo_ok X G (glo "is_letter" (by decide +kernel))⟩
    is_word := by
      obtain ⟨fd, F⟩ := c.t.d.def_ (d := dd "is_word" sIsWord []) 3 rfl
      exact ⟨He.ga K "is_word", fd, F, He.glo_ok X G (glo "is_word" (by decide +kernel))⟩
    need_number := by
      obtain ⟨fd, F⟩ := c.t.d.def_ (d := dd "need_number" sNeedNumber []) 4 rfl
      exact ⟨He.ga K "need_number", fd, F, He.glo_ok X G (glo "need_number" (by decide +kernel))⟩
    need_word := by
      obtain ⟨fd, F⟩ := c.t.d.def_ (d := dd "need_word" sNeedWord []) 5 rfl
      exact ⟨He.ga K "need_word", fd, F, He.glo_ok X G (glo "need_word" (by decide +kernel))⟩
    pairs_in := by
      obtain ⟨fd, F⟩ := c.t.d.def_ (d := dd "pairs_in" sPairsIn []) 6 rfl
      exact ⟨He.ga K "pairs_in", fd, F, He.glo_ok X G (glo "pairs_in" (by decide +kernel))⟩
    rank := by
      obtain ⟨fd, F⟩ := c.t.d.def_ (d := dd "rank" sRank []) 7 rfl
      exact ⟨He.ga K "rank", fd, F, He.glo_ok X G (glo "rank" (by decide +kernel))⟩
    is_move := by
      obtain ⟨fd, F⟩ := c.t.d.def_ (d := dd "is_move" sIsMove []) 8 rfl
      exact ⟨He.ga K "is_move", fd, F, He.glo_ok X G (glo "is_move" (by decide +kernel))⟩
    fixed := by
      obtain ⟨fd, F⟩ := c.t.d.def_ (d := dd "fixed" sFixed []) 9 rfl
      exact ⟨He.ga K "fixed", fd, F, He.glo_ok X G (glo "fixed" (by decide +kernel))⟩
    is_key := by
      obtain ⟨fd, F⟩ := c.t.d.def_ (d := dd "is_key" sIsKey []) 10 rfl
      exact ⟨He.ga K "is_key", fd, F, He.glo_ok X G (glo "is_key" (by decide +kernel))⟩
    is_done := by
      obtain ⟨fd, F⟩ := c.t.d.def_ (d := dd "is_done" sIsDone []) 11 rfl
      exact ⟨He.ga K "is_done", fd, F, He.glo_ok X G (glo "is_done" (by decide +kernel))⟩
    rules_from := by
      obtain ⟨fd, F⟩ := c.t.d.def_ (d := dd "rules_from" sRulesFrom []) 12 rfl
      exact ⟨He.ga K "rules_from", fd, F, He.glo_ok X G (glo "rules_from" (by decide +kernel))⟩
    yes_from := by
      obtain ⟨fd, F⟩ := c.t.d.def_ (d := dd "yes_from" sYesFrom []) 13 rfl
      exact ⟨He.ga K "yes_from", fd, F, He.glo_ok X G (glo "yes_from" (by decide +kernel))⟩
    need_eater := by
      obtain ⟨fd, F⟩ := c.t.d.def_ (d := dd "need_eater" sNeedEater [.str "eater"]) 14 rfl
      exact ⟨He.ga K "need_eater", fd, F, He.glo_ok X G (glo "need_eater" (by decide +kernel))⟩
    done_by := by
      obtain ⟨fd, F⟩ := c.t.d.def_ (d := dd "done_by" sDoneBy []) 15 rfl
      exact ⟨He.ga K "done_by", fd, F, He.glo_ok X G (glo "done_by" (by decide +kernel))⟩
    moved := by
      obtain ⟨fd, F⟩ := c.t.d.def_ (d := dd "moved" sMoved []) 16 rfl
      exact ⟨He.ga K "moved", fd, F, He.glo_ok X G (glo "moved" (by decide +kernel))⟩
    eaten_from := by
      obtain ⟨fd, F⟩ := c.t.d.def_ (d := dd "eaten_from" sEatenFrom []) 17 rfl
      exact ⟨He.ga K "eaten_from", fd, F, He.glo_ok X G (glo "eaten_from" (by decide +kernel))⟩
    stands_in := by
      obtain ⟨fd, F⟩ := c.t.d.def_ (d := dd "stands_in" sStandsIn []) 18 rfl
      exact ⟨He.ga K "stands_in", fd, F, He.glo_ok X G (glo "stands_in" (by decide +kernel))⟩
    joined_rule := by
      obtain ⟨fd, F⟩ := c.t.d.def_ (d := dd "joined_rule" sJoinedRule []) 19 rfl
      exact ⟨He.ga K "joined_rule", fd, F, He.glo_ok X G (glo "joined_rule" (by decide +kernel))⟩
    eaten := by
      obtain ⟨fd, F⟩ := c.t.d.def_ (d := dd "eaten" sEaten []) 20 rfl
      exact ⟨He.ga K "eaten", fd, F, He.glo_ok X G (glo "eaten" (by decide +kernel))⟩
    takes := by
      obtain ⟨fd, F⟩ := c.t.d.def_ (d := dd "takes" sTakes []) 21 rfl
      exact ⟨He.ga K "takes", fd, F, He.glo_ok X G (glo "takes" (by decide +kernel))⟩
    side_by_side := by
      obtain ⟨fd, F⟩ := c.t.d.def_ (d := dd "side_by_side" sSideBySide []) 22 rfl
      exact ⟨He.ga K "side_by_side", fd, F, He.glo_ok X G (glo "side_by_side" (by decide +kernel))⟩
    need_row := by
      obtain ⟨fd, F⟩ := c.t.d.def_ (d := dd "need_row" sNeedRow [.str "row"]) 23 rfl
      exact ⟨He.ga K "need_row", fd, F, He.glo_ok X G (glo "need_row" (by decide +kernel))⟩
    spread := by
      obtain ⟨fd, F⟩ := c.t.d.def_ (d := dd "spread" sSpread []) 24 rfl
      exact ⟨He.ga K "spread", fd, F, He.glo_ok X G (glo "spread" (by decide +kernel))⟩
    tops_of := by
      obtain ⟨fd, F⟩ := c.t.d.def_ (d := dd "tops_of" sTopsOf []) 25 rfl
      exact ⟨He.ga K "tops_of", fd, F, He.glo_ok X G (glo "tops_of" (by decide +kernel))⟩
    begun := by
      obtain ⟨fd, F⟩ := c.t.d.def_ (d := dd "begun" sBegun []) 26 rfl
      exact ⟨He.ga K "begun", fd, F, He.glo_ok X G (glo "begun" (by decide +kernel))⟩
    ticked := by
      obtain ⟨fd, F⟩ := c.t.d.def_ (d := dd "ticked" sTicked [.int 0, .int 0]) 27 rfl
      exact ⟨He.ga K "ticked", fd, F, He.glo_ok X G (glo "ticked" (by decide +kernel))⟩
    worth_in := by
      obtain ⟨fd, F⟩ := c.t.d.def_ (d := dd "worth_in" sWorthIn []) 28 rfl
      exact ⟨He.ga K "worth_in", fd, F, He.glo_ok X G (glo "worth_in" (by decide +kernel))⟩
    seat_in := by
      obtain ⟨fd, F⟩ := c.t.d.def_ (d := dd "seat_in" sSeatIn []) 29 rfl
      exact ⟨He.ga K "seat_in", fd, F, He.glo_ok X G (glo "seat_in" (by decide +kernel))⟩
    due_in := by
      obtain ⟨fd, F⟩ := c.t.d.def_ (d := dd "due_in" sDueIn []) 30 rfl
      exact ⟨He.ga K "due_in", fd, F, He.glo_ok X G (glo "due_in" (by decide +kernel))⟩
    said_in := by
      obtain ⟨fd, F⟩ := c.t.d.def_ (d := dd "said_in" sSaidIn []) 31 rfl
      exact ⟨He.ga K "said_in", fd, F, He.glo_ok X G (glo "said_in" (by decide +kernel))⟩
    told_in := by
      obtain ⟨fd, F⟩ := c.t.d.def_ (d := dd "told_in" sToldIn []) 32 rfl
      exact ⟨He.ga K "told_in", fd, F, He.glo_ok X G (glo "told_in" (by decide +kernel))⟩
    need_both := by
      obtain ⟨fd, F⟩ := c.t.d.def_ (d := dd "need_both" sNeedBoth []) 33 rfl
      exact ⟨He.ga K "need_both", fd, F, He.glo_ok X G (glo "need_both" (by decide +kernel))⟩
    told := by
      obtain ⟨fd, F⟩ := c.t.d.def_ (d := dd "told" sTold []) 34 rfl
      exact ⟨He.ga K "told", fd, F, He.glo_ok X G (glo "told" (by decide +kernel))⟩
    said := by
      obtain ⟨fd, F⟩ := c.t.d.def_ (d := dd "said" sSaid []) 35 rfl
      exact ⟨He.ga K "said", fd, F, He.glo_ok X G (glo "said" (by decide +kernel))⟩
    plough := by
      obtain ⟨fd, F⟩ := c.t.d.def_ (d := dd "_law_plough" sPlough []) 36 rfl
      exact ⟨He.ga K "_law_plough", fd, F, He.glo_ok X G (glo "_law_plough" (by decide +kernel))⟩
    yoke := by
      obtain ⟨fd, F⟩ := c.t.d.def_ (d := dd "_law_yoke" sYoke []) 37 rfl
      exact ⟨He.ga K "_law_yoke", fd, F, He.glo_ok X G (glo "_law_yoke" (by decide +kernel))⟩
    any := by
      obtain ⟨fd, F⟩ := c.t.d.def_ (d := dd "_law_any" sAny []) 38 rfl
      exact ⟨He.ga K "_law_any", fd, F, He.glo_ok X G (glo "_law_any" (by decide +kernel))⟩
    done := by
      obtain ⟨fd, F⟩ := c.t.d.def_ (d := dd "_law_done" sDone []) 39 rfl
      exact ⟨He.ga K "_law_done", fd, F, He.glo_ok X G (glo "_law_done" (by decide +kernel))⟩
    tops := by
      obtain ⟨fd, F⟩ := c.t.d.def_ (d := dd "_law_tops" sTops []) 40 rfl
      exact ⟨He.ga K "_law_tops", fd, F, He.glo_ok X G (glo "_law_tops" (by decide +kernel))⟩
    rules := by
      obtain ⟨fd, F⟩ := c.t.d.def_ (d := dd "_law_rules" sRules []) 41 rfl
      exact ⟨He.ga K "_law_rules", fd, F, He.glo_ok X G (glo "_law_rules" (by decide +kernel))⟩
    yes := by
      obtain ⟨fd, F⟩ := c.t.d.def_ (d := dd "_law_yes" sYes []) 42 rfl
      exact ⟨He.ga K "_law_yes", fd, F, He.glo_ok X G (glo "_law_yes" (by decide +kernel))⟩
    word := by
      obtain ⟨fd, F⟩ := c.t.d.def_ (d := dd "_law_word" sWord []) 43 rfl
      exact ⟨He.ga K "_law_word", fd, F, He.glo_ok X G (glo "_law_word" (by decide +kernel))⟩
    law_eater := by
      obtain ⟨fd, F⟩ := c.t.d.def_ (d := dd "_law_eater" sEater []) 44 rfl
      exact ⟨He.ga K "_law_eater", fd, F, He.glo_ok X G (glo "_law_eater" (by decide +kernel))⟩
    fed_begin := by
      obtain ⟨fd, F⟩ := c.t.d.def_ (d := dm "Fed" "begin" "Fed.begin" sFedBegin) 45 rfl
      exact ⟨He.ma K (He.ga K "Fed") "begin", fd, F, He.cls_ok (ka (.cls "Fed") (by simp [faK])), He.meth_ok (ka (.meth "Fed" "begin") (by simp [faK]))⟩
    fed_done := by
      obtain ⟨fd, F⟩ := c.t.d.def_ (d := dm "Fed" "done" "Fed.done" sFedDone) 46 rfl
      exact ⟨He.ma K (He.ga K "Fed") "done", fd, F, He.cls_ok (ka (.cls "Fed") (by simp [faK])), He.meth_ok (ka (.meth "Fed" "done") (by simp [faK]))⟩
    fed_next := by
      obtain ⟨fd, F⟩ := c.t.d.def_ (d := dm "Fed" "next" "Fed.next" sFedNext) 47 rfl
      exact ⟨He.ma K (He.ga K "Fed") "next", fd, F, He.cls_ok (ka (.cls "Fed") (by simp [faK])), He.meth_ok (ka (.meth "Fed" "next") (by simp [faK]))⟩
    fed_says := by
      obtain ⟨fd, F⟩ := c.t.d.def_ (d := dm "Fed" "says" "Fed.says" sFedSays) 48 rfl
      exact ⟨He.ma K (He.ga K "Fed") "says", fd, F, He.cls_ok (ka (.cls "Fed") (by simp [faK])), He.meth_ok (ka (.meth "Fed" "says") (by simp [faK]))⟩
    both_begin := by
      obtain ⟨fd, F⟩ := c.t.d.def_ (d := dm "Both" "begin" "Beside.begin" sBesBegin) 49 rfl
      exact ⟨He.ma K (He.ga K "Both") "begin", fd, F, He.cls_ok (ka (.cls "Both") (by simp [faK])), He.meth_ok (ka (.meth "Both" "begin") (by simp [faK]))⟩
    both_next := by
      obtain ⟨fd, F⟩ := c.t.d.def_ (d := dm "Both" "next" "Beside.next" sBesNext) 50 rfl
      exact ⟨He.ma K (He.ga K "Both") "next", fd, F, He.cls_ok (ka (.cls "Both") (by simp [faK])), He.meth_ok (ka (.meth "Both" "next") (by simp [faK]))⟩
    both_says := by
      obtain ⟨fd, F⟩ := c.t.d.def_ (d := dm "Both" "says" "Both.says" sBothSays) 51 rfl
      exact ⟨He.ma K (He.ga K "Both") "says", fd, F, He.cls_ok (ka (.cls "Both") (by simp [faK])), He.meth_ok (ka (.meth "Both" "says") (by simp [faK]))⟩
    eater_init := by
      obtain ⟨fd, F⟩ := c.t.d.def_ (d := dm "Eater" "__init__" "Eater.__init__" sEaterInit) 52 rfl
      exact ⟨He.ma K (He.ga K "Eater") "__init__", fd, F, He.mkr_ok (ka (.mkr "Eater") (by simp [faK])), He.glo_ok X G (ka (.glo "Eater") (by simp [faK]))⟩
    fed_init := by
      obtain ⟨fd, F⟩ := c.t.d.def_ (d := dm "Fed" "__init__" "Fed.__init__" sFedInit) 53 rfl
      exact ⟨He.ma K (He.ga K "Fed") "__init__", fd, F, He.mkr_ok (ka (.mkr "Fed") (by simp [faK])), He.glo_ok X G (ka (.glo "Fed") (by simp [faK]))⟩
    both_init := by
      obtain ⟨fd, F⟩ := c.t.d.def_ (d := dm "Both" "__init__" "Beside.__init__" sBesInit) 54 rfl
      exact ⟨He.ma K (He.ga K "Both") "__init__", fd, F, He.mkr_ok (ka (.mkr "Both") (by simp [faK])), He.glo_ok X G (ka (.glo "Both") (by simp [faK]))⟩ }
theorem law_at {w : World} {K : PySem.W.Frag} {h : Heap} {mg : Str → Option Value} {fa : Addr} (X : K.In h) (G : h.Ns mainGlobals mg) (hfa : mg ("law" : Str) = some (.ref fa)) (c : He.SaysX faL fnL [] tfL exL w h K) :
    LamX.LawAtS PySem.Challenge.rw_backwardrow_k40_whole_fed_rows_side_by_s w K C8.CX0 11 63 "_law_script" mg fa h := by
  have T0 := tx_of X G c
  obtain ⟨fd, F⟩ := c.t.d.def_ (d := dd "law" sLaw []) 55 rfl
  have e := hfa.symm.trans (He.glo_ok X G (c.t.d.facts (f := .glo "law") (List.mem_append_left _ (by
    rw [← List.map_append]
    exact List.mem_map_of_mem (by decide +kernel)))))
  cases e
  obtain ⟨fr, R1⟩ := c.t.d.def_ (d := dd "rules_from" sRulesFrom []) 12 rfl
  obtain ⟨oc, od, dV, kV, doc, pm, an, cdv, ct, osl, ef, lk, hcd, hD, hK⟩ := R1.ex
  obtain ⟨cc, ecc⟩ := He.codeIn_ref hcd
  have efc : fr.code = .ref cc := by
    rw [ef]
    exact ecc
  have ec : He.codeOf K ("rules_from", none) = cc := He.codeOf_eq lk efc
  have b := FunD.bindsA (ps := ["_law_script"]) F fun _ _ _ _ _ _ us hl => match us, hl with | [_], _ => rfl
  refine ⟨fd, [He.cT K ("rules_from", none)], spLaw K (He.cT K ("rules_from", none)).2, fun p hp => ?_, fun p hp => ?_, fun p hp => ?_, fun s v => b s [v] rfl, fun H a ns hl _ hT hS => ?_, fun base KB GB hTB => ?_⟩
  · rw [List.mem_singleton.mp hp]
    exact c.empty _ (List.mem_singleton.mpr rfl)
  · rw [List.mem_singleton.mp hp]
    exact c.out _ (List.mem_singleton.mpr rfl)
  · rw [List.mem_singleton.mp hp]
    exact PySem.W.codeHd_of_K X (c.hd _ (List.mem_singleton.mpr rfl))
  · refine ⟨a, ns, rfl, hS, by omega, fun p hp => ?_, fun _ => rfl⟩
    rw [List.mem_singleton.mp hp]
    exact LamX.TabS.nil (hT _ (List.mem_singleton.mpr rfl))
  · have T := tx_of KB GB c
    have R : RfTab K mg base (He.cT K ("rules_from", none)).1 (He.cT K ("rules_from", none)).2 := ⟨⟨_, fr, R1, He.glo_ok KB GB (c.t.d.facts (f := .glo "rules_from") (List.mem_append_left _ (by
      rw [← List.map_append]
      exact List.mem_map_of_mem (by decide +kernel)))), by
        show fr.code = .ref (He.codeOf K ("rules_from", none))
        rw [ec]
        exact efc⟩, hTB _ (List.mem_singleton.mpr rfl)⟩
    refine F.ok (N := lawN) (ps := ["_law_script"]) (fnScope_by (by decide +kernel)) (fun vs H Q E h => ?_) (fun cdv A outer s H vs Q E hr h => ?_)
    · obtain ⟨a, ns, rfl, _⟩ := h
      rfl
    · obtain ⟨t, ht, hq⟩ := b_law (P := PySem.Challenge.rw_backwardrow_k40_whole_fed_rows_side_by_s.prog) (w := w) T R cdv (He.ga K "law") A outer s H vs Q E hr h
      exact ⟨t, ht.nox, hq⟩
end KR
end
section
set_option Elab.async false
set_option linter.all false
set_option maxRecDepth 100000
set_option maxHeartbeats 0
open PySem PySem.W PySem.Calls PyProof.Rows
theorem PySem.Challenge.cw_backwardrow_k40_whole_fed_rows_side_by_s_holds : PySem.Challenge.rw_backwardrow_k40_whole_fed_rows_side_by_s.Holds := by
  w_on; o_law
  refine HandSHeadRun.head_any (r := OpenLaw.row PySem.Challenge.rw_backwardrow_k40_whole_fed_rows_side_by_s) (q := view (OpenLaw.row PySem.Challenge.rw_backwardrow_k40_whole_fed_rows_side_by_s).prog [98]) (H := KR.hkL) (ob := KR.obL) (M := 20000) (loose := KR.looseL) (d := HandSHeadRun.topDef (OpenLaw.row PySem.Challenge.rw_backwardrow_k40_whole_fed_rows_side_by_s).prog 98) (kwd := []) KR.obL_eq
    (by kernel_rfl) (fun s => by kernel_rfl) KR.runL_eq (by kernel_rfl) (by kernel_rfl) (by kernel_rfl) (by rfl) (by first | assumption | decide +kernel) (by decide +kernel) ⟨rfl, rfl, rfl, rfl, rfl, by decide +kernel⟩ ?hw ?hc
  case hw => w_witness2
  case hc =>
    refine LamX.walk_ofTsE (l := PySem.Challenge.rw_backwardrow_k40_whole_fed_rows_side_by_s) (n := 63) (k := 11) (x := "_law_script") (CX := fun _ => C8.CX0) rfl (by decide) (by kernel_rfl) ⟨rfl, by decide, by decide⟩ ?F (fun _ _ _ _ _ z => z)
    intro w mg fa h Y G hmg0
    obtain ⟨K, KX, c⟩ := Y
    have hmg : mg ("law" : PySem.Str) = some (.ref fa) := by
      have e : (HandSHeadRun.topDef (OpenLaw.row PySem.Challenge.rw_backwardrow_k40_whole_fed_rows_side_by_s).prog 98).name = ("law" : PySem.Str) := by kernel_rfl
      rw [← e]
      exact hmg0
    exact ⟨K, KX, KR.law_at KX G hmg c⟩
end
