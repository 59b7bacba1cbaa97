import PyProof.Rows.All
import Wide.All
import OpenK.AllK
import Wide.FinOn
import KE.KStateDown
import HandS.Lambda
import HandS.Head0
import HandS.Head1
import HandS.Head2
import HandS.HeadEnd
import HandS.HeadHook1
import HandS.HeadHook2
import HandS.HeadHook4
import KE.KExcIs
import HandS.ExcIs
import HandS.ExcInit
import HandS.ForMost
import HandS.Wide
import HandS.Exc
import HandS.ExcOwn
import HandS.IsInst
import HandS.Conv
import KE.DataEq
import KE.DataFind
import HandS.TupAny
import HandS.TupMul
import HandS.Style
import HandS.WordsExc
import HandS.TryOnly
import HandS.SetFor
import HandS.Defaults
import HandS.Zip
import KE.GoesEnum
import KE.GoesEnumKw
import KE.KRevSl
import KE.GoesZip
import KE.GoesMore
import HandS.HotCalls
import HandS.ExcField
import HandS.Strs
import HandS.Deep
import HandS.FStr
import OpenK.KOps
import PyProof.InstNe
import HandS.MakeKw
import KE.KUnpackStar
import PyProof.StrOps2
import HandS.SortKw
import PySem.Challenge.RW_seatworth_k05_sales_refused
set_option Elab.async false
set_option linter.all false
set_option maxRecDepth 100000
set_option maxHeartbeats 0
/-! the defs of the law that make lambdas -/
namespace Sw
def lamNames : List PySem.Str := ["_law_words"]
end Sw

/-! what the head's run looks at -/
namespace Sw
open PySem PySem.Spec PyProof.Rows L2
mutual
def datB (K : PySem.W.Frag) : Value → PyData → Bool
  | .none, .none => true
  | .bool b, .bool c => b == c
  | .int i _, .int j => decide (i = j)
  | .str x _, .str y => decide (x = y)
  | .ref a, .tuple ds => match K.lookup a with
    | some ⟨.type c, _, .seq its _, _⟩ => c == "tuple" && (decide (its.size ≤ sizeLine) && datsB K its.toList ds)
    | _ => false
  | _, _ => false
def datsB (K : PySem.W.Frag) : List Value → List PyData → Bool
  | [], [] => true
  | u :: us, d :: ds => datB K u d && datsB K us ds
  | _, _ => false
end
def gloDB (K : PySem.W.Frag) (x : Str) (d : PyData) : Bool := match PySem.W.nsIn K mainGlobals x with
  | some (some u) => datB K u d
  | _ => false
/-- the keyword-only default m of the def f, if it is an object -/
def kwdAt (f m : Str) (K : PySem.W.Frag) : Addr := match K.lookup (He.fAd K (f, none)) with
  | some ⟨_, _, .func fd, _⟩ => (match fd.kwdefaults with
    | .ref D => (match PySem.W.nsIn K D m with
      | some (some (.ref a)) => a
      | _ => 0)
    | _ => 0)
  | _ => 0
/-- what of its text a class with its own == must have -/
def eqClsB (K : PySem.W.Frag) (C : Addr) : Bool := PySem.W.findIn K (.ref C) "__ne__" == some (some (.builtin "object.__ne__")) && PySem.W.subIn K (.ref C) (.type "object") == some true && PySem.W.findIn K (.ref C) "__class__" == some (some (.builtin "object.__class__")) &&
  PySem.W.specialIn K (.builtin "object.__class__") "__get__" == some (some (.builtin "getset_descriptor.__get__")) && PySem.W.takesIn K (.builtin "object.__class__") == some true && PySem.W.mroIn K C (.type "object") == some true && PySem.W.kitOne K (.ref C) (.ref C) == some true
/-! ### the head's facts, and some of one's own -/
abbrev obsX (fa : List He.Fa) (fn : List He.DefD) (ex : PySem.W.Frag → Bool) (K : PySem.W.Frag) : He.AlD := ((He.obsD fa fn K).1 && ex K, (He.obsD fa fn K).2)
def SaysX (fa : List He.Fa) (fn : List He.DefD) (ex : PySem.W.Frag → Bool) (K : PySem.W.Frag) : Prop := obsX fa fn ex K = He.valD fn
theorem SaysX.both {fa : List He.Fa} {fn : List He.DefD} {ex : PySem.W.Frag → Bool} {K : PySem.W.Frag} (c : SaysX fa fn ex K) : He.SaysD fa fn K ∧ ex K = true := by
  have c0 : obsX fa fn ex K = He.valD fn := c
  have c1 : ((He.obsD fa fn K).1 && ex K) = true := congrArg (fun z : He.AlD => z.1) c0
  have c2 : (obsX fa fn ex K).2 = (He.valD fn).2 := congrArg (fun z : He.AlD => z.2) c0
  simp only [Bool.and_eq_true] at c1
  exact ⟨Prod.ext c1.1 c2, c1.2⟩
def obsXG (n : Nat) (fa : List He.Fa) (fn : List He.DefD) (ex : PySem.W.Frag → Bool) (look : Addr → Option Obj) : He.AlD := obsX fa fn ex (He.frT look (He.asD look n))
def hookX (n : Nat) (fa : List He.Fa) (fn : List He.DefD) (ex : PySem.W.Frag → Bool) : PySem.W.Hook := ⟨He.AlD, fun s => obsXG n fa fn ex s.heap.get?, fun _ => He.valD fn, fun _ h => ∃ K : PySem.W.Frag, K.In h ∧ SaysX fa fn ex K, fun _ _ e => ⟨_, He.frT_in, e⟩, fun _ _ _ ⟨K, hK, c⟩ k => ⟨K, PySem.W.Frag.In.keeps hK k, c⟩⟩
theorem obsXG_eq {n : Nat} {fa : List He.Fa} {fn : List He.DefD} {ex : PySem.W.Frag → Bool} {look : Addr → Option Obj} {s : Shared} (same : ∀ a, look a = s.heap.get? a) : obsXG n fa fn ex look = (hookX n fa fn ex).obs s := by
  have e : look = s.heap.get? := funext same
  rw [e]
  rfl
theorem SaysX.dat {fa : List He.Fa} {fn : List He.DefD} {xs : List (PySem.W.Frag → Bool)} {K : PySem.W.Frag} (c : SaysX fa fn (fun K => xs.all fun f => f K) K) (i : Nat) {f : PySem.W.Frag → Bool} (h : xs[i]? = some f := by rfl) : f K = true :=
  List.all_eq_true.mp c.both.2 f (List.mem_of_getElem? h)
/-! a hook that looks further only at the classes named: large programs -/
def moreA (g : Addr → Option PySem.Obj) : Nat → List Addr → List Addr
  | 0, as => as
  | n + 1, as => as ++ moreA g n (as.flatMap fun a => match g a with
    | some o => He.refsD o
    | none => [])
/-- cs: classes; ks: defs with defaults -/
def asY (g : Addr → Option PySem.Obj) (cs ks : List Str) : List Addr := He.asD g 2 ++ (moreA g 3 (cs.map fun c => He.ga (He.frT g (He.asD g 1)) c) ++ moreA g 2 (ks.map fun c => He.ga (He.frT g (He.asD g 1)) c))
def obsYG (cs ks : List Str) (fa : List He.Fa) (fn : List He.DefD) (ex : PySem.W.Frag → Bool) (look : Addr → Option PySem.Obj) : He.AlD := obsX fa fn ex (He.frT look (asY look cs ks))
def hookY (cs ks : List Str) (fa : List He.Fa) (fn : List He.DefD) (ex : PySem.W.Frag → Bool) : PySem.W.Hook := ⟨He.AlD, fun s => obsYG cs ks fa fn ex s.heap.get?, fun _ => He.valD fn, fun _ h => ∃ K : PySem.W.Frag, K.In h ∧ SaysX fa fn ex K, fun _ _ e => ⟨_, He.frT_in, e⟩, fun _ _ _ ⟨K, hK, c⟩ k => ⟨K, PySem.W.Frag.In.keeps hK k, c⟩⟩
theorem obsYG_eq {cs ks : List Str} {fa : List He.Fa} {fn : List He.DefD} {ex : PySem.W.Frag → Bool} {look : Addr → Option PySem.Obj} {s : Shared} (same : ∀ a, look a = s.heap.get? a) : obsYG cs ks fa fn ex look = (hookY cs ks fa fn ex).obs s := by
  have e : look = s.heap.get? := funext same
  rw [e]
  rfl
theorem join3 {σ α β γ : Type} {o : Option σ} {f : σ → α} {g : σ → β} {h : σ → γ} {a : α} {b : β} {c : γ} (h1 : o.map f = some a) (h2 : o.map g = some b) (h3 : o.map h = some c) : o.map (fun s => (f s, g s, h s)) = some (a, b, c) := by
  cases o with
  | none => cases h1
  | some s =>
    cases h1
    cases h2
    cases h3
    rfl
/-! tables, exceptions' classes -/
def tabsK (K : PySem.W.Frag) : List (Addr × Str) := lamNames.filterMap fun x => (PySem.W.tabIn K x).map fun p => (p.2, x ++ ".<locals>." ++ "<lambda>")
def tabsInB (K : PySem.W.Frag) : Bool := (lamNames.all fun x => match PySem.W.tabIn K x with
  | some (_, P) => (K.lookup P).isNone
  | none => false) && (tabsK K).all fun p => (tabsK K).all fun q => !(p.1 == q.1) || p.2 == q.2
def excCB (K : PySem.W.Frag) (D : Addr) : Bool :=
  PySem.W.findIn K (.ref D) "__getattribute__" == some (some (.builtin "BaseException.__getattribute__")) && PySem.W.findIn K (.ref D) "__getattr__" == some none && PySem.W.subIn K (.ref D) (.type "BaseException") == some true && PySem.W.hasDictIn K D &&
  PySem.W.findIn K (.ref D) "__class__" == some (some (.builtin "object.__class__")) && PySem.W.specialIn K (.builtin "object.__class__") "__get__" == some (some (.builtin "getset_descriptor.__get__")) && PySem.W.takesIn K (.builtin "object.__class__") == some true && PySem.W.mroIn K D (.type "object") == some true
def clsB (K : PySem.W.Frag) (c : Str) : Option Addr := match PySem.W.nsIn K mainGlobals c with
  | some (some (.ref C)) => some C
  | _ => none
def xfB (ex : Str → Str → Bool) (rs ns : List Str) (top : Str) (K : PySem.W.Frag) : Bool := rs.all fun c => match clsB K c, clsB K top with
  | some C, some T => excCB K C && PySem.W.kitOne K (.ref C) (.type "ValueError") == some true && PySem.W.exmOne K (.ref C) (.ref T) == some true && ns.all fun n => match clsB K n with
    | some N => PySem.W.kitOne K (.ref C) (.ref N) == some (ex c n)
    | none => false
  | _, _ => false
def oexB (K : PySem.W.Frag) (C : Addr) : Bool := (match K.lookup C with
  | some ⟨.type "type", _, .cls cd, sl⟩ => (match cd.mro, sl.toList with
    | .ref C' :: bm, [_, _, _, _, some (.builtin n), _] => C' == C && n == "ValueError.__new__" && !cd.hasDel && cd.hasDict && PySem.HandSPX.refsVE bm
    | _, _ => false)
  | _ => false) && PySem.W.findIn K (.ref C) "__setattr__" == some (some (.builtin "object.__setattr__")) && PySem.W.subIn K (.ref C) (.type "BaseException") == some true && PySem.W.typeIn K (.ref C) == some (.type "type") && PySem.W.keepIn K (.ref C)
def atxB (c base : Str) (K : PySem.W.Frag) : Bool := match clsB K c, clsB K base with
  | some C, some N => oexB K C && PySem.W.findIn K (.ref C) "__init__" == some (some (.ref (He.ma K C "__init__"))) && PySem.W.typeIn K (.ref (He.ma K C "__init__")) == some (.type "function") && PySem.W.findIn K (.ref C) "at" == some none &&
    PySem.W.specialIn K (.ref N) "__getattribute__" == some (some (.builtin "type.__getattribute__")) && PySem.W.typeIn K (.ref N) == some (.type "type") && PySem.W.readsIn K N (.type "type") &&
    (match PySem.W.findCls K (.ref N) (.type "type") "__init__" with
      | some (.val (.builtin n)) => n == "ValueError.__init__"
      | _ => false)
  | _, _ => false
def xnoB (rs : List Str) (K : PySem.W.Frag) : Bool := rs.all fun c => match clsB K c with
  | some C => PySem.W.findIn K (.ref C) "at" == some none
  | none => false
end Sw

namespace SwLaw
open PySem PySem.Spec PyProof.Rows L2 Sw
def top (i : Nat) : Stmt := PySem.Challenge.pw_seatworth_k05_sales_refused.main.body.getD i (.Pass ⟨0, 0, 0, 0⟩)
abbrev s_is_whole : Stmt := top 23
abbrev s_is_from : Stmt := top 24
abbrev s_is_among : Stmt := top 25
abbrev s_is_offer : Stmt := top 40
abbrev s_is_sale : Stmt := top 41
abbrev s_need_sale : Stmt := top 42
abbrev s_worth : Stmt := top 53
abbrev s_worths : Stmt := top 54
abbrev s_opened : Stmt := top 59
abbrev s_seat_worth : Stmt := top 60
abbrev s_mark : Stmt := top 61
abbrev s_amends_mean : Stmt := top 73
abbrev s_worth_oversold : Stmt := top 75
abbrev s_least_limit : Stmt := top 76
abbrev s_is_plan : Stmt := top 81
abbrev s_plan_worth : Stmt := top 83
abbrev s_best_plan : Stmt := top 84
abbrev s_is_run : Stmt := top 87
abbrev s_run_cases : Stmt := top 89
abbrev s_money : Stmt := top 91
abbrev s_shortfall : Stmt := top 95
abbrev s_over_bound : Stmt := top 102
abbrev s_under_bound : Stmt := top 103
abbrev s_sale_text : Stmt := top 107
abbrev s_law_cell_at : Stmt := top 109
abbrev s_law_state : Stmt := top 110
abbrev s_law_take : Stmt := top 111
abbrev s_law_marks : Stmt := top 112
abbrev s_law_word : Stmt := top 113
abbrev s_law_said : Stmt := top 114
abbrev s_law_number : Stmt := top 115
abbrev s_law_odd : Stmt := top 116
abbrev s_law_spoilt : Stmt := top 117
abbrev s_law_sale : Stmt := top 118
abbrev s_law_is_offer : Stmt := top 119
abbrev s_law_is_sale : Stmt := top 120
abbrev s_law_words : Stmt := top 121
abbrev s_law : Stmt := top 122
abbrev s_Counter___init__ : Stmt := inClass (top 56) 0
def rsL : List Str := ["NoSale"]
def nsL : List Str := ["NoNumber", "NoSale", "NoNet", "NoClass", "NoTime", "NoLeft", "NoSingle", "NoPlan", "NoRun", "NoLimit", "NoShow", "NoAmends", "NoPrices", "NoLine", "NoText", "Over", "Nothing", "NoThing", "NotNow"]
/-- which class is below which -/
def exB (c n : Str) : Bool := ([("NoSale", "NoSale"), ("NoSale", "NoThing")] : List (Str × Str)).contains (c, n)
/-! ### the head -/
def dd_is_whole : He.DefD := ⟨("is_whole", none), "is_whole", "is_whole", defArgs s_is_whole, defBody s_is_whole, defScope s_is_whole, [], []⟩
def dd_is_from : He.DefD := ⟨("is_from", none), "is_from", "is_from", defArgs s_is_from, defBody s_is_from, defScope s_is_from, [], []⟩
def dd_is_among : He.DefD := ⟨("is_among", none), "is_among", "is_among", defArgs s_is_among, defBody s_is_among, defScope s_is_among, [], []⟩
def dd_is_offer : He.DefD := ⟨("is_offer", none), "is_offer", "is_offer", defArgs s_is_offer, defBody s_is_offer, defScope s_is_offer, [], []⟩
def dd_is_sale : He.DefD := ⟨("is_sale", none), "is_sale", "is_sale", defArgs s_is_sale, defBody s_is_sale, defScope s_is_sale, [], []⟩
def dd_need_sale : He.DefD := ⟨("need_sale", none), "need_sale", "need_sale", defArgs s_need_sale, defBody s_need_sale, defScope s_need_sale, [], []⟩
def dd_worth : He.DefD := ⟨("worth", none), "worth", "worth", defArgs s_worth, defBody s_worth, defScope s_worth, [], []⟩
def dd_worths : He.DefD := ⟨("worths", none), "worths", "worths", defArgs s_worths, defBody s_worths, defScope s_worths, [], []⟩
def dd_opened : He.DefD := ⟨("opened", none), "opened", "opened", defArgs s_opened, defBody s_opened, defScope s_opened, [], []⟩
def dd_seat_worth : He.DefD := ⟨("seat_worth", none), "seat_worth", "seat_worth", defArgs s_seat_worth, defBody s_seat_worth, defScope s_seat_worth, [], []⟩
def dd_mark : He.DefD := ⟨("mark", none), "mark", "mark", defArgs s_mark, defBody s_mark, defScope s_mark, [], []⟩
def dd_amends_mean : He.DefD := ⟨("amends_mean", none), "amends_mean", "amends_mean", defArgs s_amends_mean, defBody s_amends_mean, defScope s_amends_mean, [], [("show", .adr (kwdAt "amends_mean" "show")), ("amends", .int 0)]⟩
def dd_worth_oversold : He.DefD := ⟨("worth_oversold", none), "worth_oversold", "worth_oversold", defArgs s_worth_oversold, defBody s_worth_oversold, defScope s_worth_oversold, [], [("show", .adr (kwdAt "worth_oversold" "show")), ("amends", .int 0)]⟩
def dd_least_limit : He.DefD := ⟨("least_limit", none), "least_limit", "least_limit", defArgs s_least_limit, defBody s_least_limit, defScope s_least_limit, [], [("show", .adr (kwdAt "least_limit" "show")), ("amends", .int 0)]⟩
def dd_is_plan : He.DefD := ⟨("is_plan", none), "is_plan", "is_plan", defArgs s_is_plan, defBody s_is_plan, defScope s_is_plan, [], []⟩
def dd_plan_worth : He.DefD := ⟨("plan_worth", none), "plan_worth", "plan_worth", defArgs s_plan_worth, defBody s_plan_worth, defScope s_plan_worth, [], []⟩
def dd_best_plan : He.DefD := ⟨("best_plan", none), "best_plan", "best_plan", defArgs s_best_plan, defBody s_best_plan, defScope s_best_plan, [], []⟩
def dd_is_run : He.DefD := ⟨("is_run", none), "is_run", "is_run", defArgs s_is_run, defBody s_is_run, defScope s_is_run, [], []⟩
def dd_run_cases : He.DefD := ⟨("run_cases", none), "run_cases", "run_cases", defArgs s_run_cases, defBody s_run_cases, defScope s_run_cases, [], []⟩
def dd_money : He.DefD := ⟨("money", none), "money", "money", defArgs s_money, defBody s_money, defScope s_money, [], []⟩
def dd_shortfall : He.DefD := ⟨("shortfall", none), "shortfall", "shortfall", defArgs s_shortfall, defBody s_shortfall, defScope s_shortfall, [], []⟩
def dd_over_bound : He.DefD := ⟨("over_bound", none), "over_bound", "over_bound", defArgs s_over_bound, defBody s_over_bound, defScope s_over_bound, [], []⟩
def dd_under_bound : He.DefD := ⟨("under_bound", none), "under_bound", "under_bound", defArgs s_under_bound, defBody s_under_bound, defScope s_under_bound, [], []⟩
def dd_sale_text : He.DefD := ⟨("sale_text", none), "sale_text", "sale_text", defArgs s_sale_text, defBody s_sale_text, defScope s_sale_text, [], []⟩
def dd_law_cell_at : He.DefD := ⟨("_law_cell_at", none), "_law_cell_at", "_law_cell_at", defArgs s_law_cell_at, defBody s_law_cell_at, defScope s_law_cell_at, [], []⟩
def dd_law_state : He.DefD := ⟨("_law_state", none), "_law_state", "_law_state", defArgs s_law_state, defBody s_law_state, defScope s_law_state, [], []⟩
def dd_law_take : He.DefD := ⟨("_law_take", none), "_law_take", "_law_take", defArgs s_law_take, defBody s_law_take, defScope s_law_take, [], []⟩
def dd_law_marks : He.DefD := ⟨("_law_marks", none), "_law_marks", "_law_marks", defArgs s_law_marks, defBody s_law_marks, defScope s_law_marks, [], []⟩
def dd_law_word : He.DefD := ⟨("_law_word", none), "_law_word", "_law_word", defArgs s_law_word, defBody s_law_word, defScope s_law_word, [], []⟩
def dd_law_said : He.DefD := ⟨("_law_said", none), "_law_said", "_law_said", defArgs s_law_said, defBody s_law_said, defScope s_law_said, [], []⟩
def dd_law_number : He.DefD := ⟨("_law_number", none), "_law_number", "_law_number", defArgs s_law_number, defBody s_law_number, defScope s_law_number, [], []⟩
def dd_law_odd : He.DefD := ⟨("_law_odd", none), "_law_odd", "_law_odd", defArgs s_law_odd, defBody s_law_odd, defScope s_law_odd, [], []⟩
def dd_law_spoilt : He.DefD := ⟨("_law_spoilt", none), "_law_spoilt", "_law_spoilt", defArgs s_law_spoilt, defBody s_law_spoilt, defScope s_law_spoilt, [], []⟩
def dd_law_sale : He.DefD := ⟨("_law_sale", none), "_law_sale", "_law_sale", defArgs s_law_sale, defBody s_law_sale, defScope s_law_sale, [], []⟩
def dd_law_is_offer : He.DefD := ⟨("_law_is_offer", none), "_law_is_offer", "_law_is_offer", defArgs s_law_is_offer, defBody s_law_is_offer, defScope s_law_is_offer, [], []⟩
def dd_law_is_sale : He.DefD := ⟨("_law_is_sale", none), "_law_is_sale", "_law_is_sale", defArgs s_law_is_sale, defBody s_law_is_sale, defScope s_law_is_sale, [], []⟩
def dd_law_words : He.DefD := ⟨("_law_words", none), "_law_words", "_law_words", defArgs s_law_words, defBody s_law_words, defScope s_law_words, [], []⟩
def dd_law : He.DefD := ⟨("law", none), "law", "law", defArgs s_law, defBody s_law, defScope s_law, [], []⟩
def dd_Counter___init__ : He.DefD := ⟨("Counter", some "__init__"), "__init__", "Counter.__init__", defArgs s_Counter___init__, defBody s_Counter___init__, defScope s_Counter___init__, [], []⟩
def fnL : List He.DefD := [dd_is_whole, dd_is_from, dd_is_among, dd_is_offer, dd_is_sale, dd_need_sale, dd_worth, dd_worths, dd_opened, dd_seat_worth, dd_mark, dd_amends_mean, dd_worth_oversold, dd_least_limit, dd_is_plan, dd_plan_worth, dd_best_plan, dd_is_run, dd_run_cases, dd_money, dd_shortfall, dd_over_bound, dd_under_bound, dd_sale_text, dd_law_cell_at, dd_law_state, dd_law_take, dd_law_marks, dd_law_word, dd_law_said, dd_law_number, dd_law_odd, dd_law_spoilt, dd_law_sale, dd_law_is_offer, dd_law_is_sale, dd_law_words, dd_law, dd_Counter___init__]
def faL : List He.Fa := [.glo "is_whole", .glo "is_from", .glo "is_among", .glo "is_offer", .glo "is_sale", .glo "need_sale", .glo "worth", .glo "worths", .glo "opened", .glo "seat_worth", .glo "mark", .glo "amends_mean", .glo "worth_oversold", .glo "least_limit", .glo "is_plan", .glo "plan_worth", .glo "best_plan", .glo "is_run", .glo "run_cases", .glo "money", .glo "shortfall", .glo "over_bound", .glo "under_bound", .glo "sale_text", .glo "_law_cell_at", .glo "_law_state", .glo "_law_take", .glo "_law_marks", .glo "_law_word", .glo "_law_said", .glo "_law_number", .glo "_law_odd", .glo "_law_spoilt", .glo "_law_sale", .glo "_law_is_offer", .glo "_law_is_sale", .glo "_law_words", .glo "law", .glo "NoSale", .exc "NoSale", .int "MOST_SIZE" 4, .int "MOST_FARE" 99, .int "MOST_CLASSES" 4, .int "MOST_CASES_sales" 24, .int "MOST_PERIODS" 12, .int "MOST_SEATS" 12, .free "isinstance", .free "bool", .free "int", .free "len", .free "max", .free "ValueError", .free "tuple", .free "range", .free "sum", .free "all", .free "list", .free "min", .free "repr", .glo "SeatError", .glo "Counter", .cls "Counter", .noat "Counter" "own_sale", .noat "Counter" "rows", .noat "Counter" "own_came", .noat "Counter" "stood", .mkr "Counter"]
def xsL : List (PySem.W.Frag → Bool) := [fun K => Sw.tabsInB K, fun K => Sw.xfB exB rsL nsL "SeatError" K, fun K => Sw.datB K (.ref (kwdAt "amends_mean" "show" K)) (.tuple [.int 1, .int 1]), fun K => Sw.datB K (.ref (kwdAt "worth_oversold" "show" K)) (.tuple [.int 1, .int 1]), fun K => Sw.datB K (.ref (kwdAt "least_limit" "show" K)) (.tuple [.int 1, .int 1])]
abbrev Rr : PySem.W.OpenRow := PySem.W.OpenLaw.row PySem.Challenge.rw_seatworth_k05_sales_refused
abbrev hk : PySem.W.Hook := Sw.hookY ["Counter"] ["amends_mean", "least_limit", "worth_oversold"] faL fnL (fun K => xsL.all fun f => f K)
def ob (s : PySem.W.SharedT) : He.AlD := Sw.obsYG ["Counter"] ["amends_mean", "least_limit", "worth_oversold"] faL fnL (fun K => xsL.all fun f => f K) (HandSHeadRun.getT s)
theorem ob_eq (s : PySem.W.SharedT) : ob s = hk.obs s.abs := Sw.obsYG_eq (HandSHeadRun.getT_eq s)
def looseL : List PySem.Str := (["_wall", "__name__", "SeatError", "NoThing", "NotNow", "NoNumber", "NoSale", "NoNet", "NoClass", "NoTime", "NoLeft", "NoSingle", "NoPlan", "NoRun", "NoLimit", "NoShow", "NoAmends", "NoPrices", "NoLine", "NoText", "Over", "Nothing", "is_whole", "is_from", "is_among", "are_rising", "common", "reduced", "plus", "below"] : List PySem.Str) ++ (["is_fraction", "MOST_SEATS", "MOST_PERIODS", "MOST_CASES_sales", "MOST_CLASSES", "MOST_FARE", "MOST_SIZE", "is_offer", "is_sale", "need_sale", "need_class", "need_time", "need_left", "kept_cases", "sold_number", "next_row", "rows_to", "worth_rows", "is_open", "worth", "worths", "Counter", "opened_by", "opened", "seat_worth", "mark", "MOST_LIMIT", "MOST_CASES_oversold", "MOST_AMENDS", "need_show"] : List PySem.Str) ++ (["need_amends", "need_limit", "raised", "comers", "comers_oversold", "amends_cases", "amends_mean", "worth_by", "worth_oversold", "least_limit", "are_sold", "is_plan_of", "need_plan", "is_plan", "planned_row", "plan_worth", "best_plan", "is_run_of", "is_run", "need_run", "run_cases", "behind", "money", "comers_runs", "Differences", "shortfall", "NOUGHT", "is_table", "sold_worth", "due_number"] : List PySem.Str) ++ (["pairs_of", "over_bound", "under_bound", "BETWEEN", "offer_text", "sale_text", "_law_cell_at", "_law_state", "_law_take", "_law_marks", "_law_word", "_law_said", "_law_number", "_law_odd", "_law_spoilt", "_law_sale", "_law_is_offer", "_law_is_sale"] : List PySem.Str)
open PySem.W PySem.Calls in
theorem run1 (w : World) (os : OsState) : (HandSHeadRun.endF (HandSHeadRun.stepQ (HandSHeadRun.denQ HandSHeadRun.tabQ) Rr.prog w) 20000 Rr.prog w os).map (fun s => HandSHeadRun.looksF Rr.prog (boot_heap w.params) s.abs) = some true := by kernel_rfl
open PySem.W PySem.Calls in
theorem run2 (w : World) (os : OsState) : (HandSHeadRun.endF (HandSHeadRun.stepQ (HandSHeadRun.denQ HandSHeadRun.tabQ) Rr.prog w) 20000 Rr.prog w os).map (fun s => HandSHeadRun.seenQ (PySem.W.view Rr.prog [121, 122]) looseL (importedModules Rr.prog.main.body) (fun s => PySem.W.xlAt (PySem.W.view Rr.prog [121, 122]) [] s && PySem.W.recOk Rr.toRowW.records s) s.abs) = some (openGood (PySem.W.view Rr.prog [121, 122]) looseL) := by kernel_rfl
theorem run3 (w : World) (os : OsState) : (HandSHeadRun.endF (HandSHeadRun.stepQ (HandSHeadRun.denQ HandSHeadRun.tabQ) Rr.prog w) 20000 Rr.prog w os).map (fun s => ob s) = some (hk.val w) := by kernel_rfl
theorem run (w : World) : HandSHeadRun.RunEq Rr (PySem.W.view Rr.prog [121, 122]) hk ob 20000 looseL w := fun os => Sw.join3 (run1 w os) (run2 w os) (run3 w os)
end SwLaw

/-! deep data over the hand layer: what a name holds, how it lies in the heap -/
namespace Sw
open PySem L2
abbrev D := PyData
/-- a thing of one's own that may change -/
inductive OD where
  | lst (xs : List D)
  | dct (kvs : List (D × D))
  /-- a list of keys: tuples of whole numbers -/
  | ks (kss : List (List Int))
  /-- an instance: its class, its fields: data that stays, or a thing of one's own at a place -/
  | ob (c : Str) (fs : List (Str × (D ⊕ Addr)))
  /-- at a known place -/
  | lsa (a : Addr) (xs : List D)
  | dca (a : Addr) (kvs : List (D × D))
  | oba (a : Addr) (c : Str) (fs : List (Str × (D ⊕ Addr)))
  /-- a dict whose keys are tuples of whole numbers; locked; at a known place -/
  | kd (m : List (List Int × D))
  | kdl (a : Addr) (ob : PySem.Obj) (kvs : List (List Key × V)) (m : List (List Int × D))
  | kda (a : Addr) (m : List (List Int × D))
def keyT (k : List Int) : D := .tuple (k.map PyData.int)
def OD.toD : OD → D
  | .lst xs => .list xs
  | .dct kvs => .dict kvs
  | .ks kss => .list (kss.map keyT)
  | .ob _ _ => .dict []
  | .lsa _ xs => .list xs
  | .dca _ kvs => .dict kvs
  | .oba _ _ _ => .dict []
  | .kd _ => .dict []
  | .kdl _ _ _ _ => .dict []
  | .kda _ _ => .dict []
/-- no data: it can't be let be -/
def OD.isOb : OD → Bool
  | .ob _ _ => true
  | .oba _ _ _ => true
  | .kd _ => true
  | .kdl _ _ _ _ => true
  | .kda _ _ => true
  | _ => false
/-- a caught exception: where it stands; if it has a field: its dict, the number there -/
structure XA where
  a : Addr
  f : Option (Addr × Int)
  /-- no exception: a def of the program, by its name -/
  g : Option Str
instance : Coe Addr XA := ⟨fun a => ⟨a, none, none⟩⟩
def XA.dct (x : XA) : Option Addr := x.f.map fun p => p.1
/-- what a name holds: a thing that stays; a thing of this frame's own; a thing lent by the caller -/
inductive Cl where
  | fz (d : D)
  | ow (o : OD)
  | io (o : OD)
  | sc (ns : List Int)
  | xn (a : XA)
  /-- a tuple of whole numbers that was made here: it may be a key -/
  | ky (k : List Int)
  /-- an instance that is let be for a while: its class, its fields; a list or a dict of it, at a known place -/
  | fo (c : Str) (fs : List (Str × (D ⊕ Addr)))
  | fl (a : Addr) (d : D)
def Cl.toD : Cl → D
  | .fz d => d
  | .ow o => o.toD
  | .io o => o.toD
  | .sc _ => .none
  | .xn _ => .none
  | .ky k => keyT k
  | .fo _ _ => .none
  | .fl _ d => d
def Cl.isSc : Cl → Bool
  | .sc _ => true
  | .xn _ => true
  | .fo _ _ => true
  | .fl _ _ => true
  | .ow o => o.isOb
  | .io o => o.isOb
  | _ => false
def Cl.isOb : Cl → Bool
  | .ow o => o.isOb
  | .io o => o.isOb
  | _ => false
/-- an instance that stands there -/
def Cl.obL? : Cl → Option (Str × List (Str × (D ⊕ Addr)))
  | .ow (.ob c fs) => some (c, fs)
  | .io (.ob c fs) => some (c, fs)
  | .ow (.oba _ c fs) => some (c, fs)
  | .io (.oba _ c fs) => some (c, fs)
  | _ => none
def Cl.ob? : Cl → Option (Str × List (Str × (D ⊕ Addr)))
  | .ow (.ob c fs) => some (c, fs)
  | .io (.ob c fs) => some (c, fs)
  | .ow (.oba _ c fs) => some (c, fs)
  | .io (.oba _ c fs) => some (c, fs)
  | .fo c fs => some (c, fs)
  | _ => none
/-- a list or dict at a known place -/
def Cl.at? : Cl → Option (Addr × D)
  | .ow (.lsa a xs) => some (a, .list xs)
  | .io (.lsa a xs) => some (a, .list xs)
  | .ow (.dca a kvs) => some (a, .dict kvs)
  | .io (.dca a kvs) => some (a, .dict kvs)
  | .fl a d => some (a, d)
  | _ => none
abbrev En := List (Option Cl)
def keyD1 : Key → D
  | .inl i => .int i
  | .inr x => .str x
mutual
inductive Rep (K : W.Frag) (F : Hp) : V → D → Prop
  | non : Rep K F .non .none
  | bl (b : Bool) : Rep K F (.bl b) (.bool b)
  | int (i : Int) : Rep K F (.int i) (.int i)
  | str (x : Str) : Rep K F (.str x) (.str x)
  | lst {a : Addr} {vs : List V} {ds : List D} : F a = some (.lst vs) → RepL K F vs ds → Rep K F (.ref a) (.list ds)
  | tup {a : Addr} {vs : List V} {ds : List D} : SqT K F a vs → RepL K F vs ds → Rep K F (.ref a) (.tuple ds)
  | dK {a : Addr} {kvs : List (Key × V)} {ds : List D} : F a = some (.dK kvs) → RepL K F (kvs.map (·.2)) ds → Rep K F (.ref a) (.dict ((kvs.map fun p => keyD1 p.1).zip ds))
  | dT {a : Addr} {kvs : List (List Key × V)} {ds : List D} : F a = some (.dT kvs) → RepL K F (kvs.map (·.2)) ds → Rep K F (.ref a) (.dict ((kvs.map fun p => PyData.tuple (p.1.map keyD1)).zip ds))
inductive RepL (K : W.Frag) (F : Hp) : List V → List D → Prop
  | nil : RepL K F [] []
  | cons {v : V} {vs : List V} {d : D} {ds : List D} : Rep K F v d → RepL K F vs ds → RepL K F (v :: vs) (d :: ds)
end
/-- tuples of whole numbers, made here -/
inductive KeysAt (F : Hp) : List Addr → List (List Int) → Prop
  | nil : KeysAt F [] []
  | cons {b : Addr} {bs : List Addr} {k : List Int} {ks : List (List Int)} : F b = some (.tup (k.map V.int)) → KeysAt F bs ks → KeysAt F (b :: bs) (k :: ks)
inductive FsAt (K : W.Frag) (F : Hp) : List (Str × V) → List (Str × (D ⊕ Addr)) → Prop
  | nil : FsAt K F [] []
  | fz {x : Str} {v : V} {d : D} {vs : List (Str × V)} {fs : List (Str × (D ⊕ Addr))} : Rep K F v d → FsAt K F vs fs → FsAt K F ((x, v) :: vs) ((x, .inl d) :: fs)
  | ad {x : Str} {a : Addr} {vs : List (Str × V)} {fs : List (Str × (D ⊕ Addr))} : FsAt K F vs fs → FsAt K F ((x, .ref a) :: vs) ((x, .inr a) :: fs)
theorem same_seqT {K : W.Frag} {H H' : Hp} {a : Addr} {xs : List V} (e : Same H H') (h : SqT K H a xs) : SqT K H' a xs := by
  rcases h with (h | ⟨o, h⟩) | h
  · exact .inl (.inl (e _ _ h))
  · exact .inl (.inr ⟨o, e _ _ h⟩)
  · exact .inr h
/-- the heap without the tables of code objects -/
def strip (H : Hp) : Hp := fun q => match H q with
  | some (.tbl _) => none
  | x => x
theorem strip_some {H : Hp} {p : Addr} {u : HO} (h : H p = some u) (n : ∀ ps, u ≠ .tbl ps) : strip H p = some u := by
  unfold strip
  rw [h]
  cases u <;> first | rfl | exact absurd rfl (n _)
theorem strip_get {H : Hp} {p : Addr} {u : HO} (h : strip H p = some u) : H p = some u ∧ ∀ ps, u ≠ .tbl ps := by
  unfold strip at h
  cases e : H p with
  | none => rw [e] at h; cases h
  | some x =>
    rw [e] at h
    cases x <;> first | (cases h; exact ⟨rfl, fun ps z => by cases z⟩) | cases h
theorem strip_none {H : Hp} {p : Addr} (h : H p = none) : strip H p = none := by
  unfold strip
  rw [h]
section
variable {K : W.Frag} {F F' H H' : Hp}
mutual
theorem Rep.mono (e : Same F F') : ∀ {v : V} {d : D}, Rep K F v d → Rep K F' v d
  | _, _, .non => .non
  | _, _, .bl b => .bl b
  | _, _, .int i => .int i
  | _, _, .str x => .str x
  | _, _, .lst h r => .lst (e _ _ h) (RepL.mono e r)
  | _, _, .tup h r => .tup (same_seqT e h) (RepL.mono e r)
  | _, _, .dK h r => .dK (e _ _ h) (RepL.mono e r)
  | _, _, .dT h r => .dT (e _ _ h) (RepL.mono e r)
theorem RepL.mono (e : Same F F') : ∀ {vs : List V} {ds : List D}, RepL K F vs ds → RepL K F' vs ds
  | _, _, .nil => .nil
  | _, _, .cons r t => .cons (Rep.mono e r) (RepL.mono e t)
end
theorem RepL.length : ∀ {vs : List V} {ds : List D}, RepL K F vs ds → vs.length = ds.length
  | _, _, .nil => rfl
  | _, _, .cons _ t => congrArg (· + 1) (RepL.length t)
theorem RepL.get : ∀ {vs : List V} {ds : List D} {i : Nat} {d : D}, RepL K F vs ds → ds[i]? = some d → ∃ v, vs[i]? = some v ∧ Rep K F v d
  | _, _, _, _, .nil, e => by simp at e
  | _, _, 0, _, .cons r _, e => by simp at e; subst e; exact ⟨_, rfl, r⟩
  | _, _, i + 1, _, .cons _ t, e => by
    obtain ⟨v, h1, h2⟩ := RepL.get (i := i) t (by simpa using e)
    exact ⟨v, by simpa using h1, h2⟩
theorem RepL.append : ∀ {vs ws : List V} {ds es : List D}, RepL K F vs ds → RepL K F ws es → RepL K F (vs ++ ws) (ds ++ es)
  | _, _, _, _, .nil, s => s
  | _, _, _, _, .cons r t, s => .cons r (RepL.append t s)
theorem RepL.take : ∀ {vs : List V} {ds : List D} (n : Nat), RepL K F vs ds → RepL K F (vs.take n) (ds.take n)
  | _, _, 0, _ => .nil
  | _, _, _ + 1, .nil => .nil
  | _, _, n + 1, .cons r t => .cons r (RepL.take n t)
theorem RepL.drop : ∀ {vs : List V} {ds : List D} (n : Nat), RepL K F vs ds → RepL K F (vs.drop n) (ds.drop n)
  | _, _, 0, r => r
  | _, _, _ + 1, .nil => .nil
  | _, _, n + 1, .cons _ t => RepL.drop n t
theorem RepL.set {v : V} {d : D} (r : Rep K F v d) : ∀ {vs : List V} {ds : List D} (i : Nat), RepL K F vs ds → RepL K F (vs.set i v) (ds.set i d)
  | _, _, _, .nil => .nil
  | _, _, 0, .cons _ t => .cons r t
  | _, _, i + 1, .cons q t => .cons q (RepL.set r i t)
theorem RepL.reverse {vs : List V} {ds : List D} (h : RepL K F vs ds) : RepL K F vs.reverse ds.reverse := by
  induction vs generalizing ds with
  | nil => cases h; exact .nil
  | cons v vs ih =>
    cases h with
    | cons r t =>
      rw [List.reverse_cons, List.reverse_cons]
      exact (ih t).append (.cons r .nil)
theorem RepL.snoc {vs : List V} {ds : List D} {v : V} {d : D} (h : RepL K F vs ds) (r : Rep K F v d) : RepL K F (vs ++ [v]) (ds ++ [d]) := h.append (.cons r .nil)
theorem RepL.ints : ∀ {vs : List V} {ns : List Int}, RepL K F vs (ns.map PyData.int) → vs = ns.map V.int
  | _, [], h => by cases h; rfl
  | _, n :: ns, h => by
    cases h with
    | cons r t => cases r; rw [RepL.ints t]; rfl
theorem RepL.bools : ∀ {vs : List V} {ns : List Bool}, RepL K F vs (ns.map PyData.bool) → vs = ns.map V.bl
  | _, [], h => by cases h; rfl
  | _, n :: ns, h => by
    cases h with
    | cons r t => cases r; rw [RepL.bools t]; rfl
theorem RepL.of_ints : ∀ (ns : List Int), RepL K F (ns.map V.int) (ns.map PyData.int)
  | [] => .nil
  | n :: ns => .cons (.int n) (RepL.of_ints ns)
theorem KeysAt.rep : ∀ {bs : List Addr} {kss : List (List Int)}, KeysAt F bs kss → RepL K F (bs.map V.ref) (kss.map keyT)
  | _, _, .nil => .nil
  | _, _, .cons h t => .cons (.tup (.inl (.inl h)) (RepL.of_ints _)) (KeysAt.rep t)
theorem KeysAt.mono (e : Same F F') : ∀ {bs : List Addr} {kss : List (List Int)}, KeysAt F bs kss → KeysAt F' bs kss
  | _, _, .nil => .nil
  | _, _, .cons h t => .cons (e _ _ h) (KeysAt.mono e t)
theorem FsAt.mono (e : Same F F') : ∀ {vs : List (Str × V)} {fs : List (Str × (D ⊕ Addr))}, FsAt K F vs fs → FsAt K F' vs fs
  | _, _, .nil => .nil
  | _, _, .fz r t => .fz (r.mono e) (FsAt.mono e t)
  | _, _, .ad t => .ad (FsAt.mono e t)
def clsN (K : W.Frag) (c : Str) (C : Addr) : Prop := PySem.W.nsIn K mainGlobals c = some (some (.ref C))
def LsAt (K : W.Frag) (H F : Hp) (p : Addr) (ds : List D) : Prop := ∃ vs, H p = some (.lst vs) ∧ RepL K F vs ds
def DcAt (K : W.Frag) (H F : Hp) (p : Addr) (ds : List (D × D)) : Prop := (∃ (kvs : List (Key × V)) (es : List D), H p = some (.dK kvs) ∧ ds = (kvs.map fun p => keyD1 p.1).zip es ∧ RepL K F (kvs.map (·.2)) es) ∨
      ∃ (kvs : List (List Key × V)) (es : List D), H p = some (.dT kvs) ∧ ds = (kvs.map fun p => PyData.tuple (p.1.map keyD1)).zip es ∧ RepL K F (kvs.map (·.2)) es
def ObAt (K : W.Frag) (H F : Hp) (p : Addr) (c : Str) (fs : List (Str × (D ⊕ Addr))) : Prop := ∃ C dx vs, clsN K c C ∧ H p = some (.ins C dx vs) ∧ F dx = some (.own p) ∧ FsAt K F vs fs
def KdAt (K : W.Frag) (H F : Hp) (p : Addr) (m : List (List Int × D)) : Prop := ∃ kvs : List (List Key × V), H p = some (.dT kvs) ∧ kvs.map (·.1) = m.map (fun q => q.1.map Sum.inl) ∧ RepL K F (kvs.map (·.2)) (m.map (·.2))
def KlAt (K : W.Frag) (H F : Hp) (p : Addr) (ob : PySem.Obj) (kvs : List (List Key × V)) (m : List (List Int × D)) : Prop := H p = some (.frz ob (.dT kvs)) ∧ kvs.map (·.1) = m.map (fun q => q.1.map Sum.inl) ∧ RepL K F (kvs.map (·.2)) (m.map (·.2))
/-- what stands at a thing of one's own -/
def OwnAt (K : W.Frag) (H F : Hp) (p : Addr) : OD → Prop
  | .lst ds => LsAt K H F p ds
  | .dct ds => DcAt K H F p ds
  | .ks kss => ∃ bs, H p = some (.lst (bs.map V.ref)) ∧ KeysAt F bs kss
  | .ob c fs => ObAt K H F p c fs
  | .lsa a ds => p = a ∧ LsAt K H F p ds
  | .dca a ds => p = a ∧ DcAt K H F p ds
  | .oba a c fs => p = a ∧ ObAt K H F p c fs
  | .kd m => KdAt K H F p m
  | .kdl a ob kvs m => p = a ∧ KlAt K H F p ob kvs m
  | .kda a m => p = a ∧ KdAt K H F p m
/-- of whichever kind: one object there, no table -/
theorem LsAt.u {p : Addr} {ds : List D} (h : LsAt K H F p ds) : ∃ u, H p = some u ∧ (∀ ps, u ≠ .tbl ps) ∧ ∀ c q, u ≠ LamX.CodeO c q := by
  obtain ⟨vs, e, _⟩ := h
  exact ⟨_, e, fun ps z => (by cases z), fun c q z => (by unfold LamX.CodeO at z; cases z)⟩
theorem DcAt.u {p : Addr} {ds : List (D × D)} (h : DcAt K H F p ds) : ∃ u, H p = some u ∧ (∀ ps, u ≠ .tbl ps) ∧ ∀ c q, u ≠ LamX.CodeO c q := by
  rcases h with ⟨_, _, e, _⟩ | ⟨_, _, e, _⟩ <;>
  exact ⟨_, e, fun ps z => (by cases z), fun c q z => (by unfold LamX.CodeO at z; cases z)⟩
theorem ObAt.u {p : Addr} {c : Str} {fs : List (Str × (D ⊕ Addr))} (h : ObAt K H F p c fs) : ∃ u, H p = some u ∧ (∀ ps, u ≠ .tbl ps) ∧ ∀ c q, u ≠ LamX.CodeO c q := by
  obtain ⟨C, dx, vs, _, e, _⟩ := h
  exact ⟨_, e, fun ps z => (by cases z), fun c q z => (by unfold LamX.CodeO at z; cases z)⟩
theorem KdAt.u {p : Addr} {m : List (List Int × D)} (h : KdAt K H F p m) : ∃ u, H p = some u ∧ (∀ ps, u ≠ .tbl ps) ∧ ∀ c q, u ≠ LamX.CodeO c q := by
  obtain ⟨kvs, e, _⟩ := h
  exact ⟨_, e, fun ps z => (by cases z), fun c q z => (by unfold LamX.CodeO at z; cases z)⟩
theorem KlAt.u {p : Addr} {ob : PySem.Obj} {kvs : List (List Key × V)} {m : List (List Int × D)} (h : KlAt K H F p ob kvs m) : ∃ u, H p = some u ∧ (∀ ps, u ≠ .tbl ps) ∧ ∀ c q, u ≠ LamX.CodeO c q := by
  obtain ⟨e, _⟩ := h
  exact ⟨_, e, fun ps z => (by cases z), fun c q z => (by unfold LamX.CodeO at z; cases z)⟩
theorem OwnAt.u {p : Addr} : ∀ {o : OD}, OwnAt K H F p o → ∃ u, H p = some u ∧ (∀ ps, u ≠ .tbl ps) ∧ ∀ c q, u ≠ LamX.CodeO c q
  | .lst _, h => LsAt.u h
  | .dct _, h => DcAt.u h
  | .ks _, ⟨bs, e, _⟩ => ⟨_, e, fun ps z => (by cases z), fun c q z => (by unfold LamX.CodeO at z; cases z)⟩
  | .ob _ _, h => ObAt.u h
  | .lsa _ _, h => LsAt.u h.2
  | .dca _ _, h => DcAt.u h.2
  | .oba _ _ _, h => ObAt.u h.2
  | .kd _, h => KdAt.u h
  | .kdl _ _ _ _, h => KlAt.u h.2
  | .kda _ _, h => KdAt.u h.2
theorem OwnAt.there {p : Addr} {o : OD} (h : OwnAt K H F p o) : ∃ u, H p = some u := let ⟨u, e, _⟩ := h.u; ⟨u, e⟩
theorem OwnAt.nt {p : Addr} {o : OD} (h : OwnAt K H F p o) : ∀ u, H p = some u → (∀ ps, u ≠ .tbl ps) ∧ ∀ c q, u ≠ LamX.CodeO c q := fun u hu => by
  obtain ⟨w, e, n⟩ := h.u
  rw [hu] at e
  cases e
  exact n
theorem OwnAt.thereS {p : Addr} {o : OD} (h : OwnAt K H F p o) : ∃ u, strip H p = some u := by
  obtain ⟨u, hu⟩ := h.there
  exact ⟨u, strip_some hu (h.nt u hu).1⟩
theorem LsAt.keep {p : Addr} {ds : List D} (h : LsAt K H F p ds) (e : Same F F') (k : ∀ u, H p = some u → H' p = some u) : LsAt K H' F' p ds := by
  obtain ⟨vs, e1, r⟩ := h
  exact ⟨vs, k _ e1, r.mono e⟩
theorem DcAt.keep {p : Addr} {ds : List (D × D)} (h : DcAt K H F p ds) (e : Same F F') (k : ∀ u, H p = some u → H' p = some u) : DcAt K H' F' p ds := by
  rcases h with ⟨kvs, es, e1, e2, r⟩ | ⟨kvs, es, e1, e2, r⟩
  · exact .inl ⟨kvs, es, k _ e1, e2, r.mono e⟩
  · exact .inr ⟨kvs, es, k _ e1, e2, r.mono e⟩
theorem ObAt.keep {p : Addr} {c : Str} {fs : List (Str × (D ⊕ Addr))} (h : ObAt K H F p c fs) (e : Same F F') (k : ∀ u, H p = some u → H' p = some u) : ObAt K H' F' p c fs := by
  obtain ⟨C, dx, vs, hc, e1, e2, r⟩ := h
  exact ⟨C, dx, vs, hc, k _ e1, e _ _ e2, r.mono e⟩
theorem KdAt.keep {p : Addr} {m : List (List Int × D)} (h : KdAt K H F p m) (e : Same F F') (k : ∀ u, H p = some u → H' p = some u) : KdAt K H' F' p m := by
  obtain ⟨kvs, e1, e2, r⟩ := h
  exact ⟨kvs, k _ e1, e2, r.mono e⟩
theorem KlAt.keep {p : Addr} {ob : PySem.Obj} {kvs : List (List Key × V)} {m : List (List Int × D)} (h : KlAt K H F p ob kvs m) (e : Same F F') (k : ∀ u, H p = some u → H' p = some u) : KlAt K H' F' p ob kvs m := by
  obtain ⟨e1, e2, r⟩ := h
  exact ⟨k _ e1, e2, r.mono e⟩
theorem OwnAt.keep {p : Addr} (e : Same F F') (k : ∀ u, H p = some u → H' p = some u) : ∀ {o : OD}, OwnAt K H F p o → OwnAt K H' F' p o
  | .lst _, h => LsAt.keep h e k
  | .dct _, h => DcAt.keep h e k
  | .ks _, ⟨bs, e1, r⟩ => ⟨bs, k _ e1, r.mono e⟩
  | .ob _ _, h => ObAt.keep h e k
  | .lsa _ _, h => ⟨h.1, LsAt.keep h.2 e k⟩
  | .dca _ _, h => ⟨h.1, DcAt.keep h.2 e k⟩
  | .oba _ _ _, h => ⟨h.1, ObAt.keep h.2 e k⟩
  | .kd _, h => KdAt.keep h e k
  | .kdl _ _ _ _, h => ⟨h.1, KlAt.keep h.2 e k⟩
  | .kda _ _, h => ⟨h.1, KdAt.keep h.2 e k⟩
theorem sm_up {p : Addr} (n : F p = none) : ∀ u, Same F (upd F p u) := fun u b x hb => by
  rw [upd_ne (ne_of_none hb n)]; exact hb
theorem LsAt.freeze {p : Addr} {ds : List D} (h : LsAt K H F p ds) (n : F p = none) : ∃ u, H p = some u ∧ Rep K (upd F p u) (.ref p) (.list ds) := by
  obtain ⟨vs, e1, r⟩ := h
  exact ⟨_, e1, .lst upd_same (r.mono (sm_up n _))⟩
theorem DcAt.freeze {p : Addr} {ds : List (D × D)} (h : DcAt K H F p ds) (n : F p = none) : ∃ u, H p = some u ∧ Rep K (upd F p u) (.ref p) (.dict ds) := by
  rcases h with ⟨kvs, es, e1, rfl, r⟩ | ⟨kvs, es, e1, rfl, r⟩
  · exact ⟨_, e1, .dK upd_same (r.mono (sm_up n _))⟩
  · exact ⟨_, e1, .dT upd_same (r.mono (sm_up n _))⟩
/-- a thing of one's own, let be from here on -/
theorem OwnAt.freeze {p : Addr} (n : F p = none) {o : OD} (ho : o.isOb = false) (h : OwnAt K H F p o) : ∃ u, H p = some u ∧ Rep K (upd F p u) (.ref p) o.toD := by
  cases o with
  | lst ds => exact LsAt.freeze h n
  | dct ds => exact DcAt.freeze h n
  | ks kss =>
    obtain ⟨bs, e1, r⟩ := h
    exact ⟨_, e1, .lst upd_same ((r.mono (sm_up n _)).rep)⟩
  | lsa a ds => exact LsAt.freeze h.2 n
  | dca a ds => exact DcAt.freeze h.2 n
  | ob _ _ => cases ho
  | oba _ _ _ => cases ho
  | kd _ => cases ho
  | kdl _ _ _ _ => cases ho
  | kda _ _ => cases ho
end
def Cl.own : Cl → Bool
  | .ow _ => true
  | .io _ => true
  | _ => false
def RepC (K : W.Frag) (H F : Hp) : V → Cl → Prop
  | v, .fz d => Rep K F v d
  | v, .ow o => ∃ p, v = .ref p ∧ F p = none ∧ OwnAt K H F p o
  | v, .io o => ∃ p, v = .ref p ∧ F p = none ∧ OwnAt K H F p o
  | v, .sc ns => ∃ a, v = .ref a ∧ SqL K F a (ns.map V.int)
  | v, .xn x => (x.g = none → v = .ref x.a ∧ ∀ p, x.f = some p → F p.1 = some (.xd [(("at" : Str), .int p.2)])) ∧ ∀ n, x.g = some n → ∃ a : Addr, v = .ref a ∧ PySem.W.nsIn K mainGlobals n = some (some (.ref a))
  | v, .ky k => ∃ a, v = .ref a ∧ F a = some (.tup (k.map V.int))
  | v, .fo c fs => ∃ p C dx vs, v = .ref p ∧ clsN K c C ∧ F p = some (.ins C dx vs) ∧ F dx = some (.own p) ∧ FsAt K F vs fs
  | v, .fl a d => v = .ref a ∧ Rep K F (.ref a) d
/-- where one came from: the heap at the entry, the part of it that stays, what was lent (by slots), what may be changed besides -/
structure Bd where
  H0 : Hp
  F0 : Hp
  io : Nat → Addr → Prop
  own : Addr → Prop
def Bd.lent (B : Bd) (q : Addr) : Prop := ∃ i, B.io i q
/-- the tables of the defs that make lambdas -/
structure Kept (K : PySem.W.Frag) (B : Bd) (H : Hp) : Prop where
  keep : ∀ q o, B.H0 q = some o → ¬ B.lent q → ¬ B.own q → H q = some o
  nt : ∀ q ps, B.H0 q ≠ some (.tbl ps)
  tabs : LamX.Tabs (tabsK K) H
def SubN (F H : Hp) : Prop := Same F H ∧ ∀ q ps, F q ≠ some (.tbl ps)
theorem tabs_upd {T : List (Addr × Str)} {H : Hp} {p : Addr} {u : HO} (t : LamX.Tabs T H) (n : ∀ o, H p = some o → (∀ ps, o ≠ .tbl ps) ∧ ∀ c q, o ≠ LamX.CodeO c q) : LamX.Tabs T (upd H p u) := fun x hx => by
  obtain ⟨ps, h1, h2, h3⟩ := t x hx
  refine ⟨ps, ?_, h2, fun pos cv hc => ?_⟩
  · by_cases e : x.1 = p
    · rw [e] at h1
      exact absurd rfl ((n _ h1).1 ps)
    · rw [upd_ne e]; exact h1
  · obtain ⟨c, e1, e2⟩ := h3 pos cv hc
    refine ⟨c, e1, ?_⟩
    by_cases e : c = p
    · subst e
      exact absurd rfl ((n _ e2).2 c _)
    · rw [upd_ne e]; exact e2
theorem tabs_new {T : List (Addr × Str)} {H : Hp} {p : Addr} {u : HO} (t : LamX.Tabs T H) (n : H p = none) : LamX.Tabs T (upd H p u) := tabs_upd t fun o h => by rw [n] at h; cases h
/-- a tuple, an exception's dict: it never changes -/
def TupO (o : HO) : Prop := (∃ vs, o = .tup vs) ∨ ∃ fs, o = .xd fs
theorem OwnAt.ntup {K : PySem.W.Frag} {H F : Hp} {p : Addr} {u : HO} : ∀ {o : OD}, OwnAt K H F p o → H p = some u → ¬ TupO u
  | .lst _, ⟨_, e, _⟩, h, t => by rcases t with ⟨_, z⟩ | ⟨_, z⟩ <;> (subst z; rw [h] at e; cases e)
  | .dct _, h', h, t => by
    rcases h' with ⟨_, _, e, _⟩ | ⟨_, _, e, _⟩ <;> rcases t with ⟨_, z⟩ | ⟨_, z⟩ <;> (subst z; rw [h] at e; cases e)
  | .ks _, ⟨_, e, _⟩, h, t => by rcases t with ⟨_, z⟩ | ⟨_, z⟩ <;> (subst z; rw [h] at e; cases e)
  | .ob _ _, ⟨_, _, _, _, e, _⟩, h, t => by rcases t with ⟨_, z⟩ | ⟨_, z⟩ <;> (subst z; rw [h] at e; cases e)
  | .lsa _ _, ⟨_, _, e, _⟩, h, t => by rcases t with ⟨_, z⟩ | ⟨_, z⟩ <;> (subst z; rw [h] at e; cases e)
  | .dca _ _, ⟨_, h'⟩, h, t => by
    rcases h' with ⟨_, _, e, _⟩ | ⟨_, _, e, _⟩ <;> rcases t with ⟨_, z⟩ | ⟨_, z⟩ <;> (subst z; rw [h] at e; cases e)
  | .oba _ _ _, ⟨_, _, _, _, _, e, _⟩, h, t => by rcases t with ⟨_, z⟩ | ⟨_, z⟩ <;> (subst z; rw [h] at e; cases e)
  | .kd _, ⟨_, e, _⟩, h, t => by rcases t with ⟨_, z⟩ | ⟨_, z⟩ <;> (subst z; rw [h] at e; cases e)
  | .kdl _ _ _ _, ⟨_, e, _⟩, h, t => by rcases t with ⟨_, z⟩ | ⟨_, z⟩ <;> (subst z; rw [h] at e; cases e)
  | .kda _ _, ⟨_, _, e, _⟩, h, t => by rcases t with ⟨_, z⟩ | ⟨_, z⟩ <;> (subst z; rw [h] at e; cases e)
theorem up3 {a b c : Prop} (h : a ∨ b) : a ∨ b ∨ c := h.imp_right .inl
/-- the state: slots and heap as the deep state tells; F: the part that stays -/
structure Rl (K : W.Frag) (B : Bd) (σ : L2.St) (H F : Hp) (env : En) : Prop where
  len : env.length = σ.length
  subn : SubN F H
  ext : Same B.F0 F
  new : ∀ q o, F q = some o → B.F0 q = some o ∨ B.H0 q = none ∨ B.own q ∨ TupO o
  kept : Kept K B H
  cell : ∀ (i : Nat) (c : Cl), env[i]? = some (some c) → ∃ v, σ[i]? = some (some v) ∧ RepC K H F v c
  own : ∀ (i : Nat) (o : OD) (p : Addr), env[i]? = some (some (.ow o)) → σ[i]? = some (some (.ref p)) → B.H0 p = none ∨ B.own p
  ion : ∀ (i : Nat) (o : OD) (p : Addr), env[i]? = some (some (.io o)) → σ[i]? = some (some (.ref p)) → B.io i p
  ioc : ∀ (i : Nat) (p : Addr), B.io i p → σ[i]? = some (some (.ref p)) ∧ ∃ o, env[i]? = some (some (.io o))
  dist : ∀ (i j : Nat) (c c' : Cl) (p : Addr), env[i]? = some (some c) → c.own = true → σ[i]? = some (some (.ref p)) → env[j]? = some (some c') → c'.own = true → σ[j]? = some (some (.ref p)) → i = j
section
variable {K : W.Frag} {B : Bd} {σ : L2.St} {H F H' F' : Hp} {env : En}
theorem Rl.sub (R : Rl K B σ H F env) : Same F H := R.subn.1
theorem RepC.keep {v : V} {c : Cl} (r : RepC K H F v c) (e : Same F F') (k : ∀ p u, c.own = true → v = .ref p → H p = some u → F p = none → F' p = none ∧ H' p = some u) : RepC K H' F' v c := by
  cases c with
  | fz d => exact Rep.mono e r
  | ow o =>
    obtain ⟨p, rfl, n, h⟩ := r
    obtain ⟨u, hu⟩ := h.there
    exact ⟨p, rfl, (k p u rfl rfl hu n).1, OwnAt.keep e (fun w hw => (k p w rfl rfl hw n).2) h⟩
  | io o =>
    obtain ⟨p, rfl, n, h⟩ := r
    obtain ⟨u, hu⟩ := h.there
    exact ⟨p, rfl, (k p u rfl rfl hu n).1, OwnAt.keep e (fun w hw => (k p w rfl rfl hw n).2) h⟩
  | sc ns =>
    obtain ⟨a, hv, h⟩ := r
    exact ⟨a, hv, e.seq h⟩
  | xn a => exact ⟨fun hg => ⟨(r.1 hg).1, fun p h => e _ _ ((r.1 hg).2 p h)⟩, r.2⟩
  | ky x =>
    obtain ⟨a, hv, h⟩ := r
    exact ⟨a, hv, e _ _ h⟩
  | fo x y =>
    obtain ⟨p, C, dx, vs, hv, hc, h1, h2, h3⟩ := r
    exact ⟨p, C, dx, vs, hv, hc, e _ _ h1, e _ _ h2, h3.mono e⟩
  | fl x y => exact ⟨r.1, r.2.mono e⟩
theorem Rl.lt (R : Rl K B σ H F env) {i : Nat} {c : Cl} (h : env[i]? = some (some c)) : i < σ.length := by
  have := (List.getElem?_eq_some_iff.mp h).1
  rw [R.len] at this
  exact this
/-- an own thing's address is known and stays out of F -/
theorem Rl.at (R : Rl K B σ H F env) {i : Nat} {c : Cl} (h : env[i]? = some (some c)) (o : c.own = true) : ∃ p, σ[i]? = some (some (.ref p)) ∧ F p = none ∧ ∃ u, H p = some u := by
  obtain ⟨v, e, r⟩ := R.cell i c h
  cases c with
  | fz d => cases o
  | sc ns => cases o
  | xn a => cases o
  | ky k => cases o
  | fo _ _ => cases o
  | fl _ _ => cases o
  | ow o => obtain ⟨p, rfl, n, q⟩ := r; exact ⟨p, e, n, q.there⟩
  | io o => obtain ⟨p, rfl, n, q⟩ := r; exact ⟨p, e, n, q.there⟩
theorem Rl.atS (R : Rl K B σ H F env) {i : Nat} {c : Cl} (h : env[i]? = some (some c)) (o : c.own = true) : ∃ p, σ[i]? = some (some (.ref p)) ∧ F p = none ∧ ∃ u, H p = some u ∧ strip H p = some u ∧ (∀ ps, u ≠ .tbl ps) ∧ ∀ c q, u ≠ LamX.CodeO c q := by
  obtain ⟨v, e, r⟩ := R.cell i c h
  cases c with
  | fz d => cases o
  | sc ns => cases o
  | xn a => cases o
  | ky k => cases o
  | fo _ _ => cases o
  | fl _ _ => cases o
  | ow o => obtain ⟨p, rfl, n, q⟩ := r; obtain ⟨u, hu⟩ := q.there; exact ⟨p, e, n, u, hu, strip_some hu (q.nt u hu).1, q.nt u hu⟩
  | io o => obtain ⟨p, rfl, n, q⟩ := r; obtain ⟨u, hu⟩ := q.there; exact ⟨p, e, n, u, hu, strip_some hu (q.nt u hu).1, q.nt u hu⟩
theorem Rl.ntup (R : Rl K B σ H F env) {i : Nat} {c : Cl} {p : Addr} {u : HO} (h : env[i]? = some (some c)) (o : c.own = true) (e : σ[i]? = some (some (.ref p))) (hu : H p = some u) : ¬ TupO u := by
  obtain ⟨v, e', r⟩ := R.cell i c h
  rw [e] at e'
  cases e'
  cases c with
  | ow o => obtain ⟨p, z, n, q⟩ := r; cases z; exact q.ntup hu
  | io o => obtain ⟨p, z, n, q⟩ := r; cases z; exact q.ntup hu
  | _ => cases o
theorem Rl.freeS (R : Rl K B σ H F env) {p : Addr} (h : strip H p = none) : B.H0 p = none ∨ B.own p := by
  by_cases ho : B.own p
  · exact .inr ho
  by_cases hl : B.lent p
  · obtain ⟨i, hi⟩ := hl
    obtain ⟨e, o, eo⟩ := R.ioc i p hi
    obtain ⟨q, e', _, u, _, hu, _⟩ := R.atS eo rfl
    rw [e] at e'
    cases e'
    rw [h] at hu
    cases hu
  · left
    cases q : B.H0 p with
    | none => rfl
    | some u =>
      have z := R.kept.keep p u q hl ho
      rw [strip_some z (fun ps w => by rw [w] at q; exact R.kept.nt p ps q)] at h; cases h
/-- a free place was free at the entry -/
theorem Rl.free (R : Rl K B σ H F env) {p : Addr} (h : H p = none) : B.H0 p = none ∨ B.own p := R.freeS (strip_none h)
theorem Rl.nF (R : Rl K B σ H F env) {p : Addr} (h : H p = none) : F p = none := by
  cases q : F p with
  | none => rfl
  | some u => rw [R.sub p u q] at h; cases h
theorem same_new {p : Addr} {o : HO} (h : H p = none) : Same H (upd H p o) := fun b x e => by
  rw [upd_ne (ne_of_none e h)]; exact e
theorem get_snoc {α : Type} {l : List α} {x y : α} {i : Nat} (h : (l ++ [x])[i]? = some y) : l[i]? = some y ∨ (i = l.length ∧ y = x) := by
  by_cases hi : i < l.length
  · rw [List.getElem?_append_left hi] at h; exact .inl h
  · by_cases e : i = l.length
    · subst e
      rw [List.getElem?_append_right (Nat.le_refl _), Nat.sub_self] at h
      exact .inr ⟨rfl, (Option.some.inj h).symm⟩
    · rw [List.getElem?_eq_none (by rw [List.length_append, List.length_singleton]; omega)] at h
      cases h
theorem get_pre {α : Type} {l r : List α} {y : α} {i : Nat} (h : l[i]? = some y) : (l ++ r)[i]? = some y := by
  rw [List.getElem?_append_left (List.getElem?_eq_some_iff.mp h).1]; exact h
theorem get_last {α : Type} {l : List α} {x : α} : (l ++ [x])[l.length]? = some x := by
  rw [List.getElem?_append_right (Nat.le_refl _), Nat.sub_self]; rfl
/-- a value that stays, laid beside -/
theorem Rl.push (R : Rl K B σ H F env) {v : V} {d : D} (r : Rep K F v d) : Rl K B (σ ++ [some v]) H F (env ++ [some (.fz d)]) where
  len := by rw [List.length_append, List.length_append, R.len]; rfl
  subn := R.subn
  ext := R.ext
  new := R.new
  kept := R.kept
  cell := fun i c h => by
    rcases get_snoc h with h | ⟨rfl, e⟩
    · obtain ⟨w, e, q⟩ := R.cell i c h
      exact ⟨w, get_pre e, q⟩
    · cases e
      exact ⟨v, by rw [R.len]; exact get_last, r⟩
  own := fun i o p h e => by
    rcases get_snoc h with h | ⟨_, z⟩
    · have hl := R.lt h
      rw [List.getElem?_append_left hl] at e
      exact R.own i o p h e
    · cases z
  ion := fun i o p h e => by
    rcases get_snoc h with h | ⟨_, z⟩
    · have hl := R.lt h
      rw [List.getElem?_append_left hl] at e
      exact R.ion i o p h e
    · cases z
  ioc := fun i p h => by
    obtain ⟨e, o, eo⟩ := R.ioc i p h
    exact ⟨get_pre e, o, get_pre eo⟩
  dist := fun i j c c' p h o e h' o' e' => by
    rcases get_snoc h with h | ⟨_, z⟩
    · rcases get_snoc h' with h' | ⟨_, z⟩
      · rw [List.getElem?_append_left (R.lt h)] at e
        rw [List.getElem?_append_left (R.lt h')] at e'
        exact R.dist i j c c' p h o e h' o' e'
      · cases z; cases o'
    · cases z; cases o
/-- the script, laid beside -/
theorem Rl.pushSc (R : Rl K B σ H F env) {v : V} {ns : List Int} (r : ∃ a, v = .ref a ∧ SqL K F a (ns.map V.int)) : Rl K B (σ ++ [some v]) H F (env ++ [some (.sc ns)]) where
  len := by rw [List.length_append, List.length_append, R.len]; rfl
  subn := R.subn
  ext := R.ext
  new := R.new
  kept := R.kept
  cell := fun i c h => by
    rcases get_snoc h with h | ⟨rfl, e⟩
    · obtain ⟨w, e, q⟩ := R.cell i c h
      exact ⟨w, get_pre e, q⟩
    · cases e
      exact ⟨v, by rw [R.len]; exact get_last, r⟩
  own := fun i o p h e => by
    rcases get_snoc h with h | ⟨_, z⟩
    · have hl := R.lt h
      rw [List.getElem?_append_left hl] at e
      exact R.own i o p h e
    · cases z
  ion := fun i o p h e => by
    rcases get_snoc h with h | ⟨_, z⟩
    · have hl := R.lt h
      rw [List.getElem?_append_left hl] at e
      exact R.ion i o p h e
    · cases z
  ioc := fun i p h => by
    obtain ⟨e, o, eo⟩ := R.ioc i p h
    exact ⟨get_pre e, o, get_pre eo⟩
  dist := fun i j c c' p h o e h' o' e' => by
    rcases get_snoc h with h | ⟨_, z⟩
    · rcases get_snoc h' with h' | ⟨_, z⟩
      · rw [List.getElem?_append_left (R.lt h)] at e
        rw [List.getElem?_append_left (R.lt h')] at e'
        exact R.dist i j c c' p h o e h' o' e'
      · cases z; cases o'
    · cases z; cases o
/-- a caught exception, laid beside -/
theorem Rl.pushXn (R : Rl K B σ H F env) {v : V} {a : XA} (r : RepC K H F v (.xn a)) : Rl K B (σ ++ [some v]) H F (env ++ [some (.xn a)]) where
  len := by rw [List.length_append, List.length_append, R.len]; rfl
  subn := R.subn
  ext := R.ext
  new := R.new
  kept := R.kept
  cell := fun i c h => by
    rcases get_snoc h with h | ⟨rfl, e⟩
    · obtain ⟨w, e, q⟩ := R.cell i c h
      exact ⟨w, get_pre e, q⟩
    · cases e
      exact ⟨v, by rw [R.len]; exact get_last, r⟩
  own := fun i o p h e => by
    rcases get_snoc h with h | ⟨_, z⟩
    · have hl := R.lt h
      rw [List.getElem?_append_left hl] at e
      exact R.own i o p h e
    · cases z
  ion := fun i o p h e => by
    rcases get_snoc h with h | ⟨_, z⟩
    · have hl := R.lt h
      rw [List.getElem?_append_left hl] at e
      exact R.ion i o p h e
    · cases z
  ioc := fun i p h => by
    obtain ⟨e, o, eo⟩ := R.ioc i p h
    exact ⟨get_pre e, o, get_pre eo⟩
  dist := fun i j c c' p h o e h' o' e' => by
    rcases get_snoc h with h | ⟨_, z⟩
    · rcases get_snoc h' with h' | ⟨_, z⟩
      · rw [List.getElem?_append_left (R.lt h)] at e
        rw [List.getElem?_append_left (R.lt h')] at e'
        exact R.dist i j c c' p h o e h' o' e'
      · cases z; cases o'
    · cases z; cases o
/-- a key, laid beside -/
theorem Rl.pushKy (R : Rl K B σ H F env) {v : V} {k : List Int} (r : ∃ a, v = .ref a ∧ F a = some (.tup (k.map V.int))) : Rl K B (σ ++ [some v]) H F (env ++ [some (.ky k)]) where
  len := by rw [List.length_append, List.length_append, R.len]; rfl
  subn := R.subn
  ext := R.ext
  new := R.new
  kept := R.kept
  cell := fun i c h => by
    rcases get_snoc h with h | ⟨rfl, e⟩
    · obtain ⟨w, e, q⟩ := R.cell i c h
      exact ⟨w, get_pre e, q⟩
    · cases e
      exact ⟨v, by rw [R.len]; exact get_last, r⟩
  own := fun i o p h e => by
    rcases get_snoc h with h | ⟨_, z⟩
    · have hl := R.lt h
      rw [List.getElem?_append_left hl] at e
      exact R.own i o p h e
    · cases z
  ion := fun i o p h e => by
    rcases get_snoc h with h | ⟨_, z⟩
    · have hl := R.lt h
      rw [List.getElem?_append_left hl] at e
      exact R.ion i o p h e
    · cases z
  ioc := fun i p h => by
    obtain ⟨e, o, eo⟩ := R.ioc i p h
    exact ⟨get_pre e, o, get_pre eo⟩
  dist := fun i j c c' p h o e h' o' e' => by
    rcases get_snoc h with h | ⟨_, z⟩
    · rcases get_snoc h' with h' | ⟨_, z⟩
      · rw [List.getElem?_append_left (R.lt h)] at e
        rw [List.getElem?_append_left (R.lt h')] at e'
        exact R.dist i j c c' p h o e h' o' e'
      · cases z; cases o'
    · cases z; cases o
/-- an instance that is let be, laid beside -/
theorem Rl.pushFo (R : Rl K B σ H F env) {v : V} {c : Str} {fs : List (Str × (D ⊕ Addr))} (r : RepC K H F v (.fo c fs)) : Rl K B (σ ++ [some v]) H F (env ++ [some (.fo c fs)]) where
  len := by rw [List.length_append, List.length_append, R.len]; rfl
  subn := R.subn
  ext := R.ext
  new := R.new
  kept := R.kept
  cell := fun i c h => by
    rcases get_snoc h with h | ⟨rfl, e⟩
    · obtain ⟨w, e, q⟩ := R.cell i c h
      exact ⟨w, get_pre e, q⟩
    · cases e
      exact ⟨v, by rw [R.len]; exact get_last, r⟩
  own := fun i o p h e => by
    rcases get_snoc h with h | ⟨_, z⟩
    · have hl := R.lt h
      rw [List.getElem?_append_left hl] at e
      exact R.own i o p h e
    · cases z
  ion := fun i o p h e => by
    rcases get_snoc h with h | ⟨_, z⟩
    · have hl := R.lt h
      rw [List.getElem?_append_left hl] at e
      exact R.ion i o p h e
    · cases z
  ioc := fun i p h => by
    obtain ⟨e, o, eo⟩ := R.ioc i p h
    exact ⟨get_pre e, o, get_pre eo⟩
  dist := fun i j c c' p h o e h' o' e' => by
    rcases get_snoc h with h | ⟨_, z⟩
    · rcases get_snoc h' with h' | ⟨_, z⟩
      · rw [List.getElem?_append_left (R.lt h)] at e
        rw [List.getElem?_append_left (R.lt h')] at e'
        exact R.dist i j c c' p h o e h' o' e'
      · cases z; cases o'
    · cases z; cases o
/-- its list, laid beside -/
theorem Rl.pushFl (R : Rl K B σ H F env) {v : V} {a : Addr} {d : D} (r : RepC K H F v (.fl a d)) : Rl K B (σ ++ [some v]) H F (env ++ [some (.fl a d)]) where
  len := by rw [List.length_append, List.length_append, R.len]; rfl
  subn := R.subn
  ext := R.ext
  new := R.new
  kept := R.kept
  cell := fun i c h => by
    rcases get_snoc h with h | ⟨rfl, e⟩
    · obtain ⟨w, e, q⟩ := R.cell i c h
      exact ⟨w, get_pre e, q⟩
    · cases e
      exact ⟨v, by rw [R.len]; exact get_last, r⟩
  own := fun i o p h e => by
    rcases get_snoc h with h | ⟨_, z⟩
    · have hl := R.lt h
      rw [List.getElem?_append_left hl] at e
      exact R.own i o p h e
    · cases z
  ion := fun i o p h e => by
    rcases get_snoc h with h | ⟨_, z⟩
    · have hl := R.lt h
      rw [List.getElem?_append_left hl] at e
      exact R.ion i o p h e
    · cases z
  ioc := fun i p h => by
    obtain ⟨e, o, eo⟩ := R.ioc i p h
    exact ⟨get_pre e, o, get_pre eo⟩
  dist := fun i j c c' p h o e h' o' e' => by
    rcases get_snoc h with h | ⟨_, z⟩
    · rcases get_snoc h' with h' | ⟨_, z⟩
      · rw [List.getElem?_append_left (R.lt h)] at e
        rw [List.getElem?_append_left (R.lt h')] at e'
        exact R.dist i j c c' p h o e h' o' e'
      · cases z; cases o'
    · cases z; cases o
/-- the heap grows by what stays -/
theorem Rl.grow (R : Rl K B σ H F env) {p : Addr} {u : HO} (n : H p = none) (nt : ∀ ps, u ≠ .tbl ps := by intro ps z; cases z) : Rl K B σ (upd H p u) (upd F p u) env where
  len := R.len
  subn := by
    refine ⟨fun b o h => ?_, fun b ps h => ?_⟩
    · by_cases e : b = p
      · subst e; rw [upd_same] at h ⊢; exact h
      · rw [upd_ne e] at h ⊢; exact R.sub b o h
    · by_cases e : b = p
      · subst e; rw [upd_same] at h; cases h; exact nt _ rfl
      · rw [upd_ne e] at h; exact R.subn.2 b ps h
  ext := R.ext.trans (same_new (R.nF n))
  new := fun q o h => by
    by_cases e : q = p
    · subst e; exact .inr (up3 (R.free n))
    · rw [upd_ne e] at h; exact R.new q o h
  kept := ⟨fun q o h1 h2 h3 => same_new n q o (R.kept.keep q o h1 h2 h3), R.kept.nt, tabs_new R.kept.tabs n⟩
  cell := fun i c h => by
    obtain ⟨v, e, r⟩ := R.cell i c h
    refine ⟨v, e, r.keep (same_new (R.nF n)) fun q u _ _ hu hn => ?_⟩
    have ne : q ≠ p := ne_of_none hu n
    rw [upd_ne ne, upd_ne ne]
    exact ⟨hn, hu⟩
  own := R.own
  ion := R.ion
  ioc := R.ioc
  dist := R.dist
/-- a new thing of one's own -/
theorem Rl.fresh (R : Rl K B σ H F env) {p : Addr} {u : HO} {o : OD} (n : H p = none) (h : OwnAt K (upd H p u) F p o) : Rl K B (σ ++ [some (.ref p)]) (upd H p u) F (env ++ [some (.ow o)]) where
  len := by rw [List.length_append, List.length_append, R.len]; rfl
  subn := ⟨R.sub.trans (same_new n), R.subn.2⟩
  ext := R.ext
  new := R.new
  kept := ⟨fun q o h1 h2 h3 => same_new n q o (R.kept.keep q o h1 h2 h3), R.kept.nt, tabs_new R.kept.tabs n⟩
  cell := fun i c h' => by
    rcases get_snoc h' with h' | ⟨rfl, e⟩
    · obtain ⟨w, e, q⟩ := R.cell i c h'
      refine ⟨w, get_pre e, q.keep (Same.refl F) fun q u _ _ hu hn => ?_⟩
      rw [upd_ne (ne_of_none hu n)]
      exact ⟨hn, hu⟩
    · cases e
      exact ⟨_, by rw [R.len]; exact get_last, p, rfl, R.nF n, h⟩
  own := fun i o' q h' e => by
    rcases get_snoc h' with h' | ⟨rfl, z⟩
    · rw [List.getElem?_append_left (R.lt h')] at e
      exact R.own i o' q h' e
    · rw [R.len, get_last] at e
      cases e
      exact R.free n
  ion := fun i o' q h' e => by
    rcases get_snoc h' with h' | ⟨rfl, z⟩
    · rw [List.getElem?_append_left (R.lt h')] at e
      exact R.ion i o' q h' e
    · cases z
  ioc := fun i q h' => by
    obtain ⟨e, o, eo⟩ := R.ioc i q h'
    exact ⟨get_pre e, o, get_pre eo⟩
  dist := fun i j c c' q h1 o1 e1 h2 o2 e2 => by
    have old : ∀ {i : Nat} {c : Cl}, env[i]? = some (some c) → c.own = true → σ[i]? = some (some (.ref p)) → False := fun {i c} h o e => by
      obtain ⟨q, e', _, u, hu⟩ := R.at h o
      rw [e] at e'; cases e'
      rw [n] at hu; cases hu
    rcases get_snoc h1 with h1 | ⟨rfl, z1⟩
    · rw [List.getElem?_append_left (R.lt h1)] at e1
      rcases get_snoc h2 with h2 | ⟨rfl, z2⟩
      · rw [List.getElem?_append_left (R.lt h2)] at e2
        exact R.dist i j c c' q h1 o1 e1 h2 o2 e2
      · rw [R.len, get_last] at e2
        cases e2
        exact (old h1 o1 e1).elim
    · rw [R.len, get_last] at e1
      cases e1
      rcases get_snoc h2 with h2 | ⟨rfl, z2⟩
      · rw [List.getElem?_append_left (R.lt h2)] at e2
        exact (old h2 o2 e2).elim
      · rfl
/-- the last slot forgotten -/
theorem Rl.pop {w : Option V} {c : Option Cl} (R : Rl K B (σ ++ [w]) H F (env ++ [c])) (nio : ∀ p, ¬ B.io σ.length p) : Rl K B σ H F env := by
  have hl : env.length = σ.length := by
    have := R.len
    rw [List.length_append, List.length_append] at this
    simpa using this
  have lt : ∀ {i : Nat} {c : Cl}, env[i]? = some (some c) → i < σ.length := fun {i c} h => by
    rw [← hl]; exact (List.getElem?_eq_some_iff.mp h).1
  refine ⟨hl, R.subn, R.ext, R.new, R.kept, fun i c h => ?_, fun i o p h e => R.own i o p (get_pre h) (get_pre e), fun i o p h e => R.ion i o p (get_pre h) (get_pre e), fun i p h => ?_, fun i j c c' p h o e h' o' e' => R.dist i j c c' p (get_pre h) o (get_pre e) (get_pre h') o' (get_pre e')⟩
  · obtain ⟨v, e, r⟩ := R.cell i c (get_pre h)
    rw [List.getElem?_append_left (lt h)] at e
    exact ⟨v, e, r⟩
  · obtain ⟨e, o, eo⟩ := R.ioc i p h
    have hi : i < σ.length := by
      rcases get_snoc e with e | ⟨rfl, _⟩
      · exact (List.getElem?_eq_some_iff.mp e).1
      · exact (nio p h).elim
    rw [List.getElem?_append_left hi] at e
    rw [List.getElem?_append_left (by rw [hl]; exact hi)] at eo
    exact ⟨e, o, eo⟩
end
end Sw

/-! readings over the deep state -/
namespace Sw
open PySem L2
/-- the state looked at anew -/
def Bd.at (B : Bd) (σ : L2.St) (H F : Hp) (env : En) : Bd := ⟨strip H, F, B.io, fun p => ∃ (i : Nat) (o : OD), env[i]? = some (some (.ow o)) ∧ σ[i]? = some (some (.ref p))⟩
section
variable {K : PySem.W.Frag} {B : Bd} {σ σ' : L2.St} {H F H' F' : Hp} {env env' : En}
theorem Rl.rebase (R : Rl K B σ H F env) : Rl K (B.at σ H F env) σ H F env :=
  ⟨R.len, R.subn, Same.refl F, fun _ _ h => .inl h, ⟨fun _ _ h _ _ => (strip_get h).1, fun q ps h => (strip_get h).2 ps rfl, R.kept.tabs⟩, R.cell, fun i o p h e => .inr ⟨i, o, h, e⟩, R.ion, R.ioc, R.dist⟩
theorem Rl.lentH (R : Rl K B σ H F env) {p : Addr} (h : B.lent p) : ∃ (i : Nat) (o : OD), env[i]? = some (some (.io o)) ∧ σ[i]? = some (some (.ref p)) ∧ (∃ u, strip H p = some u) ∧ F p = none := by
  obtain ⟨i, hi⟩ := h
  obtain ⟨e, o, eo⟩ := R.ioc i p hi
  obtain ⟨q, e', n, u, _, hu, _⟩ := R.atS eo rfl
  rw [e] at e'
  cases e'
  exact ⟨i, o, eo, e, ⟨u, hu⟩, n⟩
theorem Kept.back (R : Rl K B σ H F env) (k : Kept K (B.at σ H F env) H') : Kept K B H' := by
  refine ⟨fun q o h nl no => ?_, R.kept.nt, k.tabs⟩
  refine k.keep q o (strip_some (R.kept.keep q o h nl no) fun ps z => by rw [z] at h; exact R.kept.nt q ps h) nl fun ⟨i, u, h1, h2⟩ => ?_
  rcases R.own i u q h1 h2 with e | e
  · rw [h] at e; cases e
  · exact no e
theorem Rl.back (R : Rl K B σ H F env) (R2 : Rl K (B.at σ H F env) σ' H' F' env') : Rl K B σ' H' F' env' where
  len := R2.len
  subn := R2.subn
  ext := R.ext.trans R2.ext
  new := fun q o h => by
    rcases R2.new q o h with e | e | ⟨i, u, h1, h2⟩ | e
    · exact R.new q o e
    · exact .inr (up3 (R.freeS e))
    · exact .inr (up3 (R.own i u q h1 h2))
    · exact .inr (.inr (.inr e))
  kept := Kept.back R R2.kept
  cell := R2.cell
  own := fun i o p h e => by
    rcases R2.own i o p h e with e | ⟨j, u, h1, h2⟩
    · exact R.freeS e
    · exact R.own j u p h1 h2
  ion := R2.ion
  ioc := R2.ioc
  dist := R2.dist
theorem Rl.nio (R : Rl K B σ H F env) : ∀ p, ¬ B.io σ.length p := fun p h => by
  obtain ⟨e, _⟩ := R.ioc _ p h
  exact absurd (List.getElem?_eq_some_iff.mp e).1 (Nat.lt_irrefl _)
/-- a cell laid beside -/
theorem Rl.pushC (R : Rl K B σ H F env) {v : V} {c : Cl} (r : RepC K H F v c) (hio : ∀ o, c ≠ .io o) (how : ∀ o p, c = .ow o → v = .ref p → (B.H0 p = none ∨ B.own p) ∧ ∀ (j : Nat) (c' : Cl), env[j]? = some (some c') → c'.own = true → σ[j]? ≠ some (some (.ref p))) :
    Rl K B (σ ++ [some v]) H F (env ++ [some c]) := by
  cases c with
  | fz d => exact R.push r
  | io o => exact absurd rfl (hio o)
  | sc ns => exact R.pushSc r
  | xn a => exact R.pushXn r
  | ky k => exact R.pushKy r
  | fo _ _ => exact R.pushFo r
  | fl _ _ => exact R.pushFl r
  | ow o =>
    obtain ⟨p, rfl, n, ho⟩ := r
    obtain ⟨w1, w2⟩ := how o p rfl rfl
    refine ⟨by rw [List.length_append, List.length_append, R.len]; rfl, R.subn, R.ext, R.new, R.kept, fun i c h => ?_, fun i o' q h e => ?_, fun i o' q h e => ?_, fun i q h => ?_, fun i j c c' q h1 o1 e1 h2 o2 e2 => ?_⟩
    · rcases get_snoc h with h | ⟨rfl, e⟩
      · obtain ⟨w, e, q⟩ := R.cell i c h
        exact ⟨w, get_pre e, q⟩
      · cases e
        exact ⟨_, by rw [R.len]; exact get_last, p, rfl, n, ho⟩
    · rcases get_snoc h with h | ⟨rfl, z⟩
      · rw [List.getElem?_append_left (R.lt h)] at e
        exact R.own i o' q h e
      · rw [R.len, get_last] at e
        cases e
        exact w1
    · rcases get_snoc h with h | ⟨rfl, z⟩
      · rw [List.getElem?_append_left (R.lt h)] at e
        exact R.ion i o' q h e
      · cases z
    · obtain ⟨e, o, eo⟩ := R.ioc i q h
      exact ⟨get_pre e, o, get_pre eo⟩
    · rcases get_snoc h1 with h1 | ⟨rfl, z1⟩
      · rw [List.getElem?_append_left (R.lt h1)] at e1
        rcases get_snoc h2 with h2 | ⟨rfl, z2⟩
        · rw [List.getElem?_append_left (R.lt h2)] at e2
          exact R.dist i j c c' q h1 o1 e1 h2 o2 e2
        · rw [R.len, get_last] at e2
          cases e2
          exact (w2 i c h1 o1 e1).elim
      · rw [R.len, get_last] at e1
        cases e1
        rcases get_snoc h2 with h2 | ⟨rfl, z2⟩
        · rw [List.getElem?_append_left (R.lt h2)] at e2
          exact (w2 j c' h2 o2 e2).elim
        · rfl
/-- a temporary thing is carried through what comes behind it -/
theorem Rl.carry {v : V} {c : Cl} (R1 : Rl K B (σ ++ [some v]) H F (env ++ [some c])) (nio : ∀ p, ¬ B.io σ.length p) (R2 : Rl K (B.at σ H F env) σ' H' F' env') : Rl K B (σ' ++ [some v]) H' F' (env' ++ [some c]) := by
  have R : Rl K B σ H F env := R1.pop nio
  have ec : (env ++ [some c])[σ.length]? = some (some c) := by rw [← R.len]; exact get_last
  have ev : (σ ++ [some v])[σ.length]? = some (some v) := get_last
  obtain ⟨v', e', rc⟩ := R1.cell _ c ec
  rw [ev] at e'
  cases e'
  have nl : c.own = true → ∀ p, v = .ref p → ¬ B.lent p := fun o p hv hl => by
    obtain ⟨i, u, h1, h2, _⟩ := R.lentH hl
    have := R1.dist σ.length i c _ p ec o (by rw [ev, hv]) (get_pre h1) rfl (get_pre h2)
    have lt := R.lt h1
    omega
  have nown : c.own = true → ∀ p, v = .ref p → ¬ (B.at σ H F env).own p := fun o p hv ⟨i, u, h1, h2⟩ => by
    have := R1.dist σ.length i c _ p ec o (by rw [ev, hv]) (get_pre h1) rfl (get_pre h2)
    have lt := R.lt h1
    omega
  have hS : c.own = true → ∀ p, v = .ref p → ∀ u, H p = some u → strip H p = some u := fun o p hv u hu => by
    obtain ⟨p', e', _, u', hu', hs, _⟩ := R1.atS ec o
    rw [ev, hv] at e'
    cases e'
    rw [hu] at hu'
    cases hu'
    exact hs
  refine (R.back R2).pushC (rc.keep R2.ext fun p u o hv hu hn => ⟨?_, R2.kept.keep p u (hS o p hv u hu) (nl o p hv) (nown o p hv)⟩) (fun o e => ?_) fun o p e hv => ⟨?_, fun j c' h o' e' => ?_⟩
  · cases q : F' p with
    | none => rfl
    | some w =>
      rcases R2.new p w q with z | z | z | z
      · have z : F p = some w := z
        rw [hn] at z; cases z
      · have z : strip H p = none := z
        rw [hS o p hv u hu] at z; cases z
      · exact (nown o p hv z).elim
      · have e1 := R2.sub p w q
        rw [R2.kept.keep p u (hS o p hv u hu) (nl o p hv) (nown o p hv)] at e1
        cases e1
        exact (R1.ntup ec o (by rw [ev, hv]) hu z).elim
  · subst e
    obtain ⟨p, hv, _⟩ := rc
    exact nio p (R1.ion _ o p ec (by rw [ev, hv]))
  · subst e
    exact R1.own _ o p ec (by rw [ev, hv])
  · subst e
    obtain ⟨p', hv', n, ho⟩ := rc
    rw [hv] at hv'
    cases hv'
    obtain ⟨u, hu⟩ := ho.thereS
    cases c' with
    | fz d => cases o'
    | sc ns => cases o'
    | xn a => cases o'
    | ky k => cases o'
    | fo _ _ => cases o'
    | fl _ _ => cases o'
    | ow o2 =>
      rcases R2.own j o2 p h e' with z | z
      · have z : strip H p = none := z
        rw [hu] at z; cases z
      · exact nown rfl p hv z
    | io o2 => exact nl rfl p hv ⟨j, R2.ion j o2 p h e'⟩
/-- the value beside, looked at -/
theorem Rl.top {v : V} {c : Cl} (R1 : Rl K B (σ ++ [some v]) H F (env ++ [some c])) (hl : env.length = σ.length) : RepC K H F v c := by
  obtain ⟨v', e', rc⟩ := R1.cell env.length c get_last
  rw [hl, get_last] at e'
  cases e'
  exact rc
/-- what may be read: what stays, or a thing of one's own as it stands -/
def RepR (K : PySem.W.Frag) (H F : Hp) (v : V) (d : D) : Prop := Rep K F v d ∨ (∃ p ds, v = .ref p ∧ d = .list ds ∧ LsAt K H F p ds) ∨ ∃ p ds, v = .ref p ∧ d = .dict ds ∧ DcAt K H F p ds
theorem OwnAt.rd {K : PySem.W.Frag} {H F : Hp} {p : Addr} {o : OD} (ho : o.isOb = false) (h : OwnAt K H F p o) : RepR K H F (.ref p) o.toD := by
  cases o with
  | lst ds => exact .inr (.inl ⟨_, _, rfl, rfl, h⟩)
  | dct ds => exact .inr (.inr ⟨_, _, rfl, rfl, h⟩)
  | ks kss =>
    obtain ⟨bs, e, h⟩ := h
    exact .inr (.inl ⟨_, _, rfl, rfl, _, e, h.rep⟩)
  | lsa a ds => exact .inr (.inl ⟨_, _, rfl, rfl, h.2⟩)
  | dca a ds => exact .inr (.inr ⟨_, _, rfl, rfl, h.2⟩)
  | ob _ _ => cases ho
  | oba _ _ _ => cases ho
  | kd _ => cases ho
  | kdl _ _ _ _ => cases ho
  | kda _ _ => cases ho
theorem RepC.rd {v : V} {c : Cl} (r : RepC K H F v c) (n : c.isSc = false) : RepR K H F v c.toD := by
  cases c with
  | sc ns => cases n
  | xn a => cases n
  | fo _ _ => cases n
  | fl _ _ => cases n
  | ky k =>
    obtain ⟨a, rfl, h⟩ := r
    exact .inl (.tup (.inl (.inl h)) (RepL.of_ints _))
  | fz d => exact .inl r
  | ow o => obtain ⟨p, rfl, _, h⟩ := r; exact OwnAt.rd n h
  | io o => obtain ⟨p, rfl, _, h⟩ := r; exact OwnAt.rd n h
/-- the value beside is let be: it stays from here on -/
theorem Rl.freeze {v : V} {c : Cl} (R1 : Rl K B (σ ++ [some v]) H F (env ++ [some c])) (nio : ∀ p, ¬ B.io σ.length p) (nsc : c.isSc = false) : ∃ F', Same F F' ∧ Rl K B σ H F' env ∧ Rep K F' v c.toD := by
  have R : Rl K B σ H F env := R1.pop nio
  have rc := R1.top R.len
  have ec : (env ++ [some c])[σ.length]? = some (some c) := by rw [← R.len]; exact get_last
  have ev : (σ ++ [some v])[σ.length]? = some (some v) := get_last
  cases c with
  | fz d => exact ⟨F, Same.refl F, R, rc⟩
  | sc ns => cases nsc
  | xn a => cases nsc
  | fo _ _ => cases nsc
  | fl _ _ => cases nsc
  | ky k =>
    obtain ⟨a, rfl, h⟩ := rc
    exact ⟨F, Same.refl F, R, .tup (.inl (.inl h)) (RepL.of_ints _)⟩
  | io o =>
    obtain ⟨p, hv, _⟩ := rc
    exact (nio p (R1.ion _ o p ec (by rw [ev, hv]))).elim
  | ow o =>
    obtain ⟨p, hv, n, ho⟩ := rc
    subst hv
    obtain ⟨u, hu, r⟩ := OwnAt.freeze n nsc ho
    have nu := (ho.nt u hu).1
    have sm : Same F (upd F p u) := same_new n
    have other : ∀ {j : Nat} {c' : Cl}, env[j]? = some (some c') → c'.own = true → σ[j]? ≠ some (some (.ref p)) := fun {j c'} h o' e => by
      have := R1.dist σ.length j _ _ p ec rfl ev (get_pre h) o' (get_pre e)
      have lt := R.lt h
      omega
    refine ⟨upd F p u, sm, ⟨R.len, ⟨fun b x h => ?_, fun b ps h => ?_⟩, R.ext.trans sm, fun q x h => ?_, R.kept, fun i c h => ?_, R.own, R.ion, R.ioc, R.dist⟩, r⟩
    · by_cases e : b = p
      · subst e; rw [upd_same] at h; rw [← h]; exact hu
      · rw [upd_ne e] at h; exact R.sub b x h
    · by_cases e : b = p
      · subst e; rw [upd_same] at h; cases h; exact nu _ rfl
      · rw [upd_ne e] at h; exact R.subn.2 b ps h
    · by_cases e : q = p
      · subst e; exact .inr (up3 (R1.own _ o q ec ev))
      · rw [upd_ne e] at h; exact R.new q x h
    · obtain ⟨w, e, q⟩ := R.cell i c h
      refine ⟨w, e, q.keep sm fun a x o' hw hx hn => ⟨?_, hx⟩⟩
      rw [upd_ne (fun z => other h o' (by rw [e, hw, z]))]
      exact hn
end
/-! ### exceptions -/
abbrev Exn := Str × Option Int
abbrev XP := Exn → Prop
def ExnIs (mg : Str → Option Value) (H : Hp) (x : Exn) (cls : Value) (d : Option Addr) : Prop :=
  ∃ C, mg x.1 = some (.ref C) ∧ cls = .ref C ∧ match x.2 with
    | none => d = none
    | some i => ∃ dd, d = some dd ∧ H dd = some (.xd [(("at" : Str), .int i)])
/-! ### readings -/
abbrev EK := Cl → En → Prop
abbrev WE := En → EK → XP → Prop
abbrev WT := En → (Bool → En → Prop) → XP → Prop
def EOk (K : PySem.W.Frag) (B : Bd) (σ : L2.St) (F : Hp) (P : EK) (Q : VK) : Prop := ∀ c env' v H' F', P c env' → Rl K B (σ ++ [some v]) H' F' (env' ++ [some c]) → Same F F' → Q v H'
def XOk (K : PySem.W.Frag) (mg : Str → Option Value) (B : Bd) (W : WX) (Y : XP) : Prop := ∀ x σ' H' cls d, Y x → ExnIs mg H' x cls d → Kept K B H' → W cls d σ' H'
def semE (X : Cx) (W : WX) (f : WE) : TE := fun σ H Q => ∃ (B : Bd) (F : Hp) (env : En) (P : EK) (Y : XP), Rl X.K B σ H F env ∧ f env P Y ∧ EOk X.K B σ F P Q ∧ XOk X.K X.mg B W Y
def TOk (K : PySem.W.Frag) (B : Bd) (σ : L2.St) (F : Hp) (P : Bool → En → Prop) (Q : Bool → Hp → Prop) : Prop := ∀ b env' H' F', P b env' → Rl K B σ H' F' env' → Same F F' → Q b H'
def semT (X : Cx) (W : WX) (f : WT) : TT := fun σ H Q => ∃ (B : Bd) (F : Hp) (env : En) (P : Bool → En → Prop) (Y : XP), Rl X.K B σ H F env ∧ f env P Y ∧ TOk X.K B σ F P Q ∧ XOk X.K X.mg B W Y
theorem peOf {X : Cx} {e : Expr} {t t' : TE} (h : PE X e t) (i : ∀ σ H Q, t' σ H Q → t σ H Q) : PE X e t' := ⟨fun pins s σ H Q I q => h.run pins s σ H Q I (i σ H Q q)⟩
theorem ptOf {X : Cx} {e : Expr} {t t' : TT} (h : PT X e t) (i : ∀ σ H Q, t' σ H Q → t σ H Q) : PT X e t' := ⟨fun pins s σ H Q I q => h.run pins s σ H Q I (i σ H Q q)⟩
theorem pwOf {X : Cx} {e : Expr} {t t' : TT} (h : PW X e t) (i : ∀ σ H Q, t' σ H Q → t σ H Q) : PW X e t' := ⟨fun wh pins s σ H Q I q => h.run wh pins s σ H Q I (i σ H Q q)⟩
theorem paOf {X : Cx} {es : List Expr} {t t' : TA} (h : PA X es t) (i : ∀ σ H Q, t' σ H Q → t σ H Q) : PA X es t' := ⟨fun pos pins s σ H Q I q => h.run pos pins s σ H Q I (i σ H Q q)⟩
theorem psOf {X : Cx} {st : Stmt} {t t' : TS} (h : PS X st t) (i : ∀ D σ H, t' D σ H → t D σ H) : PS X st t' := ⟨fun pins s σ H D I q => h.run pins s σ H D I (i D σ H q)⟩
theorem pssOf {X : Cx} {st : List Stmt} {t t' : TS} (h : PSs X st t) (i : ∀ D σ H, t' D σ H → t D σ H) : PSs X st t' := ⟨fun pins s σ H D I q => h.run pins s σ H D I (i D σ H q)⟩
theorem XOk.back {K : PySem.W.Frag} {mg : Str → Option Value} {B : Bd} {σ : L2.St} {H F : Hp} {env : En} {W : WX} {Y : XP} (R : Rl K B σ H F env) (x : XOk K mg B W Y) : XOk K mg (B.at σ H F env) W Y :=
  fun e σ' H' cls d y i k => x e σ' H' cls d y i (Kept.back R k)
/-! ### leaves -/
@[simp ↓] def eD (d : D) : WE := fun env P _ => P (.fz d) env
def eVar (i : Nat) : WE := fun env P _ => ∃ c, env[i]? = some (some c) ∧ match c with
  | .fz d => P (.fz d) env
  | .ow o => o.isOb = false ∧ P (.fz o.toD) (env.set i (some (.fz o.toD)))
  | .io _ => False
  | .sc ns => P (.sc ns) env
  | .xn a => P (.xn a) env
  | .ky k => P (.fz (keyT k)) env
  | .fo _ _ => False
  | .fl _ _ => False
section
variable {X : Cx} {W : WX} {e : Expr}
theorem pe_constD {v : V} {d : D} (h : PE X e (tC v)) (r : ∀ F, Rep X.K F v d) : PE X e (semE X W (eD d)) :=
  peOf h fun σ H Q ⟨B, F, env, P, Y, R, p, ok, _⟩ => ok _ _ _ _ _ p (R.push (r F)) (Same.refl F)
/-- a slot let be -/
theorem Rl.freezeAt {K : PySem.W.Frag} {B : Bd} {σ : L2.St} {H F : Hp} {env : En} {i : Nat} {o : OD} (R : Rl K B σ H F env) (h : env[i]? = some (some (.ow o))) (no : o.isOb = false) :
    ∃ p F', σ[i]? = some (some (.ref p)) ∧ Same F F' ∧ Rep K F' (.ref p) o.toD ∧ Rl K B σ H F' (env.set i (some (.fz o.toD))) := by
  obtain ⟨v, e, p, rfl, n, ho⟩ := R.cell i _ h
  obtain ⟨u, hu, r⟩ := OwnAt.freeze n no ho
  have nu := (ho.nt u hu).1
  have sm : Same F (upd F p u) := same_new n
  have hi := R.lt h
  have hie : i < env.length := (List.getElem?_eq_some_iff.mp h).1
  have old : ∀ {j : Nat} {c' : Cl}, (env.set i (some (.fz o.toD)))[j]? = some (some c') → (j = i ∧ c' = .fz o.toD) ∨ (j ≠ i ∧ env[j]? = some (some c')) := fun {j c'} q => by
    by_cases z : j = i
    · subst z
      rw [List.getElem?_set_self hie] at q
      cases q
      exact .inl ⟨rfl, rfl⟩
    · rw [List.getElem?_set_ne (Ne.symm z)] at q
      exact .inr ⟨z, q⟩
  refine ⟨p, upd F p u, e, sm, r, ⟨by rw [List.length_set]; exact R.len, ⟨fun b x q => ?_, fun b ps q => ?_⟩, R.ext.trans sm, fun q x z => ?_, R.kept, fun j c q => ?_, fun j o' q z w => ?_, fun j o' q z w => ?_, fun j q z => ?_, fun j k c c' q h1 o1 e1 h2 o2 e2 => ?_⟩⟩
  · by_cases z : b = p
    · subst z; rw [upd_same] at q; rw [← q]; exact hu
    · rw [upd_ne z] at q; exact R.sub b x q
  · by_cases z : b = p
    · subst z; rw [upd_same] at q; cases q; exact nu _ rfl
    · rw [upd_ne z] at q; exact R.subn.2 b ps q
  · by_cases w : q = p
    · subst w; exact .inr (up3 (R.own i o q h e))
    · rw [upd_ne w] at z; exact R.new q x z
  · rcases old q with ⟨rfl, rfl⟩ | ⟨ne, q⟩
    · exact ⟨_, e, r⟩
    · obtain ⟨w, ew, rw'⟩ := R.cell j c q
      refine ⟨w, ew, rw'.keep sm fun a x o' hw hx hn => ⟨?_, hx⟩⟩
      rw [upd_ne (fun z => ne (R.dist j i c _ p q o' (by rw [ew, hw, z]) h rfl e))]
      exact hn
  · rcases old z with ⟨_, z⟩ | ⟨_, z⟩
    · cases z
    · exact R.own j o' q z w
  · rcases old z with ⟨_, z⟩ | ⟨_, z⟩
    · cases z
    · exact R.ion j o' q z w
  · obtain ⟨e1, o1, h1⟩ := R.ioc j q z
    refine ⟨e1, o1, ?_⟩
    rw [List.getElem?_set_ne (fun z => by subst z; rw [h] at h1; cases h1)]
    exact h1
  · rcases old h1 with ⟨_, z⟩ | ⟨_, h1⟩
    · subst z; cases o1
    · rcases old h2 with ⟨_, z⟩ | ⟨_, h2⟩
      · subst z; cases o2
      · exact R.dist j k c c' q h1 o1 e1 h2 o2 e2
theorem pe_eVar {i : Nat} (h : PE X e (tVar i)) : PE X e (semE X W (eVar i)) :=
  peOf h fun σ H Q ⟨B, F, env, P, Y, R, ⟨c, hc, p⟩, ok, _⟩ => by
    obtain ⟨v, ev, r⟩ := R.cell i c hc
    refine ⟨v, ev, ?_⟩
    cases c with
    | fz d => exact ok _ _ _ _ _ p (R.push r) (Same.refl F)
    | sc ns => exact ok _ _ _ _ _ p (R.pushSc r) (Same.refl F)
    | xn a => exact ok _ _ _ _ _ p (R.pushXn r) (Same.refl F)
    | ky k =>
      obtain ⟨a, rfl, h⟩ := r
      exact ok _ _ _ _ _ p (R.push (.tup (.inl (.inl h)) (RepL.of_ints _))) (Same.refl F)
    | io o => exact p.elim
    | fo _ _ => exact p.elim
    | fl _ _ => exact p.elim
    | ow o =>
      obtain ⟨no, p⟩ := p
      obtain ⟨a, F', e1, sm, r', R'⟩ := R.freezeAt hc no
      rw [ev] at e1
      cases e1
      exact ok _ _ _ _ _ p (R'.push r') sm
end
end Sw

/-! operators over the deep state -/
namespace Sw
open PySem L2
/-- an operand: an expression, or a name that is just read -/
inductive Opd where
  | v (f : WE)
  | r (i : Nat)
  /-- a field of the instance at slot i, a thing of its own that stands at slot j -/
  | f (c : Str) (i j : Nat) (x : Str)
/-- the field x of the instance of class c at slot i lies at a -/
def fldA (env : En) (c : Str) (i : Nat) (x : Str) (a : Addr) : Prop := ∃ cl fs, env[i]? = some (some cl) ∧ cl.ob? = some (c, fs) ∧ fs.lookup x = some (.inr a)
def fldJ (env : En) (j : Nat) (a : Addr) (g : D → Prop) : Prop := ∃ cj d, env[j]? = some (some cj) ∧ cj.at? = some (a, d) ∧ g d
/-- o.x, o at slot i -/
def tFldN (K : PySem.W.Frag) (c : Str) (i : Nat) (x : Str) : TE := fun σ H Q => ∃ p C dx vs v, σ[i]? = some (some (.ref p)) ∧ clsN K c C ∧ H p = some (.ins C dx vs) ∧ vs.lookup x = some v ∧ Q v H
def ev1 : Opd → En → (D → En → Prop) → XP → Prop
  | .v f, env, g, Y => f env (fun c env' => c.isSc = false ∧ g c.toD env') Y
  | .r i, env, g, _ => ∃ c, env[i]? = some (some c) ∧ c.isSc = false ∧ g c.toD env
  | .f c i j x, env, g, _ => ∃ a, fldA env c i x a ∧ fldJ env j a fun d => g d env
def ev2 : Opd → Opd → En → (D → D → En → Prop) → XP → Prop
  | .v f, b, env, g, Y => f env (fun c env1 => c.isSc = false ∧ ev1 b env1 (fun d2 env2 => g c.toD d2 env2) Y) Y
  | .r i, b, env, g, Y => (∃ c, env[i]? = some (some c)) ∧ ev1 b env (fun d2 env2 => ∃ c, env2[i]? = some (some c) ∧ c.isSc = false ∧ g c.toD d2 env2) Y
  | .f c i j x, b, env, g, Y => ∃ a, fldA env c i x a ∧ ev1 b env (fun d2 env2 => fldJ env2 j a fun d => g d d2 env2) Y
def tO (X : Cx) (W : WX) : Opd → TE
  | .v f => semE X W f
  | .r i => tVar i
  | .f c i _ x => tFldN X.K c i x
@[simp ↓] def eOp1 (G : D → (Cl → Prop) → Prop) (a : Opd) : WE := fun env P Y => ev1 a env (fun d env' => G d fun c => P c env') Y
@[simp ↓] def eOp2 (G : D → D → (Cl → Prop) → Prop) (a b : Opd) : WE := fun env P Y => ev2 a b env (fun d1 d2 env' => G d1 d2 fun c => P c env') Y
section
variable {X : Cx} {W : WX} {B : Bd} {σ : L2.St} {H F : Hp} {env : En} {Y : XP}
theorem Rl.len1 {K : PySem.W.Frag} {w : Option V} {c : Option Cl} (R : Rl K B (σ ++ [w]) H F (env ++ [c])) : env.length = σ.length := by
  have := R.len
  rw [List.length_append, List.length_append] at this
  simpa using this
theorem FsAt.adL {x : Str} {a : Addr} {K : PySem.W.Frag} : ∀ {vs : List (Str × V)} {fs : List (Str × (D ⊕ Addr))}, FsAt K F vs fs → fs.lookup x = some (.inr a) → vs.lookup x = some (.ref a)
  | _, _, .nil, h => by cases h
  | _, _, .fz (x := y) r t, h => by
    rw [List.lookup_cons] at h ⊢
    cases q : x == y with
    | true => rw [q] at h; cases h
    | false => rw [q] at h; exact FsAt.adL t h
  | _, _, .ad (x := y) t, h => by
    rw [List.lookup_cons] at h ⊢
    cases q : x == y with
    | true => rw [q] at h; cases h; rfl
    | false => rw [q] at h; exact FsAt.adL t h
theorem FsAt.fzL {x : Str} {d : D} {K : PySem.W.Frag} : ∀ {vs : List (Str × V)} {fs : List (Str × (D ⊕ Addr))}, FsAt K F vs fs → fs.lookup x = some (.inl d) → ∃ v, vs.lookup x = some v ∧ Rep K F v d
  | _, _, .nil, h => by cases h
  | _, _, .fz (x := y) (v := v) r t, h => by
    rw [List.lookup_cons] at h ⊢
    cases q : x == y with
    | true => rw [q] at h; cases h; exact ⟨v, rfl, r⟩
    | false => rw [q] at h; exact FsAt.fzL t h
  | _, _, .ad (x := y) t, h => by
    rw [List.lookup_cons] at h ⊢
    cases q : x == y with
    | true => rw [q] at h; cases h
    | false => rw [q] at h; exact FsAt.fzL t h
theorem RepC.ob {K : PySem.W.Frag} {v : V} {c : Str} {fs : List (Str × (D ⊕ Addr))} {cl : Cl} (r : RepC K H F v cl) (sm : Same F H) (h : cl.ob? = some (c, fs)) : ∃ p, v = .ref p ∧ ObAt K H F p c fs := by
  cases cl with
  | ow o =>
    cases o with
    | ob _ _ =>
      obtain ⟨p, e, n, o⟩ := r
      injection h with h
      injection h with h1 h2
      subst h1 h2
      exact ⟨p, e, o⟩
    | oba _ _ _ =>
      obtain ⟨p, e, n, o⟩ := r
      injection h with h
      injection h with h1 h2
      subst h1 h2
      exact ⟨p, e, o.2⟩
    | _ => exact absurd h (by intro z; cases z)
  | io o =>
    cases o with
    | ob _ _ =>
      obtain ⟨p, e, n, o⟩ := r
      injection h with h
      injection h with h1 h2
      subst h1 h2
      exact ⟨p, e, o⟩
    | oba _ _ _ =>
      obtain ⟨p, e, n, o⟩ := r
      injection h with h
      injection h with h1 h2
      subst h1 h2
      exact ⟨p, e, o.2⟩
    | _ => exact absurd h (by intro z; cases z)
  | fo _ _ =>
    obtain ⟨p, C, dx, vs, e, hc, h1, h2, h3⟩ := r
    injection h with h
    injection h with e1 e2
    subst e1 e2
    exact ⟨p, e, C, dx, vs, hc, sm _ _ h1, h2, h3⟩
  | _ => exact absurd h (by intro z; cases z)
theorem RepC.at {K : PySem.W.Frag} {v : V} {a : Addr} {d : D} {cl : Cl} (r : RepC K H F v cl) (h : cl.at? = some (a, d)) : v = .ref a ∧ RepR K H F v d := by
  cases cl with
  | ow o =>
    cases o with
    | lsa _ _ =>
      have q := r.rd rfl
      obtain ⟨p, e, n, e2, o⟩ := r
      injection h with h
      injection h with h1 h2
      subst h1 h2 e e2
      exact ⟨rfl, q⟩
    | dca _ _ =>
      have q := r.rd rfl
      obtain ⟨p, e, n, e2, o⟩ := r
      injection h with h
      injection h with h1 h2
      subst h1 h2 e e2
      exact ⟨rfl, q⟩
    | _ => exact absurd h (by intro z; cases z)
  | io o =>
    cases o with
    | lsa _ _ =>
      have q := r.rd rfl
      obtain ⟨p, e, n, e2, o⟩ := r
      injection h with h
      injection h with h1 h2
      subst h1 h2 e e2
      exact ⟨rfl, q⟩
    | dca _ _ =>
      have q := r.rd rfl
      obtain ⟨p, e, n, e2, o⟩ := r
      injection h with h
      injection h with h1 h2
      subst h1 h2 e e2
      exact ⟨rfl, q⟩
    | _ => exact absurd h (by intro z; cases z)
  | fl _ _ =>
    obtain ⟨e, q⟩ := r
    injection h with h
    injection h with h1 h2
    subst h1 h2 e
    exact ⟨rfl, .inl q⟩
  | _ => exact absurd h (by intro z; cases z)
theorem fldA.run {c : Str} {i : Nat} {x : Str} {a : Addr} {Q : VK} {K : PySem.W.Frag} (R : Rl K B σ H F env) (h : fldA env c i x a) (q : Q (.ref a) H) : tFldN K c i x σ H Q := by
  obtain ⟨cl, fs, e1, e2, e3⟩ := h
  obtain ⟨v, ev, r⟩ := R.cell i cl e1
  obtain ⟨p, rfl, C, dx, vs, hc, h1, _, fa⟩ := r.ob R.sub e2
  exact ⟨p, C, dx, vs, _, ev, hc, h1, fa.adL e3, q⟩
theorem fldJ.run {j : Nat} {a : Addr} {g : D → Prop} {K : PySem.W.Frag} (R : Rl K B σ H F env) (h : fldJ env j a g) : ∃ d, g d ∧ RepR K H F (.ref a) d := by
  obtain ⟨cj, d, e1, e2, e3⟩ := h
  obtain ⟨v, ev, r⟩ := R.cell j cj e1
  obtain ⟨rfl, q⟩ := r.at e2
  exact ⟨d, e3, q⟩
theorem ev1_ok {a : Opd} {g : D → En → Prop} {Q : VK} (R : Rl X.K B σ H F env) (h : ev1 a env g Y) (x : XOk X.K X.mg B W Y)
    (k : ∀ d env' v H' F', g d env' → Rl X.K B σ H' F' env' → Same F F' → RepR X.K H' F' v d → Q v H') : tO X W a σ H Q := by
  cases a with
  | v f => exact ⟨B, F, env, _, Y, R, h, fun c env' v H' F' ⟨sc, p⟩ R' s => k _ _ _ _ _ p (R'.pop R.nio) s ((R'.top R'.len1).rd sc), x⟩
  | r i =>
    obtain ⟨c, hc, sc, p⟩ := h
    obtain ⟨v, ev, r⟩ := R.cell i c hc
    exact ⟨v, ev, k _ _ _ _ _ p R (Same.refl F) (r.rd sc)⟩
  | f c i j y =>
    obtain ⟨a, h1, h2⟩ := h
    obtain ⟨d, p, r⟩ := h2.run R
    exact h1.run R (k _ _ _ _ _ p R (Same.refl F) r)
theorem ev2_ok {a b : Opd} {g : D → D → En → Prop} {Q : V → V → Hp → Prop} (R : Rl X.K B σ H F env) (h : ev2 a b env g Y) (x : XOk X.K X.mg B W Y)
    (k : ∀ d1 d2 env' v w H' F', g d1 d2 env' → Rl X.K B σ H' F' env' → Same F F' → RepR X.K H' F' v d1 → RepR X.K H' F' w d2 → Q v w H') : tO X W a σ H (fun v H1 => tO X W b σ H1 (fun w H2 => Q v w H2)) := by
  cases a with
  | v f =>
    refine ⟨B, F, env, _, Y, R, h, fun c env1 v H1 F1 ⟨sc, p⟩ R1 s => ?_, x⟩
    have R1' := R1.pop R.nio
    refine ev1_ok R1'.rebase p (x.back R1') fun d2 env2 w H2 F2 q R2 s2 r2 => ?_
    have R3 := R1.carry R.nio R2
    exact k _ _ _ _ _ _ _ q (R1'.back R2) (s.trans s2) ((R3.top R3.len1).rd sc) r2
  | r i =>
    obtain ⟨⟨c0, hc0⟩, h⟩ := h
    obtain ⟨v, ev, _⟩ := R.cell i c0 hc0
    refine ⟨v, ev, ev1_ok R h x fun d2 env2 w H2 F2 ⟨c, hc, sc, q⟩ R2 s2 r2 => ?_⟩
    obtain ⟨v', ev', r⟩ := R2.cell i c hc
    rw [ev] at ev'
    cases ev'
    exact k _ _ _ _ _ _ _ q R2 s2 (r.rd sc) r2
  | f c i j y =>
    obtain ⟨a, h1, h2⟩ := h
    refine fldA.run (Q := fun v H1 => tO X W b σ H1 fun w H2 => Q v w H2) R h1 (ev1_ok R h2 x fun d2 env2 w H2 F2 q R2 s2 r2 => ?_)
    obtain ⟨d, p, r⟩ := q.run R2
    exact k _ _ _ _ _ _ _ p R2 s2 r r2
/-! ### what a readable value is -/
section
variable {K : PySem.W.Frag} {v : V}
theorem RepR.int {i : Int} (r : RepR K H F v (.int i)) : v = .int i := by
  rcases r with r | ⟨_, _, _, e, _⟩ | ⟨_, _, _, e, _⟩
  · cases r; rfl
  · cases e
  · cases e
theorem RepR.str {i : Str} (r : RepR K H F v (.str i)) : v = .str i := by
  rcases r with r | ⟨_, _, _, e, _⟩ | ⟨_, _, _, e, _⟩
  · cases r; rfl
  · cases e
  · cases e
theorem RepR.bool {i : Bool} (r : RepR K H F v (.bool i)) : v = .bl i := by
  rcases r with r | ⟨_, _, _, e, _⟩ | ⟨_, _, _, e, _⟩
  · cases r; rfl
  · cases e
  · cases e
theorem RepR.none (r : RepR K H F v .none) : v = .non := by
  rcases r with r | ⟨_, _, _, e, _⟩ | ⟨_, _, _, e, _⟩
  · cases r; rfl
  · cases e
  · cases e
theorem same_T {a : Addr} {xs : List V} (s : Same F H) (h : SqT K F a xs) : SqT K H a xs := same_seqT s h
theorem RepR.tup {ds : List D} (s : Same F H) (r : RepR K H F v (.tuple ds)) : ∃ a vs, v = .ref a ∧ SqT K H a vs ∧ RepL K F vs ds := by
  rcases r with r | ⟨_, _, _, e, _⟩ | ⟨_, _, _, e, _⟩
  · cases r with
    | tup h1 h2 => exact ⟨_, _, rfl, same_seqT s h1, h2⟩
  · cases e
  · cases e
theorem RepR.lst {ds : List D} (s : Same F H) (r : RepR K H F v (.list ds)) : ∃ a vs, v = .ref a ∧ H a = some (.lst vs) ∧ RepL K F vs ds := by
  rcases r with r | ⟨p, xs, hv, e, vs, h1, h2⟩ | ⟨p, xs, hv, e, h⟩
  · cases r with
    | lst h1 h2 => exact ⟨_, _, rfl, s _ _ h1, h2⟩
  · cases e
    exact ⟨p, vs, hv, h1, h2⟩
  · cases e
end
/-! ### operators -/
def OpG (X : Cx) (r : R2) (G : D → D → (Cl → Prop) → Prop) : Prop := ∀ (B : Bd) (σ : L2.St) (H F : Hp) (env : En) (x y : V) (d1 d2 : D) (P : Cl → Prop) (Q : VK), Rl X.K B σ H F env → RepR X.K H F x d1 → RepR X.K H F y d2 → G d1 d2 P →
  (∀ c v H' F', P c → Rl X.K B (σ ++ [some v]) H' F' (env ++ [some c]) → Same F F' → Q v H') → r x y H Q
theorem op2_imp {r : R2} {G : D → D → (Cl → Prop) → Prop} {a b : Opd} (hg : OpG X r G) : ∀ σ H Q, semE X W (eOp2 G a b) σ H Q → tOp r (tO X W a) (tO X W b) σ H Q := fun σ H Q ⟨B, F, env, P, Y, R, h, ok, x⟩ =>
  ev2_ok R h x fun d1 d2 env' v w H' F' g R' s r1 r2 => hg B σ H' F' env' v w d1 d2 _ Q R' r1 r2 g fun c u H2 F2 p R2 s2 => ok c env' u H2 F2 p R2 (s.trans s2)
theorem pe_op2 {op : Operator} {r : R2} {G : D → D → (Cl → Prop) → Prop} {a b : Opd} {ea eb : Expr} {pos : Pos} (ho : OpR X (binaryOp op) r) (hg : OpG X r G) (ha : PE X ea (tO X W a)) (hb : PE X eb (tO X W b)) : PE X (.BinOp ea op eb pos) (semE X W (eOp2 G a b)) :=
  peOf (pe_op ho ha hb) (op2_imp hg)
theorem pe_cmp2 {op : CmpOp} {r : R2} {G : D → D → (Cl → Prop) → Prop} {a b : Opd} {ea eb : Expr} {pos : Pos} (ho : OpR X (compareOp op) r) (hg : OpG X r G) (ha : PE X ea (tO X W a)) (hb : PE X eb (tO X W b)) (hm : behindInMarks op eb = false) : PE X (.Compare ea [op] [eb] pos) (semE X W (eOp2 G a b)) :=
  peOf (pe_cmpR ho ha hb hm) (op2_imp hg)
/-- a comparison as a test: its answer is a truth -/
@[simp ↓] def tOp2 (G : D → D → (Cl → Prop) → Prop) (a b : Opd) : WT := fun env P Y => ev2 a b env (fun d1 d2 env' => G d1 d2 fun c => ∃ k, c = .fz (.bool k) ∧ P k env') Y
theorem test_imp {r : R2} {G : D → D → (Cl → Prop) → Prop} {a b : Opd} (hg : OpG X r G) : ∀ σ H Q, semT X W (tOp2 G a b) σ H Q → tTest (tOp r (tO X W a) (tO X W b)) σ H Q := fun σ H Q ⟨B, F, env, P, Y, R, h, ok, x⟩ =>
  ev2_ok R h x fun d1 d2 env' v w H' F' g R' s r1 r2 => hg B σ H' F' env' v w d1 d2 _ _ R' r1 r2 g fun c u H2 F2 ⟨k, e, p⟩ R2 s2 => by
    subst e
    have q := R2.top R2.len1
    have q : Rep X.K F2 u (.bool k) := q
    cases q
    exact ⟨k, rfl, ok k env' H2 F2 p (R2.pop R.nio) (s.trans s2)⟩
theorem pt_cmp2 {op : CmpOp} {r : R2} {G : D → D → (Cl → Prop) → Prop} {a b : Opd} {ea eb : Expr} {pos : Pos} (ho : OpR X (compareOp op) r) (hg : OpG X r G) (ha : PE X ea (tO X W a)) (hb : PE X eb (tO X W b)) (hm : behindInMarks op eb = false) : PT X (.Compare ea [op] [eb] pos) (semT X W (tOp2 G a b)) :=
  ptOf (pt_cmpR ho ha hb hm) (test_imp hg)
/-! ### + -/
def gAdd : D → D → (Cl → Prop) → Prop
  | .int a, .int b, P => P (.fz (.int (a + b)))
  | .str a, .str b, P => a.length + b.length ≤ sizeLine ∧ P (.fz (.str (a ++ b)))
  | .list a, .list b, P => a.length + b.length ≤ sizeLine ∧ P (.ow (.lst (a ++ b)))
  | .tuple a, .tuple b, P => a.length + b.length ≤ sizeLine ∧ P (.fz (.tuple (a ++ b)))
  | _, _, _ => False
def rAddAll (K : PySem.W.Frag) : R2 := fun x y H Q => rI0 (fun i j => .int (i + j)) x y H Q ∨ (∃ i j, x = .str i ∧ y = .str j ∧ i.length + j.length ≤ sizeLine ∧ Q (.str (i ++ j)) H) ∨ rCat x y H Q ∨ rCatA K x y H Q
theorem op_addAll : OpR X (binaryOp .Add) (rAddAll X.K) := OpR.or op_add (OpR.or op_add_str (OpR.or op_cat op_catA))
theorem og_add : OpG X (rAddAll X.K) gAdd := fun B σ H F env x y d1 d2 P Q R r1 r2 g k => by
  cases d1 with
  | int a =>
    cases d2 with
    | int b => exact .inl ⟨a, b, r1.int, r2.int, k _ _ _ _ g (R.push (.int _)) (Same.refl F)⟩
    | _ => exact g.elim
  | str a =>
    cases d2 with
    | str b => exact .inr (.inl ⟨a, b, r1.str, r2.str, g.1, k _ _ _ _ g.2 (R.push (.str _)) (Same.refl F)⟩)
    | _ => exact g.elim
  | list a =>
    cases d2 with
    | list b =>
      obtain ⟨p, vs, e1, h1, l1⟩ := r1.lst R.sub
      obtain ⟨q, ws, e2, h2, l2⟩ := r2.lst R.sub
      exact .inr (.inr (.inl ⟨p, q, vs, ws, e1, e2, h1, h2, by rw [l1.length, l2.length]; exact g.1, fun n hn => k _ _ _ _ g.2 (R.fresh hn ⟨_, upd_same, l1.append l2⟩) (Same.refl F)⟩))
    | _ => exact g.elim
  | tuple a =>
    cases d2 with
    | tuple b =>
      obtain ⟨p, vs, e1, h1, l1⟩ := r1.tup R.sub
      obtain ⟨q, ws, e2, h2, l2⟩ := r2.tup R.sub
      refine .inr (.inr (.inr ⟨p, q, vs, ws, e1, e2, h1, h2, by rw [l1.length, l2.length]; exact g.1, fun e => ?_, fun _ e => ?_, fun _ _ n hn => ?_⟩))
      · subst e
        cases l1
        rcases r2 with r2 | ⟨_, _, _, z, _⟩ | ⟨_, _, _, z, _⟩
        · subst e2
          exact k _ _ _ _ g.2 (R.push r2) (Same.refl F)
        · cases z
        · cases z
      · subst e
        cases l2
        rcases r1 with r1 | ⟨_, _, _, z, _⟩ | ⟨_, _, _, z, _⟩
        · subst e1
          have g2 : P (.fz (.tuple (a ++ []))) := g.2
          rw [List.append_nil] at g2
          exact k _ _ _ _ g2 (R.push r1) (Same.refl F)
        · cases z
        · cases z
      · have sm : Same F (upd F n (.tup (vs ++ ws))) := same_new (R.nF hn)
        exact k _ _ _ _ g.2 ((R.grow hn).push (.tup (SqT.of upd_same) ((l1.append l2).mono sm))) sm
    | _ => exact g.elim
  | _ => exact g.elim
/-! ### whole numbers -/
def gInt (C : Int → Int → Prop) (f : Int → Int → D) : D → D → (Cl → Prop) → Prop
  | .int a, .int b, P => C a b ∧ P (.fz (f a b))
  | _, _, _ => False
theorem og_int {C : Int → Int → Prop} {f : Int → Int → Int} : OpG X (rI C fun i j => .int (f i j)) (gInt C fun i j => .int (f i j)) := fun B σ H F env x y d1 d2 P Q R r1 r2 g k => by
  cases d1 with
  | int a =>
    cases d2 with
    | int b => exact ⟨a, b, r1.int, r2.int, g.1, k _ _ _ _ g.2 (R.push (.int _)) (Same.refl F)⟩
    | _ => exact g.elim
  | _ => exact g.elim
def gInt0 (f : Int → Int → D) : D → D → (Cl → Prop) → Prop
  | .int a, .int b, P => P (.fz (f a b))
  | _, _, _ => False
theorem og_int0 {f : Int → Int → Int} : OpG X (rI0 fun i j => .int (f i j)) (gInt0 fun i j => .int (f i j)) := fun B σ H F env x y d1 d2 P Q R r1 r2 g k => by
  cases d1 with
  | int a =>
    cases d2 with
    | int b => exact ⟨a, b, r1.int, r2.int, k _ _ _ _ g (R.push (.int _)) (Same.refl F)⟩
    | _ => exact g.elim
  | _ => exact g.elim
theorem og_cmp0 {f : Int → Int → Bool} : OpG X (rI0 fun i j => .bl (f i j)) (gInt0 fun i j => .bool (f i j)) := fun B σ H F env x y d1 d2 P Q R r1 r2 g k => by
  cases d1 with
  | int a =>
    cases d2 with
    | int b => exact ⟨a, b, r1.int, r2.int, k _ _ _ _ g (R.push (.bl _)) (Same.refl F)⟩
    | _ => exact g.elim
  | _ => exact g.elim
abbrev gSub := gInt0 fun i j => .int (i - j)
abbrev gLt := gInt0 fun i j => .bool (decide (i < j))
abbrev gLe := gInt0 fun i j => .bool (decide (i ≤ j))
abbrev gGt := gInt0 fun i j => .bool (decide (j < i))
abbrev gGe := gInt0 fun i j => .bool (decide (j ≤ i))
abbrev gDiv := gInt CDivW fun i j => .int (i / j)
abbrev gMod := gInt (fun _ j => 0 < j) fun i j => .int (i % j)
abbrev gPow := gInt CPow fun i j => .int (i ^ j.toNat)
/-! ### a tuple once -/
theorem tuple_mul1 (l : Addr) (items : Array Value) (n : Nat) (dd : Option Addr) (sl : Array (Option Value)) (u : Tok) :
    Meets (Builtin.«tuple.__mul__» ⟨[.ref l, .int 1 u], []⟩) (fun _ R s => s.heap.get? l = some { cls := .type "tuple", dict := dd, data := .seq items n, slots := sl } ∧ R (.ok (.ret (Value.ref l))) s) :=
  .of_wp fun prog w A R s h => by
    obtain ⟨hp, g, d, tk, os⟩ := s
    obtain ⟨hl, h⟩ := h
    have f1 := PySem.AutoSeq1.idx_int
    have c0 : (decide ((1 : Int) < -(2 ^ 63)) || decide ((1 : Int) ≥ 2 ^ 63)) = false := by decide
    have c1 : (items.isEmpty || (1 : Int) == 1) = true := by simp
    wp_walk using PySem.AutoSeq1.wpAny_loadPart' hl
    repeat (first
      | (refine wpAny_ite_false (decide_eq_false (by rw [c0]; exact Bool.false_ne_true)) ?_; wp_walk using PySem.AutoSeq1.wpAny_loadPart' hl)
      | (refine wpAny_ite_true (decide_eq_true (by rw [c1])) ?_; wp_walk using PySem.AutoSeq1.wpAny_loadPart' hl)
      | (refine wpAny_bind (wpAny_rule ?_); wp_walk using PySem.AutoSeq1.wpAny_loadPart' hl))
    exact ⟨_, rfl, h⟩
def rRepT1 (K : PySem.W.Frag) : R2 := fun x y H Q => ∃ l xs, x = .ref l ∧ y = .int 1 ∧ SqT K H l xs ∧ Q (.ref l) H
theorem op_repT1 {X : Cx} : OpR X (binaryOp .Mult) (rRepT1 X.K) := by
  intro pins s σ H x y v u Q I rx ry h
  obtain ⟨l, xs, rfl, rfl, hT, q⟩ := h
  cases rx
  obtain ⟨t, rfl⟩ := ry
  obtain ⟨its, r, ⟨⟨cls, dd, data, sl⟩, ho, hc, n, hd⟩, hs⟩ := I.tuple hT
  simp only at hc hd
  subst hc hd
  refine wpAny_binaryOp_repeat_ref (T := "tuple") (U := "int") (by decide) ⟨_, ho, rfl⟩ (fun s' => typeIs_int s' 1 t) noFill_tuple_mul F.fills_int_mul F.slot_int_rmul repeat_tuple F.slot_int_index.lookup
    (call_meets F.slot_int_rmul (typeIs_int s 1 t) F.entry_int_rmul (F.args_int_rmul_2 _ _) (int_rmul_tuple 1 t l its.toArray n dd sl)
      ⟨ho, rfl, ⟨_, ho, rfl⟩, call_meets F.slot_tuple_mul ⟨_, ho, rfl⟩ F.entry_tuple_mul (F.args_tuple_mul_2 _ _) (tuple_mul1 l its.toArray n dd sl t) ⟨ho, ?_⟩⟩)
  exact ⟨.ref l, _, I, rfl, q⟩
/-! ### a tuple not at all -/
theorem tuple_mul0 (l : Addr) (items : Array Value) (n : Nat) (dd : Option Addr) (sl : Array (Option Value)) (u : Tok) (ne : items.isEmpty = false) :
    Meets (Builtin.«tuple.__mul__» ⟨[.ref l, .int 0 u], []⟩) (fun _ R s => s.heap.get? l = some { cls := .type "tuple", dict := dd, data := .seq items n, slots := sl } ∧ R (.ok (.ret (Value.ref s.heap.objs.size))) { s with heap := s.heap.push { cls := Value.type "tuple", data := Data.seq #[] }, toks := s.toks }) :=
  .of_wp fun prog w A R s h => by
    obtain ⟨hp, g, d, tk, os⟩ := s
    obtain ⟨hl, h⟩ := h
    have f1 := PySem.AutoSeq1.idx_int
    have c0 : (decide ((0 : Int) < -(2 ^ 63)) || decide ((0 : Int) ≥ 2 ^ 63)) = false := by decide
    have c1 : (items.isEmpty || (0 : Int) == 1) = false := by rw [ne]; rfl
    have c2 : (decide ((0 : Int) ≤ 0) || items.isEmpty) = true := by simp
    wp_walk using PySem.AutoSeq1.wpAny_loadPart' hl
    repeat (first
      | (refine wpAny_ite_false (decide_eq_false (by rw [c0]; exact Bool.false_ne_true)) ?_; wp_walk using PySem.AutoSeq1.wpAny_loadPart' hl)
      | (refine wpAny_ite_false (decide_eq_false (by rw [c1]; exact Bool.false_ne_true)) ?_; wp_walk using PySem.AutoSeq1.wpAny_loadPart' hl)
      | (refine wpAny_ite_true (decide_eq_true (by rw [c2])) ?_; wp_walk using PySem.AutoSeq1.wpAny_loadPart' hl))
    exact ⟨_, rfl, h⟩
def rRepT0 (K : PySem.W.Frag) : R2 := fun x y H Q => ∃ l xs, x = .ref l ∧ y = .int 0 ∧ SqT K H l xs ∧ xs ≠ [] ∧ ∀ p, H p = none → Q (.ref p) (upd H p (.tup []))
theorem op_repT0 {X : Cx} : OpR X (binaryOp .Mult) (rRepT0 X.K) := by
  intro pins s σ H x y v u Q I rx ry h
  obtain ⟨l, xs, rfl, rfl, hT, hne, q⟩ := h
  cases rx
  obtain ⟨t, rfl⟩ := ry
  obtain ⟨its, r, ⟨⟨cls, dd, data, sl⟩, ho, hc, n, hd⟩, hs⟩ := I.tuple hT
  simp only at hc hd
  subst hc hd
  have hi : its.toArray.isEmpty = false := by
    cases its with
    | nil => exact absurd (List.eq_nil_of_length_eq_zero r.length) hne
    | cons a b => rfl
  refine wpAny_binaryOp_repeat_ref (T := "tuple") (U := "int") (by decide) ⟨_, ho, rfl⟩ (fun s' => typeIs_int s' 0 t) noFill_tuple_mul F.fills_int_mul F.slot_int_rmul repeat_tuple F.slot_int_index.lookup
    (call_meets F.slot_int_rmul (typeIs_int s 0 t) F.entry_int_rmul (F.args_int_rmul_2 _ _) (int_rmul_tuple 0 t l its.toArray n dd sl)
      ⟨ho, rfl, ⟨_, ho, rfl⟩, call_meets F.slot_tuple_mul ⟨_, ho, rfl⟩ F.entry_tuple_mul (F.args_tuple_mul_2 _ _) (tuple_mul0 l its.toArray n dd sl t hi) ⟨ho, ?_⟩⟩)
  exact ⟨.ref s.heap.objs.size, upd H s.heap.objs.size (.tup []), I.laid (t' := s.toks) (fun b u e => Heap.get?_push_of_some _ e) (Nat.le_refl _) ⟨Nat.zero_le _, [], .nil, ⟨_, Heap.get?_push_size _ rfl, rfl, _, rfl⟩⟩, rfl, q _ (I.hok.fresh (Nat.le_refl _))⟩
/-! ### * -/
def gMul : D → D → (Cl → Prop) → Prop
  | .int a, .int b, P => CMulW a b ∧ P (.fz (.int (a * b)))
  | .list a, .int k, P => -(2 ^ 63) ≤ k ∧ k < 2 ^ 63 ∧ a.length * k.toNat ≤ sizeLine ∧ P (.ow (.lst (List.replicate k.toNat a).flatten))
  | .tuple a, .int k, P => a ≠ [] ∧ 0 ≤ k ∧ k ≤ 1000 ∧ a.length ≤ 1000 ∧ P (.fz (.tuple (List.replicate k.toNat a).flatten))
  | _, _, _ => False
def rMulAll (K : PySem.W.Frag) : R2 := fun x y H Q => rI CMulW (fun i j => .int (i * j)) x y H Q ∨ rRep x y H Q ∨ rRepT K x y H Q ∨ rRepT1 K x y H Q ∨ rRepT0 K x y H Q
theorem op_mulAll : OpR X (binaryOp .Mult) (rMulAll X.K) := OpR.or op_mulW (OpR.or op_rep (OpR.or op_repT (OpR.or op_repT1 op_repT0)))
theorem RepL.rep {K : PySem.W.Frag} {vs : List V} {ds : List D} (h : RepL K F vs ds) : ∀ k : Nat, RepL K F (List.replicate k vs).flatten (List.replicate k ds).flatten
  | 0 => .nil
  | k + 1 => by
    rw [List.replicate_succ, List.replicate_succ, List.flatten_cons, List.flatten_cons]
    exact h.append (RepL.rep h k)
theorem og_mul : OpG X (rMulAll X.K) gMul := fun B σ H F env x y d1 d2 P Q R r1 r2 g k => by
  cases d1 with
  | int a =>
    cases d2 with
    | int b => exact .inl ⟨a, b, r1.int, r2.int, g.1, k _ _ _ _ g.2 (R.push (.int _)) (Same.refl F)⟩
    | _ => exact g.elim
  | list a =>
    cases d2 with
    | int b =>
      obtain ⟨p, vs, e1, h1, l1⟩ := r1.lst R.sub
      exact .inr (.inl ⟨p, b, vs, e1, r2.int, h1, g.1, g.2.1, by rw [l1.length]; exact g.2.2.1, fun n hn => k _ _ _ _ g.2.2.2 (R.fresh hn ⟨_, upd_same, l1.rep _⟩) (Same.refl F)⟩)
    | _ => exact g.elim
  | tuple a =>
    cases d2 with
    | int b =>
      obtain ⟨p, vs, e1, h1, l1⟩ := r1.tup R.sub
      by_cases hb : b = 1
      · subst hb
        refine .inr (.inr (.inr (.inl ⟨p, vs, e1, r2.int, h1, ?_⟩)))
        have g2 : P (.fz (.tuple a)) := by
          have := g.2.2.2.2
          simpa using this
        rcases r1 with r1 | ⟨_, _, _, z, _⟩ | ⟨_, _, _, z, _⟩
        · subst e1
          exact k _ _ _ _ g2 (R.push r1) (Same.refl F)
        · cases z
        · cases z
      by_cases h0 : b = 0
      · subst h0
        refine .inr (.inr (.inr (.inr ⟨p, vs, e1, r2.int, h1, fun e => ?_, fun n hn => ?_⟩)))
        · subst e
          cases l1
          exact g.1 rfl
        · have sm : Same F (upd F n (.tup [])) := same_new (R.nF hn)
          exact k _ _ _ _ g.2.2.2.2 ((R.grow hn).push (.tup (SqT.of upd_same) .nil)) sm
      refine .inr (.inr (.inl ⟨p, b, vs, e1, r2.int, h1, fun e => ?_, by have := g.2.1; omega, g.2.2.1, by rw [l1.length]; exact g.2.2.2.1, fun n hn => ?_⟩))
      · subst e
        cases l1
        exact g.1 rfl
      · have sm : Same F (upd F n (.tup (List.replicate b.toNat vs).flatten)) := same_new (R.nF hn)
        exact k _ _ _ _ g.2.2.2.2 ((R.grow hn).push (.tup (SqT.of upd_same) ((l1.rep _).mono sm))) sm
    | _ => exact g.elim
  | _ => exact g.elim
end
end Sw

/-! comparisons, subscripts, slices over the deep state -/
namespace Sw
open PySem L2
section
variable {X : Cx} {W : WX} {B : Bd} {σ : L2.St} {H F : Hp} {env : En} {Y : XP} {pins : List (Addr × Obj)} {s : Shared}
/-! ### data as the library reads it -/
mutual
theorem Rep.reads (I : Inv X pins σ H s) (sm : Same F H) : ∀ {v : V} {d : D} (u : Value), Rep X.K F v d → RelV v u → d.plain = true → ∃ as, Reads s.heap u d as
  | _, _, _, .non, r, _ => by cases r; exact ⟨_, Reads.none⟩
  | _, _, _, .bl b, r, _ => by cases r; exact ⟨_, Reads.bool b⟩
  | _, _, _, .int i, r, _ => by obtain ⟨t, rfl⟩ := r; exact ⟨_, Reads.int i t⟩
  | _, _, _, .str x, r, _ => by obtain ⟨t, rfl⟩ := r; exact ⟨_, Reads.str x t⟩
  | _, _, _, .lst h rs, r, p => by
    cases r
    obtain ⟨its, rv, ⟨o, n, ho, hc, _, hd⟩, _⟩ := I.list (SqL.of (sm _ _ h))
    obtain ⟨as, hr⟩ := RepL.reads I sm its rs rv (by simpa [PyData.plain] using p)
    exact ⟨_, Reads.list ho hc hd hr⟩
  | _, _, _, .tup h rs, r, p => by
    cases r
    obtain ⟨its, rv, ⟨o, ho, hc, n, hd⟩, _⟩ := I.tuple (same_seqT sm h)
    obtain ⟨as, hr⟩ := RepL.reads I sm its rs rv (by simpa [PyData.plain] using p)
    exact ⟨_, Reads.tuple ho hc hd hr⟩
  | _, _, _, .dK _ _, _, p => by simp [PyData.plain] at p
  | _, _, _, .dT _ _, _, p => by simp [PyData.plain] at p
theorem RepL.reads (I : Inv X pins σ H s) (sm : Same F H) : ∀ {vs : List V} {ds : List D} (us : List Value), RepL X.K F vs ds → Vals vs us → PyData.plainAll ds = true → ∃ as, ReadsAll s.heap us ds as
  | _, _, _, .nil, r, _ => by cases r; exact ⟨_, ReadsAll.nil⟩
  | _, _, _, .cons h1 h2, r, p => by
    cases r with
    | cons r1 r2 =>
      simp only [PyData.plainAll, Bool.and_eq_true] at p
      have p' := p
      obtain ⟨as, q1⟩ := Rep.reads I sm _ h1 r1 p'.1
      obtain ⟨bs, q2⟩ := RepL.reads I sm _ h2 r2 p'.2
      exact ⟨_, ReadsAll.cons q1 q2⟩
end
theorem RepR.reads (I : Inv X pins σ H s) (sm : Same F H) {v : V} {d : D} {u : Value} (r : RepR X.K H F v d) (rv : RelV v u) (p : d.plain = true) : ∃ as, Reads s.heap u d as := by
  rcases r with r | ⟨a, xs, rfl, rfl, vs, h1, h2⟩ | ⟨a, xs, hv, e, h⟩
  · exact Rep.reads I sm u r rv p
  · cases rv
    obtain ⟨its, rvs, ⟨o, n, ho, hc, _, hd⟩, _⟩ := I.list (SqL.of h1)
    obtain ⟨as, hr⟩ := RepL.reads I sm its h2 rvs (by simpa [PyData.plain] using p)
    exact ⟨_, Reads.list ho hc hd hr⟩
  · subst e
    simp [PyData.plain] at p
/-! ### == != in -/
/-- what two readable values of data give -/
def rDat (K : PySem.W.Frag) (C : D → D → Prop) (f : D → D → Bool) : R2 := fun x y H Q => ∃ (F : Hp) (d e : D), Same F H ∧ RepR K H F x d ∧ RepR K H F y e ∧ C d e ∧ Q (.bl (f d e)) H
@[simp ↓] def gDat (C : D → D → Prop) (f : D → D → Bool) : D → D → (Cl → Prop) → Prop := fun d e P => C d e ∧ P (.fz (.bool (f d e)))
theorem og_dat {C : D → D → Prop} {f : D → D → Bool} : OpG X (rDat X.K C f) (gDat C f) := fun B σ H F env x y d1 d2 P Q R r1 r2 g k =>
  ⟨F, d1, d2, R.sub, r1, r2, g.1, k _ _ _ _ g.2 (R.push (.bl _)) (Same.refl F)⟩
/-- two things that may be compared -/
@[simp ↓] def CEq (d e : D) : Prop := d.plain = true ∧ e.plain = true ∧ min d.depth e.depth ≤ 60
theorem op_eqDat (hu : X.A.units + 64 < cLine) : OpR X (compareOp .Eq) (rDat X.K CEq PyData.eqv) := by
  intro pins s σ H x y v u Q I rx ry h
  obtain ⟨F, d, e, sm, hd, he, ⟨c1, c2, c3⟩, q⟩ := h
  obtain ⟨as, r1⟩ := hd.reads I sm rx c1
  obtain ⟨bs, r2⟩ := he.reads I sm ry c2
  exact SeqAt.eq_plain r1 r2 c1 c2 (by omega) ⟨.bl _, H, I, rfl, q⟩
theorem op_neDat (hu : X.A.units + 64 < cLine) : OpR X (compareOp .NotEq) (rDat X.K CEq fun d e => !PyData.eqv d e) := by
  intro pins s σ H x y v u Q I rx ry h
  obtain ⟨F, d, e, sm, hd, he, ⟨c1, c2, c3⟩, q⟩ := h
  obtain ⟨as, r1⟩ := hd.reads I sm rx c1
  obtain ⟨bs, r2⟩ := he.reads I sm ry c2
  exact SeqAt.ne_plain r1 r2 c1 c2 (by omega) ⟨.bl _, H, I, rfl, q⟩
/-- the items of a list or a tuple -/
def items? : D → Option (List D)
  | .list xs => some xs
  | .tuple xs => some xs
  | _ => none
def CIn (d e : D) : Prop := d.plain = true ∧ ∃ xs, items? e = some xs ∧ PyData.plainAll xs = true ∧ min (PyData.depthAll xs) d.depth ≤ 60
def inB (d e : D) : Bool := ((items? e).getD []).any fun y => PyData.eqv y d
theorem op_inDat (hu : X.A.units + 64 < cLine) : OpR X (compareOp .In) (rDat X.K CIn inB) := by
  intro pins s σ H x y v u Q I rx ry h
  obtain ⟨F, d, e, sm, hd, he, ⟨c1, xs, c2, c3, c4⟩, q⟩ := h
  obtain ⟨as, r1⟩ := hd.reads I sm rx c1
  unfold inB at q
  rw [c2] at q
  cases e with
  | list ys =>
    cases c2
    obtain ⟨bs, r2⟩ := he.reads I sm ry (by simpa [PyData.plain] using c3)
    exact SeqAt.in_list_data r2 r1 c3 c1 (by omega) ⟨.bl _, H, I, rfl, q⟩
  | tuple ys =>
    cases c2
    obtain ⟨bs, r2⟩ := he.reads I sm ry (by simpa [PyData.plain] using c3)
    exact SeqAt.in_tuple_data r2 r1 c3 c1 (by omega) ⟨.bl _, H, I, rfl, q⟩
  | _ => cases c2
theorem op_notInDat (hu : X.A.units + 64 < cLine) : OpR X (compareOp .NotIn) (rDat X.K CIn fun d e => !inB d e) := by
  intro pins s σ H x y v u Q I rx ry h
  obtain ⟨F, d, e, sm, hd, he, ⟨c1, xs, c2, c3, c4⟩, q⟩ := h
  obtain ⟨as, r1⟩ := hd.reads I sm rx c1
  have q : Q (.bl (!inB d e)) H := q
  unfold inB at q
  rw [c2] at q
  cases e with
  | list ys =>
    cases c2
    obtain ⟨bs, r2⟩ := he.reads I sm ry (by simpa [PyData.plain] using c3)
    exact SeqAt.notIn_list_data r2 r1 c3 c1 (by omega) ⟨.bl _, H, I, rfl, q⟩
  | tuple ys =>
    cases c2
    obtain ⟨bs, r2⟩ := he.reads I sm ry (by simpa [PyData.plain] using c3)
    exact SeqAt.notIn_tuple_data r2 r1 c3 c1 (by omega) ⟨.bl _, H, I, rfl, q⟩
  | _ => cases c2
/-! ### is -/
def isN : D → Bool
  | .none => true
  | _ => false
def gIsN : D → D → (Cl → Prop) → Prop
  | d, .none, P => P (.fz (.bool (isN d)))
  | _, _, _ => False
def gIsNotN : D → D → (Cl → Prop) → Prop
  | d, .none, P => P (.fz (.bool (!isN d)))
  | _, _, _ => False
theorem RepR.isN {K : PySem.W.Frag} {v : V} {d : D} (r : RepR K H F v d) : decide (v = .non) = isN d := by
  rcases r with r | ⟨_, _, rfl, rfl, _⟩ | ⟨_, _, rfl, rfl, _⟩
  · cases r <;> first | rfl | exact decide_eq_false (fun z => nomatch z)
  · exact decide_eq_false (fun z => nomatch z)
  · exact decide_eq_false (fun z => nomatch z)
theorem og_isN : OpG X (fun x y H Q => y = .non ∧ Q (.bl (decide (x = .non))) H) gIsN := fun B σ H F env x y d1 d2 P Q R r1 r2 g k => by
  cases d2 with
  | none => exact ⟨r2.none, k _ _ _ _ g (R.push (by rw [r1.isN]; exact .bl _)) (Same.refl F)⟩
  | _ => exact g.elim
theorem og_isNotN : OpG X (fun x y H Q => y = .non ∧ Q (.bl (!decide (x = .non))) H) gIsNotN := fun B σ H F env x y d1 d2 P Q R r1 r2 g k => by
  cases d2 with
  | none =>
    refine ⟨r2.none, k _ _ _ _ g (R.push ?_) (Same.refl F)⟩
    rw [r1.isN]
    exact .bl _
  | _ => exact g.elim
def gIsB (f : Bool → Bool → Bool) : D → D → (Cl → Prop) → Prop
  | .bool a, .bool b, P => P (.fz (.bool (f a b)))
  | _, _, _ => False
theorem og_isB : OpG X rIsB (gIsB fun a b => decide (a = b)) := fun B σ H F env x y d1 d2 P Q R r1 r2 g k => by
  cases d1 with
  | bool a =>
    cases d2 with
    | bool b => exact ⟨a, b, r1.bool, r2.bool, k _ _ _ _ g (R.push (.bl _)) (Same.refl F)⟩
    | _ => exact g.elim
  | _ => exact g.elim
theorem og_notB : OpG X rNotB (gIsB fun a b => !decide (a = b)) := fun B σ H F env x y d1 d2 P Q R r1 r2 g k => by
  cases d1 with
  | bool a =>
    cases d2 with
    | bool b => exact ⟨a, b, r1.bool, r2.bool, k _ _ _ _ g (R.push (.bl _)) (Same.refl F)⟩
    | _ => exact g.elim
  | _ => exact g.elim
/-! ### subscripts -/
def gIdx : D → D → (Cl → Prop) → Prop
  | .list ds, .int i, P => ∃ d, atI ds i = some d ∧ P (.fz d)
  | .tuple ds, .int i, P => ∃ d, atI ds i = some d ∧ P (.fz d)
  | .str z, .int i, P => z.length ≤ sizeLine ∧ ∃ c, atI z.cps.toList i = some c ∧ P (.fz (.str ⟨#[c]⟩))
  | _, _, _ => False
theorem RepL.atI {K : PySem.W.Frag} {vs : List V} {ds : List D} {i : Int} {d : D} (r : RepL K F vs ds) (h : atI ds i = some d) : ∃ v, L2.atI vs i = some v ∧ Rep K F v d := by
  unfold L2.atI at h ⊢
  rw [r.length]
  cases e : ixN ds.length i with
  | none => rw [e] at h; cases h
  | some j =>
    rw [e] at h
    exact r.get h
theorem og_idx : OpG X (rIx X.K) gIdx := fun B σ H F env x y d1 d2 P Q R r1 r2 g k => by
  cases d1 with
  | list ds =>
    cases d2 with
    | int i =>
      obtain ⟨d, e, p⟩ := g
      obtain ⟨a, vs, e1, h1, l1⟩ := r1.lst R.sub
      obtain ⟨v, e2, r⟩ := l1.atI e
      exact .inl ⟨a, vs, i, v, e1, r2.int, SqL.of h1, e2, k _ _ _ _ p (R.push r) (Same.refl F)⟩
    | _ => exact g.elim
  | tuple ds =>
    cases d2 with
    | int i =>
      obtain ⟨d, e, p⟩ := g
      obtain ⟨a, vs, e1, h1, l1⟩ := r1.tup R.sub
      obtain ⟨v, e2, r⟩ := l1.atI e
      exact .inr (.inl ⟨a, vs, i, v, e1, r2.int, h1, e2, k _ _ _ _ p (R.push r) (Same.refl F)⟩)
    | _ => exact g.elim
  | str z =>
    cases d2 with
    | int i =>
      obtain ⟨hz, c, e, p⟩ := g
      exact .inr (.inr ⟨z, i, c, r1.str, r2.int, hz, e, k _ _ _ _ p (R.push (.str _)) (Same.refl F)⟩)
    | _ => exact g.elim
  | _ => exact g.elim
theorem pe_idx {a b : Opd} {ea eb : Expr} {pos : Pos} (ha : PE X ea (tO X W a)) (hb : PE X eb (tO X W b)) (hs : PlainIx eb) : PE X (.Subscript ea eb pos) (semE X W (eOp2 gIdx a b)) :=
  peOf (pe_ix ix_seq ha hb hs) (op2_imp og_idx)
/-- an item of the script -/
def eIdxV (i : Nat) (b : Opd) : WE := fun env P Y => match env[i]? with
  | some (some (.sc ns)) => ev1 b env (fun d env' => ∃ k n, d = .int k ∧ L2.atI ns k = some n ∧ P (.fz (.int n)) env') Y
  | _ => eOp2 gIdx (.r i) b env P Y
theorem atI_map {α β : Type} {f : α → β} {xs : List α} {i : Int} {x : α} (h : L2.atI xs i = some x) : L2.atI (xs.map f) i = some (f x) := by
  unfold L2.atI at h ⊢
  rw [List.length_map]
  cases e : ixN xs.length i with
  | none => rw [e] at h; cases h
  | some j =>
    rw [e] at h
    have h' : xs[j]? = some x := h
    show (xs.map f)[j]? = some (f x)
    rw [List.getElem?_map, h']
    rfl
theorem pe_idxV {i : Nat} {b : Opd} {ea eb : Expr} {pos : Pos} (ha : PE X ea (tVar i)) (hb : PE X eb (tO X W b)) (hs : PlainIx eb) : PE X (.Subscript ea eb pos) (semE X W (eIdxV i b)) := by
  refine peOf (pe_ix ix_seq ha hb hs) fun σ H Q ⟨B, F, env, P, Y, R, h, ok, x⟩ => ?_
  unfold eIdxV at h
  split at h
  · rename_i ns e
    obtain ⟨v, ev, a, hv, hs'⟩ := R.cell i _ e
    refine ⟨v, ev, ev1_ok R h x fun d env' w H' F' ⟨k, n, ek, en, p⟩ R' sm r => ?_⟩
    subst ek hv
    have sq : SqL X.K H' a (ns.map V.int) := (sm.trans R'.sub).seq hs'
    exact .inl ⟨a, _, k, _, rfl, r.int, sq, atI_map en, ok _ _ _ _ _ p (R'.push (.int _)) sm⟩
  · exact op2_imp (X := X) (W := W) (a := .r i) (b := b) og_idx σ H Q ⟨B, F, env, P, Y, R, h, ok, x⟩
/-! ### slices -/
def cutD (xs : List D) (lo hi : Option Int) : List D := (xs.drop (HT.sIx xs.length 0 lo)).take (HT.sIx xs.length xs.length hi - HT.sIx xs.length 0 lo)
theorem RepL.cut {K : PySem.W.Frag} {vs : List V} {ds : List D} (r : RepL K F vs ds) (lo hi : Option Int) : RepL K F (cutV vs lo hi) (cutD ds lo hi) := by
  unfold cutV cutD
  rw [r.length]
  exact (r.drop _).take _
def evP : Option WE → En → (Option Int → En → Prop) → XP → Prop
  | none, env, g, _ => g none env
  | some f, env, g, Y => f env (fun c env' => ∃ i, c = .fz (.int i) ∧ g (some i) env') Y
def gSl : D → Option Int → Option Int → (Cl → Prop) → Prop
  | .list ds, lo, hi, P => P (.ow (.lst (cutD ds lo hi)))
  | .tuple ds, lo, hi, P => P (.fz (.tuple (cutD ds lo hi)))
  | .str z, lo, hi, P => z.length ≤ sizeLine ∧ P (.fz (.str (cutS z lo hi)))
  | _, _, _, _ => False
def eSl (a : Opd) (lo hi : Option WE) : WE := fun env P Y => match a with
  | .v f => f env (fun c env1 => c.isSc = false ∧ evP lo env1 (fun l env2 => evP hi env2 (fun h env3 => gSl c.toD l h fun r => P r env3) Y) Y) Y
  | .r i => (∃ c, env[i]? = some (some c)) ∧ evP lo env (fun l env2 => evP hi env2 (fun h env3 => ∃ c, env3[i]? = some (some c) ∧ c.isSc = false ∧ gSl c.toD l h fun r => P r env3) Y) Y
  | .f _ _ _ _ => False
def tPo (X : Cx) (W : WX) : Option WE → TO
  | none => tNoPart
  | some f => tPart (semE X W f)
theorem evP_ok {a : Option WE} {g : Option Int → En → Prop} {Q : Option Int → Hp → Prop} (R : Rl X.K B σ H F env) (h : evP a env g Y) (x : XOk X.K X.mg B W Y)
    (k : ∀ o env' H' F', g o env' → Rl X.K B σ H' F' env' → Same F F' → Q o H') : tPo X W a σ H Q := by
  cases a with
  | none => exact k _ _ _ _ h R (Same.refl F)
  | some f =>
    refine ⟨B, F, env, _, Y, R, h, fun c env' v H' F' ⟨i, e, p⟩ R' s => ?_, x⟩
    subst e
    have q : Rep X.K F' v (.int i) := R'.top R'.len1
    cases q
    exact ⟨i, rfl, k _ _ _ _ p (R'.pop R.nio) s⟩
def rSlAll (K : PySem.W.Frag) : V → Option Int → Option Int → Hp → VK → Prop := fun x lo hi H Q => rSlL K x lo hi H Q ∨ rSlA K x lo hi H Q ∨ (∃ z, x = .str z ∧ z.length ≤ sizeLine ∧ Q (.str (cutS z lo hi)) H)
theorem sl_all (hstr : SlR X fun x lo hi H Q => ∃ z, x = .str z ∧ z.length ≤ sizeLine ∧ Q (.str (cutS z lo hi)) H) : SlR X (rSlAll X.K) := SlR.or sl_list (SlR.or sl_tupA hstr)
theorem gSl_ok {x : V} {d : D} {lo hi : Option Int} {P : Cl → Prop} {Q : VK} (R : Rl X.K B σ H F env) (r : RepR X.K H F x d) (g : gSl d lo hi P)
    (k : ∀ c v H' F', P c → Rl X.K B (σ ++ [some v]) H' F' (env ++ [some c]) → Same F F' → Q v H') : rSlAll X.K x lo hi H Q := by
  cases d with
  | list ds =>
    obtain ⟨a, vs, e1, h1, l1⟩ := r.lst R.sub
    exact .inl ⟨a, vs, e1, SqL.of h1, fun p hp => k _ _ _ _ g (R.fresh hp ⟨_, upd_same, l1.cut lo hi⟩) (Same.refl F)⟩
  | tuple ds =>
    obtain ⟨a, vs, e1, h1, l1⟩ := r.tup R.sub
    refine .inr (.inl ⟨a, vs, e1, h1, fun hw => ?_, fun _ p hp => ?_⟩)
    · have e : cutD ds lo hi = ds := by
        unfold cutD
        rw [← l1.length, hw.1, hw.2, l1.length, Nat.sub_zero, List.drop_zero, List.take_length]
      have g : P (.fz (.tuple (cutD ds lo hi))) := g
      rw [e] at g
      rcases r with r | ⟨_, _, _, z, _⟩ | ⟨_, _, _, z, _⟩
      · subst e1
        exact k _ _ _ _ g (R.push r) (Same.refl F)
      · cases z
      · cases z
    · have sm : Same F (upd F p (.tup (cutV vs lo hi))) := same_new (R.nF hp)
      exact k _ _ _ _ g ((R.grow hp).push (.tup (SqT.of upd_same) ((l1.cut lo hi).mono sm))) sm
  | str z => exact .inr (.inr ⟨z, r.str, g.1, k _ _ _ _ g.2 (R.push (.str _)) (Same.refl F)⟩)
  | _ => exact g.elim
theorem pe_sl {a : Opd} {lo hi : Option WE} {ea : Expr} {el eh : Option Expr} {p2 pos : Pos} (ha : PE X ea (tO X W a)) (hl : PO X el (tPo X W lo)) (hh : PO X eh (tPo X W hi)) : PE X (.Subscript ea (.Slice el eh none p2) pos) (semE X W (eSl a lo hi)) := by
  refine peOf (pe_slice (sl_all sl_str) ha hl hh) fun σ H Q ⟨B, F, env, P, Y, R, h, ok, x⟩ => ?_
  cases a with
  | v f =>
    refine ⟨B, F, env, _, Y, R, h, fun c env1 v H1 F1 ⟨sc, p⟩ R1 s => ?_, x⟩
    have R1' := R1.pop R.nio
    refine evP_ok R1'.rebase p (x.back R1') fun o env2 H2 F2 q R2 s2 => ?_
    refine evP_ok R2 q (x.back R1') fun o2 env3 H3 F3 q3 R3 s3 => ?_
    have R4 := R1.carry R.nio R3
    exact gSl_ok (R1'.back R3) ((R4.top R4.len1).rd sc) q3 fun c' w H4 F4 p4 R5 s5 => ok _ _ _ _ _ p4 R5 (((s.trans s2).trans s3).trans s5)
  | r i =>
    obtain ⟨⟨c0, hc0⟩, h⟩ := h
    obtain ⟨v, ev, _⟩ := R.cell i c0 hc0
    refine ⟨v, ev, evP_ok R h x fun o env2 H2 F2 q R2 s2 => evP_ok R2 q x fun o2 env3 H3 F3 q3 R3 s3 => ?_⟩
    obtain ⟨c, hc, sc, g⟩ := q3
    obtain ⟨v', ev', r⟩ := R3.cell i c hc
    rw [ev] at ev'
    cases ev'
    exact gSl_ok R3 (r.rd sc) g fun c' w H4 F4 p4 R5 s5 => ok _ _ _ _ _ p4 R5 ((s2.trans s3).trans s5)
  | f c i j y => exact h.elim
end
end Sw

/-! tests, choices, displays, calls over the deep state -/
namespace Sw
open PySem L2
section
variable {X : Cx} {W : WX} {B : Bd} {σ : L2.St} {H F : Hp} {env : En} {Y : XP}
/-! ### tests -/
@[simp ↓] def tVal (f : WE) : WT := fun env P Y => f env (fun c env' => ∃ k, c = .fz (.bool k) ∧ P k env') Y
@[simp ↓] def tNotS (t : WT) : WT := fun env P Y => t env (fun k env' => P (!k) env') Y
@[simp ↓] def tAndS (t u : WT) : WT := fun env P Y => t env (fun k env' => if k = true then u env' P Y else P false env') Y
@[simp ↓] def tOrS (t u : WT) : WT := fun env P Y => t env (fun k env' => if k = true then P true env' else u env' P Y) Y
theorem topBool {K : PySem.W.Frag} {v : V} {k : Bool} (R : Rl K B (σ ++ [some v]) H F (env ++ [some (.fz (.bool k))])) : v = .bl k := by
  have q : Rep K F v (.bool k) := R.top R.len1
  cases q
  rfl
theorem topInt {K : PySem.W.Frag} {v : V} {k : Int} (R : Rl K B (σ ++ [some v]) H F (env ++ [some (.fz (.int k))])) : v = .int k := by
  have q : Rep K F v (.int k) := R.top R.len1
  cases q
  rfl
theorem val_imp {f : WE} : ∀ σ H Q, semT X W (tVal f) σ H Q → tB (semE X W f) σ H Q := fun σ H Q ⟨B, F, env, P, Y, R, h, ok, x⟩ =>
  ⟨B, F, env, _, Y, R, h, fun c env' v H' F' ⟨k, e, p⟩ R' s => by
    subst e
    exact ⟨k, topBool R', ok _ _ _ _ p (R'.pop R.nio) s⟩, x⟩
theorem pt_vals {f : WE} {e : Expr} (h : PE X e (semE X W f)) (he : ∀ whole, isTrue e X.env whole = (do let v ← whole; standAt e.pos; holding [v] (truthy v))) : PT X e (semT X W (tVal f)) := ptOf (pt_val h he) val_imp
theorem not_imp {t : WT} : ∀ σ H Q, semT X W (tNotS t) σ H Q → tNot (semT X W t) σ H Q := fun σ H Q ⟨B, F, env, P, Y, R, h, ok, x⟩ =>
  ⟨B, F, env, _, Y, R, h, fun k env' H' F' p R' s => ok _ _ _ _ p R' s, x⟩
theorem and_imp {t u : WT} : ∀ σ H Q, semT X W (tAndS t u) σ H Q → tAnd (semT X W t) (semT X W u) σ H Q := fun σ H Q ⟨B, F, env, P, Y, R, h, ok, x⟩ =>
  ⟨B, F, env, _, Y, R, h, fun k env' H' F' p R' s => by
    cases k with
    | true => exact iteT ⟨B, F', env', P, Y, R', (by rw [if_pos rfl] at p; exact p), fun k2 e2 H2 F2 p2 R2 s2 => ok _ _ _ _ p2 R2 (s.trans s2), x⟩
    | false => exact iteF (ok _ _ _ _ (by rw [if_neg Bool.false_ne_true] at p; exact p) R' s), x⟩
theorem or_imp {t u : WT} : ∀ σ H Q, semT X W (tOrS t u) σ H Q → tOr (semT X W t) (semT X W u) σ H Q := fun σ H Q ⟨B, F, env, P, Y, R, h, ok, x⟩ =>
  ⟨B, F, env, _, Y, R, h, fun k env' H' F' p R' s => by
    cases k with
    | true => exact iteT (ok _ _ _ _ (by rw [if_pos rfl] at p; exact p) R' s)
    | false => exact iteF ⟨B, F', env', P, Y, R', (by rw [if_neg Bool.false_ne_true] at p; exact p), fun k2 e2 H2 F2 p2 R2 s2 => ok _ _ _ _ p2 R2 (s.trans s2), x⟩, x⟩
/-! ### truths as values, choices -/
@[simp ↓] def eAndV (f g : WE) : WE := fun env P Y => f env (fun c env' => ∃ k, c = .fz (.bool k) ∧ if k = true then g env' P Y else P (.fz (.bool false)) env') Y
@[simp ↓] def eOrV (f g : WE) : WE := fun env P Y => f env (fun c env' => ∃ k, c = .fz (.bool k) ∧ if k = true then P (.fz (.bool true)) env' else g env' P Y) Y
@[simp ↓] def eNotV (f : WE) : WE := fun env P Y => f env (fun c env' => ∃ k, c = .fz (.bool k) ∧ P (.fz (.bool (!k))) env') Y
@[simp ↓] def eIf (t : WT) (f g : WE) : WE := fun env P Y => t env (fun k env' => if k = true then f env' P Y else g env' P Y) Y
theorem andV_imp {f g : WE} : ∀ σ H Q, semE X W (eAndV f g) σ H Q → tAndV (semE X W f) (semE X W g) σ H Q := fun σ H Q ⟨B, F, env, P, Y, R, h, ok, x⟩ =>
  ⟨B, F, env, _, Y, R, h, fun c env' v H' F' ⟨k, e, p⟩ R' s => by
    subst e
    have Rp := R'.pop R.nio
    refine ⟨k, topBool R', ?_⟩
    cases k with
    | true => exact iteT ⟨B, F', env', P, Y, Rp, (by rw [if_pos rfl] at p; exact p), fun k2 e2 v2 H2 F2 p2 R2 s2 => ok _ _ _ _ _ p2 R2 (s.trans s2), x⟩
    | false => exact iteF (ok _ _ _ _ _ (by rw [if_neg Bool.false_ne_true] at p; exact p) (Rp.push (.bl _)) s), x⟩
theorem orV_imp {f g : WE} : ∀ σ H Q, semE X W (eOrV f g) σ H Q → tOrV (semE X W f) (semE X W g) σ H Q := fun σ H Q ⟨B, F, env, P, Y, R, h, ok, x⟩ =>
  ⟨B, F, env, _, Y, R, h, fun c env' v H' F' ⟨k, e, p⟩ R' s => by
    subst e
    have Rp := R'.pop R.nio
    refine ⟨k, topBool R', ?_⟩
    cases k with
    | true => exact iteT (ok _ _ _ _ _ (by rw [if_pos rfl] at p; exact p) (Rp.push (.bl _)) s)
    | false => exact iteF ⟨B, F', env', P, Y, Rp, (by rw [if_neg Bool.false_ne_true] at p; exact p), fun k2 e2 v2 H2 F2 p2 R2 s2 => ok _ _ _ _ _ p2 R2 (s.trans s2), x⟩, x⟩
theorem notV_imp {f : WE} : ∀ σ H Q, semE X W (eNotV f) σ H Q → tNotV (semE X W f) σ H Q := fun σ H Q ⟨B, F, env, P, Y, R, h, ok, x⟩ =>
  ⟨B, F, env, _, Y, R, h, fun c env' v H' F' ⟨k, e, p⟩ R' s => by
    subst e
    exact ⟨k, topBool R', ok _ _ _ _ _ p ((R'.pop R.nio).push (.bl _)) s⟩, x⟩
theorem if_imp {t : WT} {f g : WE} : ∀ σ H Q, semE X W (eIf t f g) σ H Q → tIf (semT X W t) (semE X W f) (semE X W g) σ H Q := fun σ H Q ⟨B, F, env, P, Y, R, h, ok, x⟩ =>
  ⟨B, F, env, _, Y, R, h, fun k env' H' F' p R' s => by
    cases k with
    | true => exact iteT ⟨B, F', env', P, Y, R', (by rw [if_pos rfl] at p; exact p), fun k2 e2 v2 H2 F2 p2 R2 s2 => ok _ _ _ _ _ p2 R2 (s.trans s2), x⟩
    | false => exact iteF ⟨B, F', env', P, Y, R', (by rw [if_neg Bool.false_ne_true] at p; exact p), fun k2 e2 v2 H2 F2 p2 R2 s2 => ok _ _ _ _ _ p2 R2 (s.trans s2), x⟩, x⟩
/-! ### a < b < c, whole numbers -/
@[simp ↓] def evChain (p q : Int → Int → Bool) (a b c : Opd) (env : En) (P : Bool → En → Prop) (Y : XP) : Prop :=
  ev2 a b env (fun d1 d2 env2 => ∃ i j, d1 = .int i ∧ d2 = .int j ∧ if p i j = true then ev1 c env2 (fun d3 env3 => ∃ k, d3 = .int k ∧ P (q j k) env3) Y else P false env2) Y
@[simp ↓] def eChain (p q : Int → Int → Bool) (a b c : Opd) : WE := fun env P Y => evChain p q a b c env (fun k env' => P (.fz (.bool k)) env') Y
@[simp ↓] def tChainS (p q : Int → Int → Bool) (a b c : Opd) : WT := fun env P Y => evChain p q a b c env P Y
theorem evChain_ok {p q : Int → Int → Bool} {a b c : Opd} {P : Bool → En → Prop} {Q : VK} (R : Rl X.K B σ H F env) (h : evChain p q a b c env P Y) (x : XOk X.K X.mg B W Y) (ok : ∀ k env' H' F', P k env' → Rl X.K B σ H' F' env' → Same F F' → Q (.bl k) H') :
    tChain (rI0 fun i j => .bl (p i j)) (rI0 fun i j => .bl (q i j)) (tO X W a) (tO X W b) (tO X W c) σ H Q :=
  ev2_ok R h x fun d1 d2 env' v w H' F' ⟨i, j, e1, e2, g⟩ R' s r1 r2 => by
    subst e1 e2
    refine ⟨i, j, r1.int, r2.int, p i j, rfl, ?_⟩
    cases hp : p i j with
    | true =>
      rw [hp, if_pos rfl] at g
      refine iteT (ev1_ok R' g x fun d3 env3 u H3 F3 ⟨k, e3, g3⟩ R3 s3 r3 => ?_)
      subst e3
      exact ⟨j, k, r2.int, r3.int, ok _ _ _ _ g3 R3 (s.trans s3)⟩
    | false =>
      rw [hp, if_neg Bool.false_ne_true] at g
      exact iteF (ok _ _ _ _ g R' s)
theorem chain_imp {p q : Int → Int → Bool} {a b c : Opd} : ∀ σ H Q, semE X W (eChain p q a b c) σ H Q → tChain (rI0 fun i j => .bl (p i j)) (rI0 fun i j => .bl (q i j)) (tO X W a) (tO X W b) (tO X W c) σ H Q :=
  fun σ H Q ⟨B, F, env, P, Y, R, h, ok, x⟩ => evChain_ok R h x fun k env' H' F' p R' s => ok _ _ _ _ _ p (R'.push (.bl _)) s
theorem tchain_imp {p q : Int → Int → Bool} {a b c : Opd} : ∀ σ H Q, semT X W (tChainS p q a b c) σ H Q → tTest (tChain (rI0 fun i j => .bl (p i j)) (rI0 fun i j => .bl (q i j)) (tO X W a) (tO X W b) (tO X W c)) σ H Q :=
  fun σ H Q ⟨B, F, env, P, Y, R, h, ok, x⟩ => evChain_ok R h x fun k env' H' F' p R' s => ⟨k, rfl, ok _ _ _ _ p R' s⟩
/-! ### -x -/
@[simp ↓] def eNeg (a : Opd) : WE := eOp1 (fun d P => match d with
  | .int i => P (.fz (.int (-i)))
  | _ => False) a
theorem neg_imp {a : Opd} : ∀ σ H Q, semE X W (eNeg a) σ H Q → tUn (rU fun i => .int (-i)) (tO X W a) σ H Q := fun σ H Q ⟨B, F, env, P, Y, R, h, ok, x⟩ =>
  ev1_ok R h x fun d env' v H' F' g R' s r => by
    cases d with
    | int i => exact ⟨i, r.int, ok _ _ _ _ _ g (R'.push (.int _)) s⟩
    | _ => exact g.elim
/-! ### displays -/
@[simp ↓] def evL : List WE → En → (List D → En → Prop) → XP → Prop
  | [], env, g, _ => g [] env
  | f :: r, env, g, Y => f env (fun c env1 => c.isSc = false ∧ evL r env1 (fun ds env2 => g (c.toD :: ds) env2) Y) Y
def tEs (X : Cx) (W : WX) : List WE → TA
  | [] => tNil
  | f :: r => tCons (semE X W f) (tEs X W r)
theorem evL_ok : ∀ {fs : List WE} {B : Bd} {H F : Hp} {env : En} {g : List D → En → Prop} {Q : List V → Hp → Prop}, Rl X.K B σ H F env → evL fs env g Y → XOk X.K X.mg B W Y →
    (∀ ds env' vs H' F', g ds env' → Rl X.K B σ H' F' env' → Same F F' → RepL X.K F' vs ds → Q vs H') → tEs X W fs σ H Q
  | [], B, H, F, env, g, Q, R, h, x, k => k _ _ _ _ _ h R (Same.refl F) .nil
  | f :: r, B, H, F, env, g, Q, R, h, x, k => ⟨B, F, env, _, Y, R, h, fun c env1 v H1 F1 ⟨sc, p⟩ R1 s => by
      obtain ⟨F2, s2, R2, r2⟩ := R1.freeze R.nio sc
      exact evL_ok R2 p x fun ds env' vs H' F' q R' s' l => k _ _ _ _ _ q R' ((s.trans s2).trans s') (.cons (r2.mono s') l), x⟩
@[simp ↓] def eTup (fs : List WE) : WE := fun env P Y => evL fs env (fun ds env' => ds.length ≤ sizeLine ∧ P (.fz (.tuple ds)) env') Y
@[simp ↓] def eLst (fs : List WE) : WE := fun env P Y => evL fs env (fun ds env' => ds.length ≤ sizeLine ∧ P (.ow (.lst ds)) env') Y
theorem tup_imp {fs : List WE} : ∀ σ H Q, semE X W (eTup fs) σ H Q → tTup (tEs X W fs) σ H Q := fun σ H Q ⟨B, F, env, P, Y, R, h, ok, x⟩ =>
  evL_ok R h x fun ds env' vs H' F' ⟨z, p⟩ R' s l => ⟨by rw [l.length]; exact z, fun a ha => by
    have sm : Same F' (upd F' a (.tup vs)) := same_new (R'.nF ha)
    exact ok _ _ _ _ _ p ((R'.grow ha).push (.tup (SqT.of upd_same) (l.mono sm))) (s.trans sm)⟩
theorem lst_imp {fs : List WE} : ∀ σ H Q, semE X W (eLst fs) σ H Q → tLst (tEs X W fs) σ H Q := fun σ H Q ⟨B, F, env, P, Y, R, h, ok, x⟩ =>
  evL_ok R h x fun ds env' vs H' F' ⟨z, p⟩ R' s l => ⟨by rw [l.length]; exact z, fun a ha => ok _ _ _ _ _ p (R'.fresh ha ⟨_, upd_same, l⟩) s⟩
/-! ### the state changed -/
def sameKind : Cl → Cl → Prop
  | .ow _, .ow _ => True
  | .io _, .io _ => True
  | c, c' => c = c'
theorem Rl.change {K : PySem.W.Frag} {H' F' : Hp} {env' : En} (R : Rl K B σ H F env) (hl : env'.length = env.length) (s1 : Same F F') (s2 : SubN F' H') (tb : LamX.Tabs (tabsK K) H') (nw : ∀ q o, F' q = some o → F q = some o ∨ strip H q = none ∨ TupO o) (L : Addr → Prop)
    (hL : ∀ q, L q → ∃ (i : Nat) (c : Cl), env[i]? = some (some c) ∧ c.own = true ∧ σ[i]? = some (some (.ref q))) (kp : ∀ q o, strip H q = some o → ¬ L q → H' q = some o)
    (cells : ∀ (i : Nat) (c' : Cl), env'[i]? = some (some c') → ∃ c v, env[i]? = some (some c) ∧ sameKind c c' ∧ σ[i]? = some (some v) ∧ RepC K H' F' v c') (ios : ∀ (i : Nat) (o : OD), env[i]? = some (some (.io o)) → ∃ o', env'[i]? = some (some (.io o'))) :
    Rl K B σ H' F' env' where
  len := hl.trans R.len
  subn := s2
  ext := R.ext.trans s1
  new := fun q o h => by
    rcases nw q o h with e | e | e
    · exact R.new q o e
    · exact .inr (up3 (R.freeS e))
    · exact .inr (.inr (.inr e))
  kept := by
    refine ⟨fun q o h1 h2 h3 => ?_, R.kept.nt, tb⟩
    refine kp q o (strip_some (R.kept.keep q o h1 h2 h3) fun ps z => by rw [z] at h1; exact R.kept.nt q ps h1) fun hq => ?_
    obtain ⟨i, c, e, oc, es⟩ := hL q hq
    cases c with
    | fz d => cases oc
    | sc d => cases oc
    | xn d => cases oc
    | ky d => cases oc
    | fo _ _ => cases oc
    | fl _ _ => cases oc
    | ow u =>
      rcases R.own i u q e es with z | z
      · rw [h1] at z; cases z
      · exact h3 z
    | io u => exact h2 ⟨i, R.ion i u q e es⟩
  cell := fun i c h => by
    obtain ⟨_, v, _, _, e, r⟩ := cells i c h
    exact ⟨v, e, r⟩
  own := fun i o p h e => by
    obtain ⟨c, v, h0, sk, _⟩ := cells i _ h
    cases c with
    | ow u => exact R.own i u p h0 e
    | io u => cases sk
    | fz d => cases sk
    | sc d => cases sk
    | xn d => cases sk
    | ky d => cases sk
    | fo _ _ => cases sk
    | fl _ _ => cases sk
  ion := fun i o p h e => by
    obtain ⟨c, v, h0, sk, _⟩ := cells i _ h
    cases c with
    | io u => exact R.ion i u p h0 e
    | ow u => cases sk
    | fz d => cases sk
    | sc d => cases sk
    | xn d => cases sk
    | ky d => cases sk
    | fo _ _ => cases sk
    | fl _ _ => cases sk
  ioc := fun i p h => by
    obtain ⟨e, o, eo⟩ := R.ioc i p h
    exact ⟨e, ios i o eo⟩
  dist := fun i j c c' p h o e h' o' e' => by
    have ok : ∀ {i : Nat} {c : Cl}, env'[i]? = some (some c) → c.own = true → ∃ c0, env[i]? = some (some c0) ∧ c0.own = true := fun {i c} h o => by
      obtain ⟨c0, v, h0, sk, _⟩ := cells i _ h
      refine ⟨c0, h0, ?_⟩
      cases c0 with
      | ow u => rfl
      | io u => rfl
      | fz d =>
        have sk : Cl.fz d = c := by cases c <;> exact sk
        rw [← sk] at o; cases o
      | sc d =>
        have sk : Cl.sc d = c := by cases c <;> exact sk
        rw [← sk] at o; cases o
      | xn d =>
        have sk : Cl.xn d = c := by cases c <;> exact sk
        rw [← sk] at o; cases o
      | ky d =>
        have sk : Cl.ky d = c := by cases c <;> exact sk
        rw [← sk] at o; cases o
      | fo d d' =>
        have sk : Cl.fo d d' = c := by cases c <;> exact sk
        rw [← sk] at o; cases o
      | fl d d' =>
        have sk : Cl.fl d d' = c := by cases c <;> exact sk
        rw [← sk] at o; cases o
    obtain ⟨c1, h1, o1⟩ := ok h o
    obtain ⟨c2, h2, o2⟩ := ok h' o'
    exact R.dist i j c1 c2 p h1 o1 e h2 o2 e'
end
end Sw

/-! contracts and calls over the deep state -/
namespace Sw
open PySem L2
/-- an argument: by its value, or a name whose thing is lent -/
inductive Arg where
  | v (f : WE)
  | r (i : Nat)
def Cl.frz : Cl → Cl
  | .sc ns => .sc ns
  | .xn a => .xn a
  | .fo c fs => .fo c fs
  | .fl a d => .fl a d
  | c => .fz c.toD
@[simp ↓] def lend (env : En) (i : Nat) (o : OD) : Prop := env[i]? = some (some (.ow o)) ∨ env[i]? = some (some (.io o))
@[simp ↓] def evA : List Arg → En → (List Cl → En → Prop) → XP → Prop
  | [], env, g, _ => g [] env
  | .v f :: r, env, g, Y => f env (fun c env1 => c.isOb = false ∧ evA r env1 (fun cs env2 => g (c.frz :: cs) env2) Y) Y
  | .r i :: r, env, g, Y => (∃ c, env[i]? = some (some c)) ∧ evA r env (fun cs env2 => ∃ o, lend env2 i o ∧ g (.io o :: cs) env2) Y
/-- what a def promises: its arguments' cells, what is wanted of its answer and of what was lent, of what it raises -/
abbrev Ct := List Cl → (Cl → List OD → Prop) → XP → Prop
def setO (env : En) (i : Nat) (o : OD) : En := env.set i (some (match env[i]? with
  | some (some (.io _)) => .io o
  | _ => .ow o))
@[simp ↓] def putO : List Arg → List OD → En → En
  | .r i :: r, o :: os, env => putO r os (setO env i o)
  | .v _ :: r, os, env => putO r os env
  | _, _, env => env
@[simp ↓] def eCall (C : Ct) (as : List Arg) : WE := fun env P Y => evA as env (fun cs env2 => C cs (fun c os => P c (putO as os env2)) Y) Y
def lentOf : List Arg → List Nat
  | [] => []
  | .v _ :: r => lentOf r
  | .r i :: r => i :: lentOf r
/-- the addresses that are lent -/
def lentAt (vs : List V) (cs : List Cl) (j : Nat) (p : Addr) : Prop := (∃ o, cs[j]? = some (.io o)) ∧ vs[j]? = some (.ref p)
def OutsAt (K : PySem.W.Frag) (H F : Hp) : List V → List Cl → List OD → Prop
  | v :: vs, .io _ :: cs, o :: os => (∃ p, v = .ref p ∧ F p = none ∧ OwnAt K H F p o) ∧ OutsAt K H F vs cs os
  | _ :: _, .io _ :: _, [] => False
  | _ :: vs, _ :: cs, os => OutsAt K H F vs cs os
  | [], [], [] => True
  | _, _, _ => False
structure PostOk (K : PySem.W.Frag) (H F : Hp) (vs : List V) (cs : List Cl) (c : Cl) (os : List OD) (v : V) (H' F' : Hp) : Prop where
  s1 : Same F F'
  s2 : SubN F' H'
  new : ∀ q o, F' q = some o → F q = some o ∨ strip H q = none ∨ TupO o
  kept : ∀ q o, strip H q = some o → (∀ j, ¬ lentAt vs cs j q) → H' q = some o
  tabs : LamX.Tabs (tabsK K) H'
  res : RepC K H' F' v c
  nio : ∀ o, c ≠ .io o
  own : ∀ o p, c = .ow o → v = .ref p → strip H p = none
  outs : OutsAt K H' F' vs cs os
def bdOf (H F : Hp) (vs : List V) (cs : List Cl) : Bd := ⟨strip H, F, lentAt vs cs, fun _ => False⟩
/-- the promise as the hand layer tells it -/
def spOf (K : PySem.W.Frag) (mg : Str → Option Value) (n : Nat) (C : Ct) : Sp := fun vs H Q E => ∃ (F : Hp) (cs : List Cl) (P : Cl → List OD → Prop) (Y : XP), vs.length = n ∧ Rl K (bdOf H F vs cs) (vs.map some) H F (cs.map some) ∧ C cs P Y ∧
  (∀ c os v H' F', P c os → PostOk K H F vs cs c os v H' F' → Q v H') ∧ (∀ x cls d H', Y x → ExnIs mg H' x cls d → Kept K (bdOf H F vs cs) H' → E cls d H')
section
variable {X : Cx} {W : WX} {B : Bd} {σ : L2.St} {H F : Hp} {env : En} {Y : XP} {K : PySem.W.Frag}
def tArg (X : Cx) (W : WX) : Arg → TE
  | .v f => semE X W f
  | .r i => tVar i
def tArgs (X : Cx) (W : WX) : List Arg → TA
  | [] => tNil
  | a :: r => tCons (tArg X W a) (tArgs X W r)
/-- the arguments as they stand at the call -/
def AA (K : PySem.W.Frag) (σ : L2.St) (H F : Hp) (env : En) : List Arg → List V → List Cl → Prop
  | [], vs, cs => vs = [] ∧ cs = []
  | .v _ :: r, vs, cs => ∃ v vs' c cs', vs = v :: vs' ∧ cs = c :: cs' ∧ c.own = false ∧ RepC K H F v c ∧ AA K σ H F env r vs' cs'
  | .r i :: r, vs, cs => ∃ v vs' o cs', vs = v :: vs' ∧ cs = .io o :: cs' ∧ σ[i]? = some (some v) ∧ lend env i o ∧ AA K σ H F env r vs' cs'
theorem lend.cell {i : Nat} {o : OD} (R : Rl K B σ H F env) (h : lend env i o) : ∃ p, σ[i]? = some (some (.ref p)) ∧ F p = none ∧ OwnAt K H F p o := by
  rcases h with h | h
  · obtain ⟨v, e, p, rfl, n, q⟩ := R.cell i _ h
    exact ⟨p, e, n, q⟩
  · obtain ⟨v, e, p, rfl, n, q⟩ := R.cell i _ h
    exact ⟨p, e, n, q⟩
theorem frz_keep {H' F' : Hp} {v : V} {c : Cl} (n : c.own = false) (r : RepC K H F v c) (s : Same F F') : RepC K H' F' v c := r.keep s fun p u o => by rw [n] at o; cases o
theorem evA_ok : ∀ {as : List Arg} {B : Bd} {H F : Hp} {env : En} {g : List Cl → En → Prop} {Q : List V → Hp → Prop}, Rl X.K B σ H F env → evA as env g Y → XOk X.K X.mg B W Y →
    (∀ cs env' vs H' F', g cs env' → Rl X.K B σ H' F' env' → Same F F' → AA X.K σ H' F' env' as vs cs → Q vs H') → tArgs X W as σ H Q
  | [], B, H, F, env, g, Q, R, h, x, k => k _ _ _ _ _ h R (Same.refl F) ⟨rfl, rfl⟩
  | .v f :: r, B, H, F, env, g, Q, R, h, x, k => ⟨B, F, env, _, Y, R, h, fun c env1 v H1 F1 ⟨nb, p⟩ R1 s => by
      have main : ∀ F2, Same F1 F2 → Rl X.K B σ H1 F2 env1 → RepC X.K H1 F2 v c.frz → c.frz.own = false → tArgs X W r σ H1 fun vs H2 => Q (v :: vs) H2 := fun F2 s2 R2 r2 n2 =>
        evA_ok R2 p x fun cs env' vs H' F' q R' s' l => k _ _ _ _ _ q R' ((s.trans s2).trans s') ⟨v, vs, c.frz, cs, rfl, rfl, n2, frz_keep n2 r2 s', l⟩
      cases c with
      | sc ns => exact main F1 (Same.refl F1) (R1.pop R.nio) (R1.top R1.len1) rfl
      | xn a => exact main F1 (Same.refl F1) (R1.pop R.nio) (R1.top R1.len1) rfl
      | fo _ _ => exact main F1 (Same.refl F1) (R1.pop R.nio) (R1.top R1.len1) rfl
      | fl _ _ => exact main F1 (Same.refl F1) (R1.pop R.nio) (R1.top R1.len1) rfl
      | fz d =>
        obtain ⟨F2, s2, R2, r2⟩ := R1.freeze R.nio rfl
        exact main F2 s2 R2 r2 rfl
      | ky k =>
        obtain ⟨F2, s2, R2, r2⟩ := R1.freeze R.nio rfl
        exact main F2 s2 R2 r2 rfl
      | ow o =>
        obtain ⟨F2, s2, R2, r2⟩ := R1.freeze R.nio nb
        exact main F2 s2 R2 r2 rfl
      | io o =>
        obtain ⟨F2, s2, R2, r2⟩ := R1.freeze R.nio nb
        exact main F2 s2 R2 r2 rfl, x⟩
  | .r i :: r, B, H, F, env, g, Q, R, h, x, k => by
      obtain ⟨⟨c0, hc0⟩, h⟩ := h
      obtain ⟨v, ev, _⟩ := R.cell i c0 hc0
      exact ⟨v, ev, evA_ok R h x fun cs env' vs H' F' ⟨o, lo, q⟩ R' s' l => k _ _ _ _ _ q R' s' ⟨v, vs, o, cs, rfl, rfl, ev, lo, l⟩⟩
theorem AA.len : ∀ {as : List Arg} {vs : List V} {cs : List Cl}, AA K σ H F env as vs cs → vs.length = as.length ∧ cs.length = as.length
  | [], _, _, h => by obtain ⟨rfl, rfl⟩ := h; exact ⟨rfl, rfl⟩
  | .v _ :: r, _, _, h => by
    obtain ⟨v, vs, c, cs, rfl, rfl, _, _, h⟩ := h
    have := AA.len h
    exact ⟨congrArg (· + 1) this.1, congrArg (· + 1) this.2⟩
  | .r _ :: r, _, _, h => by
    obtain ⟨v, vs, c, cs, rfl, rfl, _, _, h⟩ := h
    have := AA.len h
    exact ⟨congrArg (· + 1) this.1, congrArg (· + 1) this.2⟩
/-- each argument's cell -/
theorem AA.cell (R : Rl K B σ H F env) : ∀ {as : List Arg} {vs : List V} {cs : List Cl}, AA K σ H F env as vs cs → ∀ (j : Nat) (c : Cl), cs[j]? = some c → ∃ v, vs[j]? = some v ∧ RepC K H F v c ∧ (∀ o, c ≠ .ow o)
  | [], _, _, h, j, c, e => by obtain ⟨rfl, rfl⟩ := h; simp at e
  | .v _ :: r, _, _, h, j, c, e => by
    obtain ⟨v, vs, c', cs, rfl, rfl, n, q, h⟩ := h
    cases j with
    | zero =>
      simp at e
      subst e
      exact ⟨v, rfl, q, fun o z => by subst z; cases n⟩
    | succ j => simpa using AA.cell R h j c (by simpa using e)
  | .r i :: r, _, _, h, j, c, e => by
    obtain ⟨v, vs, o, cs, rfl, rfl, es, l, h⟩ := h
    cases j with
    | zero =>
      simp at e
      subst e
      obtain ⟨p, e', n, q⟩ := l.cell R
      rw [es] at e'
      cases e'
      exact ⟨_, rfl, ⟨p, rfl, n, q⟩, fun o z => by cases z⟩
    | succ j => simpa using AA.cell R h j c (by simpa using e)
/-- a lent cell is a slot's -/
theorem AA.slot : ∀ {as : List Arg} {vs : List V} {cs : List Cl}, AA K σ H F env as vs cs → ∀ (j : Nat) (o : OD), cs[j]? = some (.io o) → ∃ i, as[j]? = some (.r i) ∧ lend env i o ∧ ∃ v, vs[j]? = some v ∧ σ[i]? = some (some v)
  | [], _, _, h, j, c, e => by obtain ⟨rfl, rfl⟩ := h; simp at e
  | .v _ :: r, _, _, h, j, c, e => by
    obtain ⟨v, vs, c', cs, rfl, rfl, n, q, h⟩ := h
    cases j with
    | zero => simp at e; subst e; cases n
    | succ j => simpa using AA.slot h j c (by simpa using e)
  | .r i :: r, _, _, h, j, c, e => by
    obtain ⟨v, vs, o, cs, rfl, rfl, es, l, h⟩ := h
    cases j with
    | zero => simp at e; subst e; exact ⟨i, rfl, l, v, rfl, es⟩
    | succ j => simpa using AA.slot h j c (by simpa using e)
theorem lend.own {i : Nat} {o : OD} (h : lend env i o) : ∃ c : Cl, env[i]? = some (some c) ∧ c.own = true := by
  rcases h with h | h
  · exact ⟨_, h, rfl⟩
  · exact ⟨_, h, rfl⟩
theorem lent_nodup : ∀ {as : List Arg}, (lentOf as).Nodup → ∀ {j k i : Nat}, as[j]? = some (.r i) → as[k]? = some (.r i) → j = k := by
  have mem : ∀ {as : List Arg} {k i : Nat}, as[k]? = some (.r i) → i ∈ lentOf as := fun {as} => by
    induction as with
    | nil => intro k i h; simp at h
    | cons a r ih =>
      intro k i h
      cases k with
      | zero => simp at h; subst h; exact List.mem_cons_self
      | succ k =>
        have := ih (by simpa using h)
        cases a with
        | v f => exact this
        | r j => exact List.mem_cons_of_mem _ this
  intro as
  induction as with
  | nil => intro _ j k i h; simp at h
  | cons a r ih =>
    intro nd j k i h1 h2
    cases j with
    | zero =>
      cases k with
      | zero => rfl
      | succ k =>
        simp at h1
        subst h1
        have z : i ∈ lentOf r := mem (by simpa using h2)
        exact ((List.nodup_cons.mp nd).1 z).elim
    | succ j =>
      cases k with
      | zero =>
        simp at h2
        subst h2
        have z : i ∈ lentOf r := mem (by simpa using h1)
        exact ((List.nodup_cons.mp nd).1 z).elim
      | succ k =>
        have nd' : (lentOf r).Nodup := by
          cases a with
          | v f => exact nd
          | r j => exact (List.nodup_cons.mp nd).2
        exact congrArg (· + 1) (ih nd' (by simpa using h1) (by simpa using h2))
/-- the callee's state at its entry -/
theorem AA.entry {as : List Arg} {vs : List V} {cs : List Cl} (R : Rl K B σ H F env) (h : AA K σ H F env as vs cs) (nd : (lentOf as).Nodup) : Rl K (bdOf H F vs cs) (vs.map some) H F (cs.map some) where
  len := by rw [List.length_map, List.length_map, h.len.1, h.len.2]
  subn := R.subn
  ext := Same.refl F
  new := fun _ _ h => .inl h
  kept := ⟨fun _ _ h _ _ => (strip_get h).1, fun q ps h => (strip_get h).2 ps rfl, R.kept.tabs⟩
  cell := fun j c e => by
    rw [List.getElem?_map] at e
    cases q : cs[j]? with
    | none => rw [q] at e; cases e
    | some c' =>
      rw [q] at e
      cases e
      obtain ⟨v, ev, r, _⟩ := h.cell R j c q
      exact ⟨v, by rw [List.getElem?_map, ev]; rfl, r⟩
  own := fun j o p e _ => by
    rw [List.getElem?_map] at e
    cases q : cs[j]? with
    | none => rw [q] at e; cases e
    | some c' =>
      rw [q] at e
      cases e
      obtain ⟨v, ev, r, n⟩ := h.cell R j _ q
      exact (n o rfl).elim
  ion := fun j o p e es => by
    rw [List.getElem?_map] at e es
    cases q : cs[j]? with
    | none => rw [q] at e; cases e
    | some c' =>
      rw [q] at e
      cases e
      cases q2 : vs[j]? with
      | none => rw [q2] at es; cases es
      | some v =>
        rw [q2] at es
        cases es
        exact ⟨⟨o, q⟩, q2⟩
  ioc := fun j p ⟨⟨o, q⟩, q2⟩ => ⟨by rw [List.getElem?_map, q2]; rfl, o, by rw [List.getElem?_map, q]; rfl⟩
  dist := fun j k c c' p e1 o1 es1 e2 o2 es2 => by
    have look : ∀ {j : Nat} {c : Cl}, (cs.map some)[j]? = some (some c) → c.own = true → (vs.map some)[j]? = some (some (V.ref p)) → ∃ i, as[j]? = some (.r i) ∧ (∃ c0, env[i]? = some (some c0) ∧ c0.own = true) ∧ σ[i]? = some (some (.ref p)) := fun {j c} e o es => by
      rw [List.getElem?_map] at e es
      cases q : cs[j]? with
      | none => rw [q] at e; cases e
      | some c' =>
        rw [q] at e
        cases e
        obtain ⟨v, ev, r, n⟩ := h.cell R j _ q
        cases c with
        | fz d => cases o
        | sc d => cases o
        | xn d => cases o
        | ky d => cases o
        | fo _ _ => cases o
        | fl _ _ => cases o
        | ow u => exact (n u rfl).elim
        | io u =>
          obtain ⟨i, ei, l, v', ev', es'⟩ := h.slot j u q
          rw [ev'] at es
          cases es
          exact ⟨i, ei, l.own, es'⟩
    obtain ⟨i1, a1, ⟨c1, h1, w1⟩, z1⟩ := look e1 o1 es1
    obtain ⟨i2, a2, ⟨c2, h2, w2⟩, z2⟩ := look e2 o2 es2
    have := R.dist i1 i2 c1 c2 p h1 w1 z1 h2 w2 z2
    subst this
    exact lent_nodup nd a1 a2
theorem putO_len : ∀ (as : List Arg) (os : List OD) (env : En), (putO as os env).length = env.length
  | [], _, _ => by unfold putO; rfl
  | .v _ :: r, os, env => by unfold putO; exact putO_len r os env
  | .r i :: r, [], env => by unfold putO; rfl
  | .r i :: r, o :: os, env => by
    unfold putO
    rw [putO_len r os]
    unfold setO
    rw [List.length_set]
theorem setO_ne {i j : Nat} {o : OD} (h : i ≠ j) : (setO env i o)[j]? = env[j]? := by
  unfold setO
  rw [List.getElem?_set_ne h]
theorem putO_out : ∀ {as : List Arg} {os : List OD} {env : En} {j : Nat}, j ∉ lentOf as → (putO as os env)[j]? = env[j]?
  | [], _, _, _, _ => by unfold putO; rfl
  | .v _ :: r, os, env, j, h => by unfold putO; exact putO_out (as := r) h
  | .r i :: r, [], env, j, h => by unfold putO; rfl
  | .r i :: r, o :: os, env, j, h => by
    unfold putO
    have h1 : j ≠ i := fun z => h (by rw [z]; exact List.mem_cons_self)
    have h2 : j ∉ lentOf r := fun z => h (List.mem_cons_of_mem _ z)
    rw [putO_out h2, setO_ne (Ne.symm h1)]
/-- what stands at a lent slot behind the call -/
theorem putO_in : ∀ {as : List Arg} {os : List OD} {env env0 : En} {vs : List V} {cs : List Cl} {H' F' : Hp}, (lentOf as).Nodup → AA K σ H F env0 as vs cs → (∀ i ∈ lentOf as, env[i]? = env0[i]?) → OutsAt K H' F' vs cs os → ∀ i ∈ lentOf as,
    ∃ o c, (∃ u, env0[i]? = some (some (.ow u)) ∧ c = .ow o ∨ env0[i]? = some (some (.io u)) ∧ c = .io o) ∧ (putO as os env)[i]? = some (some c) ∧ ∃ p, σ[i]? = some (some (.ref p)) ∧ F' p = none ∧ OwnAt K H' F' p o
  | [], _, _, _, _, _, _, _, _, _, _, _, i, h => by cases h
  | .v _ :: r, os, env, env0, _, _, H', F', nd, h, he, ho, i, hi => by
    obtain ⟨v, vs, c, cs, rfl, rfl, n, q, h⟩ := h
    unfold putO
    have ho' : OutsAt K H' F' vs cs os := by
      cases c with
      | fz d => exact ho
      | sc d => exact ho
      | xn d => exact ho
      | ky d => exact ho
      | fo _ _ => exact ho
      | fl _ _ => exact ho
      | ow d => cases n
      | io d => cases n
    exact putO_in (as := r) nd h he ho' i hi
  | .r k :: r, [], env, env0, _, _, H', F', nd, h, he, ho, i, hi => by
    obtain ⟨v, vs, o, cs, rfl, rfl, es, l, h⟩ := h
    exact ho.elim
  | .r k :: r, u :: os, env, env0, _, _, H', F', nd, h, he, ho, i, hi => by
    obtain ⟨v, vs, o, cs, rfl, rfl, es, l, h⟩ := h
    obtain ⟨⟨p, hv, np, oa⟩, ho⟩ := ho
    have nd' := List.nodup_cons.mp (show (k :: lentOf r).Nodup from nd)
    unfold putO
    by_cases e : i = k
    · subst e
      rw [putO_out nd'.1]
      have hk : env[i]? = env0[i]? := he i List.mem_cons_self
      have hlt : i < env.length := by
        rcases l with l | l
        · rw [← hk] at l; exact (List.getElem?_eq_some_iff.mp l).1
        · rw [← hk] at l; exact (List.getElem?_eq_some_iff.mp l).1
      subst hv
      rcases l with l | l
      · refine ⟨u, .ow u, ⟨o, .inl ⟨l, rfl⟩⟩, ?_, p, es, np, oa⟩
        unfold setO
        rw [List.getElem?_set_self hlt, hk, l]
      · refine ⟨u, .io u, ⟨o, .inr ⟨l, rfl⟩⟩, ?_, p, es, np, oa⟩
        unfold setO
        rw [List.getElem?_set_self hlt, hk, l]
    · have hi' : i ∈ lentOf r := by
        rcases List.mem_cons.mp (show i ∈ k :: lentOf r from hi) with z | z
        · exact (e z).elim
        · exact z
      exact putO_in (as := r) nd'.2 h (fun j hj => by
        rw [setO_ne (fun z => nd'.1 (by rw [z]; exact hj))]
        exact he j (List.mem_cons_of_mem _ hj)) ho i hi'
theorem mem_lent : ∀ {as : List Arg} {k i : Nat}, as[k]? = some (.r i) → i ∈ lentOf as
  | [], _, _, h => by simp at h
  | a :: r, 0, i, h => by simp at h; subst h; exact List.mem_cons_self
  | a :: r, k + 1, i, h => by
    have := mem_lent (as := r) (k := k) (i := i) (by simpa using h)
    cases a with
    | v f => exact this
    | r j => exact List.mem_cons_of_mem _ this
theorem AA.at : ∀ {as : List Arg} {vs : List V} {cs : List Cl}, AA K σ H F env as vs cs → ∀ i ∈ lentOf as, ∃ (j : Nat) (o : OD) (v : V), cs[j]? = some (.io o) ∧ vs[j]? = some v ∧ σ[i]? = some (some v) ∧ lend env i o
  | [], _, _, h, i, hi => by cases hi
  | .v _ :: r, _, _, h, i, hi => by
    obtain ⟨v, vs, c, cs, rfl, rfl, _, _, h⟩ := h
    obtain ⟨j, o, v, q⟩ := AA.at h i hi
    exact ⟨j + 1, o, v, by simpa using q⟩
  | .r k :: r, _, _, h, i, hi => by
    obtain ⟨v, vs, o, cs, rfl, rfl, es, l, h⟩ := h
    rcases List.mem_cons.mp (show i ∈ k :: lentOf r from hi) with z | z
    · subst z; exact ⟨0, o, v, rfl, rfl, es, l⟩
    · obtain ⟨j, o, v, q⟩ := AA.at h i z
      exact ⟨j + 1, o, v, by simpa using q⟩
/-- behind the call -/
theorem PostOk.after {as : List Arg} {vs : List V} {cs : List Cl} {c : Cl} {os : List OD} {v : V} {H' F' : Hp} (R : Rl K B σ H F env) (h : AA K σ H F env as vs cs) (nd : (lentOf as).Nodup) (q : PostOk K H F vs cs c os v H' F') :
    Rl K B (σ ++ [some v]) H' F' (putO as os env ++ [some c]) := by
  have inn := putO_in (H' := H') (F' := F') nd h (fun _ _ => rfl) q.outs
  have lentSlot : ∀ p, (∃ j, lentAt vs cs j p) → ∃ i ∈ lentOf as, σ[i]? = some (some (.ref p)) ∧ ∃ c, env[i]? = some (some c) ∧ c.own = true := fun p ⟨j, ⟨o, e⟩, e2⟩ => by
    obtain ⟨i, ei, l, v', ev', es'⟩ := h.slot j o e
    rw [e2] at ev'
    cases ev'
    exact ⟨i, mem_lent ei, es', l.own⟩
  have R2 : Rl K B σ H' F' (putO as os env) := by
    refine R.change (putO_len _ _ _) q.s1 q.s2 q.tabs q.new (fun p => ∃ j, lentAt vs cs j p) (fun p hp => ?_) (fun p o e n => q.kept p o e fun j hj => n ⟨j, hj⟩) (fun i c' e => ?_) (fun i o e => ?_)
    · obtain ⟨i, _, es, c, e, o⟩ := lentSlot p hp
      exact ⟨i, c, e, o, es⟩
    · by_cases hi : i ∈ lentOf as
      · obtain ⟨o, c2, k, e2, p, es, np, oa⟩ := inn i hi
        rw [e] at e2
        cases e2
        obtain ⟨u, ⟨h0, rfl⟩ | ⟨h0, rfl⟩⟩ := k
        · exact ⟨_, _, h0, trivial, es, p, rfl, np, oa⟩
        · exact ⟨_, _, h0, trivial, es, p, rfl, np, oa⟩
      · rw [putO_out hi] at e
        obtain ⟨w, ew, r⟩ := R.cell i c' e
        refine ⟨c', w, e, ?_, ew, r.keep q.s1 fun p u o hw hu hn => ?_⟩
        · cases c' <;> first | trivial | rfl
        · have nl : ∀ j, ¬ lentAt vs cs j p := fun j hj => by
            obtain ⟨k, hk, es, c0, e0, o0⟩ := lentSlot p ⟨j, hj⟩
            have := R.dist i k c' c0 p e o (by rw [ew, hw]) e0 o0 es
            subst this
            exact hi hk
          have hs : strip H p = some u := by
            obtain ⟨p', e', _, u', hu', hs', _⟩ := R.atS e o
            rw [ew, hw] at e'
            cases e'
            rw [hu] at hu'
            cases hu'
            exact hs'
          refine ⟨?_, q.kept p u hs nl⟩
          cases z : F' p with
          | none => rfl
          | some y =>
            rcases q.new p y z with w | w | w
            · rw [hn] at w; cases w
            · rw [hs] at w; cases w
            · have e1 := q.s2.1 p y z
              rw [q.kept p u hs nl] at e1
              cases e1
              exact (R.ntup e o (by rw [ew, hw]) hu w).elim
    · by_cases hi : i ∈ lentOf as
      · obtain ⟨o', c2, k, e2, _⟩ := inn i hi
        obtain ⟨u, ⟨h0, rfl⟩ | ⟨h0, rfl⟩⟩ := k
        · rw [e] at h0; cases h0
        · exact ⟨o', e2⟩
      · exact ⟨o, by rw [putO_out hi]; exact e⟩
  refine R2.pushC q.res q.nio fun o p e1 e2 => ?_
  have n := q.own o p e1 e2
  refine ⟨R.freeS n, fun j c' ej oj es => ?_⟩
  have old : ∃ c0, env[j]? = some (some c0) ∧ c0.own = true := by
    by_cases hi : j ∈ lentOf as
    · obtain ⟨k, o2, v2, _, _, _, l⟩ := h.at j hi
      exact l.own
    · rw [putO_out hi] at ej
      exact ⟨c', ej, oj⟩
  obtain ⟨c0, e0, o0⟩ := old
  obtain ⟨p', e', _, u, _, hu, _⟩ := R.atS e0 o0
  rw [es] at e'
  cases e'
  rw [n] at hu
  cases hu
/-- a call of a def that keeps its promise -/
theorem call_imp {C : Ct} {as : List Arg} {n : Nat} (hn : as.length = n) (nd : (lentOf as).Nodup) : ∀ σ H Q, semE X W (eCall C as) σ H Q → tCallS (spOf X.K X.mg n C) (L2.WE W) (tArgs X W as) σ H Q := fun σ H Q ⟨B, F, env, P, Y, R, h, ok, x⟩ =>
  evA_ok R h x fun cs env' vs H' F' hc R' s l => by
    refine ⟨F', cs, _, Y, by rw [l.len.1]; exact hn, l.entry R' nd, hc, fun c os v H2 F2 p q => ok _ _ _ _ _ p (q.after R' l nd) (s.trans q.s1), fun e cls d H2 y i k => x e σ H2 cls d y i ⟨fun a o h1 h2 h3 => ?_, R'.kept.nt, k.tabs⟩⟩
    refine k.keep a o (strip_some (R'.kept.keep a o h1 h2 h3) fun ps z => by rw [z] at h1; exact R'.kept.nt a ps h1) (fun ⟨j, hj⟩ => ?_) fun z => z
    obtain ⟨⟨u, e1⟩, e2⟩ := hj
    obtain ⟨i, ei, lo, v', ev', es'⟩ := l.slot j u e1
    rw [e2] at ev'
    cases ev'
    rcases lo with lo | lo
    · rcases R'.own i u a lo es' with z | z
      · rw [h1] at z; cases z
      · exact h3 z
    · exact h2 ⟨i, R'.ion i u a lo es'⟩
end
end Sw

/-! statements over the deep state -/
namespace Sw
open PySem L2
structure SK where
  nx : En → Prop
  rt : Cl → En → Prop
  bk : En → Prop
  ct : En → Prop
  xc : XP
abbrev WS := En → SK → Prop
structure SOk (K : PySem.W.Frag) (B : Bd) (F : Hp) (S : SK) (D : Ends) : Prop where
  nx : ∀ env' σ' H' F', S.nx env' → Rl K B σ' H' F' env' → Same F F' → D.nx σ' H'
  rt : ∀ c env' σ' v H' F', S.rt c env' → Rl K B (σ' ++ [some v]) H' F' (env' ++ [some c]) → (∀ p, ¬ B.io σ'.length p) → Same F F' → D.rt v H'
  bk : ∀ env' σ' H' F', S.bk env' → Rl K B σ' H' F' env' → Same F F' → D.bk σ' H'
  ct : ∀ env' σ' H' F', S.ct env' → Rl K B σ' H' F' env' → Same F F' → D.ct σ' H'
theorem SOk.more {K : PySem.W.Frag} {B : Bd} {F F' : Hp} {S : SK} {D : Ends} (k : SOk K B F S D) (s : Same F F') : SOk K B F' S D :=
  ⟨fun e σ H G p R t => k.nx e σ H G p R (s.trans t), fun c e σ v H G p R n t => k.rt c e σ v H G p R n (s.trans t), fun e σ H G p R t => k.bk e σ H G p R (s.trans t), fun e σ H G p R t => k.ct e σ H G p R (s.trans t)⟩
def semS (X : Cx) (W : WX) (f : WS) : TS := fun D σ H => ∃ (B : Bd) (F : Hp) (env : En) (S : SK), Rl X.K B σ H F env ∧ f env S ∧ SOk X.K B F S D ∧ XOk X.K X.mg B W S.xc
section
variable {X : Cx} {W : WX} {B : Bd} {σ : L2.St} {H F : Hp} {env : En} {Y : XP} {K : PySem.W.Frag}
/-! ### blocks -/
@[simp ↓] def sNext : WS := fun env S => S.nx env
@[simp ↓] def sSeq (f g : WS) : WS := fun env S => f env { S with nx := fun env' => g env' S }
@[simp ↓] def sRet (f : WE) : WS := fun env S => f env S.rt S.xc
@[simp ↓] def sRetN : WS := fun env S => S.rt (.fz .none) env
@[simp ↓] def sIf (t : WT) (f g : WS) : WS := fun env S => t env (fun k env' => if k = true then f env' S else g env' S) S.xc
@[simp ↓] def sExpr (f : WE) : WS := fun env S => f env (fun _ env' => S.nx env') S.xc
theorem next_imp : ∀ D σ H, semS X W sNext D σ H → tNext D σ H := fun D σ H ⟨B, F, env, S, R, h, ok, x⟩ => ok.nx _ _ _ _ h R (Same.refl F)
theorem seq_imp {f g : WS} : ∀ D σ H, semS X W (sSeq f g) D σ H → tSeq (semS X W f) (semS X W g) D σ H := fun D σ H ⟨B, F, env, S, R, h, ok, x⟩ =>
  ⟨B, F, env, _, R, h, ⟨fun e σ' H' F' p R' s => ⟨B, F', e, S, R', p, ok.more s, x⟩, ok.rt, ok.bk, ok.ct⟩, x⟩
theorem ret_imp {f : WE} : ∀ D σ H, semS X W (sRet f) D σ H → tRet (semE X W f) D σ H := fun D σ H ⟨B, F, env, S, R, h, ok, x⟩ =>
  ⟨B, F, env, S.rt, S.xc, R, h, fun c env' v H' F' p R' s => ok.rt _ _ _ _ _ _ p R' R.nio s, x⟩
theorem retN_imp : ∀ D σ H, semS X W sRetN D σ H → tRetN D σ H := fun D σ H ⟨B, F, env, S, R, h, ok, x⟩ =>
  ok.rt _ _ _ _ _ _ h (R.push .non) R.nio (Same.refl F)
theorem sif_imp {t : WT} {f g : WS} : ∀ D σ H, semS X W (sIf t f g) D σ H → tIfS (semT X W t) (semS X W f) (semS X W g) D σ H := fun D σ H ⟨B, F, env, S, R, h, ok, x⟩ =>
  ⟨B, F, env, _, S.xc, R, h, fun k env' H' F' p R' s => by
    cases k with
    | true => exact iteT ⟨B, F', env', S, R', (by rw [if_pos rfl] at p; exact p), ok.more s, x⟩
    | false => exact iteF ⟨B, F', env', S, R', (by rw [if_neg Bool.false_ne_true] at p; exact p), ok.more s, x⟩, x⟩
theorem expr_imp {f : WE} : ∀ D σ H, semS X W (sExpr f) D σ H → tDrop (semE X W f) D σ H := fun D σ H ⟨B, F, env, S, R, h, ok, x⟩ =>
  ⟨B, F, env, _, S.xc, R, h, fun c env' v H' F' p R' s => ok.nx _ _ _ _ p (R'.pop R.nio) s, x⟩
/-! ### a name stored -/
@[simp ↓] def canSet (env : En) (i : Nat) : Prop := i < env.length ∧ ∀ o, env[i]? ≠ some (some (.io o))
theorem Rl.setTop {v : V} {c : Cl} {i : Nat} (R1 : Rl K B (σ ++ [some v]) H F (env ++ [some c])) (nio : ∀ p, ¬ B.io σ.length p) (hi : canSet env i) : Rl K B (σ.set i (some v)) H F (env.set i (some c)) := by
  have R : Rl K B σ H F env := R1.pop nio
  have hl : env.length = σ.length := R.len
  have ec : (env ++ [some c])[σ.length]? = some (some c) := by rw [← hl]; exact get_last
  have ev : (σ ++ [some v])[σ.length]? = some (some v) := get_last
  have his : i < σ.length := by rw [← hl]; exact hi.1
  -- where a cell of the new state stood
  have old : ∀ {j : Nat} {c' : Cl}, (env.set i (some c))[j]? = some (some c') → ∃ k, (env ++ [some c])[k]? = some (some c') ∧ (σ.set i (some v))[j]? = (σ ++ [some v])[k]? ∧ ((j = i ∧ k = σ.length) ∨ (j ≠ i ∧ k = j)) := fun {j c'} h => by
    by_cases e : j = i
    · subst e
      rw [List.getElem?_set_self hi.1] at h
      exact ⟨σ.length, by rw [ec]; exact h, by rw [List.getElem?_set_self his, ev], .inl ⟨rfl, rfl⟩⟩
    · rw [List.getElem?_set_ne (Ne.symm e)] at h
      have hj : j < σ.length := by rw [← hl]; exact (List.getElem?_eq_some_iff.mp h).1
      exact ⟨j, get_pre h, by rw [List.getElem?_set_ne (Ne.symm e), List.getElem?_append_left hj], .inr ⟨e, rfl⟩⟩
  refine ⟨by rw [List.length_set, List.length_set]; exact hl, R.subn, R.ext, R.new, R.kept, fun j c' h => ?_, fun j o p h e => ?_, fun j o p h e => ?_, fun j p h => ?_, fun j k c1 c2 p h1 o1 e1 h2 o2 e2 => ?_⟩
  · obtain ⟨k, h', e, _⟩ := old h
    obtain ⟨w, ew, r⟩ := R1.cell k c' h'
    exact ⟨w, by rw [e]; exact ew, r⟩
  · obtain ⟨k, h', e', _⟩ := old h
    exact R1.own k o p h' (by rw [← e']; exact e)
  · obtain ⟨k, h', e', z⟩ := old h
    have q := R1.ion k o p h' (by rw [← e']; exact e)
    rcases z with ⟨_, rfl⟩ | ⟨_, rfl⟩
    · exact (nio p q).elim
    · exact q
  · obtain ⟨e1, o, h1⟩ := R.ioc j p h
    have ne : j ≠ i := fun z => hi.2 o (by rw [← z]; exact h1)
    exact ⟨by rw [List.getElem?_set_ne (Ne.symm ne)]; exact e1, o, by rw [List.getElem?_set_ne (Ne.symm ne)]; exact h1⟩
  · obtain ⟨k1, h1', e1', z1⟩ := old h1
    obtain ⟨k2, h2', e2', z2⟩ := old h2
    have := R1.dist k1 k2 c1 c2 p h1' o1 (by rw [← e1']; exact e1) h2' o2 (by rw [← e2']; exact e2)
    rcases z1 with ⟨a1, b1⟩ | ⟨a1, b1⟩
    · rcases z2 with ⟨a2, b2⟩ | ⟨a2, b2⟩
      · rw [a1, a2]
      · have lt : k < σ.length := by
          have := (List.getElem?_eq_some_iff.mp h2).1
          rw [List.length_set, hl] at this
          exact this
        omega
    · rcases z2 with ⟨a2, b2⟩ | ⟨a2, b2⟩
      · have lt : j < σ.length := by
          have := (List.getElem?_eq_some_iff.mp h1).1
          rw [List.length_set, hl] at this
          exact this
        omega
      · omega
@[simp ↓] def sSet (i : Nat) (f : WE) : WS := fun env S => f env (fun c env' => canSet env' i ∧ S.nx (env'.set i (some c))) S.xc
theorem set_imp {i : Nat} {f : WE} : ∀ D σ H, semS X W (sSet i f) D σ H → tAsg (semE X W f) (gName i) D σ H := fun D σ H ⟨B, F, env, S, R, h, ok, x⟩ =>
  ⟨B, F, env, _, S.xc, R, h, fun c env' v H' F' ⟨n, p⟩ R' s => ok.nx _ _ _ _ p (R'.setTop R.nio n) s, x⟩
/-! ### targets -/
mutual
inductive Tg where
  | nm (i : Nat)
  | tp (ts : Tgs)
  | ls (ts : Tgs)
inductive Tgs where
  | nil
  | cons (t : Tg) (ts : Tgs)
end
def Tgs.len : Tgs → Nat
  | .nil => 0
  | .cons _ ts => ts.len + 1
mutual
def Tg.slots : Tg → List Nat
  | .nm i => [i]
  | .tp ts => ts.slots
  | .ls ts => ts.slots
def Tgs.slots : Tgs → List Nat
  | .nil => []
  | .cons t ts => t.slots ++ ts.slots
end
mutual
def asg : Tg → D → En → (En → Prop) → Prop
  | .nm i, d, env, P => canSet env i ∧ P (env.set i (some (.fz d)))
  | .tp ts, d, env, P => match d with
    | .tuple ds => asgs ts ds env P
    | _ => False
  | .ls ts, d, env, P => match d with
    | .list ds => asgs ts ds env P
    | _ => False
def asgs : Tgs → List D → En → (En → Prop) → Prop
  | .nil, [], env, P => P env
  | .cons t ts, d :: ds, env, P => asg t d env fun env' => asgs ts ds env' P
  | _, _, _, _ => False
end
mutual
def gT (K : PySem.W.Frag) : Tg → TG
  | .nm i => gName i
  | .tp ts => gTup K ts.len (gTs K ts)
  | .ls ts => gLst K ts.len (gTs K ts)
def gTs (K : PySem.W.Frag) : Tgs → TGs
  | .nil => gNil
  | .cons t ts => gCons (gT K t) (gTs K ts)
end
/-- but for the slots vs -/
def butS (vs : List Nat) (σ σ' : L2.St) : Prop := σ'.length = σ.length ∧ ∀ j, j ∉ vs → σ'[j]? = σ[j]?
theorem asgs_len : ∀ {ts : Tgs} {ds : List D} {env : En} {P : En → Prop}, asgs ts ds env P → (∀ t env' d Q, asg t d env' Q → ∃ e, Q e) → ds.length = ts.len
  | .nil, [], _, _, _, _ => rfl
  | .nil, _ :: _, _, _, h, _ => by unfold asgs at h; exact h.elim
  | .cons t ts, [], _, _, h, _ => by unfold asgs at h; exact h.elim
  | .cons t ts, d :: ds, env, P, h, k => by
    unfold asgs at h
    obtain ⟨e, h⟩ := k t env d _ h
    exact congrArg (· + 1) (asgs_len h k)
mutual
theorem asg_ex : ∀ (t : Tg) (d : D) (env : En) (Q : En → Prop), asg t d env Q → ∃ e, Q e
  | .nm i, d, env, Q, h => by unfold asg at h; exact ⟨_, h.2⟩
  | .tp ts, d, env, Q, h => by
    unfold asg at h
    cases d with
    | tuple ds => exact asgs_ex ts ds env Q h
    | _ => exact h.elim
  | .ls ts, d, env, Q, h => by
    unfold asg at h
    cases d with
    | list ds => exact asgs_ex ts ds env Q h
    | _ => exact h.elim
theorem asgs_ex : ∀ (ts : Tgs) (ds : List D) (env : En) (Q : En → Prop), asgs ts ds env Q → ∃ e, Q e
  | .nil, [], env, Q, h => by unfold asgs at h; exact ⟨_, h⟩
  | .nil, _ :: _, env, Q, h => by unfold asgs at h; exact h.elim
  | .cons t ts, [], env, Q, h => by unfold asgs at h; exact h.elim
  | .cons t ts, d :: ds, env, Q, h => by
    unfold asgs at h
    obtain ⟨e, h⟩ := asg_ex t d env _ h
    exact asgs_ex ts ds e Q h
end
mutual
theorem asg_ok : ∀ (t : Tg) {d : D} {env : En} {P : En → Prop} {v : V} {σ : L2.St} {Q : L2.St → Hp → Prop}, Rl K B σ H F env → Rep K F v d → asg t d env P → (∀ env' σ', P env' → Rl K B σ' H F env' → butS t.slots σ σ' → Q σ' H) → gT K t v σ H Q
  | .nm i, d, env, P, v, σ, Q, R, r, h, k => by
    unfold asg at h
    unfold gT
    refine k _ _ h.2 ((R.push r).setTop R.nio h.1) ⟨by rw [List.length_set], fun j hj => ?_⟩
    rw [List.getElem?_set_ne (fun z => hj (by rw [← z]; unfold Tg.slots; exact List.mem_cons_self))]
  | .tp ts, d, env, P, v, σ, Q, R, r, h, k => by
    unfold asg at h
    unfold gT
    cases d with
    | tuple ds =>
      cases r with
      | tup h1 h2 =>
        exact ⟨_, _, rfl, same_seqT R.sub h1, by rw [h2.length]; exact asgs_len h fun t e d Q q => asg_ex t d e Q q, asgs_ok ts R h2 h fun e σ' p R' b => k e σ' p R' (by unfold Tg.slots; exact b)⟩
    | _ => exact h.elim
  | .ls ts, d, env, P, v, σ, Q, R, r, h, k => by
    unfold asg at h
    unfold gT
    cases d with
    | list ds =>
      cases r with
      | lst h1 h2 =>
        exact ⟨_, _, rfl, SqL.of (R.sub _ _ h1), by rw [h2.length]; exact asgs_len h fun t e d Q q => asg_ex t d e Q q, asgs_ok ts R h2 h fun e σ' p R' b => k e σ' p R' (by unfold Tg.slots; exact b)⟩
    | _ => exact h.elim
theorem asgs_ok : ∀ (ts : Tgs) {ds : List D} {env : En} {P : En → Prop} {vs : List V} {σ : L2.St} {Q : L2.St → Hp → Prop}, Rl K B σ H F env → RepL K F vs ds → asgs ts ds env P → (∀ env' σ', P env' → Rl K B σ' H F env' → butS ts.slots σ σ' → Q σ' H) → gTs K ts vs σ H Q
  | .nil, [], env, P, vs, σ, Q, R, r, h, k => by
    unfold asgs at h
    unfold gTs
    cases r
    exact ⟨rfl, k _ _ h R ⟨rfl, fun _ _ => rfl⟩⟩
  | .nil, _ :: _, env, P, vs, σ, Q, R, r, h, k => by unfold asgs at h; exact h.elim
  | .cons t ts, [], env, P, vs, σ, Q, R, r, h, k => by unfold asgs at h; exact h.elim
  | .cons t ts, d :: ds, env, P, vs, σ, Q, R, r, h, k => by
    unfold asgs at h
    unfold gTs
    cases r with
    | cons r1 r2 =>
      refine ⟨_, _, rfl, asg_ok t R r1 h fun e σ' p R' b => ?_⟩
      refine asgs_ok ts R' r2 p fun e2 σ2 p2 R2 b2 => k e2 σ2 p2 R2 ⟨b2.1.trans b.1, fun j hj => ?_⟩
      unfold Tgs.slots at hj
      rw [b2.2 j (fun z => hj (List.mem_append_right _ z)), b.2 j (fun z => hj (List.mem_append_left _ z))]
end
/-- target = value, the value let be -/
@[simp ↓] def sUnp (t : Tg) (f : WE) : WS := fun env S => f env (fun c env' => c.isSc = false ∧ asg t c.toD env' S.nx) S.xc
theorem unp_imp {t : Tg} {f : WE} : ∀ D σ H, semS X W (sUnp t f) D σ H → tAsg (semE X W f) (gT X.K t) D σ H := fun D σ H ⟨B, F, env, S, R, h, ok, x⟩ =>
  ⟨B, F, env, _, S.xc, R, h, fun c env' v H' F' ⟨n, p⟩ R' s => by
    obtain ⟨F2, s2, R2, r2⟩ := R'.freeze R.nio n
    exact asg_ok t R2 r2 p fun e σ2 q R3 _ => ok.nx _ _ _ _ q R3 (s.trans s2), x⟩
/-! ### several at once -/
@[simp ↓] def evM : List WE → En → (List Cl → En → Prop) → XP → Prop
  | [], env, g, _ => g [] env
  | f :: r, env, g, Y => f env (fun c env1 => evM r env1 (fun cs env2 => g (c :: cs) env2) Y) Y
theorem evM_ok : ∀ {fs : List WE} {B : Bd} {H F : Hp} {env : En} {g : List Cl → En → Prop} {Q : List V → Hp → Prop}, Rl X.K B σ H F env → evM fs env g Y → XOk X.K X.mg B W Y →
    (∀ cs env' vs H' F', g cs env' → vs.length = fs.length → Rl X.K B (σ ++ (vs.map some).reverse) H' F' (env' ++ (cs.map some).reverse) → Same F F' → Q vs H') → tEs X W fs σ H Q
  | [], B, H, F, env, g, Q, R, h, x, k => k [] env [] H F h rfl (by simpa using R) (Same.refl F)
  | f :: r, B, H, F, env, g, Q, R, h, x, k => ⟨B, F, env, _, Y, R, h, fun c env1 v H1 F1 p R1 s => by
      have R1' := R1.pop R.nio
      refine evM_ok R1'.rebase p (x.back R1') fun cs env' vs H' F' q hl R2 s2 => ?_
      have R3 := R1.carry R.nio R2
      refine k (c :: cs) env' (v :: vs) H' F' q (by rw [List.length_cons, List.length_cons, hl]) ?_ (s.trans s2)
      rw [List.map_cons, List.map_cons, List.reverse_cons, List.reverse_cons, ← List.append_assoc, ← List.append_assoc]
      exact R3, x⟩
@[simp ↓] def putAll : List Nat → List Cl → En → (En → Prop) → Prop
  | [], [], env, P => P env
  | i :: is, c :: cs, env, P => canSet env i ∧ putAll is cs (env.set i (some c)) P
  | _, _, _, _ => False
def setAll : List Nat → List V → L2.St → L2.St
  | i :: is, v :: vs, σ => setAll is vs (σ.set i (some v))
  | _, _, σ => σ
theorem set_append_left {α : Type} {l r : List α} {i : Nat} {x : α} (h : i < l.length) : (l ++ r).set i x = l.set i x ++ r := by
  rw [List.set_append_left _ _ h]
theorem putAll_ok : ∀ {is : List Nat} {cs : List Cl} {env : En} {vs : List V} {σ : L2.St} {P : En → Prop} {Q : L2.St → Hp → Prop}, Rl K B (σ ++ (vs.map some).reverse) H F (env ++ (cs.map some).reverse) → (∀ j p, B.io j p → j < σ.length) → env.length = σ.length → vs.length = is.length → putAll is cs env P →
    (∀ env', P env' → Rl K B (setAll is vs σ) H F env' → Q (setAll is vs σ) H) → Q (setAll is vs σ) H
  | [], [], env, [], σ, P, Q, R, n, hl, hv, h, k => by
    unfold putAll at h
    unfold setAll at k ⊢
    exact k env h (by simpa using R)
  | [], [], env, _ :: _, σ, P, Q, R, n, hl, hv, h, k => by simp at hv
  | [], _ :: _, env, vs, σ, P, Q, R, n, hl, hv, h, k => by unfold putAll at h; exact h.elim
  | _ :: _, [], env, vs, σ, P, Q, R, n, hl, hv, h, k => by unfold putAll at h; exact h.elim
  | i :: is, c :: cs, env, [], σ, P, Q, R, n, hl, hv, h, k => by simp at hv
  | i :: is, c :: cs, env, v :: vs, σ, P, Q, R, n, hl, hv, h, k => by
    unfold putAll at h
    unfold setAll at k ⊢
    rw [List.map_cons, List.map_cons, List.reverse_cons, List.reverse_cons, ← List.append_assoc, ← List.append_assoc] at R
    have hi : canSet (env ++ (cs.map some).reverse) i := ⟨by rw [List.length_append]; have := h.1.1; omega, fun o e => by
      rw [List.getElem?_append_left h.1.1] at e
      exact h.1.2 o e⟩
    have R2 := R.setTop (fun p q => by
      have := n _ _ q
      rw [List.length_append] at this
      omega) hi
    have his : i < σ.length := by rw [← hl]; exact h.1.1
    rw [set_append_left his, set_append_left h.1.1] at R2
    exact putAll_ok (is := is) R2 (fun j p q => by rw [List.length_set]; exact n j p q) (by rw [List.length_set, List.length_set, hl]) (by simpa using hv) h.2 k
/-- a, b, .. = x, y, .. to plain names -/
@[simp ↓] def sPar (is : List Nat) (fs : List WE) : WS := fun env S => evM fs env (fun cs env' => is.length = fs.length ∧ putAll is cs env' S.nx) S.xc
theorem Rl.ioLt (R : Rl K B σ H F env) : ∀ j p, B.io j p → j < σ.length := fun j p h => (List.getElem?_eq_some_iff.mp (R.ioc j p h).1).1
theorem lenPre {T : List (Option V)} {C : List (Option Cl)} (R : Rl K B (σ ++ T) H F (env ++ C)) (h : T.length = C.length) : env.length = σ.length := by
  have := R.len
  rw [List.length_append, List.length_append] at this
  omega
theorem par_core {is : List Nat} {fs : List WE} {D : Ends} {Q : List V → Hp → Prop} (h : semS X W (sPar is fs) D σ H) (kq : ∀ vs H1, vs.length = is.length → D.nx (setAll is vs σ) H1 → (∀ T, H1 T = none → D.nx (setAll is vs σ) (upd H1 T (.tup vs))) → Q vs H1) : tEs X W fs σ H Q := by
  obtain ⟨B, F, env, S, R, h, ok, x⟩ := h
  refine evM_ok R h x fun cs env' vs H' F' ⟨hl, p⟩ hv R' s => ?_
  have hcs : ∀ {is : List Nat} {cs : List Cl} {env : En} {P : En → Prop}, putAll is cs env P → is.length = cs.length := fun {is} => by
    induction is with
    | nil => intro cs env P h; cases cs with
      | nil => rfl
      | cons c cs => unfold putAll at h; exact h.elim
    | cons i is ih => intro cs env P h; cases cs with
      | nil => unfold putAll at h; exact h.elim
      | cons c cs => unfold putAll at h; exact congrArg (· + 1) (ih h.2)
  have hlen : env'.length = σ.length := lenPre R' (by rw [List.length_reverse, List.length_reverse, List.length_map, List.length_map, ← hcs p, hv, hl])
  refine kq vs H' (hv.trans hl.symm) (putAll_ok (Q := D.nx) R' R.ioLt hlen (hv.trans hl.symm) p fun e q R2 => ok.nx _ _ _ _ q R2 s) fun T hT => ?_
  have Rg : Rl X.K B (σ ++ (vs.map some).reverse) (upd H' T (.tup vs)) F' (env' ++ (cs.map some).reverse) := by
    refine ⟨R'.len, ⟨R'.sub.trans (same_new hT), R'.subn.2⟩, R'.ext, R'.new, ⟨fun q o h1 h2 h3 => same_new hT q o (R'.kept.keep q o h1 h2 h3), R'.kept.nt, tabs_new R'.kept.tabs hT⟩, fun i c e => ?_, R'.own, R'.ion, R'.ioc, R'.dist⟩
    obtain ⟨w, ew, r⟩ := R'.cell i c e
    refine ⟨w, ew, r.keep (Same.refl F') fun q u _ _ hu hn => ⟨hn, ?_⟩⟩
    rw [upd_ne (ne_of_none hu hT)]
    exact hu
  exact putAll_ok (Q := D.nx) Rg R.ioLt hlen (hv.trans hl.symm) p fun e q R2 => ok.nx _ _ _ _ q R2 s
end
end Sw

/-! changes of a thing of one's own; what is raised -/
namespace Sw
open PySem L2
section
variable {X : Cx} {W : WX} {B : Bd} {σ : L2.St} {H F : Hp} {env : En} {Y : XP}
theorem setO_len {i : Nat} {o : OD} : (setO env i o).length = env.length := by
  unfold setO
  rw [List.length_set]
theorem lend.at {i : Nat} {o o' : OD} (h : lend env i o) : ∃ c, env[i]? = some (some c) ∧ c.own = true ∧ ∃ c', (setO env i o')[i]? = some (some c') ∧ sameKind c c' ∧ (c' = .ow o' ∨ c' = .io o') := by
  have hi : i < env.length := by
    rcases h with h | h <;> exact (List.getElem?_eq_some_iff.mp h).1
  rcases h with h | h
  · refine ⟨_, h, rfl, .ow o', ?_, trivial, .inl rfl⟩
    unfold setO
    rw [List.getElem?_set_self hi, h]
  · refine ⟨_, h, rfl, .io o', ?_, trivial, .inr rfl⟩
    unfold setO
    rw [List.getElem?_set_self hi, h]
/-- what stands at a lent slot is written anew -/
theorem Rl.mutate {K : PySem.W.Frag} {i : Nat} {o o' : OD} {p : Addr} {u : HO} (R : Rl K B σ H F env) (l : lend env i o) (e : σ[i]? = some (some (.ref p))) (n : F p = none) (w : OwnAt K (upd H p u) F p o') : Rl K B σ (upd H p u) F (setO env i o') := by
  obtain ⟨c, hc, oc, c', hc', sk, hk⟩ := l.at (o' := o')
  refine R.change setO_len (Same.refl F) ⟨fun q x h => ?_, R.subn.2⟩ (tabs_upd R.kept.tabs fun x hx => ?_) (fun q x h => .inl h) (fun q => q = p) (fun q z => ⟨i, c, hc, oc, by rw [z]; exact e⟩) (fun q x h z => by rw [upd_ne z]; exact (strip_get h).1) (fun j c2 h => ?_) fun j o2 h => ?_
  · rw [upd_ne (fun z => by rw [z, n] at h; cases h)]
    exact R.sub q x h
  · obtain ⟨p', e', _, u', hu', _, n1, n2⟩ := R.atS hc oc
    rw [e] at e'
    cases e'
    rw [hx] at hu'
    cases hu'
    exact ⟨n1, n2⟩
  · by_cases z : j = i
    · subst z
      rw [hc'] at h
      cases h
      refine ⟨c, _, hc, sk, e, ?_⟩
      rcases hk with rfl | rfl
      · exact ⟨p, rfl, n, w⟩
      · exact ⟨p, rfl, n, w⟩
    · rw [setO_ne (Ne.symm z)] at h
      obtain ⟨v, ev, r⟩ := R.cell j c2 h
      refine ⟨c2, v, h, by cases c2 <;> first | trivial | rfl, ev, r.keep (Same.refl F) fun q x oq hv hx hn => ⟨hn, ?_⟩⟩
      rw [upd_ne (fun y => z (R.dist j i c2 c p h oq (by rw [ev, hv, y]) hc oc e))]
      exact hx
  · by_cases z : j = i
    · subst z
      rcases hk with rfl | rfl
      · rw [h] at hc
        cases hc
        cases sk
      · exact ⟨_, hc'⟩
    · exact ⟨o2, by rw [setO_ne (Ne.symm z)]; exact h⟩
theorem lend.lst {K : PySem.W.Frag} {i : Nat} {xs : List D} {v : V} (R : Rl K B σ H F env) (h : lend env i (.lst xs)) (e : σ[i]? = some (some v)) : ∃ p vs, v = .ref p ∧ F p = none ∧ H p = some (.lst vs) ∧ RepL K F vs xs := by
  obtain ⟨p, e', n, vs, h1, h2⟩ := h.cell R
  rw [e] at e'
  cases e'
  exact ⟨p, vs, rfl, n, h1, h2⟩
theorem lend.val {K : PySem.W.Frag} {i : Nat} {o : OD} (R : Rl K B σ H F env) (h : lend env i o) : ∃ v, σ[i]? = some (some v) := by
  obtain ⟨p, e, _⟩ := h.cell R
  exact ⟨_, e⟩
theorem Rl.mutL {K : PySem.W.Frag} {i : Nat} {o : OD} {p : Addr} {ws : List V} {ys : List D} (R : Rl K B σ H F env) (l : lend env i o) (e : σ[i]? = some (some (.ref p))) (n : F p = none) (w : RepL K F ws ys) : Rl K B σ (upd H p (.lst ws)) F (setO env i (.lst ys)) :=
  R.mutate l e n (show OwnAt K (upd H p (.lst ws)) F p (.lst ys) from ⟨ws, upd_same, w⟩)
/-! ### x.append(e), x.extend(e), x.pop() -/
@[simp ↓] def eApp (i : Nat) (f : WE) : WE := fun env P Y => (∃ xs, lend env i (.lst xs)) ∧ f env (fun c env' => c.isSc = false ∧ ∃ xs, lend env' i (.lst xs) ∧ xs.length < sizeLine ∧ P (.fz .none) (setO env' i (.lst (xs ++ [c.toD])))) Y
theorem app_imp {i : Nat} {f : WE} : ∀ σ H Q, semE X W (eApp i f) σ H Q → tBM X.K "list" rAppend (tVar i) (tCons (semE X W f) tNil) σ H Q := fun σ H Q ⟨B, F, env, P, Y, R, ⟨⟨xs0, l0⟩, h⟩, ok, x⟩ => by
  obtain ⟨v, ev⟩ := l0.val R
  obtain ⟨p, vs, rfl, n, h1, h2⟩ := l0.lst R ev
  refine ⟨_, ev, .inl ⟨rfl, vs, SqL.of h1⟩, B, F, env, _, Y, R, h, fun c env' u H' F' ⟨sc, xs, l, z, q⟩ R' s => ?_, x⟩
  obtain ⟨F2, s2, R2, r2⟩ := R'.freeze R.nio sc
  obtain ⟨p', vs', e', n', h1', h2'⟩ := l.lst R2 ev
  cases e'
  refine ⟨p, vs', u, rfl, rfl, h1', by rw [h2'.length]; exact z, ?_⟩
  exact ok _ _ _ _ _ q ((R2.mutL l ev n' (h2'.snoc r2)).push .non) (s.trans s2)
@[simp ↓] def ePop (i : Nat) : WE := fun env P _ => ∃ xs d, lend env i (.lst xs) ∧ xs[xs.length - 1]? = some d ∧ P (.fz d) (setO env i (.lst xs.dropLast))
theorem RepL.dropLast {K : PySem.W.Frag} {vs : List V} {ds : List D} (h : RepL K F vs ds) : RepL K F vs.dropLast ds.dropLast := by
  rw [List.dropLast_eq_take, List.dropLast_eq_take, h.length]
  exact h.take _
theorem pop_imp {i : Nat} : ∀ σ H Q, semE X W (ePop i) σ H Q → tBM0 X.K "list" rPop (tVar i) σ H Q := fun σ H Q ⟨B, F, env, P, Y, R, ⟨xs, d, l, hd, q⟩, ok, x⟩ => by
  obtain ⟨v, ev⟩ := l.val R
  obtain ⟨p, vs, rfl, n, h1, h2⟩ := l.lst R ev
  obtain ⟨u, hu, ru⟩ := h2.get hd
  refine ⟨_, ev, .inl ⟨rfl, vs, SqL.of h1⟩, p, vs, u, rfl, rfl, h1, by rw [h2.length]; exact hu, ?_⟩
  exact ok _ _ _ _ _ q ((R.mutL l ev n h2.dropLast).push ru) (Same.refl F)
@[simp ↓] def eExt (i : Nat) (f : WE) : WE := fun env P Y => (∃ xs, lend env i (.lst xs)) ∧ f env (fun c env' => ∃ xs ys, c.toD = .list ys ∧ c.isSc = false ∧ lend env' i (.lst xs) ∧ xs.length + ys.length ≤ sizeLine ∧ P (.fz .none) (setO env' i (.lst (xs ++ ys)))) Y
theorem ext_imp {i : Nat} {f : WE} : ∀ σ H Q, semE X W (eExt i f) σ H Q → tBM X.K "list" rExtend (tVar i) (tCons (semE X W f) tNil) σ H Q := fun σ H Q ⟨B, F, env, P, Y, R, ⟨⟨xs0, l0⟩, h⟩, ok, x⟩ => by
  obtain ⟨v, ev⟩ := l0.val R
  obtain ⟨p, vs, rfl, n, h1, h2⟩ := l0.lst R ev
  refine ⟨_, ev, .inl ⟨rfl, vs, SqL.of h1⟩, B, F, env, _, Y, R, h, fun c env' u H' F' ⟨xs, ys, ey, sc, l, z, q⟩ R' s => ?_, x⟩
  obtain ⟨F2, s2, R2, r2⟩ := R'.freeze R.nio sc
  rw [ey] at r2
  cases r2 with
  | lst g1 g2 =>
    obtain ⟨p', vs', e', n', h1', h2'⟩ := l.lst R2 ev
    cases e'
    refine ⟨p, _, vs', _, rfl, rfl, h1', R2.sub _ _ g1, by rw [h2'.length, g2.length]; exact z, ?_⟩
    exact ok _ _ _ _ _ q ((R2.mutL l ev n' (h2'.append g2)).push .non) (s.trans s2)
/-! ### x[a] = e -/
@[simp ↓] def sSetIx (i : Nat) (a f : WE) : WS := fun env S => f env (fun c env1 => c.isSc = false ∧ (∃ o, lend env1 i o) ∧ a env1 (fun c2 env2 => ∃ k xs j, c2 = .fz (.int k) ∧ lend env2 i (.lst xs) ∧ ixN xs.length k = some j ∧ S.nx (setO env2 i (.lst (xs.set j c.toD)))) S.xc) S.xc
theorem setIx_imp {i : Nat} {a f : WE} : ∀ D σ H, semS X W (sSetIx i a f) D σ H → tAsg (semE X W f) (L2.gSub (tVar i) (semE X W a) rSetL) D σ H := fun D σ H ⟨B, F, env, S, R, h, ok, x⟩ =>
  ⟨B, F, env, _, S.xc, R, h, fun c env1 v H1 F1 ⟨sc, ⟨o, l0⟩, q⟩ R1 s => by
    obtain ⟨F2, s2, R2, r2⟩ := R1.freeze R.nio sc
    obtain ⟨w, ew⟩ := l0.val R2
    refine ⟨w, ew, B, F2, env1, _, S.xc, R2, q, fun c2 env2 u H3 F3 ⟨k, xs, j, e2, l, hj, p⟩ R3 s3 => ?_, x⟩
    subst e2
    have eu := topInt R3
    have R3' := R3.pop R.nio
    obtain ⟨p', vs, rfl, n, h1, h2⟩ := l.lst R3' ew
    exact ⟨p', vs, k, j, rfl, eu, h1, by rw [h2.length]; exact hj, ok.nx _ _ _ _ p (R3'.mutL l ew n (RepL.set (r2.mono s3) j h2)) ((s.trans s2).trans s3)⟩, x⟩
/-! ### x += e on whole numbers, x -= e -/
@[simp ↓] def sAug (i : Nat) (g : Int → Int → Int) (f : WE) : WS := fun env S => ∃ a, env[i]? = some (some (.fz (.int a))) ∧ f env (fun c env' => ∃ b, c = .fz (.int b) ∧ canSet env' i ∧ S.nx (env'.set i (some (.fz (.int (g a b)))))) S.xc
theorem aug_imp {i : Nat} {g : Int → Int → Int} {f : WE} : ∀ D σ H, semS X W (sAug i g f) D σ H → tAug i (semE X W f) (ipI g) D σ H := fun D σ H ⟨B, F, env, S, R, ⟨a, ha, h⟩, ok, x⟩ => by
  obtain ⟨v, ev, r⟩ := R.cell i _ ha
  have r : Rep X.K F v (.int a) := r
  cases r
  refine ⟨_, ev, B, F, env, _, S.xc, R, h, fun c env' u H' F' ⟨b, e, n, p⟩ R' s => ?_, x⟩
  subst e
  have eu := topInt R'
  subst eu
  exact ⟨a, b, rfl, rfl, ok.nx _ _ _ _ p (((R'.pop R.nio).push (.int _)).setTop R.nio n) s⟩
/-! ### raise -/
@[simp ↓] def sRaise (e : Exn) : WS := fun _ S => S.xc e
theorem ps_raiseN {m : Str} {x : Str} {C : Addr} {bmB : List Value} {BB newId initId : String} {j : Nat} {p p2 pos pos2 : Pos} (hc : X.calm = true) (tk : Takes X W) (Fb : ExcBaseFacts BB newId initId bmB) (q : PySem.W.excIn X.K C bmB newId = true) (gC : X.mg x = some (.ref C)) (kC : PySem.W.keepIn X.K (.ref C) = true) (r : Raises X (.ref C)) (hg : Gl X x)
    (hdb : (x == ("__debug__" : Str)) = false := by decide) : PS X (.Raise (some (.Call (.Name x p) [.Constant (.str m) j p2] [] pos)) none pos2) (semS X W (sRaise (x, none))) :=
  psOf (ps_raise hc tk (pmk_own Fb q gC kC r hg hdb)) fun D σ H ⟨B, F, env, S, R, h, ok, xo⟩ => xo _ _ _ _ _ h ⟨C, gC, rfl, rfl⟩ R.kept
end
end Sw

/-! what is walked; for, while -/
namespace Sw
open PySem L2
/-- what a loop walks: its items, and the state behind that -/
abbrev WI := En → (List D → En → Prop) → XP → Prop
structure Walks (K : PySem.W.Frag) (J : It) (F : Hp) (ds : List D) : Prop where
  stop : ∀ (i : Nat) (H F' : Hp), Same F F' → Same F' H → ds.length ≤ i → J.stop i H
  go : ∀ (i : Nat) (H F' : Hp), Same F F' → Same F' H → i < ds.length → J.go i H
  yld : ∀ (i : Nat) (H F' : Hp) (x : V) (H' : Hp) (d : D), Same F F' → Same F' H → ds[i]? = some d → J.yld i H x H' → (H' = H ∧ Rep K F' x d) ∨ ∃ T ws, H T = none ∧ H' = upd H T (.tup ws) ∧ Rep K (upd F' T (.tup ws)) x d
def semI (X : Cx) (W : WX) (f : WI) : TI := fun σ H Q => ∃ (B : Bd) (F : Hp) (env : En) (g : List D → En → Prop) (Y : XP), Rl X.K B σ H F env ∧ f env g Y ∧
  (∀ ds env' J H' F', g ds env' → Rl X.K B σ H' F' env' → Same F F' → Walks X.K J F' ds → Q J H') ∧ XOk X.K X.mg B W Y
def Cl.items? : Cl → Option (List D)
  | .sc ns => some (ns.map PyData.int)
  | .xn _ => none
  | .fo _ _ => none
  | .fl _ _ => none
  | c => Sw.items? c.toD
theorem items_ob {d : OD} {ds : List D} (e : Sw.items? d.toD = some ds) : d.isOb = false := by
  cases d <;> first | rfl | cases e
/-- a list or a tuple, its items -/
@[simp ↓] def iSeq (f : WE) : WI := fun env g Y => f env (fun c env' => ∃ ds, c.items? = some ds ∧ g ds env') Y
@[simp ↓] def iRng1 (f : WE) : WI := fun env g Y => f env (fun c env' => ∃ j, c = .fz (.int j) ∧ -(2 ^ 62) ≤ j ∧ j < 2 ^ 62 ∧ g ((List.range j.toNat).map fun k => .int (k : Nat)) env') Y
@[simp ↓] def iRng2 (a b : WE) : WI := fun env g Y => evL [a, b] env (fun ds env' => ∃ i j, ds = [.int i, .int j] ∧ (-(2 ^ 62) ≤ i ∧ i < 2 ^ 62 ∧ -(2 ^ 62) ≤ j ∧ j < 2 ^ 62) ∧ g ((List.range (j - i).toNat).map fun k => .int (i + (k : Nat))) env') Y
section
variable {X : Cx} {W : WX} {B : Bd} {σ : L2.St} {H F : Hp} {env : En} {Y : XP} {K : PySem.W.Frag}
theorem piOf {e tg : Expr} {t t' : TI} (h : PI X tg e t) (i : ∀ σ H Q, t' σ H Q → t σ H Q) : PI X tg e t' := ⟨fun pins s σ H R I q => h.run pins s σ H R I (i σ H R q)⟩
theorem walks_list {a : Addr} {vs : List V} {ds : List D} (h : SqL K F a vs) (r : RepL K F vs ds) : Walks K (Itl K a) F ds where
  stop := fun i H F' s1 s2 hi => ⟨vs, (s1.trans s2).seq h, by rw [r.length]; exact hi⟩
  go := fun i H F' s1 s2 hi => by
    have hi' : i < vs.length := by rw [r.length]; exact hi
    exact ⟨vs, vs[i], (s1.trans s2).seq h, List.getElem?_eq_getElem hi'⟩
  yld := fun i H F' x H' d s1 s2 hd ⟨e, q⟩ => by
    obtain ⟨v, hv, rv⟩ := r.get hd
    have := q vs ((s1.trans s2).seq h)
    rw [hv] at this
    cases this
    exact .inl ⟨e, rv.mono s1⟩
theorem walks_tup {a : Addr} {vs : List V} {ds : List D} (h : SqT K F a vs) (r : RepL K F vs ds) : Walks K (Itt K a) F ds where
  stop := fun i H F' s1 s2 hi => ⟨vs, same_seqT (s1.trans s2) h, by rw [r.length]; exact hi⟩
  go := fun i H F' s1 s2 hi => by
    have hi' : i < vs.length := by rw [r.length]; exact hi
    exact ⟨vs, vs[i], same_seqT (s1.trans s2) h, List.getElem?_eq_getElem hi'⟩
  yld := fun i H F' x H' d s1 s2 hd ⟨e, q⟩ => by
    obtain ⟨v, hv, rv⟩ := r.get hd
    have := q vs (same_seqT (s1.trans s2) h)
    rw [hv] at this
    cases this
    exact .inl ⟨e, rv.mono s1⟩
theorem walks_rng {lo : Int} {n : Nat} : Walks K (Itr lo n) F ((List.range n).map fun k => .int (lo + (k : Nat))) where
  stop := fun i H F' s1 s2 hi => (by simpa using hi : n ≤ i)
  go := fun i H F' s1 s2 hi => (by simpa using hi : i < n)
  yld := fun i H F' x H' d s1 s2 hd ⟨e, q⟩ => by
    have hi : i < n := by
      have := (List.getElem?_eq_some_iff.mp hd).1
      simpa using this
    rw [List.getElem?_map, List.getElem?_range hi] at hd
    cases hd
    subst q
    exact .inl ⟨e, .int _⟩
/-- the iterator of a list -/
theorem it_list {tg : Expr} {pins : List (Addr × Obj)} {s : Shared} {R : It → Hp → Prop} {E : Value → Shared → Prop} {a : Addr} {xs : List V} (I : Inv X pins σ H s) (hq : SqL X.K H a xs) (q : R (Itl X.K a) H) : wpAny (model X.prog X.w) X.A (pyIter (.ref a)) (PIE X pins σ tg R) E s := by
  obtain ⟨_, _, pl, _⟩ := I.list hq
  apply wpAny_pyIter_list pl.isList
  have nw := I.fpOk (Nat.le_refl _) (I.hok.fresh (Nat.le_refl _))
  exact ⟨_, [s.heap.objs.size], _, _, H, rfl, I.kept (t' := s.toks) fun _ _ z => Heap.get?_push_of_some _ z, turn_list a _, ⟨_, Heap.get?_push_size _ rfl, rfl, rfl⟩, List.forall_mem_singleton.mpr nw, q⟩
theorem it_tup {tg : Expr} {pins : List (Addr × Obj)} {s : Shared} {R : It → Hp → Prop} {E : Value → Shared → Prop} {a : Addr} {xs : List V} (I : Inv X pins σ H s) (hq : SqT X.K H a xs) (q : R (Itt X.K a) H) : wpAny (model X.prog X.w) X.A (pyIter (.ref a)) (PIE X pins σ tg R) E s := by
  obtain ⟨its, _, pl, _⟩ := I.tuple hq
  apply wpAny_pyIter_tuple (items := its.toArray) pl
  have nw := I.fpOk (Nat.le_refl _) (I.hok.fresh (Nat.le_refl _))
  exact ⟨_, [s.heap.objs.size], _, _, H, rfl, I.kept (t' := s.toks) fun _ _ z => Heap.get?_push_of_some _ z, turn_tuple a _, ⟨_, Heap.get?_push_size _ rfl, rfl, rfl⟩, List.forall_mem_singleton.mpr nw, q⟩
theorem pi_iSeq {tg e : Expr} {f : WE} (h : PE X e (semE X W f)) : PI X tg e (semI X W (iSeq f)) := ⟨fun pins s σ H R I ⟨B, F, env, g, Y, RR, hf, ok, x⟩ =>
  thn (h.run pins s σ H (fun v H' => ∃ (F' : Hp) (env' : En) (c : Cl) (ds : List D), Rl X.K B σ H' F' env' ∧ Same F F' ∧ g ds env' ∧ c.items? = some ds ∧ ((∃ ns, c = .sc ns ∧ ∃ a, v = .ref a ∧ SqL X.K F' a (ns.map V.int)) ∨ (c.isSc = false ∧ Rep X.K F' v c.toD))) I ⟨B, F, env, _, Y, RR, hf, fun c env' v H' F' ⟨ds, e, p⟩ R' s => by
    cases c with
    | sc ns =>
      obtain ⟨a, e1, e2⟩ : RepC X.K H' F' v (.sc ns) := R'.top R'.len1
      exact ⟨F', env', .sc ns, ds, R'.pop RR.nio, s, p, e, .inl ⟨ns, rfl, a, e1, e2⟩⟩
    | fz d =>
      obtain ⟨F2, s2, R2, r2⟩ := R'.freeze RR.nio rfl
      exact ⟨F2, env', .fz d, ds, R2, s.trans s2, p, e, .inr ⟨rfl, r2⟩⟩
    | ow d =>
      have nb : d.isOb = false := items_ob e
      obtain ⟨F2, s2, R2, r2⟩ := R'.freeze RR.nio nb
      exact ⟨F2, env', .ow d, ds, R2, s.trans s2, p, e, .inr ⟨nb, r2⟩⟩
    | xn a => cases e
    | fo _ _ => cases e
    | fl _ _ => cases e
    | ky k =>
      obtain ⟨F2, s2, R2, r2⟩ := R'.freeze RR.nio rfl
      exact ⟨F2, env', .ky k, ds, R2, s.trans s2, p, e, .inr ⟨rfl, r2⟩⟩
    | io d =>
      have nb : d.isOb = false := items_ob e
      obtain ⟨F2, s2, R2, r2⟩ := R'.freeze RR.nio nb
      exact ⟨F2, env', .io d, ds, R2, s.trans s2, p, e, .inr ⟨nb, r2⟩⟩, x⟩) fun u s1 ⟨v, H1, I1, rv, F', env', c, ds, R', sm, p, e, alt⟩ => by
    rcases alt with ⟨ns, rfl, a, rfl, sq⟩ | ⟨sc, r⟩
    · cases rv
      cases e
      exact it_list I1 (R'.sub.seq sq) (ok _ _ _ _ _ p R' sm (walks_list sq (RepL.of_ints ns)))
    · have e' : items? c.toD = some ds := by
        cases c with
        | sc ns => cases sc
        | xn a => cases sc
        | fo _ _ => cases sc
        | fl _ _ => cases sc
        | ky k => exact e
        | _ => exact e
      generalize c.toD = d at e' r
      cases r with
      | lst h1 h2 =>
        cases rv
        cases e'
        exact it_list I1 (SqL.of (R'.sub _ _ h1)) (ok _ _ _ _ _ p R' sm (walks_list (SqL.of h1) h2))
      | tup h1 h2 =>
        cases rv
        cases e'
        exact it_tup I1 (same_seqT R'.sub h1) (ok _ _ _ _ _ p R' sm (walks_tup h1 h2))
      | _ => cases e'⟩
theorem pi_iRng1 {tg a : Expr} {f : WE} {p pos : Pos} (hg : Gl X "range") (hm : X.mg "range" = none) (ha : PA X [a] (tCons (semE X W f) tNil)) (hs : starEach [a] X.env = [(false, eval a X.env)] := by rfl) : PI X tg (.Call (.Name "range" p) [a] [] pos) (semI X W (Sw.iRng1 f)) :=
  piOf (pi_range1 hg hm ha hs) fun σ H Q ⟨B, F, env, g, Y, R, h, ok, x⟩ => ⟨B, F, env, _, Y, R, h, fun c env' v H' F' ⟨j, e, b1, b2, q⟩ R' s => by
    subst e
    have ev := topInt R'
    subst ev
    refine ⟨j, rfl, b1, b2, ok _ _ _ _ _ q (R'.pop R.nio) s ?_⟩
    have w := walks_rng (K := X.K) (F := F') (lo := 0) (n := j.toNat)
    simpa using w, x⟩
theorem pi_iRng2 {tg a b : Expr} {f g : WE} {p pos : Pos} (hg : Gl X "range") (hm : X.mg "range" = none) (ha : PA X [a, b] (tCons (semE X W f) (tCons (semE X W g) tNil))) (hs : starEach [a, b] X.env = [(false, eval a X.env), (false, eval b X.env)] := by rfl) (hs2 : starEach [b] X.env = [(false, eval b X.env)] := by rfl) :
    PI X tg (.Call (.Name "range" p) [a, b] [] pos) (semI X W (Sw.iRng2 f g)) :=
  piOf (pi_range2 hg hm ha hs hs2) fun σ H Q ⟨B, F, env, G, Y, R, h, ok, x⟩ => evL_ok (fs := [f, g]) R h x fun ds env' vs H' F' ⟨i, j, e, b, q⟩ R' s r => by
    subst e
    have ev : vs = [i, j].map V.int := RepL.ints r
    exact ⟨i, j, ev, b, ok _ _ _ _ _ q R' s walks_rng⟩
/-! ### for -/
def dropE (env : En) : List Nat → En
  | [] => env
  | v :: vs => (dropE env vs).set v none
theorem dropE_len {env : En} : ∀ {vs : List Nat}, (dropE env vs).length = env.length
  | [] => rfl
  | v :: vs => by unfold dropE; rw [List.length_set, dropE_len]
theorem dropE_get {env : En} : ∀ {vs : List Nat} {j : Nat} {c : Cl}, (dropE env vs)[j]? = some (some c) → j ∉ vs ∧ env[j]? = some (some c)
  | [], j, c, h => ⟨by simp, h⟩
  | v :: vs, j, c, h => by
    unfold dropE at h
    by_cases e : v = j
    · subst e
      rw [List.getElem?_set] at h
      simp at h
    · rw [List.getElem?_set_ne e] at h
      obtain ⟨a, b⟩ := dropE_get h
      exact ⟨by simp [a]; exact Ne.symm e, b⟩
theorem dropE_out {env : En} : ∀ {vs : List Nat} {j : Nat}, j ∉ vs → (dropE env vs)[j]? = env[j]?
  | [], j, h => rfl
  | v :: vs, j, h => by
    unfold dropE
    rw [List.getElem?_set_ne (fun z => h (by rw [z]; exact List.mem_cons_self)), dropE_out fun z => h (List.mem_cons_of_mem _ z)]
theorem Rl.less0 {env' : En} (R : Rl K B σ H F env) (hl : env'.length = env.length) (c : ∀ (j : Nat) (c : Cl), env'[j]? = some (some c) → env[j]? = some (some c)) (io : ∀ j p, B.io j p → env'[j]? = env[j]?) : Rl K B σ H F env' where
  len := hl.trans R.len
  subn := R.subn
  ext := R.ext
  new := R.new
  kept := R.kept
  cell := fun j c' h => R.cell j c' (c j c' h)
  own := fun j o p h e => R.own j o p (c j _ h) e
  ion := fun j o p h e => R.ion j o p (c j _ h) e
  ioc := fun j p h => by
    rw [io j p h]
    exact R.ioc j p h
  dist := fun i j c1 c2 p h1 o1 e1 h2 o2 e2 => R.dist i j c1 c2 p (c i c1 h1) o1 e1 (c j c2 h2) o2 e2
/-- no lent thing at these slots -/
def nioE (env : En) (vs : List Nat) : Prop := ∀ j ∈ vs, ∀ o, env[j]? ≠ some (some (.io o))
theorem nioE.nv {vs : List Nat} (h : nioE env vs) (R : Rl K B σ H F env) : ∀ j ∈ vs, ∀ p, ¬ B.io j p := fun j hj p hb => by
  obtain ⟨_, o, e⟩ := R.ioc j p hb
  exact h j hj o e
theorem Rl.drop {vs : List Nat} (R : Rl K B σ H F env) (nv : ∀ j ∈ vs, ∀ p, ¬ B.io j p) : Rl K B σ H F (dropE env vs) :=
  R.less0 dropE_len (fun j c h => (dropE_get h).2) fun j p h => dropE_out fun z => nv j z p h
def forL (vs : List Nat) (t : Tg) (b : WS) (S : SK) : List D → En → Prop
  | [] => S.nx
  | d :: ds => fun e => asg t d e fun e2 => b e2 { S with nx := fun e3 => forL vs t b S ds (dropE e3 vs), ct := fun e3 => forL vs t b S ds (dropE e3 vs), bk := fun e3 => S.nx e3 }
@[simp ↓] def sFor (vs : List Nat) (f : WI) (t : Tg) (b : WS) : WS := fun env S => f env (fun ds env' => nioE env' vs ∧ forL vs t b S ds (dropE env' vs)) S.xc
theorem for_imp {vs : List Nat} {f : WI} {t : Tg} {b : WS} : ∀ D σ H, semS X W (sFor vs f t b) D σ H → tFor (semI X W f) (gT X.K t) (semS X W b) D σ H := fun D σ H ⟨B, F, env, S, R, h, ok, x⟩ =>
  ⟨B, F, env, _, S.xc, R, h, fun ds env1 J H1 F1 ⟨nio, q⟩ R1 s1 wk => by
    have nv := nio.nv R1
    refine ⟨fun i m σ H => m = ds.length - i ∧ i ≤ ds.length ∧ ∃ F' env', Rl X.K B σ H F' env' ∧ Same F1 F' ∧ forL vs t b S (ds.drop i) env', ⟨_, rfl, Nat.zero_le _, F1, _, R1.drop nv, Same.refl F1, q⟩, ?_⟩
    rintro i m σ2 H2 ⟨rfl, hi, F2, env2, R2, s2, q2⟩
    by_cases hlt : i < ds.length
    · have hd : ds[i]? = some ds[i] := List.getElem?_eq_getElem hlt
      rw [List.drop_eq_getElem_cons hlt] at q2
      have q2 : asg t ds[i] env2 fun e2 => b e2 { S with nx := fun e3 => forL vs t b S (ds.drop (i + 1)) (dropE e3 vs), ct := fun e3 => forL vs t b S (ds.drop (i + 1)) (dropE e3 vs), bk := fun e3 => S.nx e3 } := q2
      refine .inr ⟨wk.go i H2 F2 s2 R2.sub hlt, fun σ' H' => ∃ F' env', Rl X.K B σ' H' F' env' ∧ Same F1 F' ∧ forL vs t b S (ds.drop (i + 1)) env', fun σ' H' hN => ⟨_, by omega, rfl, hlt, hN⟩, fun y H' hy => ?_⟩
      have body : ∀ F3, Same F2 F3 → Rl X.K B σ2 H' F3 env2 → Rep X.K F3 y ds[i] → gT X.K t y σ2 H' fun σ2 H2 => semS X W b { D with nx := fun σ' H' => ∃ F' env', Rl X.K B σ' H' F' env' ∧ Same F1 F' ∧ forL vs t b S (ds.drop (i + 1)) env', ct := fun σ' H' => ∃ F' env', Rl X.K B σ' H' F' env' ∧ Same F1 F' ∧ forL vs t b S (ds.drop (i + 1)) env', bk := D.nx } σ2 H2 := fun F3 s3 R3 r3 =>
        asg_ok t R3 r3 q2 fun e σ' p R' _ => ⟨B, F3, e, _, R', p, ⟨fun e2 σ3 H3 F4 p3 R4 s4 => ⟨F4, _, R4.drop nv, (s2.trans s3).trans s4, p3⟩, fun c e2 σ3 v H3 F4 p3 R4 n s4 => ok.rt c e2 σ3 v H3 F4 p3 R4 n (((s1.trans s2).trans s3).trans s4),
          fun e2 σ3 H3 F4 p3 R4 s4 => ok.nx e2 σ3 H3 F4 p3 R4 (((s1.trans s2).trans s3).trans s4), fun e2 σ3 H3 F4 p3 R4 s4 => ⟨F4, _, R4.drop nv, (s2.trans s3).trans s4, p3⟩⟩, x⟩
      rcases wk.yld i H2 F2 y H' _ s2 R2.sub hd hy with ⟨e, r⟩ | ⟨T, o, hT, e, r⟩
      · subst e
        exact body F2 (Same.refl F2) R2 r
      · subst e
        exact body _ (same_new (R2.nF hT)) (R2.grow hT) r
    · have e : i = ds.length := by omega
      subst e
      rw [List.drop_length] at q2
      exact .inl ⟨wk.stop _ H2 F2 s2 R2.sub (Nat.le_refl _), ok.nx _ _ _ _ q2 R2 (s1.trans s2)⟩, x⟩
/-! ### while -/
def sWhile (vs : List Nat) (t : WT) (b : WS) : WS := fun env S => nioE env vs ∧ ∃ M : Nat → En → Prop, (∃ n, M n (dropE env vs)) ∧ ∀ n e, M n e → t e (fun k e' => if k = true then b e' { S with nx := fun e2 => ∃ m, m < n ∧ M m (dropE e2 vs), ct := fun e2 => ∃ m, m < n ∧ M m (dropE e2 vs), bk := fun e3 => S.nx e3 } else S.nx e') S.xc
theorem while_imp {vs : List Nat} {t : WT} {b : WS} : ∀ D σ H, semS X W (sWhile vs t b) D σ H → tWhile (semT X W t) (semS X W b) D σ H := fun D σ H ⟨B, F, env, S, R, ⟨nio, M, ⟨n0, m0⟩, turn⟩, ok, x⟩ => by
  have nv := nio.nv R
  refine ⟨fun n σ H => ∃ F' env', Rl X.K B σ H F' env' ∧ Same F F' ∧ M n env', ⟨n0, F, _, R.drop nv, Same.refl F, m0⟩, ?_⟩
  rintro n σ2 H2 ⟨F2, env2, R2, s2, hM⟩
  refine ⟨B, F2, env2, _, S.xc, R2, turn n env2 hM, fun k env3 H3 F3 p R3 s3 => ?_, x⟩
  cases k with
  | true =>
    rw [if_pos rfl] at p
    refine ⟨fun σ' H' => ∃ F' env', Rl X.K B σ' H' F' env' ∧ Same F F' ∧ ∃ m, m < n ∧ M m env', fun σ' H' ⟨F', e, R', s', m, hm, hM⟩ => ⟨m, hm, F', e, R', s', hM⟩, B, F3, env3, _, R3, p,
      ⟨fun e2 σ3 H3 F4 p3 R4 s4 => ⟨F4, _, R4.drop nv, (s2.trans s3).trans s4, p3⟩, fun c e2 σ3 v H3 F4 p3 R4 n s4 => ok.rt c e2 σ3 v H3 F4 p3 R4 n ((s2.trans s3).trans s4),
        fun e2 σ3 H3 F4 p3 R4 s4 => ok.nx e2 σ3 H3 F4 p3 R4 ((s2.trans s3).trans s4), fun e2 σ3 H3 F4 p3 R4 s4 => ⟨F4, _, R4.drop nv, (s2.trans s3).trans s4, p3⟩⟩, x⟩
  | false =>
    rw [if_neg Bool.false_ne_true] at p
    exact ok.nx _ _ _ _ p R3 (s2.trans s3)
end
end Sw

/-! lists written out by a for within -/
namespace Sw
open PySem L2
def wipeE (env : En) : List Nat → En
  | [] => env
  | v :: vs => (wipeE env vs).set v none
def restE (e env1 : En) : List Nat → En
  | [] => e
  | v :: vs => (restE e env1 vs).set v (env1[v]?.getD none)
/-- no thing of one's own, none lent, at these slots -/
def okV (env : En) (vs : List Nat) : Prop := ∀ i ∈ vs, ∀ c, env[i]? = some (some c) → c.own = false
theorem wipe_get {σ : L2.St} : ∀ {vs : List Nat} (j : Nat), (wipe σ vs)[j]? = if j ∈ vs then (if j < σ.length then some none else none) else σ[j]?
  | [], j => by unfold wipe; rw [if_neg (by simp)]
  | v :: vs, j => by
    unfold wipe
    rw [List.getElem?_set, wipe_get (vs := vs) j, wipe_length]
    by_cases e : v = j
    · subst e
      rw [if_pos rfl, if_pos List.mem_cons_self]
    · rw [if_neg e]
      have : (j ∈ v :: vs) ↔ j ∈ vs := by rw [List.mem_cons]; exact ⟨fun h => h.resolve_left (Ne.symm e), .inr⟩
      simp only [this]
theorem wipeE_len {env : En} : ∀ {vs : List Nat}, (wipeE env vs).length = env.length
  | [] => rfl
  | v :: vs => by unfold wipeE; rw [List.length_set, wipeE_len]
theorem wipeE_get {env : En} : ∀ {vs : List Nat} (j : Nat), (wipeE env vs)[j]? = if j ∈ vs then (if j < env.length then some none else none) else env[j]?
  | [], j => by unfold wipeE; rw [if_neg (by simp)]
  | v :: vs, j => by
    unfold wipeE
    rw [List.getElem?_set, wipeE_get (vs := vs) j, wipeE_len]
    by_cases e : v = j
    · subst e
      rw [if_pos rfl, if_pos List.mem_cons_self]
    · rw [if_neg e]
      have : (j ∈ v :: vs) ↔ j ∈ vs := by rw [List.mem_cons]; exact ⟨fun h => h.resolve_left (Ne.symm e), .inr⟩
      simp only [this]
theorem restE_len {e env1 : En} : ∀ {vs : List Nat}, (restE e env1 vs).length = e.length
  | [] => rfl
  | v :: vs => by unfold restE; rw [List.length_set, restE_len]
theorem restE_get {e env1 : En} : ∀ {vs : List Nat} (j : Nat), (restE e env1 vs)[j]? = if j ∈ vs then (if j < e.length then some (env1[j]?.getD none) else none) else e[j]?
  | [], j => by unfold restE; rw [if_neg (by simp)]
  | v :: vs, j => by
    unfold restE
    rw [List.getElem?_set, restE_get (vs := vs) j, restE_len]
    by_cases w : v = j
    · subst w
      rw [if_pos rfl, if_pos List.mem_cons_self]
    · rw [if_neg w]
      have : (j ∈ v :: vs) ↔ j ∈ vs := by rw [List.mem_cons]; exact ⟨fun h => h.resolve_left (Ne.symm w), .inr⟩
      simp only [this]
section
variable {X : Cx} {W : WX} {B : Bd} {σ : L2.St} {H F : Hp} {env : En} {Y : XP} {K : PySem.W.Frag}
theorem wipe_eq {σ σ' : L2.St} {vs ws : List Nat} (b : butS ws (wipe σ vs) σ') (h : ∀ j ∈ ws, j ∈ vs) : wipe σ' vs = wipe σ vs := by
  have hl : σ'.length = σ.length := by rw [b.1, wipe_length]
  apply List.ext_getElem?
  intro j
  rw [wipe_get, wipe_get, hl]
  by_cases e : j ∈ vs
  · rw [if_pos e, if_pos e]
  · rw [if_neg e, if_neg e, b.2 j (fun z => e (h j z)), wipe_get, if_neg e]
theorem Rl.less {σ' : L2.St} {env' : En} (R : Rl K B σ H F env) (hl : env'.length = σ'.length) (c : ∀ (j : Nat) (c : Cl), env'[j]? = some (some c) → env[j]? = some (some c) ∧ σ'[j]? = σ[j]?) (io : ∀ j p, B.io j p → env'[j]? = env[j]? ∧ σ'[j]? = σ[j]?) : Rl K B σ' H F env' where
  len := hl
  subn := R.subn
  ext := R.ext
  new := R.new
  kept := R.kept
  cell := fun j c' h => by
    obtain ⟨h1, h2⟩ := c j c' h
    rw [h2]
    exact R.cell j c' h1
  own := fun j o p h e => by
    obtain ⟨h1, h2⟩ := c j _ h
    exact R.own j o p h1 (by rw [← h2]; exact e)
  ion := fun j o p h e => by
    obtain ⟨h1, h2⟩ := c j _ h
    exact R.ion j o p h1 (by rw [← h2]; exact e)
  ioc := fun j p h => by
    obtain ⟨h1, h2⟩ := io j p h
    rw [h1, h2]
    exact R.ioc j p h
  dist := fun i j c1 c2 p h1 o1 e1 h2 o2 e2 => by
    obtain ⟨a1, b1⟩ := c i c1 h1
    obtain ⟨a2, b2⟩ := c j c2 h2
    exact R.dist i j c1 c2 p a1 o1 (by rw [← b1]; exact e1) a2 o2 (by rw [← b2]; exact e2)
theorem Rl.wipeT {T : List (Option V)} {C : List (Option Cl)} {vs : List Nat} (R : Rl K B (σ ++ T) H F (env ++ C)) (hl : env.length = σ.length) (nv : ∀ j ∈ vs, ∀ p, ¬ B.io j p) (nT : ∀ j p, B.io j p → j < σ.length) : Rl K B (wipe σ vs ++ T) H F (wipeE env vs ++ C) := by
  have tail : ∀ {j : Nat}, σ.length ≤ j → (wipeE env vs ++ C)[j]? = (env ++ C)[j]? ∧ (wipe σ vs ++ T)[j]? = (σ ++ T)[j]? := fun {j} h => by
    rw [List.getElem?_append_right (by rw [wipeE_len]; omega), List.getElem?_append_right (by omega), wipeE_len, List.getElem?_append_right (by rw [wipe_length]; omega), List.getElem?_append_right (by omega), wipe_length]
    exact ⟨rfl, rfl⟩
  have head : ∀ {j : Nat}, j < σ.length → j ∉ vs → (wipeE env vs ++ C)[j]? = (env ++ C)[j]? ∧ (wipe σ vs ++ T)[j]? = (σ ++ T)[j]? := fun {j} h n => by
    rw [List.getElem?_append_left (by rw [wipeE_len]; omega), List.getElem?_append_left (by omega), wipeE_get, if_neg n, List.getElem?_append_left (by rw [wipe_length]; omega), List.getElem?_append_left (by omega), wipe_get, if_neg n]
    exact ⟨rfl, rfl⟩
  have hlen := R.len
  rw [List.length_append, List.length_append] at hlen
  refine R.less (by rw [List.length_append, List.length_append, wipeE_len, wipe_length]; exact hlen) (fun j c h => ?_) fun j p h => ?_
  · by_cases w : j < σ.length
    · by_cases e : j ∈ vs
      · rw [List.getElem?_append_left (by rw [wipeE_len]; omega), wipeE_get, if_pos e, if_pos (by omega)] at h
        cases h
      · obtain ⟨a, b⟩ := head w e
        exact ⟨by rw [← a]; exact h, b⟩
    · obtain ⟨a, b⟩ := tail (Nat.le_of_not_lt w)
      exact ⟨by rw [← a]; exact h, b⟩
  · exact head (nT j p h) (fun e => nv j e p h)
theorem Rl.wipe0 {vs : List Nat} (R : Rl K B σ H F env) (nv : ∀ j ∈ vs, ∀ p, ¬ B.io j p) : Rl K B (wipe σ vs) H F (wipeE env vs) := by
  have := Rl.wipeT (T := []) (C := []) (vs := vs) (by rw [List.append_nil, List.append_nil]; exact R) R.len nv R.ioLt
  rw [List.append_nil, List.append_nil] at this
  exact this
theorem Rl.unwipe {v : Option V} {C : Option Cl} {vs : List Nat} {H1 F1 : Hp} {env1 : En} (R1 : Rl K B σ H1 F1 env1) (ok : okV env1 vs) (R : Rl K B (wipe σ vs ++ [v]) H F (env ++ [C])) (s : Same F1 F) : Rl K B (σ ++ [v]) H F (restE env env1 vs ++ [C]) := by
  have hl : env.length = σ.length := by
    have := R.len1
    rw [wipe_length] at this
    exact this
  have look : ∀ {j : Nat} {c : Cl}, (restE env env1 vs ++ [C])[j]? = some (some c) → (c.own = false ∧ env1[j]? = some (some c) ∧ (σ ++ [v])[j]? = σ[j]?) ∨ ((env ++ [C])[j]? = some (some c) ∧ (wipe σ vs ++ [v])[j]? = (σ ++ [v])[j]?) := fun {j c} h => by
    by_cases w : j < σ.length
    · rw [List.getElem?_append_left (by rw [restE_len]; omega), restE_get] at h
      by_cases e : j ∈ vs
      · rw [if_pos e, if_pos (by omega)] at h
        have q : env1[j]? = some (some c) := by
          cases z : env1[j]? with
          | none => rw [z] at h; cases h
          | some y => rw [z] at h; cases h; rfl
        exact .inl ⟨ok j e c q, q, List.getElem?_append_left w⟩
      · rw [if_neg e] at h
        refine .inr ⟨get_pre h, ?_⟩
        rw [List.getElem?_append_left (by rw [wipe_length]; exact w), List.getElem?_append_left w, wipe_get, if_neg e]
    · rw [List.getElem?_append_right (by rw [restE_len]; omega), restE_len] at h
      refine .inr ⟨by rw [List.getElem?_append_right (by omega)]; exact h, ?_⟩
      rw [List.getElem?_append_right (by rw [wipe_length]; omega), List.getElem?_append_right (by omega), wipe_length]
  refine ⟨by rw [List.length_append, List.length_append, restE_len, hl]; rfl, R.subn, R.ext, R.new, R.kept, fun j c h => ?_, fun j o p h e => ?_, fun j o p h e => ?_, fun j p h => ?_, fun i j c1 c2 p h1 o1 e1 h2 o2 e2 => ?_⟩
  · rcases look h with ⟨oc, h1, e⟩ | ⟨h1, e⟩
    · obtain ⟨w, ew, r⟩ := R1.cell j c h1
      exact ⟨w, by rw [e]; exact ew, r.keep s fun p u o => by rw [oc] at o; cases o⟩
    · obtain ⟨w, ew, r⟩ := R.cell j c h1
      exact ⟨w, by rw [← e]; exact ew, r⟩
  · rcases look h with ⟨oc, _⟩ | ⟨h1, z⟩
    · cases oc
    · exact R.own j o p h1 (by rw [z]; exact e)
  · rcases look h with ⟨oc, _⟩ | ⟨h1, z⟩
    · cases oc
    · exact R.ion j o p h1 (by rw [z]; exact e)
  · obtain ⟨a, o, b⟩ := R1.ioc j p h
    have hj : j < σ.length := (List.getElem?_eq_some_iff.mp a).1
    have nv : j ∉ vs := fun z => by have := ok j z _ b; cases this
    refine ⟨get_pre a, ?_⟩
    obtain ⟨_, o', b'⟩ := R.ioc j p h
    refine ⟨o', ?_⟩
    rw [List.getElem?_append_left (by rw [restE_len]; omega), restE_get, if_neg nv]
    rw [List.getElem?_append_left (by omega)] at b'
    exact b'
  · rcases look h1 with ⟨oc, _⟩ | ⟨a1, b1⟩
    · rw [o1] at oc; cases oc
    · rcases look h2 with ⟨oc, _⟩ | ⟨a2, b2⟩
      · rw [o2] at oc; cases oc
      · exact R.dist i j c1 c2 p a1 o1 (by rw [b1]; exact e1) a2 o2 (by rw [b2]; exact e2)
/-- the turns of a list's making -/
def tsW : Option WT → WT
  | none => fun env P _ => P true env
  | some t => t
def compL (t : Tg) (tt : Option WT) (el : WE) (vs : List Nat) (g : List D → En → Prop) : List D → List D → En → Prop
  | [], acc => fun e => g acc e
  | d :: ds, acc => fun e => asg t d e fun e2 => tsW tt e2 (fun k e3 => if k = true then el e3 (fun c e4 => c.isSc = false ∧ acc.length < sizeLine ∧ compL t tt el vs g ds (acc ++ [c.toD]) (wipeE e4 vs)) (fun _ => False) else compL t tt el vs g ds acc (wipeE e3 vs)) (fun _ => False)
@[simp ↓] def eComp (f : WI) (t : Tg) (tt : Option WT) (el : WE) (vs : List Nat) : WE := fun env P Y => f env (fun ds env1 => okV env1 vs ∧ compL t tt el vs (fun acc e => P (.ow (.lst acc)) (restE e env1 vs)) ds [] (wipeE env1 vs)) Y
abbrev W0 : WX := fun _ _ _ _ => False
def tsT (X : Cx) : Option WT → TT
  | none => tYes
  | some t => semT X W0 t
theorem tsT_ok {tt : Option WT} {P : Bool → En → Prop} {Q : Bool → Hp → Prop} (R : Rl X.K B σ H F env) (h : tsW tt env P (fun _ => False)) (ok : TOk X.K B σ F P Q) : tsT X tt σ H Q := by
  cases tt with
  | none => exact ok true env H F h R (Same.refl F)
  | some t => exact ⟨B, F, env, P, _, R, h, ok, fun _ _ _ _ _ y => y.elim⟩
theorem xok0 {mg : Str → Option Value} {W : WX} : XOk K mg B W (fun _ => False) := fun _ _ _ _ _ y => y.elim
theorem comp_imp {f : WI} {t : Tg} {tt : Option WT} {el : WE} {vs : List Nat} (ht : ∀ j ∈ t.slots, j ∈ vs) : ∀ σ H Q, semE X W (eComp f t tt el vs) σ H Q → tLc (semI X W f) (gT X.K t) (tsT X tt) (semE X W0 el) vs σ H Q := fun σ H Q ⟨B, F, env, P, Y, R, h, ok, x⟩ =>
  ⟨B, F, env, _, Y, R, h, fun ds env1 J H1 F1 ⟨okv, q⟩ R1 s1 wk => fun L hL => by
    have nv : ∀ j ∈ vs, ∀ p, ¬ B.io j p := fun j hj p hb => by
      obtain ⟨_, o, e⟩ := R1.ioc j p hb
      have := okv j hj _ e
      cases this
    have hlw : (wipe σ vs).length = σ.length := wipe_length σ vs
    refine ⟨fun i m H => m = ds.length - i ∧ i ≤ ds.length ∧ ∃ F' env' acc, Rl X.K B (wipe σ vs ++ [some (.ref L)]) H F' (env' ++ [some (.ow (.lst acc))]) ∧ Same F1 F' ∧ compL t tt el vs (fun acc e => P (.ow (.lst acc)) (restE e env1 vs)) (ds.drop i) acc env', ⟨_, rfl, Nat.zero_le _, F1, _, [], (R1.wipe0 nv).fresh hL (show OwnAt X.K (upd H1 L (.lst [])) F1 L (.lst []) from ⟨[], upd_same, .nil⟩), Same.refl F1, q⟩, ?_⟩
    rintro i m H2 ⟨rfl, hi, F2, env2, acc, R2, s2, q2⟩
    have nio2 : ∀ p, ¬ B.io (wipe σ vs).length p := fun p hp => by
      have := R1.ioLt _ _ hp
      omega
    by_cases hlt : i < ds.length
    · have hd : ds[i]? = some ds[i] := List.getElem?_eq_getElem hlt
      rw [List.drop_eq_getElem_cons hlt] at q2
      unfold compL at q2
      refine .inr ⟨wk.go i H2 F2 s2 R2.sub hlt, fun H' => ∃ F' env' acc, Rl X.K B (wipe σ vs ++ [some (.ref L)]) H' F' (env' ++ [some (.ow (.lst acc))]) ∧ Same F1 F' ∧ compL t tt el vs (fun acc e => P (.ow (.lst acc)) (restE e env1 vs)) (ds.drop (i + 1)) acc env', fun H' hN => ⟨_, by omega, rfl, hlt, hN⟩, fun y H' hy => ?_⟩
      have body : ∀ F3, Same F2 F3 → Rl X.K B (wipe σ vs ++ [some (.ref L)]) H' F3 (env2 ++ [some (.ow (.lst acc))]) → Rep X.K F3 y ds[i] → gT X.K t y (wipe σ vs) H' fun σ2 H2 => wipe σ2 vs = wipe σ vs ∧ tsT X tt σ2 H2 fun b H3 =>
          if b = true then semE X W0 el σ2 H3 fun y H4 => ∃ acc, H4 L = some (.lst acc) ∧ acc.length < sizeLine ∧ ∃ F' env' acc', Rl X.K B (wipe σ vs ++ [some (.ref L)]) (upd H4 L (.lst (acc ++ [y]))) F' (env' ++ [some (.ow (.lst acc'))]) ∧ Same F1 F' ∧ compL t tt el vs (fun acc e => P (.ow (.lst acc)) (restE e env1 vs)) (ds.drop (i + 1)) acc' env'
          else ∃ F' env' acc, Rl X.K B (wipe σ vs ++ [some (.ref L)]) H3 F' (env' ++ [some (.ow (.lst acc))]) ∧ Same F1 F' ∧ compL t tt el vs (fun acc e => P (.ow (.lst acc)) (restE e env1 vs)) (ds.drop (i + 1)) acc env' := fun F3 s3 R3 r3 => by
        have Rp := R3.pop nio2
        refine asg_ok t Rp.rebase r3 q2 fun e σ' p R' b => ?_
        have hw := wipe_eq b ht
        refine ⟨hw, tsT_ok R' p fun k e3 H4 F4 p4 R4 s4 => ?_⟩
        have hl' : σ'.length = σ.length := by rw [b.1, hlw]
        cases k with
        | true =>
          rw [if_pos rfl] at p4 ⊢
          refine ⟨_, F4, e3, _, _, R4, p4, fun c e4 v H5 F5 ⟨sc, z, p5⟩ R5 s5 => ?_, xok0⟩
          have nioB : ∀ p, ¬ (B.at (wipe σ vs) H' F3 env2).io σ'.length p := fun p hp => by
            have := R1.ioLt _ _ hp
            omega
          obtain ⟨F6, s6, R6, r6⟩ := R5.freeze nioB sc
          have R7 := R3.carry nio2 R6
          obtain ⟨p', hp', n', ws, h1, h2⟩ := R7.top R7.len1
          cases hp'
          refine ⟨ws, h1, by rw [h2.length]; exact z, F6, wipeE e4 vs, acc ++ [c.toD], ?_, (((s2.trans s3).trans s4).trans s5).trans s6, p5⟩
          have hl4 : e4.length = σ'.length := R7.len1
          have R8 := R7.mutL (i := σ'.length) (o := .lst acc) (ys := acc ++ [c.toD]) (.inl (by rw [← hl4]; exact get_last)) get_last n' (h2.snoc r6)
          have es : setO (e4 ++ [some (.ow (.lst acc))]) σ'.length (.lst (acc ++ [c.toD])) = e4 ++ [some (.ow (.lst (acc ++ [c.toD])))] := by
            unfold setO
            rw [← hl4, get_last]
            simp
          rw [es] at R8
          have R9 := R8.wipeT (vs := vs) hl4 nv (fun j p h => by have := R1.ioLt _ _ h; omega)
          rw [hw] at R9
          exact R9
        | false =>
          rw [if_neg Bool.false_ne_true] at p4 ⊢
          have R7 := R3.carry nio2 R4
          have hl4 : e3.length = σ'.length := R7.len1
          have R9 := R7.wipeT (vs := vs) hl4 nv (fun j p h => by have := R1.ioLt _ _ h; omega)
          rw [hw] at R9
          exact ⟨F4, wipeE e3 vs, acc, R9, (s2.trans s3).trans s4, p4⟩
      rcases wk.yld i H2 F2 y H' _ s2 R2.sub hd hy with ⟨e, r⟩ | ⟨T, o, hT, e, r⟩
      · subst e
        exact body F2 (Same.refl F2) R2 r
      · subst e
        exact body _ (same_new (R2.nF hT)) (R2.grow hT) r
    · have e : i = ds.length := by omega
      subst e
      rw [List.drop_length] at q2
      unfold compL at q2
      exact .inl ⟨wk.stop _ H2 F2 s2 R2.sub (Nat.le_refl _), ok _ _ _ _ _ q2 (Rl.unwipe R1 okv R2 s2) (s1.trans s2)⟩, x⟩
/-- target list = a list's items -/
@[simp ↓] def sUnpL (ts : Tgs) (f : WE) : WS := fun env S => f env (fun c env' => c.isSc = false ∧ ∃ ds, c.toD = .list ds ∧ asgs ts ds env' S.nx) S.xc
theorem unpL_imp {ts : Tgs} {f : WE} : ∀ D σ H, semS X W (sUnpL ts f) D σ H → tAsg (semE X W f) (gLst X.K ts.len (gTs X.K ts)) D σ H := fun D σ H ⟨B, F, env, S, R, h, ok, x⟩ =>
  ⟨B, F, env, _, S.xc, R, h, fun c env' v H' F' ⟨n, ds, e, p⟩ R' s => by
    obtain ⟨F2, s2, R2, r2⟩ := R'.freeze R.nio n
    rw [e] at r2
    cases r2 with
    | lst h1 h2 =>
      exact ⟨_, _, rfl, SqL.of (R2.sub _ _ h1), by rw [h2.length]; exact asgs_len p fun t e d Q q => asg_ex t d e Q q, asgs_ok ts R2 h2 p fun e σ2 q R3 _ => ok.nx _ _ _ _ q R3 (s.trans s2)⟩, x⟩
end
end Sw

/-! built-in functions, methods -/
namespace Sw
open PySem L2
def tyN : D → String
  | .none => "NoneType"
  | .bool _ => "bool"
  | .int _ => "int"
  | .str _ => "str"
  | .list _ => "list"
  | .tuple _ => "tuple"
  | .dict _ => "dict"
inductive Kd where
  | int | bool | str | list | tuple | dict
def Kd.nm : Kd → String
  | .int => "int" | .bool => "bool" | .str => "str" | .list => "list" | .tuple => "tuple" | .dict => "dict"
def isD : Kd → D → Bool
  | .int, .int _ => true
  | .int, .bool _ => true
  | .bool, .bool _ => true
  | .str, .str _ => true
  | .list, .list _ => true
  | .tuple, .tuple _ => true
  | .dict, .dict _ => true
  | _, _ => false
theorem kit_isD (k : Kd) (d : D) : kitB (tyN d) k.nm = some (isD k d) := by
  cases d with
  | none =>
    have h : kitB "NoneType" k.nm = some (isD k .none) := by cases k <;> decide +kernel
    exact h
  | bool b =>
    have h : kitB "bool" k.nm = some (isD k (.bool true)) := by cases k <;> decide +kernel
    cases k <;> exact h
  | int i =>
    have h : kitB "int" k.nm = some (isD k (.int 0)) := by cases k <;> decide +kernel
    cases k <;> exact h
  | list xs =>
    have h : kitB "list" k.nm = some (isD k (.list [])) := by cases k <;> decide +kernel
    cases k <;> exact h
  | tuple xs =>
    have h : kitB "tuple" k.nm = some (isD k (.tuple [])) := by cases k <;> decide +kernel
    cases k <;> exact h
  | dict xs =>
    have h : kitB "dict" k.nm = some (isD k (.dict [])) := by cases k <;> decide +kernel
    cases k <;> exact h
  | str z =>
    have h : kitB "str" k.nm = some (isD k (.str ⟨#[]⟩)) := by cases k <;> decide +kernel
    cases k <;> exact h
section
variable {X : Cx} {W : WX} {B : Bd} {σ : L2.St} {H F : Hp} {env : En} {Y : XP} {K : PySem.W.Frag}
theorem tyT {a : Addr} {xs : List V} (h : SqT K H a xs) : TyX K H (.ref a) (.type "tuple") := by
  rcases h with (h | ⟨o, h⟩) | ⟨o, _, _, h, c, _⟩
  · exact .base (.tup h)
  · exact .fTuple h
  · exact .kTuple h c
theorem RepR.ty {v : V} {d : D} (s : Same F H) (r : RepR K H F v d) : TyX K H v (.type (tyN d)) := by
  rcases r with r | ⟨_, _, rfl, rfl, _, h, _⟩ | ⟨_, _, rfl, rfl, h⟩
  · cases r with
    | non => exact .base .non
    | bl b => exact .base (.bl b)
    | int i => exact .base (.int i)
    | str z => exact .base (.str z)
    | lst h _ => exact .base (.lst (s _ _ h))
    | tup h _ => exact tyT (same_seqT s h)
    | dK h _ => exact .base (.dK (s _ _ h))
    | dT h _ => exact .base (.dT (s _ _ h))
  · exact .base (.lst h)
  · rcases h with ⟨_, _, h, _⟩ | ⟨_, _, h, _⟩
    · exact .base (.dK h)
    · exact .base (.dT h)
@[simp ↓] def eIsi (k : Kd) (a : Opd) : WE := eOp1 (fun d P => P (.fz (.bool (isD k d)))) a
theorem isi_imp {k : Kd} {a : Opd} : ∀ σ H Q, semE X W (eIsi k a) σ H Q → tCB (rIsi X.K) (tCons (tO X W a) (tCons (tC (.ty k.nm)) tNil)) σ H Q := fun σ H Q ⟨B, F, env, P, Y, R, h, ok, x⟩ =>
  ev1_ok R h x fun d env' v H' F' g R' s r => ⟨v, .ty k.nm, _, _, _, rfl, .ty k.nm, r.ty R'.sub, kit_ty (kit_isD k d), ok _ _ _ _ _ g (R'.push (.bl _)) s⟩
theorem pe_isi {k : Kd} {a : Opd} {e : Expr} {T : Str} {p p2 pos : Pos} (he : PE X e (tO X W a)) (g1 : Gl X "isinstance") (m1 : X.mg "isinstance" = none) (g2 : Gl X T) (m2 : X.mg T = none) (b2 : bootBuiltins T = some (.type k.nm)) (hn : T ≠ "__name__" := by decide) (hd : (T == ("__debug__" : Str)) = false := by decide)
    (s1 : starEach [e, .Name T p2] X.env = (false, eval e X.env) :: starEach [.Name T p2] X.env := by rfl) (s2 : starEach [.Name T p2] X.env = (false, eval (.Name T p2) X.env) :: starEach [] X.env := by rfl) (pl : (backTo pos (starEach [.Name T p2] X.env)).any (·.1) = false := by rfl) : PE X (.Call (.Name "isinstance" p) [e, .Name T p2] [] pos) (semE X W (eIsi k a)) :=
  peOf (pe_callB call_isi g1 m1 (by rfl) (pa_cons he (pa_cons (pe_bltn (v := .ty k.nm) g2 m2 b2 rfl hn hd) pa_nil s2) s1) (he := s1) (hpl := pl)) isi_imp
/-! ### len -/
def gLen : D → (Cl → Prop) → Prop
  | .list xs, P => P (.fz (.int xs.length))
  | .tuple xs, P => P (.fz (.int xs.length))
  | .str z, P => z.length ≤ sizeLine ∧ P (.fz (.int z.length))
  | _, _ => False
@[simp ↓] def eLen (a : Opd) : WE := eOp1 gLen a
/-- of a name: the script's too -/
def eLenV (i : Nat) : WE := fun env P Y => match env[i]? with
  | some (some (.sc ns)) => P (.fz (.int ns.length)) env
  | _ => eLen (.r i) env P Y
abbrev rLn (K : PySem.W.Frag) : List V → Hp → VK → Prop := fun xs H Q => ∃ x n, xs = [x] ∧ LenV K x H n ∧ Q (.int n) H
theorem len_imp {a : Opd} : ∀ σ H Q, semE X W (eLen a) σ H Q → tCB (rLn X.K) (tCons (tO X W a) tNil) σ H Q := fun σ H Q ⟨B, F, env, P, Y, R, h, ok, x⟩ =>
  ev1_ok R h x fun d env' v H' F' g R' s r => by
    cases d with
    | list ds =>
      obtain ⟨p, vs, rfl, h1, l⟩ := r.lst R'.sub
      exact ⟨_, ds.length, rfl, .inl ⟨vs, SqL.of h1, l.length.symm⟩, ok _ _ _ _ _ g (R'.push (.int _)) s⟩
    | tuple ds =>
      obtain ⟨p, vs, rfl, h1, l⟩ := r.tup R'.sub
      exact ⟨_, ds.length, rfl, .inr ⟨vs, h1, l.length.symm⟩, ok _ _ _ _ _ g (R'.push (.int _)) s⟩
    | str z =>
      have := r.str
      subst this
      exact ⟨_, z.length, rfl, ⟨g.1, rfl⟩, ok _ _ _ _ _ g.2 (R'.push (.int _)) s⟩
    | _ => exact g.elim
theorem lenV_imp {i : Nat} : ∀ σ H Q, semE X W (eLenV i) σ H Q → tCB (rLn X.K) (tCons (tVar i) tNil) σ H Q := fun σ H Q ⟨B, F, env, P, Y, R, h, ok, x⟩ => by
  unfold eLenV at h
  split at h
  · rename_i ns e
    obtain ⟨v, ev, a, hv, hs⟩ := R.cell i _ e
    subst hv
    exact ⟨_, ev, _, ns.length, rfl, .inl ⟨_, R.sub.seq hs, by rw [List.length_map]⟩, ok _ _ _ _ _ h (R.push (.int _)) (Same.refl F)⟩
  · exact len_imp (X := X) (W := W) (a := .r i) σ H Q ⟨B, F, env, P, Y, R, h, ok, x⟩
/-! ### abs, max, min of two -/
def gAbs : D → (Cl → Prop) → Prop
  | .int i, P => P (.fz (.int i.natAbs))
  | _, _ => False
@[simp ↓] def eAbs (a : Opd) : WE := eOp1 gAbs a
theorem abs_imp {a : Opd} : ∀ σ H Q, semE X W (eAbs a) σ H Q → tCB (fun xs H Q => ∃ i, xs = [.int i] ∧ Q (.int (if i < 0 then -i else i)) H) (tCons (tO X W a) tNil) σ H Q := fun σ H Q ⟨B, F, env, P, Y, R, h, ok, x⟩ =>
  ev1_ok R h x fun d env' v H' F' g R' s r => by
    cases d with
    | int i =>
      have := r.int
      subst this
      refine ⟨i, rfl, ?_⟩
      have e : (if i < 0 then -i else i) = (i.natAbs : Int) := by split <;> omega
      rw [e]
      exact ok _ _ _ _ _ g (R'.push (.int _)) s
    | _ => exact g.elim
abbrev gMax := gInt0 fun i j => .int (max i j)
abbrev gMin := gInt0 fun i j => .int (min i j)
theorem two_imp {f : Int → Int → Int} {G : Int → Int → Int} {a b : Opd} (e : ∀ i j, f i j = G i j) : ∀ σ H Q, semE X W (eOp2 (gInt0 fun i j => .int (G i j)) a b) σ H Q → tCB (fun xs H Q => ∃ i j, xs = [.int i, .int j] ∧ Q (.int (f i j)) H) (tCons (tO X W a) (tCons (tO X W b) tNil)) σ H Q := fun σ H Q ⟨B, F, env, P, Y, R, h, ok, x⟩ =>
  ev2_ok R h x fun d1 d2 env' v w H' F' g R' s r1 r2 => by
    cases d1 with
    | int i =>
      cases d2 with
      | int j =>
        have := r1.int
        subst this
        have := r2.int
        subst this
        exact ⟨i, j, rfl, by rw [e]; exact ok _ _ _ _ _ g (R'.push (.int _)) s⟩
      | _ => exact g.elim
    | _ => exact g.elim
theorem max_imp {a b : Opd} : ∀ σ H Q, semE X W (eOp2 gMax a b) σ H Q → tCB (fun xs H Q => ∃ i j, xs = [.int i, .int j] ∧ Q (.int (if j > i then j else i)) H) (tCons (tO X W a) (tCons (tO X W b) tNil)) σ H Q := two_imp (G := max) fun i j => by
  show (if j > i then j else i) = max i j
  split <;> omega
theorem min_imp {a b : Opd} : ∀ σ H Q, semE X W (eOp2 gMin a b) σ H Q → tCB (fun xs H Q => ∃ i j, xs = [.int i, .int j] ∧ Q (.int (if j < i then j else i)) H) (tCons (tO X W a) (tCons (tO X W b) tNil)) σ H Q := two_imp (G := min) fun i j => by
  show (if j < i then j else i) = min i j
  split <;> omega
/-! ### methods of two operands -/
def ev2t (T : String) : Opd → Opd → En → (D → D → En → Prop) → XP → Prop
  | .v f, b, env, g, Y => f env (fun c env1 => c.isSc = false ∧ tyN c.toD = T ∧ ev1 b env1 (fun d2 env2 => g c.toD d2 env2) Y) Y
  | .r i, b, env, g, Y => (∃ c, env[i]? = some (some c) ∧ c.isSc = false ∧ tyN c.toD = T) ∧ ev1 b env (fun d2 env2 => ∃ c, env2[i]? = some (some c) ∧ c.isSc = false ∧ g c.toD d2 env2) Y
  | .f _ _ _ _, _, _, _, _ => False
theorem RepR.tyv {v : V} {d : D} {T : String} (s : Same F H) (r : RepR K H F v d) (e : tyN d = T) (hT : T = "list" ∨ T = "str") : tyV K T v H := by
  subst e
  cases d with
  | list ds =>
    obtain ⟨a, vs, rfl, h, _⟩ := r.lst s
    exact .inl ⟨rfl, vs, SqL.of h⟩
  | str z =>
    have := r.str
    subst this
    rfl
  | _ => exact absurd hT (by simp [tyN])
theorem ev2t_ok {T : String} (hT : T = "list" ∨ T = "str") {a b : Opd} {g : D → D → En → Prop} {Q : V → V → Hp → Prop} (R : Rl X.K B σ H F env) (h : ev2t T a b env g Y) (x : XOk X.K X.mg B W Y)
    (k : ∀ d1 d2 env' v w H' F', g d1 d2 env' → Rl X.K B σ H' F' env' → Same F F' → RepR X.K H' F' v d1 → RepR X.K H' F' w d2 → Q v w H') : tO X W a σ H (fun v H1 => tyV X.K T v H1 ∧ tO X W b σ H1 (fun w H2 => Q v w H2)) := by
  cases a with
  | v f =>
    refine ⟨B, F, env, _, Y, R, h, fun c env1 v H1 F1 ⟨sc, ty, p⟩ R1 s => ?_, x⟩
    have R1' := R1.pop R.nio
    refine ⟨((R1.top R1.len1).rd sc).tyv R1'.sub ty hT, ev1_ok R1'.rebase p (x.back R1') fun d2 env2 w H2 F2 q R2 s2 r2 => ?_⟩
    have R3 := R1.carry R.nio R2
    exact k _ _ _ _ _ _ _ q (R1'.back R2) (s.trans s2) ((R3.top R3.len1).rd sc) r2
  | r i =>
    obtain ⟨⟨c0, hc0, sc0, ty⟩, h⟩ := h
    obtain ⟨v, ev, r0⟩ := R.cell i c0 hc0
    refine ⟨v, ev, (r0.rd sc0).tyv R.sub ty hT, ev1_ok R h x fun d2 env2 w H2 F2 ⟨c, hc, sc, q⟩ R2 s2 r2 => ?_⟩
    obtain ⟨v', ev', r⟩ := R2.cell i c hc
    rw [ev] at ev'
    cases ev'
    exact k _ _ _ _ _ _ _ q R2 s2 (r.rd sc) r2
  | f c i j y => exact h.elim
@[simp ↓] def eMt2 (T : String) (G : D → D → (Cl → Prop) → Prop) (a b : Opd) : WE := fun env P Y => ev2t T a b env (fun d1 d2 env' => G d1 d2 fun c => P c env') Y
/-- a method's rule, by its object and its argument -/
def MtG (X : Cx) (r : V → List V → Hp → VK → Prop) (G : D → D → (Cl → Prop) → Prop) : Prop := OpG X (fun x y H Q => r x [y] H Q) G
theorem mt2_imp {T : String} (hT : T = "list" ∨ T = "str") {r : V → List V → Hp → VK → Prop} {G : D → D → (Cl → Prop) → Prop} {a b : Opd} (hg : MtG X r G) : ∀ σ H Q, semE X W (eMt2 T G a b) σ H Q → tBM X.K T r (tO X W a) (tCons (tO X W b) tNil) σ H Q := fun σ H Q ⟨B, F, env, P, Y, R, h, ok, x⟩ =>
  ev2t_ok hT R h x fun d1 d2 env' v w H' F' g R' s r1 r2 => hg B σ H' F' env' v w d1 d2 _ Q R' r1 r2 g fun c u H2 F2 p R2 s2 => ok c env' u H2 F2 p R2 (s.trans s2)
/-- l.count(x), over data -/
def gCount : D → D → (Cl → Prop) → Prop
  | .list xs, d, P => PyData.plainAll xs = true ∧ d.plain = true ∧ min (PyData.depthAll xs) d.depth ≤ 60 ∧ P (.fz (.int (xs.countP fun y => PyData.eqv y d : Nat)))
  | _, _, _ => False
def rCountD (K : PySem.W.Frag) : V → List V → Hp → VK → Prop := fun x ys H Q => ∃ (F : Hp) (y : V) (xs : List D) (d : D), Same F H ∧ ys = [y] ∧ RepR K H F x (.list xs) ∧ RepR K H F y d ∧ PyData.plainAll xs = true ∧ d.plain = true ∧ min (PyData.depthAll xs) d.depth ≤ 60 ∧ Q (.int (xs.countP fun y => PyData.eqv y d : Nat)) H
theorem mt_countD (hu : X.A.units + 64 < cLine) : MtR X "list.count" (rCountD X.K) := by
  intro pins s σ H x xs v us Q I rx rv h
  obtain ⟨F, y, ds, d, sm, rfl, r1, r2, c1, c2, c3, q⟩ := h
  obtain ⟨u, rfl, ru⟩ := rv.one
  obtain ⟨as, h1⟩ := r1.reads I sm rx (by simpa [PyData.plain] using c1)
  obtain ⟨bs, h2⟩ := r2.reads I sm ru c2
  cases h1 with
  | list ho hc hd hr =>
    exact SeqAt.count_list_data (prog := X.prog) (w := X.w) (A := X.A) ⟨_, ho, hc, _, hd⟩ (by simpa using hr) h2 c1 c2 (by omega) ⟨.int _, H, I.tok _, ⟨_, rfl⟩, q⟩
theorem mg_countD : MtG X (rCountD X.K) gCount := fun B σ H F env x y d1 d2 P Q R r1 r2 g k => by
  cases d1 with
  | list xs => exact ⟨F, y, xs, d2, R.sub, rfl, r1, r2, g.1, g.2.1, g.2.2.1, k _ _ _ _ g.2.2.2 (R.push (.int _)) (Same.refl F)⟩
  | _ => exact g.elim
end
end Sw

/-! a def keeps the promise that its body tells; the nodes of a text -/
namespace Sw
open PySem PySem.Spec PyProof.Rows L2
section
variable {X : Cx} {W : WX} {B : Bd} {σ : L2.St} {H F : Hp} {env : En} {Y : XP} {K : PySem.W.Frag}
/-! ### a def -/
/-- the lent things as they stand at the end -/
def outsOf : List Cl → En → List OD
  | .io _ :: cs, some (.io o) :: e => o :: outsOf cs e
  | .io _ :: cs, _ :: e => .lst [] :: outsOf cs e
  | .io _ :: cs, [] => .lst [] :: outsOf cs []
  | _ :: cs, _ :: e => outsOf cs e
  | _ :: cs, [] => outsOf cs []
  | [], _ => []
/-- what is wanted of a body -/
@[simp ↓] def skOf (cs : List Cl) (P : Cl → List OD → Prop) (Y : XP) : SK where
  nx := fun e => P (.fz .none) (outsOf cs e)
  rt := fun c e => P c (outsOf cs e)
  bk := fun _ => False
  ct := fun _ => False
  xc := Y
@[simp ↓] def ctOf (w : WS) (k : Nat) : Ct := fun cs P Y => w (cs.map some ++ List.replicate k none) (skOf cs P Y)
theorem outs_ok : ∀ {vs : List V} {cs : List Cl} {env : En} {T : L2.St}, vs.length = cs.length → (∀ (j : Nat) (o : OD), cs[j]? = some (.io o) → ∃ p o', vs[j]? = some (.ref p) ∧ env[j]? = some (some (.io o')) ∧ F p = none ∧ OwnAt K H F p o') → OutsAt K H F vs cs (outsOf cs env)
  | [], [], env, T, h, k => by unfold outsOf; exact True.intro
  | [], _ :: _, env, T, h, k => by cases h
  | _ :: _, [], env, T, h, k => by cases h
  | v :: vs, c :: cs, env, T, h, k => by
    have hl : vs.length = cs.length := by simpa using h
    have rest : ∀ e : En, env.tail = e → OutsAt K H F vs cs (outsOf cs e) := fun e he => by
      refine outs_ok (T := T) hl fun j o q => ?_
      obtain ⟨p, o', a, b, c⟩ := k (j + 1) o (by simpa using q)
      refine ⟨p, o', by simpa using a, ?_, c⟩
      subst he
      cases env with
      | nil => simp at b
      | cons x e => simpa using b
    have plain : ∀ {c : Cl}, (∀ o, c ≠ .io o) → outsOf (c :: cs) env = outsOf cs env.tail ∧ ∀ os, OutsAt K H F (v :: vs) (c :: cs) os = OutsAt K H F vs cs os := fun {c} n => by
      cases c with
      | io o => exact absurd rfl (n o)
      | _ => cases env <;> exact ⟨rfl, fun _ => rfl⟩
    by_cases n : ∃ o, c = .io o
    · obtain ⟨o, rfl⟩ := n
      obtain ⟨p, o', a, b, np, oa⟩ := k 0 o rfl
      cases env with
      | nil => simp at b
      | cons x e =>
        have b : x = some (.io o') := by simpa using b
        have a : v = .ref p := by simpa using a
        subst b a
        exact ⟨⟨p, rfl, np, oa⟩, rest e rfl⟩
    · obtain ⟨e1, e2⟩ := plain (c := c) (fun o z => n ⟨o, z⟩)
      rw [e1, e2]
      exact rest _ rfl
theorem get_pad {α : Type} {l r : List α} {j : Nat} {x : α} (h : l[j]? = some x) : (l ++ r)[j]? = some x := get_pre h
/-- the state at a def's entry, its own names empty -/
theorem Rl.pad {H F : Hp} : ∀ (k : Nat) {σ : L2.St} {env : En}, Rl K B σ H F env → Rl K B (σ ++ List.replicate k none) H F (env ++ List.replicate k none)
  | 0, σ, env, R => by simpa using R
  | k + 1, σ, env, R => by
    have R1 : Rl K B (σ ++ [none]) H F (env ++ [none]) := by
      have look : ∀ {j : Nat} {c : Cl}, (env ++ [none])[j]? = some (some c) → env[j]? = some (some c) ∧ (σ ++ [none])[j]? = σ[j]? := fun {j c} h => by
        rcases get_snoc h with h | ⟨_, z⟩
        · exact ⟨h, List.getElem?_append_left (R.lt h)⟩
        · cases z
      refine ⟨by rw [List.length_append, List.length_append, R.len]; rfl, R.subn, R.ext, R.new, R.kept, fun j c h => ?_, fun j o p h e => ?_, fun j o p h e => ?_, fun j p h => ?_, fun i j c1 c2 p h1 o1 e1 h2 o2 e2 => ?_⟩
      · obtain ⟨a, b⟩ := look h
        rw [b]
        exact R.cell j c a
      · obtain ⟨a, b⟩ := look h
        exact R.own j o p a (by rw [← b]; exact e)
      · obtain ⟨a, b⟩ := look h
        exact R.ion j o p a (by rw [← b]; exact e)
      · obtain ⟨a, o, b⟩ := R.ioc j p h
        exact ⟨get_pre a, o, get_pre b⟩
      · obtain ⟨a, b⟩ := look h1
        obtain ⟨a', b'⟩ := look h2
        exact R.dist i j c1 c2 p a o1 (by rw [← b]; exact e1) a' o2 (by rw [← b']; exact e2)
    have := Rl.pad k R1
    rw [List.append_assoc, List.append_assoc] at this
    exact this
/-- a body's end, from the promise at its entry -/
theorem sem_in {n m : Nat} {wp : WS} {N : List Str} {vs : List V} {cs : List Cl} {P' : Cl → List OD → Prop} {Q : VK} {E : XK} (hm : N.length - n = m) (hl : vs.length = n) (R : Rl X.K (bdOf H F vs cs) (vs.map some) H F (cs.map some)) (hc : ctOf wp m cs P' Y)
    (ok : ∀ c os v H' F', P' c os → PostOk X.K H F vs cs c os v H' F' → Q v H') (xo : ∀ x cls d H', Y x → ExnIs X.mg H' x cls d → Kept X.K (bdOf H F vs cs) H' → E cls d H') : semS X (fun cls d _ H => E cls d H) wp { nx := fun _ H' => Q .non H', rt := Q } (L2.start N vs) H := by
  refine ⟨bdOf H F vs cs, F, _, skOf cs P' Y, ?_, hc, ?_, fun x σ' H' cls d y i kk => xo x cls d H' y i kk⟩
  · have e : L2.start N vs = vs.map some ++ List.replicate m none := by
      unfold L2.start
      rw [hl, hm]
    rw [e]
    exact R.pad m
  · have hcl : vs.length = cs.length := by simpa using R.len.symm
    have fin : ∀ c env' σ' v H' F', P' c (outsOf cs env') → Rl X.K (bdOf H F vs cs) (σ' ++ [some v]) H' F' (env' ++ [some c]) → (∀ p, ¬ (bdOf H F vs cs).io σ'.length p) → Same F F' → Q v H' := fun c env' σ' v H' F' p R' nio s => by
      have le : env'.length = σ'.length := R'.len1
      have lt : ∀ j q, lentAt vs cs j q → j < σ'.length := fun j q h => (List.getElem?_eq_some_iff.mp ((R'.pop nio).ioc j q h).1).1
      refine ok c _ v H' F' p ⟨s, R'.subn, fun q o h => ?_, fun q o h1 h2 => R'.kept.keep q o h1 (fun ⟨j, hj⟩ => h2 j hj) fun z => z, R'.kept.tabs, R'.top le, fun o e => ?_, fun o q e hv => ?_, ?_⟩
      · rcases R'.new q o h with z | z | z | z
        · exact .inl z
        · exact .inr (.inl z)
        · exact z.elim
        · exact .inr (.inr z)
      · subst e
        obtain ⟨q, hv, _⟩ := R'.top le
        subst hv
        exact nio q (R'.ion σ'.length o q (by rw [← le]; exact get_last) get_last)
      · subst e hv
        rcases R'.own σ'.length o q (by rw [← le]; exact get_last) get_last with z | z
        · exact z
        · exact z.elim
      · refine outs_ok (T := []) hcl fun j o hj => ?_
        have hjv : j < vs.length := by
          have := (List.getElem?_eq_some_iff.mp hj).1
          omega
        obtain ⟨v0, ev0, q, hv0, _⟩ := R.cell j (.io o) (by rw [List.getElem?_map, hj]; rfl)
        subst hv0
        have evj : vs[j]? = some (.ref q) := by
          rw [List.getElem?_map] at ev0
          cases z : vs[j]? with
          | none => rw [z] at ev0; cases ev0
          | some y => rw [z] at ev0; cases ev0; rfl
        obtain ⟨a, o', b⟩ := (R'.pop nio).ioc j q ⟨⟨o, hj⟩, evj⟩
        obtain ⟨v1, ev1, q1, hv1, nq, oa⟩ := (R'.pop nio).cell j _ b
        rw [a] at ev1
        cases ev1
        cases hv1
        exact ⟨q, o', evj, b, nq, oa⟩
    exact ⟨fun env' σ' H' F' p R' s => fin _ _ _ _ _ _ p (R'.push .non) R'.nio s, fun c env' σ' v H' F' p R' n s => fin _ _ _ _ _ _ p R' n s, fun _ _ _ _ p => p.elim, fun _ _ _ _ p => p.elim⟩
/-- a def keeps what its body tells -/
theorem fn_ok {P : Program} {w : World} {mg : Str → Option Value} {base : Heap} {x qual : Str} {params : Arguments} {body : List Stmt} {scope : Scope} {kws : List (Str × V)} {dvs : List V} {f : Addr} {fd : FuncData} {N ps : List Str} {k m n : Nat} {wp : WS}
    (FD : FunD K x qual params body scope dvs kws f fd) (S : FnScope N ps scope) (hn : ps.length = n) (hm : N.length - n = m)
    (hb : ∀ (cdv : Value) (A : Around) (outer : List Env) (s : Shared) (H : Hp) (E : XK), Room k (A.deeper (envOfC qual scope s.heap.objs.size f cdv)) →
      Takes (cxOf (L2.CX P w) P w K mg base N qual scope f cdv A outer s H E) (fun cls d _ H => E cls d H) → PassesOwn (model P w) (cxOf (L2.CX P w) P w K mg base N qual scope f cdv A outer s H E).A (cxOf (L2.CX P w) P w K mg base N qual scope f cdv A outer s H E).env (cxOf (L2.CX P w) P w K mg base N qual scope f cdv A outer s H E).xe →
      PSs (cxOf (L2.CX P w) P w K mg base N qual scope f cdv A outer s H E) body (semS (cxOf (L2.CX P w) P w K mg base N qual scope f cdv A outer s H E) (fun cls d _ H => E cls d H) wp)) :
    FnOk P w K mg base (L2.CX P w) (k + 1) f fd ps (spOf K mg n (ctOf wp m)) := by
  refine FD.ok S (fun vs H Q E ⟨_, _, _, _, h, _⟩ => h.trans hn.symm) fun cdv A outer s H vs Q E hr h => ?_
  obtain ⟨F, cs, P', Y, hl, R, hc, ok, xo⟩ := h
  exact ⟨_, hb cdv A outer s H E hr (takes_of rfl rfl rfl rfl) (passes_of rfl), sem_in hm hl R hc ok xo⟩
/-! ### truth of a value -/
def gTru : D → (Bool → Prop) → Prop
  | .none, P => P false
  | .bool b, P => P b
  | .int i, P => P (i != 0)
  | .str z, P => z.length ≤ sizeLine ∧ P ((z.length : Int) != 0)
  | .list xs, P => P (!xs.isEmpty)
  | .tuple xs, P => P (!xs.isEmpty)
  | .dict _, _ => False
@[simp ↓] def tTru (a : Opd) : WT := fun env P Y => ev1 a env (fun d env' => gTru d fun k => P k env') Y
theorem RepL.emp {vs : List V} {ds : List D} (h : RepL K F vs ds) : vs.isEmpty = ds.isEmpty := by
  cases h <;> rfl
theorem tru_imp {a : Opd} : ∀ σ H Q, semT X W (tTru a) σ H Q → (fun σ H Q => tO X W a σ H fun x H' => ∃ k, TruV X.K x H' k ∧ Q k H') σ H Q := fun σ H Q ⟨B, F, env, P, Y, R, h, ok, x⟩ =>
  ev1_ok R h x fun d env' v H' F' g R' s r => by
    cases d with
    | none =>
      have := r.none
      subst this
      exact ⟨false, rfl, ok _ _ _ _ g R' s⟩
    | bool b =>
      have := r.bool
      subst this
      exact ⟨b, rfl, ok _ _ _ _ g R' s⟩
    | int b =>
      have := r.int
      subst this
      exact ⟨_, rfl, ok _ _ _ _ g R' s⟩
    | str z =>
      have := r.str
      subst this
      exact ⟨_, ⟨g.1, rfl⟩, ok _ _ _ _ g.2 R' s⟩
    | list ds =>
      obtain ⟨p, vs, rfl, h1, l⟩ := r.lst R'.sub
      exact ⟨_, .inl ⟨vs, SqL.of h1, rfl⟩, ok _ _ _ _ (by rw [l.emp]; exact g) R' s⟩
    | tuple ds =>
      obtain ⟨p, vs, rfl, h1, l⟩ := r.tup R'.sub
      exact ⟨_, .inr (.inl ⟨vs, h1, rfl⟩), ok _ _ _ _ (by rw [l.emp]; exact g) R' s⟩
    | dict _ => exact g.elim
end
end Sw

/-! the nodes of a text, each with what it tells -/
namespace Sw
open PySem PySem.Spec PyProof.Rows L2
section
variable {X : Cx} {W : WX} {pos p1 p2 p3 : Pos} {e ea eb ec : Expr} {f g h : WE} {a b c : Opd} {t u : WT} {i j : Nat} {x : Str}
/-! ### leaves -/
theorem g_int {n : Int} {k : Nat} : PE X (.Constant (.int n) k pos) (semE X W (eD (.int n))) := pe_constD pe_int fun _ => .int n
theorem g_str {n : Str} {k : Nat} : PE X (.Constant (.str n) k pos) (semE X W (eD (.str n))) := pe_constD pe_str fun _ => .str n
theorem g_bool {n : Bool} {k : Nat} : PE X (.Constant (.bool n) k pos) (semE X W (eD (.bool n))) := pe_constD pe_bl fun _ => .bl n
theorem g_none {k : Nat} : PE X (.Constant .none k pos) (semE X W (eD .none)) := pe_constD pe_non fun _ => .non
theorem g_var (hN : X.N[i]? = some x) (hv : Vis X.env.scope x) (hd : (x == ("__debug__" : Str)) = false := by decide) (hcd : (x == ("__classdict__" : Str)) = false := by decide) : PE X (.Name x pos) (semE X W (eVar i)) := pe_eVar (pe_var hN hv hd hcd)
theorem g_v (h : PE X e (semE X W f)) : PE X e (tO X W (.v f)) := h
theorem g_r (hN : X.N[i]? = some x) (hv : Vis X.env.scope x) (hd : (x == ("__debug__" : Str)) = false := by decide) (hcd : (x == ("__classdict__" : Str)) = false := by decide) : PE X (.Name x pos) (tO X W (.r i)) := pe_var hN hv hd hcd
theorem g_t (hN : X.N[i]? = some x) (hv : Vis X.env.scope x) (hd : (x == ("__debug__" : Str)) = false := by decide) (hcd : (x == ("__classdict__" : Str)) = false := by decide) : PE X (.Name x pos) (tVar i) := pe_var hN hv hd hcd
/-! ### operators -/
variable (ha : PE X ea (tO X W a)) (hb : PE X eb (tO X W b))
include ha hb
theorem g_add : PE X (.BinOp ea .Add eb pos) (semE X W (eOp2 gAdd a b)) := pe_op2 op_addAll og_add ha hb
theorem g_sub : PE X (.BinOp ea .Sub eb pos) (semE X W (eOp2 gSub a b)) := pe_op2 op_sub og_int0 ha hb
theorem g_mul : PE X (.BinOp ea .Mult eb pos) (semE X W (eOp2 gMul a b)) := pe_op2 op_mulAll og_mul ha hb
theorem g_div : PE X (.BinOp ea .FloorDiv eb pos) (semE X W (eOp2 gDiv a b)) := pe_op2 op_fdivW og_int ha hb
theorem g_mod : PE X (.BinOp ea .Mod eb pos) (semE X W (eOp2 gMod a b)) := pe_op2 op_mod og_int ha hb
theorem g_pow : PE X (.BinOp ea .Pow eb pos) (semE X W (eOp2 gPow a b)) := pe_op2 op_pow og_int ha hb
theorem g_lt : PE X (.Compare ea [.Lt] [eb] pos) (semE X W (eOp2 gLt a b)) := pe_cmp2 op_lt og_cmp0 ha hb (nomark _)
theorem g_le : PE X (.Compare ea [.LtE] [eb] pos) (semE X W (eOp2 gLe a b)) := pe_cmp2 op_le og_cmp0 ha hb (nomark _)
theorem g_gt : PE X (.Compare ea [.Gt] [eb] pos) (semE X W (eOp2 gGt a b)) := pe_cmp2 op_gt og_cmp0 ha hb (nomark _)
theorem g_ge : PE X (.Compare ea [.GtE] [eb] pos) (semE X W (eOp2 gGe a b)) := pe_cmp2 op_ge og_cmp0 ha hb (nomark _)
abbrev gEq := gDat CEq PyData.eqv
abbrev gNe := gDat CEq fun d e => !PyData.eqv d e
abbrev gIn := gDat CIn inB
abbrev gNotIn := gDat CIn fun d e => !inB d e
theorem g_eq (hu : X.A.units + 64 < cLine) : PE X (.Compare ea [.Eq] [eb] pos) (semE X W (eOp2 gEq a b)) := pe_cmp2 (op_eqDat hu) og_dat ha hb (nomark _)
theorem g_ne (hu : X.A.units + 64 < cLine) : PE X (.Compare ea [.NotEq] [eb] pos) (semE X W (eOp2 gNe a b)) := pe_cmp2 (op_neDat hu) og_dat ha hb (nomark _)
theorem g_in (hu : X.A.units + 64 < cLine) (hm : behindInMarks .In eb = false := by rfl) : PE X (.Compare ea [.In] [eb] pos) (semE X W (eOp2 gIn a b)) := pe_cmp2 (op_inDat hu) og_dat ha hb hm
theorem g_nin (hu : X.A.units + 64 < cLine) (hm : behindInMarks .NotIn eb = false := by rfl) : PE X (.Compare ea [.NotIn] [eb] pos) (semE X W (eOp2 gNotIn a b)) := pe_cmp2 (op_notInDat hu) og_dat ha hb hm
theorem g_isN : PE X (.Compare ea [.Is] [eb] pos) (semE X W (eOp2 gIsN a b)) := pe_cmp2 op_isN og_isN ha hb (nomark _)
theorem g_isnN : PE X (.Compare ea [.IsNot] [eb] pos) (semE X W (eOp2 gIsNotN a b)) := pe_cmp2 op_notN og_isNotN ha hb (nomark _)
abbrev gIsBo := gIsB fun a b => decide (a = b)
abbrev gIsnB := gIsB fun a b => !decide (a = b)
theorem g_isB : PE X (.Compare ea [.Is] [eb] pos) (semE X W (eOp2 gIsBo a b)) := pe_cmp2 op_isBl og_isB ha hb (nomark _)
theorem g_isnB : PE X (.Compare ea [.IsNot] [eb] pos) (semE X W (eOp2 gIsnB a b)) := pe_cmp2 op_notBl og_notB ha hb (nomark _)
/-! ### comparisons as tests -/
theorem h_lt : PT X (.Compare ea [.Lt] [eb] pos) (semT X W (tOp2 gLt a b)) := pt_cmp2 op_lt og_cmp0 ha hb (nomark _)
theorem h_le : PT X (.Compare ea [.LtE] [eb] pos) (semT X W (tOp2 gLe a b)) := pt_cmp2 op_le og_cmp0 ha hb (nomark _)
theorem h_gt : PT X (.Compare ea [.Gt] [eb] pos) (semT X W (tOp2 gGt a b)) := pt_cmp2 op_gt og_cmp0 ha hb (nomark _)
theorem h_ge : PT X (.Compare ea [.GtE] [eb] pos) (semT X W (tOp2 gGe a b)) := pt_cmp2 op_ge og_cmp0 ha hb (nomark _)
theorem h_eq (hu : X.A.units + 64 < cLine) : PT X (.Compare ea [.Eq] [eb] pos) (semT X W (tOp2 gEq a b)) := pt_cmp2 (op_eqDat hu) og_dat ha hb (nomark _)
theorem h_ne (hu : X.A.units + 64 < cLine) : PT X (.Compare ea [.NotEq] [eb] pos) (semT X W (tOp2 gNe a b)) := pt_cmp2 (op_neDat hu) og_dat ha hb (nomark _)
theorem h_in (hu : X.A.units + 64 < cLine) (hm : behindInMarks .In eb = false := by rfl) : PT X (.Compare ea [.In] [eb] pos) (semT X W (tOp2 gIn a b)) := pt_cmp2 (op_inDat hu) og_dat ha hb hm
theorem h_nin (hu : X.A.units + 64 < cLine) (hm : behindInMarks .NotIn eb = false := by rfl) : PT X (.Compare ea [.NotIn] [eb] pos) (semT X W (tOp2 gNotIn a b)) := pt_cmp2 (op_notInDat hu) og_dat ha hb hm
theorem h_isN : PT X (.Compare ea [.Is] [eb] pos) (semT X W (tOp2 gIsN a b)) := pt_cmp2 op_isN og_isN ha hb (nomark _)
theorem h_isnN : PT X (.Compare ea [.IsNot] [eb] pos) (semT X W (tOp2 gIsNotN a b)) := pt_cmp2 op_notN og_isNotN ha hb (nomark _)
theorem h_isB : PT X (.Compare ea [.Is] [eb] pos) (semT X W (tOp2 gIsBo a b)) := pt_cmp2 op_isBl og_isB ha hb (nomark _)
theorem h_isnB : PT X (.Compare ea [.IsNot] [eb] pos) (semT X W (tOp2 gIsnB a b)) := pt_cmp2 op_notBl og_notB ha hb (nomark _)
theorem g_ix (hs : PlainIx eb) : PE X (.Subscript ea eb pos) (semE X W (eOp2 gIdx a b)) := pe_idx ha hb hs
omit hb in
theorem g_neg : PE X (.UnaryOp .USub ea pos) (semE X W (eNeg a)) := peOf (pe_un un_neg ha) neg_imp
omit ha in
theorem g_ixV (ha : PE X ea (tVar i)) (hs : PlainIx eb) : PE X (.Subscript ea eb pos) (semE X W (eIdxV i b)) := pe_idxV ha hb hs
omit ha hb
/-! ### chains -/
@[simp ↓] def pLt (i j : Int) : Bool := decide (i < j)
@[simp ↓] def pLe (i j : Int) : Bool := decide (i ≤ j)
@[simp ↓] def pGt (i j : Int) : Bool := decide (j < i)
@[simp ↓] def pGe (i j : Int) : Bool := decide (j ≤ i)
theorem g_chain {o o' : CmpOp} {p q : Int → Int → Bool} (ho : OpR X (compareOp o) (rI0 fun i j => .bl (p i j))) (ho' : OpR X (compareOp o') (rI0 fun i j => .bl (q i j))) (ha : PE X ea (tO X W a)) (hb : PE X eb (tO X W b)) (hc : PE X ec (tO X W c)) (hm : lastMarks [o, o'] [eb, ec] = false := by with_unfolding_all rfl) :
    PE X (.Compare ea [o, o'] [eb, ec] pos) (semE X W (eChain p q a b c)) := peOf (pe_chain ho ho' ha hb hc hm) chain_imp
theorem h_chain {o o' : CmpOp} {p q : Int → Int → Bool} (ho : OpR X (compareOp o) (rI0 fun i j => .bl (p i j))) (ho' : OpR X (compareOp o') (rI0 fun i j => .bl (q i j))) (ha : PE X ea (tO X W a)) (hb : PE X eb (tO X W b)) (hc : PE X ec (tO X W c)) (hm : lastMarks [o, o'] [eb, ec] = false := by with_unfolding_all rfl) :
    PT X (.Compare ea [o, o'] [eb, ec] pos) (semT X W (tChainS p q a b c)) := ptOf (pt_chain ho ho' ha hb hc hm) tchain_imp
theorem o_lt : OpR X (compareOp .Lt) (rI0 fun i j => .bl (pLt i j)) := op_lt
theorem o_le : OpR X (compareOp .LtE) (rI0 fun i j => .bl (pLe i j)) := op_le
theorem o_gt : OpR X (compareOp .Gt) (rI0 fun i j => .bl (pGt i j)) := op_gt
theorem o_ge : OpR X (compareOp .GtE) (rI0 fun i j => .bl (pGe i j)) := op_ge
/-! ### truths -/
variable {rest : List Expr}
theorem g_and (h1 : PE X ea (semE X W f)) (h2 : PE X (.BoolOp .And (eb :: rest) pos) (semE X W g)) : PE X (.BoolOp .And (ea :: eb :: rest) pos) (semE X W (eAndV f g)) := peOf (pe_and h1 h2) andV_imp
theorem g_or (h1 : PE X ea (semE X W f)) (h2 : PE X (.BoolOp .Or (eb :: rest) pos) (semE X W g)) : PE X (.BoolOp .Or (ea :: eb :: rest) pos) (semE X W (eOrV f g)) := peOf (pe_or h1 h2) orV_imp
theorem g_one {o : BoolOp} (h1 : PE X ea (semE X W f)) : PE X (.BoolOp o [ea] pos) (semE X W f) := pe_one h1
theorem g_not (h1 : PE X ea (semE X W f)) : PE X (.UnaryOp .Not ea pos) (semE X W (eNotV f)) := peOf (pe_not h1) notV_imp
theorem g_if (h1 : PT X ec (semT X W t)) (h2 : PE X ea (semE X W f)) (h3 : PE X eb (semE X W g)) : PE X (.IfExp ec ea eb pos) (semE X W (eIf t f g)) := peOf (pe_ifExp h1 h2 h3) if_imp
theorem h_not (h1 : PT X ea (semT X W t)) : PT X (.UnaryOp .Not ea pos) (semT X W (tNotS t)) := ptOf (pt_not h1) not_imp
theorem h_and (h1 : PT X ea (semT X W t)) (h2 : PW X (.BoolOp .And (eb :: rest) pos) (semT X W u)) : PW X (.BoolOp .And (ea :: eb :: rest) pos) (semT X W (tAndS t u)) := pwOf (pw_and h1 h2) and_imp
theorem h_or (h1 : PT X ea (semT X W t)) (h2 : PW X (.BoolOp .Or (eb :: rest) pos) (semT X W u)) : PW X (.BoolOp .Or (ea :: eb :: rest) pos) (semT X W (tOrS t u)) := pwOf (pw_or h1 h2) or_imp
theorem h_val (h1 : PE X e (semE X W f)) (he : ∀ whole, isTrue e X.env whole = (do let v ← whole; standAt e.pos; holding [v] (truthy v)) := by intro _; rfl) : PT X e (semT X W (tVal f)) := pt_vals h1 he
theorem h_tru (h1 : PE X e (tO X W a)) (he : ∀ whole, isTrue e X.env whole = (do let v ← whole; standAt e.pos; holding [v] (truthy v)) := by intro _; rfl) : PT X e (semT X W (tTru a)) := ptOf (pt_truth h1 he) tru_imp
/-! ### several -/
theorem l_nil : PA X [] (tEs X W []) := pa_nil
theorem l_cons {es : List Expr} {fs : List WE} (h1 : PE X e (semE X W f)) (h2 : PA X es (tEs X W fs)) (hs : starEach (e :: es) X.env = (false, eval e X.env) :: starEach es X.env := by rfl) : PA X (e :: es) (tEs X W (f :: fs)) := pa_cons h1 h2 hs
theorem g_tup {es : List Expr} {fs : List WE} {k : Nat} (h1 : PA X es (tEs X W fs)) : PE X (.Tuple es k pos) (semE X W (eTup fs)) := peOf (pe_tup h1) tup_imp
theorem g_lst {es : List Expr} {fs : List WE} (h1 : PA X es (tEs X W fs)) : PE X (.List es pos) (semE X W (eLst fs)) := peOf (pe_lst h1) lst_imp
theorem a_nil : PA X [] (tArgs X W []) := pa_nil
theorem a_v {es : List Expr} {as : List Arg} (h1 : PE X e (semE X W f)) (h2 : PA X es (tArgs X W as)) (hs : starEach (e :: es) X.env = (false, eval e X.env) :: starEach es X.env := by rfl) : PA X (e :: es) (tArgs X W (.v f :: as)) := pa_cons h1 h2 hs
theorem a_r {es : List Expr} {as : List Arg} (h1 : PE X e (tVar i)) (h2 : PA X es (tArgs X W as)) (hs : starEach (e :: es) X.env = (false, eval e X.env) :: starEach es X.env := by rfl) : PA X (e :: es) (tArgs X W (.r i :: as)) := pa_cons h1 h2 hs
/-- a call of a def of the text -/
theorem g_call {k k' n : Nat} {fa : Addr} {fd : FuncData} {ps : List Str} {C : Ct} {es : List Expr} {as : List Arg} (FO : FnOk X.prog X.w X.K X.mg X.base (L2.CX X.prog X.w) k fa fd ps (spOf X.K X.mg n C)) (hr : Room k' X.A) (hk : k ≤ k') (hm : X.mg x = some (.ref fa)) (kp : PySem.W.keepIn X.K (.ref fa) = true) (hbn : Binds X.K fd ps []) (tk : Takes X W)
    (hg : Gl X x) (hA : PA X (e :: es) (tArgs X W as)) (hn : as.length = n := by rfl) (nd : (lentOf as).Nodup := by decide) (hdb : (x == ("__debug__" : Str)) = false := by decide) (he : starEach (e :: es) X.env = (false, eval e X.env) :: starEach es X.env := by rfl) (hpl : (backTo pos (starEach es X.env)).any (·.1) = false := by rfl) :
    PE X (.Call (.Name x p1) (e :: es) [] pos) (semE X W (eCall C as)) := peOf (pe_callS FO (hr.mono hk) hg hm kp hbn (passAt tk) hA hdb he hpl) (call_imp hn nd)
/-! ### built-in functions -/
theorem g_len (hm : X.mg "len" = none) (hg : Gl X "len") (ha : PE X e (tO X W a)) (s1 : starEach [e] X.env = (false, eval e X.env) :: starEach [] X.env := by rfl) (pl : (backTo pos (starEach [] X.env)).any (·.1) = false := by rfl) : PE X (.Call (.Name "len" p1) [e] [] pos) (semE X W (eLen a)) := peOf (pe_callB call_len hg hm boot_len (pa_cons ha pa_nil s1) (he := s1) (hpl := pl)) len_imp
theorem g_lenV (hm : X.mg "len" = none) (hg : Gl X "len") (ha : PE X e (tVar i)) (s1 : starEach [e] X.env = (false, eval e X.env) :: starEach [] X.env := by rfl) (pl : (backTo pos (starEach [] X.env)).any (·.1) = false := by rfl) : PE X (.Call (.Name "len" p1) [e] [] pos) (semE X W (eLenV i)) := peOf (pe_callB call_len hg hm boot_len (pa_cons ha pa_nil s1) (he := s1) (hpl := pl)) lenV_imp
theorem g_abs (hm : X.mg "abs" = none) (hg : Gl X "abs") (ha : PE X e (tO X W a)) (s1 : starEach [e] X.env = (false, eval e X.env) :: starEach [] X.env := by rfl) (pl : (backTo pos (starEach [] X.env)).any (·.1) = false := by rfl) : PE X (.Call (.Name "abs" p1) [e] [] pos) (semE X W (eAbs a)) := peOf (pe_callB call_abs hg hm (by rfl) (pa_cons ha pa_nil s1) (he := s1) (hpl := pl)) abs_imp
theorem g_max2 (hc : X.calm = true) (hm : X.mg "max" = none) (hg : Gl X "max") (ha : PE X ea (tO X W a)) (hb : PE X eb (tO X W b)) (s1 : starEach [ea, eb] X.env = (false, eval ea X.env) :: starEach [eb] X.env := by rfl) (s2 : starEach [eb] X.env = (false, eval eb X.env) :: starEach [] X.env := by rfl) (pl : (backTo pos (starEach [eb] X.env)).any (·.1) = false := by rfl) :
    PE X (.Call (.Name "max" p1) [ea, eb] [] pos) (semE X W (eOp2 gMax a b)) := peOf (pe_callB (call_max2 hc) hg hm (by rfl) (pa_cons ha (pa_cons hb pa_nil s2) s1) (he := s1) (hpl := pl)) max_imp
theorem g_min2 (hc : X.calm = true) (hm : X.mg "min" = none) (hg : Gl X "min") (ha : PE X ea (tO X W a)) (hb : PE X eb (tO X W b)) (s1 : starEach [ea, eb] X.env = (false, eval ea X.env) :: starEach [eb] X.env := by rfl) (s2 : starEach [eb] X.env = (false, eval eb X.env) :: starEach [] X.env := by rfl) (pl : (backTo pos (starEach [eb] X.env)).any (·.1) = false := by rfl) :
    PE X (.Call (.Name "min" p1) [ea, eb] [] pos) (semE X W (eOp2 gMin a b)) := peOf (pe_callB (call_min2 hc) hg hm (by rfl) (pa_cons ha (pa_cons hb pa_nil s2) s1) (he := s1) (hpl := pl)) min_imp
/-! ### methods -/
theorem g_count (hu : X.A.units + 64 < cLine) (ha : PE X ea (tO X W a)) (hb : PE X eb (tO X W b)) (hbase : attributeBase ea "count" X.env (eval ea X.env) = eval ea X.env := by rfl)
    (hfew : ((backTo pos (starEach [eb] X.env)).all (fun x => !x.1) && (backToKw pos (keywordEach [] X.env)).all (fun x => x.1.isSome) && decide ([eb].length + ([] : List Keyword).length + (if ([] : List Keyword).isEmpty then 0 else 1) < 30)) = true := by rfl)
    (hline : (p1.endLine == pos.line) = true := by rfl) (hs : starEach [eb] X.env = (false, eval eb X.env) :: starEach [] X.env := by rfl) (hp : (backTo pos (starEach [] X.env)).any (·.1) = false := by rfl) : PE X (.Call (.Attribute ea "count" p1) [eb] [] pos) (semE X W (eMt2 "list" gCount a b)) :=
  peOf (pe_bm PySem.F.plainAttrs_list PySem.F.slot_list_count PySem.F.type_list_count (mt_countD hu) ha (pa_cons hb pa_nil hs) hbase hfew hline hs hp) (mt2_imp (.inl rfl) mg_countD)
theorem g_app (ha : PE X ea (tVar i)) (hb : PE X eb (semE X W f)) (hbase : attributeBase ea "append" X.env (eval ea X.env) = eval ea X.env := by rfl)
    (hfew : ((backTo pos (starEach [eb] X.env)).all (fun x => !x.1) && (backToKw pos (keywordEach [] X.env)).all (fun x => x.1.isSome) && decide ([eb].length + ([] : List Keyword).length + (if ([] : List Keyword).isEmpty then 0 else 1) < 30)) = true := by rfl)
    (hline : (p1.endLine == pos.line) = true := by rfl) (hs : starEach [eb] X.env = (false, eval eb X.env) :: starEach [] X.env := by rfl) (hp : (backTo pos (starEach [] X.env)).any (·.1) = false := by rfl) : PE X (.Call (.Attribute ea "append" p1) [eb] [] pos) (semE X W (eApp i f)) :=
  peOf (pe_bm PySem.F.plainAttrs_list PySem.F.slot_list_append PySem.F.type_list_append mt_append ha (pa_cons hb pa_nil hs) hbase hfew hline hs hp) app_imp
theorem g_ext (ha : PE X ea (tVar i)) (hb : PE X eb (semE X W f)) (hbase : attributeBase ea "extend" X.env (eval ea X.env) = eval ea X.env := by rfl)
    (hfew : ((backTo pos (starEach [eb] X.env)).all (fun x => !x.1) && (backToKw pos (keywordEach [] X.env)).all (fun x => x.1.isSome) && decide ([eb].length + ([] : List Keyword).length + (if ([] : List Keyword).isEmpty then 0 else 1) < 30)) = true := by rfl)
    (hline : (p1.endLine == pos.line) = true := by rfl) (hs : starEach [eb] X.env = (false, eval eb X.env) :: starEach [] X.env := by rfl) (hp : (backTo pos (starEach [] X.env)).any (·.1) = false := by rfl) : PE X (.Call (.Attribute ea "extend" p1) [eb] [] pos) (semE X W (eExt i f)) :=
  peOf (pe_bm PySem.F.plainAttrs_list PySem.F.slot_list_extend PySem.F.type_list_extend mt_extend ha (pa_cons hb pa_nil hs) hbase hfew hline hs hp) ext_imp
theorem g_pop (ha : PE X ea (tVar i)) (hbase : attributeBase ea "pop" X.env (eval ea X.env) = eval ea X.env := by rfl) (hline : (p1.endLine == pos.line) = true := by rfl) : PE X (.Call (.Attribute ea "pop" p1) [] [] pos) (semE X W (ePop i)) :=
  peOf (pe_bm0 PySem.F.plainAttrs_list PySem.F.slot_list_pop PySem.F.type_list_pop mt_pop ha hbase hline) pop_imp
/-! ### targets -/
theorem t_nm (hN : X.N.Nodup) (hi : X.N[i]? = some x) (hx : Loc X.env.scope x) (hf : X.fn x = true ∨ X.env.scope.names.lookup x = some .local := by first | exact .inl rfl | exact .inr rfl) : PG X (.Name x pos) (gT X.K (.nm i)) := by
  unfold gT
  exact pg_name hN hi hx hf
theorem t_nil : PGs X [] (gTs X.K .nil) := by
  unfold gTs
  exact pgs_nil
theorem t_cons {es : List Expr} {tg : Tg} {ts : Tgs} (h1 : PG X e (gT X.K tg)) (h2 : PGs X es (gTs X.K ts)) (hs : (assignEach (e :: es) X.env).map (·.2) = assign e X.env :: (assignEach es X.env).map (·.2) := by rfl) : PGs X (e :: es) (gTs X.K (.cons tg ts)) := by
  unfold gTs
  exact pgs_cons h1 h2 hs
theorem t_tup {es : List Expr} {k : Nat} {ts : Tgs} (hc : X.calm = true) (h : PGs X es (gTs X.K ts)) (hn : (assignEach es X.env).length = ts.len := by rfl) (hst : (assignEach es X.env).findIdx? (·.1) = none := by rfl) : PG X (.Tuple es k pos) (gT X.K (.tp ts)) := by
  unfold gT
  exact pg_tup hc h hn hst
theorem t_ls {es : List Expr} {k : Nat} {ts : Tgs} (hc : X.calm = true) (h : PGs X es (gTs X.K ts)) (hn : (assignEach es X.env).length = ts.len := by rfl) (hst : (assignEach es X.env).findIdx? (·.1) = none := by rfl) : PG X (.Tuple es k pos) (gT X.K (.ls ts)) := by
  unfold gT
  exact pg_lst hc h hn hst
theorem t_lst {es : List Expr} {k : Nat} {ts : Tgs} (hc : X.calm = true) (h : PGs X es (gTs X.K ts)) (hn : (assignEach es X.env).length = ts.len := by rfl) (hst : (assignEach es X.env).findIdx? (·.1) = none := by rfl) : PG X (.Tuple es k pos) (gLst X.K ts.len (gTs X.K ts)) := pg_lst hc h hn hst
/-! ### statements -/
variable {st : Stmt} {sts : List Stmt} {F G : WS} {k : Nat}
theorem s_nil : PSs X [] (semS X W sNext) := pssOf pss_nil next_imp
theorem s_cons (h1 : PS X st (semS X W F)) (h2 : PSs X sts (semS X W G)) : PSs X (st :: sts) (semS X W (sSeq F G)) := pssOf (pss_cons h1 h2) seq_imp
theorem s_one (h1 : PS X st (semS X W F)) : PSs X [st] (semS X W F) := pss_one h1
theorem s_ret (h1 : PE X e (semE X W f)) : PS X (.Return (some e) pos) (semS X W (sRet f)) := psOf (ps_ret h1) ret_imp
theorem s_retN : PS X (.Return none pos) (semS X W sRetN) := psOf ps_retN retN_imp
theorem s_if {sts2 : List Stmt} (h1 : PT X e (semT X W t)) (h2 : PSs X sts (semS X W F)) (h3 : PSs X sts2 (semS X W G)) : PS X (.If e sts sts2 pos) (semS X W (sIf t F G)) := psOf (ps_if h1 h2 h3) sif_imp
theorem s_expr (h1 : PE X e (semE X W f)) (hs : swapsWith e none pos.line X.env = pure false := by rfl) : PS X (.Expr e pos) (semS X W (sExpr f)) := psOf (ps_expr h1 hs) expr_imp
theorem s_pass : PS X (.Pass pos) (semS X W sNext) := psOf ps_pass next_imp
@[simp ↓] def sBrk : WS := fun env S => S.bk env
@[simp ↓] def sCont : WS := fun env S => S.ct env
theorem s_brk : PS X (.Break pos) (semS X W sBrk) := psOf ps_break fun D σ H ⟨B, F, env, S, R, h, ok, x⟩ => ok.bk _ _ _ _ h R (Same.refl F)
theorem s_cont : PS X (.Continue pos) (semS X W sCont) := psOf ps_continue fun D σ H ⟨B, F, env, S, R, h, ok, x⟩ => ok.ct _ _ _ _ h R (Same.refl F)
theorem s_set (hN : X.N.Nodup) (hi : X.N[i]? = some x) (hx : Loc X.env.scope x) (he : PE X e (semE X W f)) (hs : swapsWith e (some (.Name x p1)) pos.line X.env = pure false := by rfl) (hf : X.fn x = true ∨ X.env.scope.names.lookup x = some .local := by first | exact .inl rfl | exact .inr rfl) : PS X (.Assign [.Name x p1] e pos) (semS X W (sSet i f)) := psOf (ps_set hN hi hx he hs hf) set_imp
theorem s_unp {tg : Expr} {ts : Tg} (he : PE X e (semE X W f)) (hg : PG X tg (gT X.K ts)) (hs : swapsWithSole [tg] e pos.line X.env = pure false := by rfl) (hw : swappedStores [tg] e X.env = pure none := by rfl) (h1 : (assignEach [tg] X.env).map (·.2) = [assign tg X.env] := by rfl) : PS X (.Assign [tg] e pos) (semS X W (sUnp ts f)) := psOf (ps_asg he hg hs hw h1) unp_imp
theorem s_unpL {tg : Expr} {ts : Tgs} (he : PE X e (semE X W f)) (hg : PG X tg (gLst X.K ts.len (gTs X.K ts))) (hs : swapsWithSole [tg] e pos.line X.env = pure false := by rfl) (hw : swappedStores [tg] e X.env = pure none := by rfl) (h1 : (assignEach [tg] X.env).map (·.2) = [assign tg X.env] := by rfl) : PS X (.Assign [tg] e pos) (semS X W (sUnpL ts f)) := psOf (ps_asg he hg hs hw h1) unpL_imp
theorem s_setIx {o ix : Expr} (ho : PE X o (tVar i)) (hi : PE X ix (semE X W g)) (he : PE X e (semE X W f))
    (ha : ∀ v, assign (.Subscript o ix p1) X.env v = (do
      let ov ← holding [v] (eval o X.env)
      let iv ← holding [v, ov] (eval ix X.env)
      standAt p1
      holding [v, ov, iv] (setItem ov iv v)
      release [v, ov, iv] []) := by intro _; rfl) (hs : swapsWithSole [.Subscript o ix p1] e pos.line X.env = pure false := by rfl) (hw : swappedStores [.Subscript o ix p1] e X.env = pure none := by rfl) (h1 : (assignEach [.Subscript o ix p1] X.env).map (·.2) = [assign (.Subscript o ix p1) X.env] := by rfl) :
    PS X (.Assign [.Subscript o ix p1] e pos) (semS X W (sSetIx i g f)) := psOf (ps_asg he (pg_sub ho hi set_list ha) hs hw h1) setIx_imp
theorem s_augA (hN : X.N.Nodup) (hi : X.N[i]? = some x) (hx : Loc X.env.scope x) (he : PE X e (semE X W f)) (hf : X.fn x = true ∨ X.env.scope.names.lookup x = some .local := by first | exact .inl rfl | exact .inr rfl) : PS X (.AugAssign (.Name x p1) .Add e pos) (semS X W (sAug i (fun a b => a + b) f)) := psOf (ps_aug hN hi hx he ip_add hf) aug_imp
theorem s_augS (hN : X.N.Nodup) (hi : X.N[i]? = some x) (hx : Loc X.env.scope x) (he : PE X e (semE X W f)) (hf : X.fn x = true ∨ X.env.scope.names.lookup x = some .local := by first | exact .inl rfl | exact .inr rfl) : PS X (.AugAssign (.Name x p1) .Sub e pos) (semS X W (sAug i (fun a b => a - b) f)) := psOf (ps_aug hN hi hx he ip_sub hf) aug_imp
theorem s_for {dv : List Nat} {iter tg : Expr} {wi : WI} {ts : Tg} (hp : PassesOwn (model X.prog X.w) X.A X.env X.xe) (hc : X.calm = true) (hi : PI X tg iter (semI X W wi)) (hg : PG X tg (gT X.K ts)) (hb : PSs X sts (semS X W F)) (hs : ∀ x, foldedSetIterable iter X.env x = pure x := by intro _; rfl) : PS X (.For tg iter sts [] pos) (semS X W (sFor dv wi ts F)) := psOf (ps_for hp hc hi hg hb hs) for_imp
theorem s_while {dv : List Nat} (hp : PassesOwn (model X.prog X.w) X.A X.env X.xe) (hc : PT X e (semT X W t)) (hb : PSs X sts (semS X W F)) : PS X (.While e sts [] pos) (semS X W (sWhile dv t F)) := psOf (ps_while hp hc hb) while_imp
theorem s_par2 {x y : Str} {px py pt : Pos} {kt k2 : Nat} {pt2 : Pos} (hc : X.calm = true) (hN : X.N.Nodup) (hi : X.N[i]? = some x) (hj : X.N[j]? = some y) (hij : i ≠ j) (hx : X.env.scope.names.lookup x = some .local) (hy : X.env.scope.names.lookup y = some .local) (h1 : PE X ea (semE X W f)) (h2 : PE X eb (semE X W g))
    (hw : swappedStores [.Tuple [.Name x px, .Name y py] kt pt] (.Tuple [ea, eb] k2 pt2) X.env = pure (some [x, y]) := by rfl) (hs : swapsWithSole [.Tuple [.Name x px, .Name y py] kt pt] (.Tuple [ea, eb] k2 pt2) pos.line X.env = pure false := by rfl)
    (s1 : starEach [ea, eb] X.env = (false, eval ea X.env) :: starEach [eb] X.env := by rfl) (s2 : starEach [eb] X.env = (false, eval eb X.env) :: starEach [] X.env := by rfl) :
    PS X (.Assign [.Tuple [.Name x px, .Name y py] kt pt] (.Tuple [ea, eb] k2 pt2) pos) (semS X W (sPar [i, j] [f, g])) :=
  psOf (ps_par hc hN hi hj hij hx hy (pa_cons h1 (pa_cons h2 pa_nil s2) s1) hw hs) fun D σ H h => by
    exact par_core (fs := [f, g]) h fun vs H1 hl q _ => by
      match vs, hl with
      | [v, w], _ => exact ⟨v, w, rfl, q⟩
/-! ### lists written out -/
abbrev blkOf (X : Cx) (scope : Scope) (s : Shared) (H : Hp) (C : Addr) (cl : List (Str × Addr)) (fp : List Addr) : Cx := X.blk s H scope (compEnvC scope cl C X.env) fp
variable {elt tg iter : Expr} {scope : Scope} {own : List (Str × Nat)} {vs : List Nat} {wi : WI} {ts : Tg} {el : WE}
theorem g_comp (hc : X.calm = true) (hN : X.N.Nodup) (ho : BlkOk X.N X.env.scope scope own) (hv : own.map (·.2) = vs) (hi : PI X tg iter (semI X W wi)) (hg : ∀ s H C cl fp, PG (blkOf X scope s H C cl fp) tg (gT X.K ts)) (he : ∀ s H C cl fp, PE (blkOf X scope s H C cl fp) elt (semE (blkOf X scope s H C cl fp) W0 el))
    (hsl : ∀ j ∈ ts.slots, j ∈ vs := by decide) (hs : ∀ x, foldedSetIterable iter X.env x = pure x := by intro _; rfl) : PE X (.ListComp elt [⟨tg, iter, [], 0⟩] scope pos) (semE X W (eComp wi ts none el vs)) := by
  subst hv
  exact peOf (pe_lc hc hN hi ho hg (tt := tYes) (fun _ _ _ _ _ => pts_nil) he hs) (comp_imp hsl)
theorem g_compF {ec : Expr} (hc : X.calm = true) (hN : X.N.Nodup) (ho : BlkOk X.N X.env.scope scope own) (hv : own.map (·.2) = vs) (hi : PI X tg iter (semI X W wi)) (hg : ∀ s H C cl fp, PG (blkOf X scope s H C cl fp) tg (gT X.K ts)) (ht : ∀ s H C cl fp, PT (blkOf X scope s H C cl fp) ec (semT (blkOf X scope s H C cl fp) W0 t)) (he : ∀ s H C cl fp, PE (blkOf X scope s H C cl fp) elt (semE (blkOf X scope s H C cl fp) W0 el))
    (hsl : ∀ j ∈ ts.slots, j ∈ vs := by decide) (hs : ∀ x, foldedSetIterable iter X.env x = pure x := by intro _; rfl) : PE X (.ListComp elt [⟨tg, iter, [ec], 0⟩] scope pos) (semE X W (eComp wi ts (some t) el vs)) := by
  subst hv
  exact peOf (pe_lc hc hN hi ho hg (tt := semT X W0 t) (fun s H C cl fp => pts_one (ht s H C cl fp)) he hs) (comp_imp (tt := some t) hsl)
theorem s_setLc {y : Str} {py spos : Pos} (hc : X.calm = true) (hN : X.N.Nodup) (hy : X.N[i]? = some y) (hyl : X.env.scope.names.lookup y = some .local) (ho : BlkOk X.N X.env.scope scope own) (hv : own.map (·.2) = vs) (hi : PI X tg iter (semI X W wi)) (hg : ∀ s H C cl fp, PG (blkOf X scope s H C cl fp) tg (gT X.K ts)) (he : ∀ s H C cl fp, PE (blkOf X scope s H C cl fp) elt (semE (blkOf X scope s H C cl fp) W0 el))
    (hsl : ∀ j ∈ ts.slots, j ∈ vs := by decide) (hsw : swapsWith (.ListComp elt [⟨tg, iter, [], 0⟩] scope pos) (some (.Name y py)) spos.line X.env = pure true := by rfl) (hs : ∀ x, foldedSetIterable iter X.env x = pure x := by intro _; rfl) : PS X (.Assign [.Name y py] (.ListComp elt [⟨tg, iter, [], 0⟩] scope pos) spos) (semS X W (sSet i (eComp wi ts none el vs))) := by
  subst hv
  exact psOf (psOf (ps_setLc hc hN hy hyl hsw hi ho hg (tt := tYes) (te := semE X W0 el) (fun _ _ _ _ _ => pts_nil) he hs) fun D σ H h => comp_imp (X := X) (W := W) (f := wi) (t := ts) (tt := none) (el := el) hsl σ H _ h) set_imp
theorem s_setLcF {y : Str} {ec : Expr} {py spos : Pos} (hc : X.calm = true) (hN : X.N.Nodup) (hy : X.N[i]? = some y) (hyl : X.env.scope.names.lookup y = some .local) (ho : BlkOk X.N X.env.scope scope own) (hv : own.map (·.2) = vs) (hi : PI X tg iter (semI X W wi)) (hg : ∀ s H C cl fp, PG (blkOf X scope s H C cl fp) tg (gT X.K ts)) (ht : ∀ s H C cl fp, PT (blkOf X scope s H C cl fp) ec (semT (blkOf X scope s H C cl fp) W0 t)) (he : ∀ s H C cl fp, PE (blkOf X scope s H C cl fp) elt (semE (blkOf X scope s H C cl fp) W0 el))
    (hsl : ∀ j ∈ ts.slots, j ∈ vs := by decide) (hsw : swapsWith (.ListComp elt [⟨tg, iter, [ec], 0⟩] scope pos) (some (.Name y py)) spos.line X.env = pure true := by rfl) (hs : ∀ x, foldedSetIterable iter X.env x = pure x := by intro _; rfl) : PS X (.Assign [.Name y py] (.ListComp elt [⟨tg, iter, [ec], 0⟩] scope pos) spos) (semS X W (sSet i (eComp wi ts (some t) el vs))) := by
  subst hv
  exact psOf (psOf (ps_setLc hc hN hy hyl hsw hi ho hg (tt := semT X W0 t) (fun s H C cl fp => pts_one (ht s H C cl fp)) he hs) fun D σ H h => comp_imp (tt := some t) hsl σ H _ h) set_imp
end
end Sw

/-! a name given away; three at once -/
namespace Sw
open PySem PySem.Spec PyProof.Rows L2
def eMove (i : Nat) : WE := fun env P _ => ∃ c, env[i]? = some (some c) ∧ match c with
  | .fz d => P (.fz d) env
  | .ow o => P (.ow o) (env.set i none)
  | .io _ => False
  | .sc ns => P (.sc ns) env
  | .xn a => P (.xn a) env
  | .ky k => P (.fz (keyT k)) env
  | .fo _ _ => False
  | .fl _ _ => False
section
variable {X : Cx} {W : WX} {pos p1 : Pos} {e ea eb ec : Expr} {f g h : WE} {i j l : Nat} {x y z : Str}
theorem h_w {t : WT} (h1 : PW X e (semT X W t)) : PT X e (semT X W t) := h1.pt
theorem g_move (hN : X.N[i]? = some x) (hv : Vis X.env.scope x) (hd : (x == ("__debug__" : Str)) = false := by decide) (hcd : (x == ("__classdict__" : Str)) = false := by decide) : PE X (.Name x pos) (semE X W (eMove i)) :=
  peOf (pe_var hN hv hd hcd) fun σ H Q ⟨B, F, env, P, Y, R, ⟨c, hc, p⟩, ok, _⟩ => by
    obtain ⟨v, ev, r⟩ := R.cell i c hc
    refine ⟨v, ev, ?_⟩
    cases c with
    | fz d => exact ok _ _ _ _ _ p (R.push r) (Same.refl F)
    | sc ns => exact ok _ _ _ _ _ p (R.pushSc r) (Same.refl F)
    | xn a => exact ok _ _ _ _ _ p (R.pushXn r) (Same.refl F)
    | ky k =>
      obtain ⟨a, rfl, h⟩ := r
      exact ok _ _ _ _ _ p (R.push (.tup (.inl (.inl h)) (RepL.of_ints _))) (Same.refl F)
    | io o => exact p.elim
    | fo _ _ => exact p.elim
    | fl _ _ => exact p.elim
    | ow o =>
      have R' : Rl X.K B σ H F (env.set i none) := R.less (by rw [List.length_set]; exact R.len) (fun j c' h => by
        by_cases q : j = i
        · subst q
          rw [List.getElem?_set_self (List.getElem?_eq_some_iff.mp hc).1] at h
          cases h
        · rw [List.getElem?_set_ne (Ne.symm q)] at h
          exact ⟨h, rfl⟩) (fun j p h => by
        obtain ⟨_, o', b⟩ := R.ioc j p h
        have q : j ≠ i := fun z => by rw [z, hc] at b; cases b
        exact ⟨by rw [List.getElem?_set_ne (Ne.symm q)], rfl⟩)
      refine ok _ _ _ _ _ p (R'.pushC r (fun o' z => by cases z) fun o' q z hv => ?_) (Same.refl F)
      cases z
      subst hv
      refine ⟨R.own i o q hc ev, fun j c' hj oj ej => ?_⟩
      by_cases w : j = i
      · subst w
        rw [List.getElem?_set_self (List.getElem?_eq_some_iff.mp hc).1] at hj
        cases hj
      · rw [List.getElem?_set_ne (Ne.symm w)] at hj
        exact w (R.dist j i c' _ q hj oj ej hc rfl ev)
theorem s_par3 {px py pz pt : Pos} {kt k2 : Nat} {pt2 : Pos} (hc : X.calm = true) (hN : X.N.Nodup) (hi : X.N[i]? = some x) (hj : X.N[j]? = some y) (hl : X.N[l]? = some z) (hij : i ≠ j) (hil : i ≠ l) (hjl : j ≠ l)
    (hx : X.env.scope.names.lookup x = some .local) (hy : X.env.scope.names.lookup y = some .local) (hz : X.env.scope.names.lookup z = some .local) (h1 : PE X ea (semE X W f)) (h2 : PE X eb (semE X W g)) (h3 : PE X ec (semE X W h))
    (hw : swappedStores [.Tuple [.Name x px, .Name y py, .Name z pz] kt pt] (.Tuple [ea, eb, ec] k2 pt2) X.env = pure (some [x, y, z]) := by rfl)
    (hs : swapsWithSole [.Tuple [.Name x px, .Name y py, .Name z pz] kt pt] (.Tuple [ea, eb, ec] k2 pt2) pos.line X.env = pure false := by rfl)
    (s1 : starEach [ea, eb, ec] X.env = (false, eval ea X.env) :: starEach [eb, ec] X.env := by rfl) (s2 : starEach [eb, ec] X.env = (false, eval eb X.env) :: starEach [ec] X.env := by rfl) (s3 : starEach [ec] X.env = (false, eval ec X.env) :: starEach [] X.env := by rfl) :
    PS X (.Assign [.Tuple [.Name x px, .Name y py, .Name z pz] kt pt] (.Tuple [ea, eb, ec] k2 pt2) pos) (semS X W (sPar [i, j, l] [f, g, h])) :=
  psOf (ps_par3 hc hN hi hj hl hij hil hjl hx hy hz (pa_cons h1 (pa_cons h2 (pa_cons h3 pa_nil s3) s2) s1) hw hs) fun D σ H h' => by
    exact par_core (fs := [f, g, h]) h' fun vs H1 hl q _ => by
      match vs, hl with
      | [v, w, u], _ => exact ⟨v, w, u, rfl, q⟩
end
end Sw

/-! what a text tells, worked out; the script's end -/
namespace Sw
open PySem PySem.Spec PyProof.Rows L2
@[simp ↓] theorem gAdd_i {a b : Int} {P : Cl → Prop} : gAdd (.int a) (.int b) P = P (.fz (.int (a + b))) := rfl
@[simp ↓] theorem gAdd_s {a b : Str} {P : Cl → Prop} : gAdd (.str a) (.str b) P = (a.length + b.length ≤ sizeLine ∧ P (.fz (.str (a ++ b)))) := rfl
@[simp ↓] theorem gAdd_l {a b : List D} {P : Cl → Prop} : gAdd (.list a) (.list b) P = (a.length + b.length ≤ sizeLine ∧ P (.ow (.lst (a ++ b)))) := rfl
@[simp ↓] theorem gAdd_t {a b : List D} {P : Cl → Prop} : gAdd (.tuple a) (.tuple b) P = (a.length + b.length ≤ sizeLine ∧ P (.fz (.tuple (a ++ b)))) := rfl
@[simp ↓] theorem gInt_i {a b : Int} {C : Int → Int → Prop} {f : Int → Int → D} {P : Cl → Prop} : gInt C f (.int a) (.int b) P = (C a b ∧ P (.fz (f a b))) := rfl
@[simp ↓] theorem gInt0_i {a b : Int} {f : Int → Int → D} {P : Cl → Prop} : gInt0 f (.int a) (.int b) P = P (.fz (f a b)) := rfl
@[simp ↓] theorem gMul_i {a b : Int} {P : Cl → Prop} : gMul (.int a) (.int b) P = (CMulW a b ∧ P (.fz (.int (a * b)))) := rfl
@[simp ↓] theorem gMul_l {a : List D} {k : Int} {P : Cl → Prop} : gMul (.list a) (.int k) P = (-(2 ^ 63) ≤ k ∧ k < 2 ^ 63 ∧ a.length * k.toNat ≤ sizeLine ∧ P (.ow (.lst (List.replicate k.toNat a).flatten))) := rfl
@[simp ↓] theorem gMul_t {a : List D} {k : Int} {P : Cl → Prop} : gMul (.tuple a) (.int k) P = (a ≠ [] ∧ 0 ≤ k ∧ k ≤ 1000 ∧ a.length ≤ 1000 ∧ P (.fz (.tuple (List.replicate k.toNat a).flatten))) := rfl
@[simp ↓] theorem gIsN_n {d : D} {P : Cl → Prop} : gIsN d .none P = P (.fz (.bool (isN d))) := by cases d <;> rfl
@[simp ↓] theorem gIsNotN_n {d : D} {P : Cl → Prop} : gIsNotN d .none P = P (.fz (.bool (!isN d))) := by cases d <;> rfl
@[simp ↓] theorem gIsB_b {f : Bool → Bool → Bool} {a b : Bool} {P : Cl → Prop} : gIsB f (.bool a) (.bool b) P = P (.fz (.bool (f a b))) := rfl
@[simp ↓] theorem gIdx_l {ds : List D} {i : Int} {P : Cl → Prop} : gIdx (.list ds) (.int i) P = ∃ d, L2.atI ds i = some d ∧ P (.fz d) := rfl
@[simp ↓] theorem gIdx_t {ds : List D} {i : Int} {P : Cl → Prop} : gIdx (.tuple ds) (.int i) P = ∃ d, L2.atI ds i = some d ∧ P (.fz d) := rfl
@[simp ↓] theorem gIdx_s {z : Str} {i : Int} {P : Cl → Prop} : gIdx (.str z) (.int i) P = (z.length ≤ sizeLine ∧ ∃ c, L2.atI z.cps.toList i = some c ∧ P (.fz (.str ⟨#[c]⟩))) := rfl
@[simp ↓] theorem gSl_l {ds : List D} {lo hi : Option Int} {P : Cl → Prop} : gSl (.list ds) lo hi P = P (.ow (.lst (cutD ds lo hi))) := rfl
@[simp ↓] theorem gSl_t {ds : List D} {lo hi : Option Int} {P : Cl → Prop} : gSl (.tuple ds) lo hi P = P (.fz (.tuple (cutD ds lo hi))) := rfl
@[simp ↓] theorem gSl_s {z : Str} {lo hi : Option Int} {P : Cl → Prop} : gSl (.str z) lo hi P = (z.length ≤ sizeLine ∧ P (.fz (.str (cutS z lo hi)))) := rfl
@[simp ↓] theorem gLen_l {xs : List D} {P : Cl → Prop} : gLen (.list xs) P = P (.fz (.int xs.length)) := rfl
@[simp ↓] theorem gLen_t {xs : List D} {P : Cl → Prop} : gLen (.tuple xs) P = P (.fz (.int xs.length)) := rfl
@[simp ↓] theorem gLen_s {z : Str} {P : Cl → Prop} : gLen (.str z) P = (z.length ≤ sizeLine ∧ P (.fz (.int z.length))) := rfl
@[simp ↓] theorem gAbs_i {i : Int} {P : Cl → Prop} : gAbs (.int i) P = P (.fz (.int i.natAbs)) := rfl
@[simp ↓] theorem gCount_l {xs : List D} {d : D} {P : Cl → Prop} : gCount (.list xs) d P = (PyData.plainAll xs = true ∧ d.plain = true ∧ min (PyData.depthAll xs) d.depth ≤ 60 ∧ P (.fz (.int (xs.countP fun y => PyData.eqv y d : Nat)))) := rfl
@[simp ↓] theorem gTru_n {P : Bool → Prop} : gTru .none P = P false := rfl
@[simp ↓] theorem gTru_b {b : Bool} {P : Bool → Prop} : gTru (.bool b) P = P b := rfl
@[simp ↓] theorem gTru_i {i : Int} {P : Bool → Prop} : gTru (.int i) P = P (i != 0) := rfl
@[simp ↓] theorem gTru_s {z : Str} {P : Bool → Prop} : gTru (.str z) P = (z.length ≤ sizeLine ∧ P ((z.length : Int) != 0)) := rfl
@[simp ↓] theorem gTru_l {xs : List D} {P : Bool → Prop} : gTru (.list xs) P = P (!xs.isEmpty) := rfl
@[simp ↓] theorem gTru_t {xs : List D} {P : Bool → Prop} : gTru (.tuple xs) P = P (!xs.isEmpty) := rfl
@[simp ↓] theorem toD_fz {d : D} : (Cl.fz d).toD = d := rfl
@[simp ↓] theorem toD_ow {o : OD} : (Cl.ow o).toD = o.toD := rfl
@[simp ↓] theorem toD_io {o : OD} : (Cl.io o).toD = o.toD := rfl
@[simp ↓] theorem oD_l {xs : List D} : (OD.lst xs).toD = .list xs := rfl
@[simp ↓] theorem oD_d {xs : List (D × D)} : (OD.dct xs).toD = .dict xs := rfl
@[simp ↓] theorem isSc_fz {d : D} : (Cl.fz d).isSc = false := rfl
@[simp ↓] theorem isOb_l {xs : List D} : (OD.lst xs).isOb = false := rfl
@[simp ↓] theorem isOb_d {xs : List (D × D)} : (OD.dct xs).isOb = false := rfl
@[simp ↓] theorem isOb_k {xs : List (List Int)} : (OD.ks xs).isOb = false := rfl
@[simp ↓] theorem isOb_la {a : Addr} {xs : List D} : (OD.lsa a xs).isOb = false := rfl
@[simp ↓] theorem isOb_da {a : Addr} {xs : List (D × D)} : (OD.dca a xs).isOb = false := rfl
@[simp ↓] theorem isOb_o {c : Str} {fs : List (Str × (D ⊕ Addr))} : (OD.ob c fs).isOb = true := rfl
@[simp ↓] theorem isOb_kd {m : List (List Int × D)} : (OD.kd m).isOb = true := rfl
@[simp ↓] theorem isOb_kl {a : Addr} {ob : PySem.Obj} {kvs : List (List L2.Key × L2.V)} {m : List (List Int × D)} : (OD.kdl a ob kvs m).isOb = true := rfl
@[simp ↓] theorem isOb_ka {a : Addr} {m : List (List Int × D)} : (OD.kda a m).isOb = true := rfl
@[simp ↓] theorem isOb_oa {a : Addr} {c : Str} {fs : List (Str × (D ⊕ Addr))} : (OD.oba a c fs).isOb = true := rfl
@[simp ↓] theorem cOb_fz {d : D} : (Cl.fz d).isOb = false := rfl
@[simp ↓] theorem cOb_sc {d : List Int} : (Cl.sc d).isOb = false := rfl
@[simp ↓] theorem cOb_xn {d : XA} : (Cl.xn d).isOb = false := rfl
@[simp ↓] theorem cOb_ky {d : List Int} : (Cl.ky d).isOb = false := rfl
@[simp ↓] theorem cOb_ow {d : OD} : (Cl.ow d).isOb = d.isOb := rfl
@[simp ↓] theorem cOb_io {d : OD} : (Cl.io d).isOb = d.isOb := rfl
@[simp ↓] theorem oD_la {a : Addr} {xs : List D} : (OD.lsa a xs).toD = .list xs := rfl
@[simp ↓] theorem oD_da {a : Addr} {xs : List (D × D)} : (OD.dca a xs).toD = .dict xs := rfl
@[simp ↓] theorem toD_ky {k : List Int} : (Cl.ky k).toD = .tuple (k.map PyData.int) := rfl
@[simp ↓] theorem isSc_ky {k : List Int} : (Cl.ky k).isSc = false := rfl
@[simp ↓] theorem frz_ky {k : List Int} : (Cl.ky k).frz = .fz (.tuple (k.map PyData.int)) := rfl
@[simp ↓] theorem own_ky {k : List Int} : (Cl.ky k).own = false := rfl
@[simp ↓] theorem isSc_ow {d : OD} : (Cl.ow d).isSc = d.isOb := rfl
@[simp ↓] theorem isSc_io {d : OD} : (Cl.io d).isSc = d.isOb := rfl
@[simp ↓] theorem isSc_sc {d : List Int} : (Cl.sc d).isSc = true := rfl
@[simp ↓] theorem own_fz {d : D} : (Cl.fz d).own = false := rfl
@[simp ↓] theorem own_ow {d : OD} : (Cl.ow d).own = true := rfl
@[simp ↓] theorem own_io {d : OD} : (Cl.io d).own = true := rfl
@[simp ↓] theorem own_sc {d : List Int} : (Cl.sc d).own = false := rfl
@[simp ↓] theorem frz_fz {d : D} : (Cl.fz d).frz = .fz d := rfl
@[simp ↓] theorem frz_ow {d : OD} : (Cl.ow d).frz = .fz d.toD := rfl
@[simp ↓] theorem frz_sc {d : List Int} : (Cl.sc d).frz = .sc d := rfl
@[simp ↓] theorem it_sc {ns : List Int} : (Cl.sc ns).items? = some (ns.map PyData.int) := rfl
@[simp ↓] theorem it_fl {xs : List D} : (Cl.fz (.list xs)).items? = some xs := rfl
@[simp ↓] theorem it_ft {xs : List D} : (Cl.fz (.tuple xs)).items? = some xs := rfl
@[simp ↓] theorem it_ol {xs : List D} : (Cl.ow (.lst xs)).items? = some xs := rfl
@[simp ↓] theorem its_l {xs : List D} : Sw.items? (.list xs) = some xs := rfl
@[simp ↓] theorem its_t {xs : List D} : Sw.items? (.tuple xs) = some xs := rfl
@[simp ↓] theorem isN_n : isN .none = true := rfl
@[simp ↓] theorem isN_bool {x} : isN (.bool x) = false := rfl
@[simp ↓] theorem isN_int {x} : isN (.int x) = false := rfl
@[simp ↓] theorem isN_str {x} : isN (.str x) = false := rfl
@[simp ↓] theorem isN_list {x} : isN (.list x) = false := rfl
@[simp ↓] theorem isN_tuple {x} : isN (.tuple x) = false := rfl
@[simp ↓] theorem isN_dict {x} : isN (.dict x) = false := rfl
@[simp ↓] theorem tyN_bool {x} : tyN (.bool x) = "bool" := rfl
@[simp ↓] theorem tyN_int {x} : tyN (.int x) = "int" := rfl
@[simp ↓] theorem tyN_str {x} : tyN (.str x) = "str" := rfl
@[simp ↓] theorem tyN_list {x} : tyN (.list x) = "list" := rfl
@[simp ↓] theorem tyN_tuple {x} : tyN (.tuple x) = "tuple" := rfl
@[simp ↓] theorem tyN_dict {x} : tyN (.dict x) = "dict" := rfl
@[simp ↓] theorem isD_int_none : isD .int .none = false := rfl
@[simp ↓] theorem isD_int_bool {x} : isD .int (.bool x) = true := rfl
@[simp ↓] theorem isD_int_int {x} : isD .int (.int x) = true := rfl
@[simp ↓] theorem isD_int_str {x} : isD .int (.str x) = false := rfl
@[simp ↓] theorem isD_int_list {x} : isD .int (.list x) = false := rfl
@[simp ↓] theorem isD_int_tuple {x} : isD .int (.tuple x) = false := rfl
@[simp ↓] theorem isD_int_dict {x} : isD .int (.dict x) = false := rfl
@[simp ↓] theorem isD_bool_none : isD .bool .none = false := rfl
@[simp ↓] theorem isD_bool_bool {x} : isD .bool (.bool x) = true := rfl
@[simp ↓] theorem isD_bool_int {x} : isD .bool (.int x) = false := rfl
@[simp ↓] theorem isD_bool_str {x} : isD .bool (.str x) = false := rfl
@[simp ↓] theorem isD_bool_list {x} : isD .bool (.list x) = false := rfl
@[simp ↓] theorem isD_bool_tuple {x} : isD .bool (.tuple x) = false := rfl
@[simp ↓] theorem isD_bool_dict {x} : isD .bool (.dict x) = false := rfl
@[simp ↓] theorem isD_str_none : isD .str .none = false := rfl
@[simp ↓] theorem isD_str_bool {x} : isD .str (.bool x) = false := rfl
@[simp ↓] theorem isD_str_int {x} : isD .str (.int x) = false := rfl
@[simp ↓] theorem isD_str_str {x} : isD .str (.str x) = true := rfl
@[simp ↓] theorem isD_str_list {x} : isD .str (.list x) = false := rfl
@[simp ↓] theorem isD_str_tuple {x} : isD .str (.tuple x) = false := rfl
@[simp ↓] theorem isD_str_dict {x} : isD .str (.dict x) = false := rfl
@[simp ↓] theorem isD_list_none : isD .list .none = false := rfl
@[simp ↓] theorem isD_list_bool {x} : isD .list (.bool x) = false := rfl
@[simp ↓] theorem isD_list_int {x} : isD .list (.int x) = false := rfl
@[simp ↓] theorem isD_list_str {x} : isD .list (.str x) = false := rfl
@[simp ↓] theorem isD_list_list {x} : isD .list (.list x) = true := rfl
@[simp ↓] theorem isD_list_tuple {x} : isD .list (.tuple x) = false := rfl
@[simp ↓] theorem isD_list_dict {x} : isD .list (.dict x) = false := rfl
@[simp ↓] theorem isD_tuple_none : isD .tuple .none = false := rfl
@[simp ↓] theorem isD_tuple_bool {x} : isD .tuple (.bool x) = false := rfl
@[simp ↓] theorem isD_tuple_int {x} : isD .tuple (.int x) = false := rfl
@[simp ↓] theorem isD_tuple_str {x} : isD .tuple (.str x) = false := rfl
@[simp ↓] theorem isD_tuple_list {x} : isD .tuple (.list x) = false := rfl
@[simp ↓] theorem isD_tuple_tuple {x} : isD .tuple (.tuple x) = true := rfl
@[simp ↓] theorem isD_tuple_dict {x} : isD .tuple (.dict x) = false := rfl
@[simp ↓] theorem isD_dict_none : isD .dict .none = false := rfl
@[simp ↓] theorem isD_dict_bool {x} : isD .dict (.bool x) = false := rfl
@[simp ↓] theorem isD_dict_int {x} : isD .dict (.int x) = false := rfl
@[simp ↓] theorem isD_dict_str {x} : isD .dict (.str x) = false := rfl
@[simp ↓] theorem isD_dict_list {x} : isD .dict (.list x) = false := rfl
@[simp ↓] theorem isD_dict_tuple {x} : isD .dict (.tuple x) = false := rfl
@[simp ↓] theorem isD_dict_dict {x} : isD .dict (.dict x) = true := rfl
@[simp ↓] theorem ev1_v {f : WE} {env : En} {g : D → En → Prop} {Y : XP} : ev1 (.v f) env g Y = f env (fun c env' => c.isSc = false ∧ g c.toD env') Y := rfl
@[simp ↓] theorem ev1_r {i : Nat} {env : En} {g : D → En → Prop} {Y : XP} : ev1 (.r i) env g Y = ∃ c, env[i]? = some (some c) ∧ c.isSc = false ∧ g c.toD env := rfl
@[simp ↓] theorem ev2_v {f : WE} {b : Opd} {env : En} {g : D → D → En → Prop} {Y : XP} : ev2 (.v f) b env g Y = f env (fun c env1 => c.isSc = false ∧ ev1 b env1 (fun d2 env2 => g c.toD d2 env2) Y) Y := rfl
@[simp ↓] theorem ev2_r {i : Nat} {b : Opd} {env : En} {g : D → D → En → Prop} {Y : XP} : ev2 (.r i) b env g Y = ((∃ c, env[i]? = some (some c)) ∧ ev1 b env (fun d2 env2 => ∃ c, env2[i]? = some (some c) ∧ c.isSc = false ∧ g c.toD d2 env2) Y) := rfl
@[simp ↓] theorem ev2t_v {T : String} {f : WE} {b : Opd} {env : En} {g : D → D → En → Prop} {Y : XP} : ev2t T (.v f) b env g Y = f env (fun c env1 => c.isSc = false ∧ tyN c.toD = T ∧ ev1 b env1 (fun d2 env2 => g c.toD d2 env2) Y) Y := rfl
@[simp ↓] theorem ev2t_r {T : String} {i : Nat} {b : Opd} {env : En} {g : D → D → En → Prop} {Y : XP} : ev2t T (.r i) b env g Y = ((∃ c, env[i]? = some (some c) ∧ c.isSc = false ∧ tyN c.toD = T) ∧ ev1 b env (fun d2 env2 => ∃ c, env2[i]? = some (some c) ∧ c.isSc = false ∧ g c.toD d2 env2) Y) := rfl
@[simp ↓] theorem evP_n {env : En} {g : Option Int → En → Prop} {Y : XP} : evP none env g Y = g none env := rfl
@[simp ↓] theorem evP_s {f : WE} {env : En} {g : Option Int → En → Prop} {Y : XP} : evP (some f) env g Y = f env (fun c env' => ∃ i, c = .fz (.int i) ∧ g (some i) env') Y := rfl
@[simp ↓] theorem ev1_f {c x : Str} {i j : Nat} {env : En} {g : D → En → Prop} {Y : XP} : ev1 (.f c i j x) env g Y = ∃ a, fldA env c i x a ∧ fldJ env j a fun d => g d env := rfl
@[simp ↓] theorem ev2_f {c x : Str} {i j : Nat} {b : Opd} {env : En} {g : D → D → En → Prop} {Y : XP} : ev2 (.f c i j x) b env g Y = ∃ a, fldA env c i x a ∧ ev1 b env (fun d2 env2 => fldJ env2 j a fun d => g d d2 env2) Y := rfl
@[simp] theorem fldA_eq {env : En} {c x : Str} {i : Nat} {a : Addr} : fldA env c i x a = ∃ cl fs, env[i]? = some (some cl) ∧ cl.ob? = some (c, fs) ∧ fs.lookup x = some (.inr a) := rfl
@[simp] theorem fldJ_eq {env : En} {j : Nat} {a : Addr} {g : D → Prop} : fldJ env j a g = ∃ cj d, env[j]? = some (some cj) ∧ cj.at? = some (a, d) ∧ g d := rfl
@[simp] theorem ob_ow {c : Str} {fs : List (Str × (D ⊕ Addr))} : (Cl.ow (.ob c fs)).ob? = some (c, fs) := rfl
@[simp] theorem ob_io {c : Str} {fs : List (Str × (D ⊕ Addr))} : (Cl.io (.ob c fs)).ob? = some (c, fs) := rfl
@[simp] theorem oba_ow {a : Addr} {c : Str} {fs : List (Str × (D ⊕ Addr))} : (Cl.ow (.oba a c fs)).ob? = some (c, fs) := rfl
@[simp] theorem oba_io {a : Addr} {c : Str} {fs : List (Str × (D ⊕ Addr))} : (Cl.io (.oba a c fs)).ob? = some (c, fs) := rfl
@[simp] theorem ob_fo {c : Str} {fs : List (Str × (D ⊕ Addr))} : (Cl.fo c fs).ob? = some (c, fs) := rfl
@[simp] theorem obL_ow {c : Str} {fs : List (Str × (D ⊕ Addr))} : (Cl.ow (.ob c fs)).obL? = some (c, fs) := rfl
@[simp] theorem obL_io {c : Str} {fs : List (Str × (D ⊕ Addr))} : (Cl.io (.ob c fs)).obL? = some (c, fs) := rfl
@[simp] theorem obaL_ow {a : Addr} {c : Str} {fs : List (Str × (D ⊕ Addr))} : (Cl.ow (.oba a c fs)).obL? = some (c, fs) := rfl
@[simp] theorem obaL_io {a : Addr} {c : Str} {fs : List (Str × (D ⊕ Addr))} : (Cl.io (.oba a c fs)).obL? = some (c, fs) := rfl
@[simp] theorem at_fl {a : Addr} {d : D} : (Cl.fl a d).at? = some (a, d) := rfl
@[simp] theorem lsa_ow {a : Addr} {xs : List D} : (Cl.ow (.lsa a xs)).at? = some (a, .list xs) := rfl
@[simp] theorem lsa_io {a : Addr} {xs : List D} : (Cl.io (.lsa a xs)).at? = some (a, .list xs) := rfl
@[simp] theorem dca_ow {a : Addr} {kvs : List (D × D)} : (Cl.ow (.dca a kvs)).at? = some (a, .dict kvs) := rfl
@[simp] theorem dca_io {a : Addr} {kvs : List (D × D)} : (Cl.io (.dca a kvs)).at? = some (a, .dict kvs) := rfl
@[simp ↓] theorem eSl_v {f : WE} {lo hi : Option WE} {env : En} {P : EK} {Y : XP} : eSl (.v f) lo hi env P Y = f env (fun c env1 => c.isSc = false ∧ evP lo env1 (fun l env2 => evP hi env2 (fun h env3 => gSl c.toD l h fun r => P r env3) Y) Y) Y := rfl
@[simp ↓] theorem eSl_r {i : Nat} {lo hi : Option WE} {env : En} {P : EK} {Y : XP} : eSl (.r i) lo hi env P Y = ((∃ c, env[i]? = some (some c)) ∧ evP lo env (fun l env2 => evP hi env2 (fun h env3 => ∃ c, env3[i]? = some (some c) ∧ c.isSc = false ∧ gSl c.toD l h fun r => P r env3) Y) Y) := rfl
@[simp ↓] theorem tsW_n {env : En} {P : Bool → En → Prop} {Y : XP} : tsW none env P Y = P true env := rfl
@[simp ↓] theorem tsW_s {t : WT} : tsW (some t) = t := rfl
@[simp ↓] theorem asg_nm {i : Nat} {d : D} {env : En} {P : En → Prop} : asg (.nm i) d env P = (canSet env i ∧ P (env.set i (some (.fz d)))) := by unfold asg; rfl
@[simp ↓] theorem asg_tp {ts : Tgs} {ds : List D} {env : En} {P : En → Prop} : asg (.tp ts) (.tuple ds) env P = asgs ts ds env P := by rw [asg]
@[simp ↓] theorem asg_ls {ts : Tgs} {ds : List D} {env : En} {P : En → Prop} : asg (.ls ts) (.list ds) env P = asgs ts ds env P := by rw [asg]
@[simp ↓] theorem asgs_n {env : En} {P : En → Prop} : asgs .nil [] env P = P env := by unfold asgs; rfl
@[simp ↓] theorem asgs_c {t : Tg} {ts : Tgs} {d : D} {ds : List D} {env : En} {P : En → Prop} : asgs (.cons t ts) (d :: ds) env P = asg t d env fun env' => asgs ts ds env' P := by rw [asgs]
@[simp ↓] theorem wipe_n {env : En} : wipeE env [] = env := rfl
@[simp ↓] theorem wipe_c {env : En} {v : Nat} {vs : List Nat} : wipeE env (v :: vs) = (wipeE env vs).set v none := rfl
@[simp ↓] theorem rest_n {e env : En} : restE e env [] = e := rfl
@[simp ↓] theorem rest_c {e env : En} {v : Nat} {vs : List Nat} : restE e env (v :: vs) = (restE e env vs).set v (env[v]?.getD none) := rfl
@[simp ↓] theorem setO_c {e : En} {c : Option Cl} {i : Nat} {o : OD} : setO (c :: e) (i + 1) o = c :: setO e i o := rfl
@[simp ↓] theorem setO_ow {e : En} {o u : OD} : setO (some (.ow u) :: e) 0 o = some (.ow o) :: e := rfl
@[simp ↓] theorem setO_io {e : En} {o u : OD} : setO (some (.io u) :: e) 0 o = some (.io o) :: e := rfl
@[simp ↓] theorem outs_io {cs : List Cl} {e : En} {o u : OD} : outsOf (.io u :: cs) (some (.io o) :: e) = o :: outsOf cs e := rfl
@[simp ↓] theorem outs_fz {cs : List Cl} {e : En} {d : D} {c : Option Cl} : outsOf (.fz d :: cs) (c :: e) = outsOf cs e := rfl
@[simp ↓] theorem outs_sc {cs : List Cl} {e : En} {d : List Int} {c : Option Cl} : outsOf (.sc d :: cs) (c :: e) = outsOf cs e := rfl
@[simp ↓] theorem outs_n {e : En} : outsOf [] e = [] := by unfold outsOf; rfl
@[simp ↓] theorem eVar_fz {i : Nat} {env : En} {P : EK} {Y : XP} {d : D} (h : env[i]? = some (some (.fz d))) : eVar i env P Y = P (.fz d) env := by
  unfold eVar; rw [h]; apply propext; exact ⟨fun ⟨c, e, p⟩ => by cases e; exact p, fun p => ⟨_, rfl, p⟩⟩
@[simp ↓] theorem eVar_ow {i : Nat} {env : En} {P : EK} {Y : XP} {o : OD} (h : env[i]? = some (some (.ow o))) : eVar i env P Y = (o.isOb = false ∧ P (.fz o.toD) (env.set i (some (.fz o.toD)))) := by
  unfold eVar; rw [h]; apply propext; exact ⟨fun ⟨c, e, p⟩ => by cases e; exact p, fun p => ⟨_, rfl, p⟩⟩
@[simp ↓] theorem eVar_sc {i : Nat} {env : En} {P : EK} {Y : XP} {ns : List Int} (h : env[i]? = some (some (.sc ns))) : eVar i env P Y = P (.sc ns) env := by
  unfold eVar; rw [h]; apply propext; exact ⟨fun ⟨c, e, p⟩ => by cases e; exact p, fun p => ⟨_, rfl, p⟩⟩
@[simp ↓] theorem eMove_fz {i : Nat} {env : En} {P : EK} {Y : XP} {d : D} (h : env[i]? = some (some (.fz d))) : eMove i env P Y = P (.fz d) env := by
  unfold eMove; rw [h]; apply propext; exact ⟨fun ⟨c, e, p⟩ => by cases e; exact p, fun p => ⟨_, rfl, p⟩⟩
@[simp ↓] theorem eMove_ow {i : Nat} {env : En} {P : EK} {Y : XP} {o : OD} (h : env[i]? = some (some (.ow o))) : eMove i env P Y = P (.ow o) (env.set i none) := by
  unfold eMove; rw [h]; apply propext; exact ⟨fun ⟨c, e, p⟩ => by cases e; exact p, fun p => ⟨_, rfl, p⟩⟩
@[simp ↓] theorem eLenV_sc {i : Nat} {env : En} {P : EK} {Y : XP} {ns : List Int} (h : env[i]? = some (some (.sc ns))) : eLenV i env P Y = P (.fz (.int ns.length)) env := by
  unfold eLenV; rw [h]
@[simp ↓] theorem eIdxV_sc {i : Nat} {b : Opd} {env : En} {P : EK} {Y : XP} {ns : List Int} (h : env[i]? = some (some (.sc ns))) : eIdxV i b env P Y = ev1 b env (fun d env' => ∃ k n, d = .int k ∧ L2.atI ns k = some n ∧ P (.fz (.int n)) env') Y := by
  unfold eIdxV; rw [h]
@[simp ↓] theorem atI_0 {α : Type} {x : α} {xs : List α} : L2.atI (x :: xs) 0 = some x := by
  have e : ixN (x :: xs).length 0 = some 0 := by unfold ixN; rw [if_pos (Int.le_refl 0), if_pos (by rw [List.length_cons]; omega)]; rfl
  unfold L2.atI; rw [e]; rfl
@[simp ↓] theorem atI_1 {α : Type} {x y : α} {xs : List α} : L2.atI (x :: y :: xs) 1 = some y := by
  have e : ixN (x :: y :: xs).length 1 = some 1 := by unfold ixN; rw [if_pos (by omega), if_pos (by rw [List.length_cons, List.length_cons]; omega)]; rfl
  unfold L2.atI; rw [e]; rfl
@[simp ↓] theorem atI_2 {α : Type} {x y z : α} {xs : List α} : L2.atI (x :: y :: z :: xs) 2 = some z := by
  have e : ixN (x :: y :: z :: xs).length 2 = some 2 := by unfold ixN; rw [if_pos (by omega), if_pos (by rw [List.length_cons, List.length_cons, List.length_cons]; omega)]; rfl
  unfold L2.atI; rw [e]; rfl
@[simp ↓] theorem dropE_n {env : En} : dropE env [] = env := rfl
@[simp ↓] theorem dropE_c {env : En} {v : Nat} {vs : List Nat} : dropE env (v :: vs) = (dropE env vs).set v none := rfl
@[simp] theorem nioE_n {env : En} : nioE env [] := fun _ h => by cases h
@[simp] theorem nioE_c {env : En} {v : Nat} {vs : List Nat} : nioE env (v :: vs) = ((∀ o, env[v]? ≠ some (some (.io o))) ∧ nioE env vs) := by
  unfold nioE
  simp
@[simp] theorem okV_n {env : En} : okV env [] := fun _ h => by cases h
@[simp] theorem okV_c {env : En} {v : Nat} {vs : List Nat} : okV env (v :: vs) = ((∀ c, env[v]? = some (some c) → c.own = false) ∧ okV env vs) := by
  unfold okV
  simp
theorem compL_n {t : Tg} {tt : Option WT} {el : WE} {vs : List Nat} {g : List D → En → Prop} {acc : List D} {e : En} : compL t tt el vs g [] acc e = g acc e := rfl
theorem compL_c {t : Tg} {tt : Option WT} {el : WE} {vs : List Nat} {g : List D → En → Prop} {acc : List D} {e : En} {d : D} {ds : List D} : compL t tt el vs g (d :: ds) acc e = asg t d e fun e2 => tsW tt e2 (fun k e3 => if k = true then el e3 (fun c e4 => c.isSc = false ∧ acc.length < sizeLine ∧ compL t tt el vs g ds (acc ++ [c.toD]) (wipeE e4 vs)) (fun _ => False) else compL t tt el vs g ds acc (wipeE e3 vs)) (fun _ => False) := rfl
theorem comp_hide {f : WI} {t : Tg} {tt : Option WT} {el : WE} {vs : List Nat} {env : En} {P : EK} {Y : XP} (h : ∀ N : List D → En → En → Prop, (∀ acc e env1, P (.ow (.lst acc)) (restE e env1 vs) → N acc e env1) → f env (fun ds env1 => okV env1 vs ∧ compL t tt el vs (fun acc e => N acc e env1) ds [] (wipeE env1 vs)) Y) : eComp f t tt el vs env P Y := by
  have := h (fun acc e env1 => P (.ow (.lst acc)) (restE e env1 vs)) fun _ _ _ q => q
  exact this
/-- a loop by what stays behind i items; what comes behind a turn is told by a name -/
theorem forL_idx {vs : List Nat} {t : Tg} {b : WS} {S : SK} {ds : List D} (I : Nat → En → Prop) (hs : ∀ (i : Nat) (hi : i < ds.length) (e : En) (N : En → Prop), I i e → (∀ e', I (i + 1) (dropE e' vs) → N e') → asg t ds[i] e fun e2 => b e2 { S with nx := N, ct := N, bk := fun e3 => S.nx e3 })
    (hd : ∀ e, I ds.length e → S.nx e) {e : En} (h0 : I 0 e) : forL vs t b S ds e := by
  have main : ∀ (k i : Nat) (e : En), i + k = ds.length → I i e → forL vs t b S (ds.drop i) e := fun k => by
    induction k with
    | zero =>
      intro i e hi h
      have e1 : i = ds.length := by omega
      subst e1
      rw [List.drop_length]
      exact hd e h
    | succ k ih =>
      intro i e hi h
      have hlt : i < ds.length := by omega
      rw [List.drop_eq_getElem_cons hlt]
      exact hs i hlt e _ h fun e' q => ih (i + 1) _ (by omega) q
  exact main ds.length 0 e (by omega) h0
section
variable {K : PySem.W.Frag} {mg : Str → Option Value} {H : Hp} {a : Addr} {ns : List Int} {C : Ct}
/-- the law's own call: of the script -/
theorem sq_strip {xs : List V} (h : SqL K H a xs) : SqL K (strip H) a xs := by
  rcases h with (h | ⟨o, h⟩) | h
  · exact .inl (.inl (strip_some h fun ps z => by cases z))
  · exact .inl (.inr ⟨o, strip_some h fun ps z => by cases z⟩)
  · exact .inr h
theorem sub_strip : SubN (strip H) H := ⟨fun q o h => (strip_get h).1, fun q ps h => (strip_get h).2 ps rfl⟩
theorem sp_script (hS : SqL K H a (ns.map V.int)) (hT : LamX.Tabs (tabsK K) H) (h : C [.sc ns] (fun c _ => c = .fz (.bool true)) (fun _ => False)) : spOf K mg 1 C [.ref a] H (fun v _ => v = .bl true) fun _ _ _ => False := by
  refine ⟨strip H, [.sc ns], _, _, rfl, ?_, h, fun c os v H' F' e q => ?_, fun _ _ _ _ y => y.elim⟩
  · refine ⟨rfl, sub_strip, Same.refl _, fun _ _ h => .inl h, ⟨fun _ _ h _ _ => (strip_get h).1, fun q ps h => (strip_get h).2 ps rfl, hT⟩, fun i c h => ?_, fun i o p h e => ?_, fun i o p h e => ?_, fun i p h => ?_, fun i j c c' p h o e h' o' e' => ?_⟩
    · cases i with
      | zero =>
        cases h
        exact ⟨_, rfl, a, rfl, sq_strip hS⟩
      | succ i => simp at h
    · cases i with
      | zero => cases h
      | succ i => simp at h
    · cases i with
      | zero => cases h
      | succ i => simp at h
    · obtain ⟨⟨o, h⟩, _⟩ := h
      cases i with
      | zero => cases h
      | succ i => simp at h
    · cases i with
      | zero =>
        cases h
        cases o
      | succ i => simp at h
  · subst e
    have r : Rep K F' v (.bool true) := q.res
    cases r
    rfl
theorem cx_none {P : Program} {w : World} {H : Hp} {s : Shared} {e : Value} {s' : Shared} (h : L2.CX P w [] H s (fun _ _ _ => False) e s') : False := by
  obtain ⟨_, _, _, _, _, _, _, _, _, _, _, _, z⟩ := h
  exact z.elim
end
/-- one statement at a time: what comes behind is told by a name -/
theorem seq_hide {f g : WS} {env : En} {S : SK} (h : ∀ N : En → Prop, (∀ e, g e S → N e) → f env { S with nx := N }) : sSeq f g env S := h (fun e => g e S) fun _ q => q
theorem and_hide {f g : WE} {env : En} {P : EK} {Y : XP} (h : ∀ N : En → Prop, (∀ e, g e P Y → N e) → f env (fun c env' => ∃ k, c = .fz (.bool k) ∧ if k = true then N env' else P (.fz (.bool false)) env') Y) : eAndV f g env P Y := h (fun e => g e P Y) fun _ q => q
theorem ret_in {f : WE} {env : En} {S : SK} (h : f env S.rt S.xc) : sRet f env S := h
theorem set_in {i : Nat} {f : WE} {env : En} {S : SK} (h : f env (fun c env' => canSet env' i ∧ S.nx (env'.set i (some c))) S.xc) : sSet i f env S := h
theorem ct_in {w : WS} {k : Nat} {cs : List Cl} {P : Cl → List OD → Prop} {Y : XP} (h : w (cs.map some ++ List.replicate k none) (skOf cs P Y)) : ctOf w k cs P Y := h
end Sw

/-! plain facts: data compared, whole numbers bounded, fractions -/
namespace Sw
open PySem PySem.Spec PyProof.Rows L2
@[simp] theorem eqv_ii {a b : Int} : PyData.eqv (.int a) (.int b) = (a == b) := by unfold PyData.eqv; rfl
@[simp] theorem eqv_bb {a b : Bool} : PyData.eqv (.bool a) (.bool b) = (a == b) := by unfold PyData.eqv; rfl
@[simp] theorem eqv_ss {a b : Str} : PyData.eqv (.str a) (.str b) = (a == b) := by unfold PyData.eqv; rfl
@[simp] theorem eqv_tt {a b : List D} : PyData.eqv (.tuple a) (.tuple b) = PyData.eqvAll a b := by rw [PyData.eqv]
@[simp] theorem eqv_ll {a b : List D} : PyData.eqv (.list a) (.list b) = PyData.eqvAll a b := by rw [PyData.eqv]
@[simp] theorem eqv_nn : PyData.eqv .none .none = true := by unfold PyData.eqv; rfl
@[simp] theorem eqvA_n : PyData.eqvAll [] [] = true := by unfold PyData.eqvAll; rfl
@[simp] theorem eqvA_c {a b : D} {as bs : List D} : PyData.eqvAll (a :: as) (b :: bs) = (PyData.eqv a b && PyData.eqvAll as bs) := by rw [PyData.eqvAll]
@[simp] theorem eqvA_nc {b : D} {bs : List D} : PyData.eqvAll [] (b :: bs) = false := by rw [PyData.eqvAll]
@[simp] theorem eqvA_cn {b : D} {bs : List D} : PyData.eqvAll (b :: bs) [] = false := by rw [PyData.eqvAll]
@[simp] theorem plain_n : PyData.plain .none = true := by unfold PyData.plain; rfl
@[simp] theorem plain_b {x} : PyData.plain (.bool x) = true := by unfold PyData.plain; rfl
@[simp] theorem plain_i {x} : PyData.plain (.int x) = true := by unfold PyData.plain; rfl
@[simp] theorem plain_s {x} : PyData.plain (.str x) = true := by unfold PyData.plain; rfl
@[simp] theorem plain_l {x} : PyData.plain (.list x) = PyData.plainAll x := by rw [PyData.plain]
@[simp] theorem plain_t {x} : PyData.plain (.tuple x) = PyData.plainAll x := by rw [PyData.plain]
@[simp] theorem plainA_n : PyData.plainAll [] = true := by unfold PyData.plainAll; rfl
@[simp] theorem plainA_c {a as} : PyData.plainAll (a :: as) = (PyData.plain a && PyData.plainAll as) := by rw [PyData.plainAll]
@[simp] theorem depth_n : PyData.depth .none = 0 := by unfold PyData.depth; rfl
@[simp] theorem depth_b {x} : PyData.depth (.bool x) = 0 := by unfold PyData.depth; rfl
@[simp] theorem depth_i {x} : PyData.depth (.int x) = 0 := by unfold PyData.depth; rfl
@[simp] theorem depth_s {x} : PyData.depth (.str x) = 0 := by unfold PyData.depth; rfl
@[simp] theorem depth_l {x} : PyData.depth (.list x) = PyData.depthAll x + 1 := by rw [PyData.depth]
@[simp] theorem depth_t {x} : PyData.depth (.tuple x) = PyData.depthAll x + 1 := by rw [PyData.depth]
@[simp] theorem depthA_n : PyData.depthAll [] = 0 := by unfold PyData.depthAll; rfl
@[simp] theorem depthA_c {a as} : PyData.depthAll (a :: as) = max (PyData.depth a) (PyData.depthAll as) := by rw [PyData.depthAll]
@[simp ↓] theorem ixN_20 : ixN 2 0 = some 0 := by unfold ixN; rw [if_pos (by omega), if_pos (by omega)]; rfl
@[simp ↓] theorem ixN_21 : ixN 2 1 = some 1 := by unfold ixN; rw [if_pos (by omega), if_pos (by omega)]; rfl
@[simp] theorem szl : sizeLine = 16777216 := sizeLine_eq
theorem powW {i j : Int} (h1 : 0 ≤ j) (h2 : j ≤ 1000000) (h3 : i.natAbs < 2 ^ 64) : CPow i j := ⟨h1, h2, h3⟩
theorem gIsBo_b {a b : Bool} {P : Cl → Prop} : gIsBo (.bool a) (.bool b) P = P (.fz (.bool (decide (a = b)))) := rfl
theorem gIsBo_tt {P : Cl → Prop} : gIsBo (.bool true) (.bool true) P = P (.fz (.bool true)) := rfl
@[simp] theorem rng1 {α : Type} {f : Nat → α} : (List.range 1).map f = [f 0] := rfl
@[simp] theorem rng2 {α : Type} {f : Nat → α} : (List.range 2).map f = [f 0, f 1] := rfl
@[simp] theorem rng3 {α : Type} {f : Nat → α} : (List.range 3).map f = [f 0, f 1, f 2] := rfl
@[simp] theorem rng4 {α : Type} {f : Nat → α} : (List.range 4).map f = [f 0, f 1, f 2, f 3] := rfl
@[simp] theorem rng5 {α : Type} {f : Nat → α} : (List.range 5).map f = [f 0, f 1, f 2, f 3, f 4] := rfl
/-- a comprehension by what stands behind i items -/
theorem compL_idx {t : Tg} {tt : Option WT} {el : WE} {vs : List Nat} {g : List D → En → Prop} {ds : List D} (I : Nat → List D → En → Prop)
    (hs : ∀ (i : Nat) (hi : i < ds.length) (acc : List D) (e : En) (N : List D → En → Prop), I i acc e → (∀ acc' e', I (i + 1) acc' e' → N acc' e') →
      asg t ds[i] e fun e2 => tsW tt e2 (fun k e3 => if k = true then el e3 (fun c e4 => c.isSc = false ∧ acc.length < sizeLine ∧ N (acc ++ [c.toD]) (wipeE e4 vs)) (fun _ => False) else N acc (wipeE e3 vs)) (fun _ => False))
    (hd : ∀ acc e, I ds.length acc e → g acc e) {acc : List D} {e : En} (h0 : I 0 acc e) : compL t tt el vs g ds acc e := by
  have main : ∀ (k i : Nat) (acc : List D) (e : En), i + k = ds.length → I i acc e → compL t tt el vs g (ds.drop i) acc e := fun k => by
    induction k with
    | zero =>
      intro i acc e hi h
      have e1 : i = ds.length := by omega
      subst e1
      rw [List.drop_length, compL_n]
      exact hd acc e h
    | succ k ih =>
      intro i acc e hi h
      have hlt : i < ds.length := by omega
      rw [List.drop_eq_getElem_cons hlt, compL_c]
      exact hs i hlt acc e (fun acc' e' => compL t tt el vs g (ds.drop (i + 1)) acc' e') h fun acc' e' q => ih (i + 1) acc' e' (by omega) q
  exact main ds.length 0 acc e (by omega) h0
/-! ### bounds: below 2 ^ k -/
def Sm (k : Nat) (x : Int) : Prop := x.natAbs < 2 ^ k
theorem Sm.mono {k l : Nat} {x : Int} (h : Sm k x) (hk : k ≤ l) : Sm l x := Nat.lt_of_lt_of_le h (Nat.pow_le_pow_right (by decide) hk)
theorem Sm.log {k : Nat} {x : Int} (h : Sm k x) : x.natAbs.log2 ≤ k := by
  by_cases e : x.natAbs = 0
  · rw [e]; exact Nat.zero_le _
  · exact Nat.le_of_lt ((Nat.log2_lt e).mpr h)
theorem Sm.mulW {k l : Nat} {x y : Int} (hx : Sm k x) (hy : Sm l y) (h : k + l < 1000000) : CMulW x y := Nat.lt_of_le_of_lt (Nat.add_le_add hx.log hy.log) h
theorem Sm.divW {k : Nat} {x y : Int} (h : Sm k y) (h0 : 0 < y) (hk : k < 9000) : CDivW x y := ⟨h0, Nat.lt_of_le_of_lt h.log hk⟩
theorem Sm.mul {k l : Nat} {x y : Int} (hx : Sm k x) (hy : Sm l y) : Sm (k + l) (x * y) := by
  unfold Sm at *
  rw [Int.natAbs_mul, Nat.pow_add]
  exact Nat.mul_lt_mul'' hx hy
theorem Sm.add {k l : Nat} {x y : Int} (hx : Sm k x) (hy : Sm l y) : Sm (max k l + 1) (x + y) := by
  have h1 := hx.mono (Nat.le_max_left k l)
  have h2 := hy.mono (Nat.le_max_right k l)
  unfold Sm at *
  rw [Nat.pow_succ]
  omega
theorem Sm.sub {k l : Nat} {x y : Int} (hx : Sm k x) (hy : Sm l y) : Sm (max k l + 1) (x - y) := by
  have h1 := hx.mono (Nat.le_max_left k l)
  have h2 := hy.mono (Nat.le_max_right k l)
  unfold Sm at *
  rw [Nat.pow_succ]
  omega
theorem Sm.le {k : Nat} {x y : Int} (hy : Sm k y) (h : x.natAbs ≤ y.natAbs) : Sm k x := Nat.lt_of_le_of_lt h hy
theorem Sm.of {k : Nat} {x : Int} (h1 : -(2 ^ k : Nat) < x) (h2 : x < (2 ^ k : Nat)) : Sm k x := by
  unfold Sm
  omega
theorem mulS {x y : Int} (h1 : -(2 ^ 62) < x ∧ x < 2 ^ 62) (h2 : -(2 ^ 62) < y ∧ y < 2 ^ 62) : CMulW x y := Sm.mulW (k := 62) (l := 62) (Sm.of (by omega) (by omega)) (Sm.of (by omega) (by omega)) (by decide)
theorem mulS' {x y : Int} (h : x.natAbs < 2 ^ 400 ∧ y.natAbs < 2 ^ 400) : CMulW x y := Sm.mulW (k := 400) (l := 400) h.1 h.2 (by decide)
/-! ### fractions -/
/-- a fraction as the program holds it -/
def Frac (q : Rat) : D := .tuple [.int q.num, .int (q.den : Int)]
@[simp ↓] theorem eqv_Frac {q r : Rat} : PyData.eqv (Frac q) (Frac r) = decide (q = r) := by
  unfold Frac
  simp
  rw [Bool.eq_iff_iff]
  simp
  constructor
  · rintro ⟨h1, h2⟩
    exact Rat.ext h1 (by exact_mod_cast h2)
  · rintro rfl
    exact ⟨rfl, rfl⟩
@[simp ↓] theorem plain_Frac {q : Rat} : (Frac q).plain = true := by simp [Frac]
@[simp ↓] theorem depth_Frac {q : Rat} : (Frac q).depth = 1 := by simp [Frac]
@[simp ↓] theorem gIdx_F0 {q : Rat} {P : Cl → Prop} : gIdx (Frac q) (.int 0) P = P (.fz (.int q.num)) := by simp [Frac]
@[simp ↓] theorem gIdx_F1 {q : Rat} {P : Cl → Prop} : gIdx (Frac q) (.int 1) P = P (.fz (.int (q.den : Int))) := by simp [Frac]
theorem Frac_0 : (.tuple [.int 0, .int 1] : D) = Frac 0 := rfl
theorem Frac_1 : (.tuple [.int 1, .int 1] : D) = Frac 1 := rfl
theorem norm_neg (q : Rat) : Rat.normalize (-q.num) q.den q.den_nz = -q := Rat.normalize_self (-q)
theorem den_pos (q : Rat) : (0 : Int) < q.den := by
  have := q.den_nz
  omega
/-- how large a fraction's two numbers are -/
def Bq (k : Nat) (q : Rat) : Prop := Sm k q.num ∧ Sm k (q.den : Int)
theorem Bq.mono {k l : Nat} {q : Rat} (h : Bq k q) (hk : k ≤ l) : Bq l q := ⟨h.1.mono hk, h.2.mono hk⟩
/-- t / b brought down -/
theorem reduced_num {t : Int} {b : Nat} (hb : b ≠ 0) : (Rat.normalize t b hb).num = t / (t.natAbs.gcd b : Nat) ∧ ((Rat.normalize t b hb).den : Int) = (b : Int) / (t.natAbs.gcd b : Nat) := by
  rw [Rat.normalize_eq]
  exact ⟨rfl, by simp⟩
theorem Bq.norm {t : Int} {b k : Nat} (hb : b ≠ 0) (h1 : Sm k t) (h2 : Sm k (b : Int)) : Bq k (Rat.normalize t b hb) := by
  obtain ⟨e1, e2⟩ := reduced_num (t := t) hb
  have g : 0 < t.natAbs.gcd b := Nat.gcd_pos_of_pos_right _ (Nat.pos_of_ne_zero hb)
  refine ⟨h1.le ?_, h2.le ?_⟩
  · rw [e1]
    exact Int.natAbs_ediv_le_natAbs _ _
  · rw [e2]
    exact Int.natAbs_ediv_le_natAbs _ _
theorem Bq.add {q r : Rat} {k l : Nat} (hq : Bq k q) (hr : Bq l r) : Bq (k + l + 1) (q + r) := by
  rw [Rat.add_def]
  refine Bq.norm _ ?_ ?_
  · refine ((hq.1.mul hr.2).add (hr.1.mul hq.2)).mono ?_
    omega
  · have := (hq.2.mul hr.2).mono (Nat.le_succ (k + l))
    rw [Int.natCast_mul]
    exact this
/-- some item by a place within -/
theorem pick {α : Type} {xs : List α} {r : Int} {Q : α → Prop} (h0 : 0 ≤ r) (h1 : r < xs.length) (h : ∀ d ∈ xs, Q d) : ∃ d, L2.atI xs r = some d ∧ Q d := by
  have e : ixN xs.length r = some r.toNat := by
    unfold ixN
    rw [if_pos h0, if_pos h1]
  have hl : r.toNat < xs.length := by omega
  refine ⟨xs[r.toNat], ?_, h _ (List.getElem_mem hl)⟩
  unfold L2.atI
  rw [e]
  simp [hl]
theorem pickAt {α : Type} {xs : List α} {r : Int} {Q : α → Prop} (h0 : 0 ≤ r) (h1 : r < xs.length) (h : ∀ (i : Nat) (hi : i < xs.length), r = i → Q xs[i]) : ∃ d, L2.atI xs r = some d ∧ Q d := by
  have e : ixN xs.length r = some r.toNat := by
    unfold ixN
    rw [if_pos h0, if_pos h1]
  have hl : r.toNat < xs.length := by omega
  refine ⟨xs[r.toNat], ?_, h _ hl (by omega)⟩
  unfold L2.atI
  rw [e]
  simp [hl]
theorem Bq.zero : Bq 2 0 := ⟨by unfold Sm; decide, by unfold Sm; decide⟩
theorem Bq.one : Bq 2 1 := ⟨by unfold Sm; decide, by unfold Sm; decide⟩
theorem Bq.neg {k : Nat} {q : Rat} (h : Bq k q) : Bq k (-q) := ⟨by have := h.1; unfold Sm at *; simpa using this, h.2⟩
theorem rat_lt_add (q r s : Rat) : (q + s < r + s) ↔ q < r := by
  constructor <;> intro _ <;> grind
theorem rat_lt_one (q : Rat) : q < q + 1 := by grind
theorem rat_three (q r : Rat) : (q < r ∧ ¬ q = r ∧ ¬ r < q) ∨ (¬ q < r ∧ q = r ∧ ¬ r < q) ∨ (¬ q < r ∧ ¬ q = r ∧ r < q) := by grind
theorem rat_cnt (q r : Rat) : List.countP (fun y => PyData.eqv y (.bool true)) [.bool (decide (q < r)), .bool (decide (q = r)), .bool (decide (r < q))] = 1 := by
  rcases rat_three q r with ⟨h1, h2, h3⟩ | ⟨h1, h2, h3⟩ | ⟨h1, h2, h3⟩
  · rw [decide_eq_true h1, decide_eq_false h2, decide_eq_false h3]; simp [List.countP_cons]
  · rw [decide_eq_false h1, decide_eq_true h2, decide_eq_false h3]; simp [List.countP_cons]
  · rw [decide_eq_false h1, decide_eq_false h2, decide_eq_true h3]; simp [List.countP_cons]
theorem nat_mul_norm (n : Nat) (q : Rat) : Rat.normalize ((n : Int) * q.num) q.den q.den_nz = (n : Rat) * q := by
  rw [Rat.mul_def]
  simp
theorem Bq.nmul {k : Nat} {q : Rat} (h : Bq k q) (n : Nat) (hn : n < 16) : Bq (k + 4) ((n : Rat) * q) := by
  rw [← nat_mul_norm]
  refine Bq.norm _ ?_ (h.2.mono (by omega))
  have h1 : Sm 4 (n : Int) := Sm.of (by omega) (by omega)
  have := h1.mul h.1
  rw [Nat.add_comm] at this
  exact this
theorem norm_both (n : Nat) (hn : n ≠ 0) (q : Rat) : Rat.normalize ((n : Int) * q.num) (n * q.den) (Nat.mul_ne_zero hn q.den_nz) = q := by
  rw [Rat.normalize_mul_left q.den_nz hn]
  exact Rat.normalize_self q
theorem nat_step (n : Nat) (q : Rat) : (n : Rat) * q + q = ((n + 1 : Nat) : Rat) * q := by
  rw [Rat.natCast_add]
  grind
end Sw

/-! the script's walk, for defs that raise -/
namespace Sw
end Sw

/-! more built-in functions -/
namespace Sw
open PySem PySem.Spec PyProof.Rows L2
section
variable {X : Cx} {W : WX} {B : Bd} {σ : L2.St} {H F : Hp} {env : En} {Y : XP} {K : PySem.W.Frag}
/-- a rule of one argument -/
def OneG (X : Cx) (r : List V → Hp → VK → Prop) (G : D → (Cl → Prop) → Prop) : Prop := ∀ (B : Bd) (σ : L2.St) (H F : Hp) (env : En) (x : V) (d : D) (P : Cl → Prop) (Q : VK), Rl X.K B σ H F env → RepR X.K H F x d → G d P →
  (∀ c v H' F', P c → Rl X.K B (σ ++ [some v]) H' F' (env ++ [some c]) → Same F F' → Q v H') → r [x] H Q
theorem one_imp {r : List V → Hp → VK → Prop} {G : D → (Cl → Prop) → Prop} {a : Opd} (hg : OneG X r G) : ∀ σ H Q, semE X W (eOp1 G a) σ H Q → tCB r (tCons (tO X W a) tNil) σ H Q := fun σ H Q ⟨B, F, env, P, Y, R, h, ok, x⟩ =>
  ev1_ok R h x fun d env' v H' F' g R' s r' => hg B σ H' F' env' v d _ Q R' r' g fun c u H2 F2 p R2 s2 => ok c env' u H2 F2 p R2 (s.trans s2)
/-! sum, all, any of a list -/
def gSum (d : D) (P : Cl → Prop) : Prop := ∃ ns : List Int, d = .list (ns.map PyData.int) ∧ P (.fz (.int ns.sum))
def gAll (d : D) (P : Cl → Prop) : Prop := ∃ bs : List Bool, d = .list (bs.map PyData.bool) ∧ P (.fz (.bool (bs.all id)))
def gAny (d : D) (P : Cl → Prop) : Prop := ∃ bs : List Bool, d = .list (bs.map PyData.bool) ∧ P (.fz (.bool (bs.any id)))
theorem og_sum : OneG X (rSum X.K) gSum := fun B σ H F env x d P Q R r ⟨ns, e, p⟩ k => by
  subst e
  obtain ⟨a, vs, rfl, h, l⟩ := r.lst R.sub
  have := l.ints
  subst this
  exact ⟨a, ns, rfl, SqL.of h, k _ _ _ _ p (R.push (.int _)) (Same.refl F)⟩
theorem og_all : OneG X (rAll X.K) gAll := fun B σ H F env x d P Q R r ⟨ns, e, p⟩ k => by
  subst e
  obtain ⟨a, vs, rfl, h, l⟩ := r.lst R.sub
  have := l.bools
  subst this
  exact ⟨a, ns, rfl, SqL.of h, k _ _ _ _ p (R.push (.bl _)) (Same.refl F)⟩
theorem og_any : OneG X (rAny X.K) gAny := fun B σ H F env x d P Q R r ⟨ns, e, p⟩ k => by
  subst e
  obtain ⟨a, vs, rfl, h, l⟩ := r.lst R.sub
  have := l.bools
  subst this
  exact ⟨a, ns, rfl, SqL.of h, k _ _ _ _ p (R.push (.bl _)) (Same.refl F)⟩
/-! tuple(x), list(x) -/
def gTupO : D → (Cl → Prop) → Prop
  | .list xs, P => P (.fz (.tuple xs))
  | .tuple xs, P => P (.fz (.tuple xs))
  | _, _ => False
def gLstO : D → (Cl → Prop) → Prop
  | .list xs, P => P (.ow (.lst xs))
  | .tuple xs, P => P (.ow (.lst xs))
  | _, _ => False
abbrev rTupO (K : PySem.W.Frag) : List V → Hp → VK → Prop := fun xs H Q => ∃ p ys, xs = [.ref p] ∧ ((SqL K H p ys ∧ ∀ l, H l = none → Q (.ref l) (upd H l (.tup ys))) ∨ (SqT K H p ys ∧ Q (.ref p) H))
abbrev rLstO (K : PySem.W.Frag) : List V → Hp → VK → Prop := fun xs H Q => ∃ p ys, xs = [.ref p] ∧ (SqL K H p ys ∨ SqT K H p ys) ∧ ∀ l, H l = none → Q (.ref l) (upd H l (.lst ys))
theorem og_tupO : OneG X (rTupO X.K) gTupO := fun B σ H F env x d P Q R r g k => by
  cases d with
  | list xs =>
    obtain ⟨a, vs, rfl, h, l⟩ := r.lst R.sub
    refine ⟨a, vs, rfl, .inl ⟨SqL.of h, fun p hp => ?_⟩⟩
    have sm : Same F (upd F p (.tup vs)) := same_new (R.nF hp)
    exact k _ _ _ _ g ((R.grow hp).push (.tup (SqT.of upd_same) (l.mono sm))) sm
  | tuple xs =>
    obtain ⟨a, vs, rfl, h, l⟩ := r.tup R.sub
    refine ⟨a, vs, rfl, .inr ⟨h, ?_⟩⟩
    rcases r with r | ⟨_, _, _, z, _⟩ | ⟨_, _, _, z, _⟩
    · exact k _ _ _ _ g (R.push r) (Same.refl F)
    · cases z
    · cases z
  | _ => exact g.elim
theorem og_lstO : OneG X (rLstO X.K) gLstO := fun B σ H F env x d P Q R r g k => by
  cases d with
  | list xs =>
    obtain ⟨a, vs, rfl, h, l⟩ := r.lst R.sub
    exact ⟨a, vs, rfl, .inl (SqL.of h), fun p hp => k _ _ _ _ g (R.fresh hp (show OwnAt X.K (upd H p (.lst vs)) F p (.lst xs) from ⟨vs, upd_same, l⟩)) (Same.refl F)⟩
  | tuple xs =>
    obtain ⟨a, vs, rfl, h, l⟩ := r.tup R.sub
    exact ⟨a, vs, rfl, .inr h, fun p hp => k _ _ _ _ g (R.fresh hp (show OwnAt X.K (upd H p (.lst vs)) F p (.lst xs) from ⟨vs, upd_same, l⟩)) (Same.refl F)⟩
  | _ => exact g.elim
/-! divmod -/
def gDvm : D → D → (Cl → Prop) → Prop
  | .int i, .int j, P => CDiv i j ∧ P (.fz (.tuple [.int (i / j), .int (i % j)]))
  | _, _, _ => False
abbrev rDvm : List V → Hp → VK → Prop := fun xs H Q => ∃ i j, xs = [.int i, .int j] ∧ CDiv i j ∧ ∀ p, H p = none → Q (.ref p) (upd H p (.tup [.int (i / j), .int (i % j)]))
theorem og_dvm : OpG X (fun x y H Q => rDvm [x, y] H Q) gDvm := fun B σ H F env x y d1 d2 P Q R r1 r2 g k => by
  cases d1 with
  | int i =>
    cases d2 with
    | int j =>
      have := r1.int
      subst this
      have := r2.int
      subst this
      refine ⟨i, j, rfl, g.1, fun p hp => ?_⟩
      have sm : Same F (upd F p (.tup [.int (i / j), .int (i % j)])) := same_new (R.nF hp)
      exact k _ _ _ _ g.2 ((R.grow hp).push (.tup (SqT.of upd_same) (.cons (.int _) (.cons (.int _) .nil)))) sm
    | _ => exact g.elim
  | _ => exact g.elim
theorem twoB_imp {r : List V → Hp → VK → Prop} {G : D → D → (Cl → Prop) → Prop} {a b : Opd} (hg : OpG X (fun x y H Q => r [x, y] H Q) G) : ∀ σ H Q, semE X W (eOp2 G a b) σ H Q → tCB r (tCons (tO X W a) (tCons (tO X W b) tNil)) σ H Q := fun σ H Q ⟨B, F, env, P, Y, R, h, ok, x⟩ =>
  ev2_ok R h x fun d1 d2 env' v w H' F' g R' s r1 r2 => hg B σ H' F' env' v w d1 d2 _ Q R' r1 r2 g fun c u H2 F2 p R2 s2 => ok c env' u H2 F2 p R2 (s.trans s2)
/-! int(x) -/
def gIntO : D → (Cl → Prop) → Prop
  | .int i, P => P (.fz (.int i))
  | .bool b, P => P (.fz (.int (if b then 1 else 0)))
  | _, _ => False
abbrev rIntO : List V → Hp → VK → Prop := fun xs H Q => (∃ i, xs = [.int i] ∧ Q (.int i) H) ∨ ∃ k, xs = [.bl k] ∧ Q (.int (if k then 1 else 0)) H
theorem og_intO : OneG X rIntO gIntO := fun B σ H F env x d P Q R r g k => by
  cases d with
  | int i =>
    have := r.int
    subst this
    exact .inl ⟨i, rfl, k _ _ _ _ g (R.push (.int _)) (Same.refl F)⟩
  | bool i =>
    have := r.bool
    subst this
    exact .inr ⟨i, rfl, k _ _ _ _ g (R.push (.int _)) (Same.refl F)⟩
  | _ => exact g.elim
/-! min, max of a list of whole numbers -/
def gMaxL (d : D) (P : Cl → Prop) : Prop := ∃ ns : List Int, d = .list (ns.map PyData.int) ∧ 0 < ns.length ∧ ∀ m, m ∈ ns → (∀ y, y ∈ ns → y ≤ m) → P (.fz (.int m))
def gMinL (d : D) (P : Cl → Prop) : Prop := ∃ ns : List Int, d = .list (ns.map PyData.int) ∧ 0 < ns.length ∧ ∀ m, m ∈ ns → (∀ y, y ∈ ns → m ≤ y) → P (.fz (.int m))
theorem og_maxL : OneG X (rMax X.K) gMaxL := fun B σ H F env x d P Q R r ⟨ns, e, z, p⟩ k => by
  subst e
  obtain ⟨a, vs, rfl, h, l⟩ := r.lst R.sub
  have := l.ints
  subst this
  exact ⟨a, ns, rfl, SqL.of h, z, fun m hm hy => k _ _ _ _ (p m hm hy) (R.push (.int _)) (Same.refl F)⟩
theorem og_minL : OneG X (rMin X.K) gMinL := fun B σ H F env x d P Q R r ⟨ns, e, z, p⟩ k => by
  subst e
  obtain ⟨a, vs, rfl, h, l⟩ := r.lst R.sub
  have := l.ints
  subst this
  exact ⟨a, ns, rfl, SqL.of h, z, fun m hm hy => k _ _ _ _ (p m hm hy) (R.push (.int _)) (Same.refl F)⟩
/-! ### the nodes -/
variable {pos p1 : Pos} {e ea eb : Expr} {a b : Opd} {x : Str}
theorem g_1B {id : String} {r : List V → Hp → VK → Prop} {G : D → (Cl → Prop) → Prop} (hc : CallR X (.builtin id) r) (og : OneG X r G) (hv : bootBuiltins x = some (.builtin id)) (hm : X.mg x = none) (hg : Gl X x) (ha : PE X e (tO X W a)) (hn : x ≠ "__name__" := by decide) (hd : (x == ("__debug__" : Str)) = false := by decide)
    (s1 : starEach [e] X.env = (false, eval e X.env) :: starEach [] X.env := by rfl) (pl : (backTo pos (starEach [] X.env)).any (·.1) = false := by rfl) : PE X (.Call (.Name x p1) [e] [] pos) (semE X W (eOp1 G a)) := peOf (pe_callB hc hg hm hv (pa_cons ha pa_nil s1) hn hd (he := s1) (hpl := pl)) (one_imp og)
theorem g_1T {id : String} {r : List V → Hp → VK → Prop} {G : D → (Cl → Prop) → Prop} (hc : CallR X (.type id) r) (og : OneG X r G) (hv : bootBuiltins x = some (.type id)) (hm : X.mg x = none) (hg : Gl X x) (ha : PE X e (tO X W a)) (hn : x ≠ "__name__" := by decide) (hd : (x == ("__debug__" : Str)) = false := by decide)
    (s1 : starEach [e] X.env = (false, eval e X.env) :: starEach [] X.env := by rfl) (pl : (backTo pos (starEach [] X.env)).any (·.1) = false := by rfl) : PE X (.Call (.Name x p1) [e] [] pos) (semE X W (eOp1 G a)) := peOf (pe_callTy hc hg hm hv (pa_cons ha pa_nil s1) hn hd (he := s1) (hpl := pl)) (one_imp og)
theorem g_2B {id : String} {r : List V → Hp → VK → Prop} {G : D → D → (Cl → Prop) → Prop} (hc : CallR X (.builtin id) r) (og : OpG X (fun x y H Q => r [x, y] H Q) G) (hv : bootBuiltins x = some (.builtin id)) (hm : X.mg x = none) (hg : Gl X x) (ha : PE X ea (tO X W a)) (hb : PE X eb (tO X W b)) (hn : x ≠ "__name__" := by decide) (hd : (x == ("__debug__" : Str)) = false := by decide)
    (s1 : starEach [ea, eb] X.env = (false, eval ea X.env) :: starEach [eb] X.env := by rfl) (s2 : starEach [eb] X.env = (false, eval eb X.env) :: starEach [] X.env := by rfl) (pl : (backTo pos (starEach [eb] X.env)).any (·.1) = false := by rfl) : PE X (.Call (.Name x p1) [ea, eb] [] pos) (semE X W (eOp2 G a b)) :=
  peOf (pe_callB hc hg hm hv (pa_cons ha (pa_cons hb pa_nil s2) s1) hn hd (he := s1) (hpl := pl)) (twoB_imp og)
theorem g_sum (hc : X.calm = true) (hm : X.mg "sum" = none) (hg : Gl X "sum") (ha : PE X e (tO X W a)) (s1 : starEach [e] X.env = (false, eval e X.env) :: starEach [] X.env := by rfl) (pl : (backTo pos (starEach [] X.env)).any (·.1) = false := by rfl) : PE X (.Call (.Name "sum" p1) [e] [] pos) (semE X W (eOp1 gSum a)) := g_1B (cr_sum hc) og_sum (by rfl) hm hg ha (s1 := s1) (pl := pl)
theorem g_all (hc : X.calm = true) (hm : X.mg "all" = none) (hg : Gl X "all") (ha : PE X e (tO X W a)) (s1 : starEach [e] X.env = (false, eval e X.env) :: starEach [] X.env := by rfl) (pl : (backTo pos (starEach [] X.env)).any (·.1) = false := by rfl) : PE X (.Call (.Name "all" p1) [e] [] pos) (semE X W (eOp1 gAll a)) := g_1B (cr_all hc) og_all (by rfl) hm hg ha (s1 := s1) (pl := pl)
theorem g_any (hc : X.calm = true) (hm : X.mg "any" = none) (hg : Gl X "any") (ha : PE X e (tO X W a)) (s1 : starEach [e] X.env = (false, eval e X.env) :: starEach [] X.env := by rfl) (pl : (backTo pos (starEach [] X.env)).any (·.1) = false := by rfl) : PE X (.Call (.Name "any" p1) [e] [] pos) (semE X W (eOp1 gAny a)) := g_1B (cr_any hc) og_any (by rfl) hm hg ha (s1 := s1) (pl := pl)
theorem g_tupO (hm : X.mg "tuple" = none) (hg : Gl X "tuple") (ha : PE X e (tO X W a)) (s1 : starEach [e] X.env = (false, eval e X.env) :: starEach [] X.env := by rfl) (pl : (backTo pos (starEach [] X.env)).any (·.1) = false := by rfl) : PE X (.Call (.Name "tuple" p1) [e] [] pos) (semE X W (eOp1 gTupO a)) := g_1T call_tuple_of og_tupO (by rfl) hm hg ha (s1 := s1) (pl := pl)
theorem g_lstO (hm : X.mg "list" = none) (hg : Gl X "list") (ha : PE X e (tO X W a)) (s1 : starEach [e] X.env = (false, eval e X.env) :: starEach [] X.env := by rfl) (pl : (backTo pos (starEach [] X.env)).any (·.1) = false := by rfl) : PE X (.Call (.Name "list" p1) [e] [] pos) (semE X W (eOp1 gLstO a)) := g_1T call_list_of og_lstO (by rfl) hm hg ha (s1 := s1) (pl := pl)
theorem g_intO (hm : X.mg "int" = none) (hg : Gl X "int") (ha : PE X e (tO X W a)) (s1 : starEach [e] X.env = (false, eval e X.env) :: starEach [] X.env := by rfl) (pl : (backTo pos (starEach [] X.env)).any (·.1) = false := by rfl) : PE X (.Call (.Name "int" p1) [e] [] pos) (semE X W (eOp1 gIntO a)) := g_1T call_int1 og_intO (by rfl) hm hg ha (s1 := s1) (pl := pl)
theorem g_maxL (hc : X.calm = true) (hm : X.mg "max" = none) (hg : Gl X "max") (ha : PE X e (tO X W a)) (s1 : starEach [e] X.env = (false, eval e X.env) :: starEach [] X.env := by rfl) (pl : (backTo pos (starEach [] X.env)).any (·.1) = false := by rfl) : PE X (.Call (.Name "max" p1) [e] [] pos) (semE X W (eOp1 gMaxL a)) := g_1B (cr_max hc) og_maxL (by rfl) hm hg ha (s1 := s1) (pl := pl)
theorem g_minL (hc : X.calm = true) (hm : X.mg "min" = none) (hg : Gl X "min") (ha : PE X e (tO X W a)) (s1 : starEach [e] X.env = (false, eval e X.env) :: starEach [] X.env := by rfl) (pl : (backTo pos (starEach [] X.env)).any (·.1) = false := by rfl) : PE X (.Call (.Name "min" p1) [e] [] pos) (semE X W (eOp1 gMinL a)) := g_1B (cr_min hc) og_minL (by rfl) hm hg ha (s1 := s1) (pl := pl)
theorem g_dvm (hm : X.mg "divmod" = none) (hg : Gl X "divmod") (ha : PE X ea (tO X W a)) (hb : PE X eb (tO X W b)) (s1 : starEach [ea, eb] X.env = (false, eval ea X.env) :: starEach [eb] X.env := by rfl) (s2 : starEach [eb] X.env = (false, eval eb X.env) :: starEach [] X.env := by rfl) (pl : (backTo pos (starEach [eb] X.env)).any (·.1) = false := by rfl) :
    PE X (.Call (.Name "divmod" p1) [ea, eb] [] pos) (semE X W (eOp2 gDvm a b)) := g_2B call_divmod og_dvm (by rfl) hm hg ha hb (s1 := s1) (s2 := s2) (pl := pl)
/-- a name of the module that holds a whole number, a text -/
theorem g_gint {i : Int} (hm : ∃ t, X.mg x = some (.int i t)) (hg : Gl X x) (hd : (x == ("__debug__" : Str)) = false := by decide) : PE X (.Name x pos) (semE X W (eD (.int i))) := by
  obtain ⟨t, hm⟩ := hm
  exact pe_constD (pe_glob (v := .int i) hg hm ⟨t, rfl⟩ hd) fun _ => .int i
theorem g_gstr {i : Str} (hm : ∃ t, X.mg x = some (.str i t)) (hg : Gl X x) (hd : (x == ("__debug__" : Str)) = false := by decide) : PE X (.Name x pos) (semE X W (eD (.str i))) := by
  obtain ⟨t, hm⟩ := hm
  exact pe_constD (pe_glob (v := .str i) hg hm ⟨t, rfl⟩ hd) fun _ => .str i
end
@[simp ↓] theorem gTupO_l {xs : List D} {P : Cl → Prop} : gTupO (.list xs) P = P (.fz (.tuple xs)) := rfl
@[simp ↓] theorem gTupO_t {xs : List D} {P : Cl → Prop} : gTupO (.tuple xs) P = P (.fz (.tuple xs)) := rfl
@[simp ↓] theorem gLstO_l {xs : List D} {P : Cl → Prop} : gLstO (.list xs) P = P (.ow (.lst xs)) := rfl
@[simp ↓] theorem gLstO_t {xs : List D} {P : Cl → Prop} : gLstO (.tuple xs) P = P (.ow (.lst xs)) := rfl
@[simp ↓] theorem gDvm_i {i j : Int} {P : Cl → Prop} : gDvm (.int i) (.int j) P = (CDiv i j ∧ P (.fz (.tuple [.int (i / j), .int (i % j)]))) := rfl
@[simp ↓] theorem gIntO_i {i : Int} {P : Cl → Prop} : gIntO (.int i) P = P (.fz (.int i)) := rfl
@[simp ↓] theorem gIntO_b {i : Bool} {P : Cl → Prop} : gIntO (.bool i) P = P (.fz (.int (if i then 1 else 0))) := rfl
end Sw

/-! zip, enumerate -/
namespace Sw
open PySem PySem.Spec PyProof.Rows L2
def pairD (p : D × D) : D := .tuple [p.1, p.2]
def iZip (a b : WE) : WI := fun env g Y => evL [a, b] env (fun ds env' => ∃ xs ys, (ds = [.list xs, .list ys] ∨ ds = [.tuple xs, .tuple ys]) ∧ g ((xs.zip ys).map pairD) env') Y
def enumD (xs : List D) : List D := xs.zipIdx.map fun p => .tuple [.int (p.2 : Nat), p.1]
def iEnumL (a : WE) : WI := fun env g Y => evL [a] env (fun ds env' => ∃ xs, ds = [.list xs] ∧ g (enumD xs) env') Y
section
variable {X : Cx} {W : WX} {B : Bd} {σ : L2.St} {H F : Hp} {env : En} {Y : XP} {K : PySem.W.Frag}
theorem zip_get {xs ys : List D} {i : Nat} {d : D} (h : ((xs.zip ys).map pairD)[i]? = some d) : ∃ x y, xs[i]? = some x ∧ ys[i]? = some y ∧ d = .tuple [x, y] := by
  rw [List.getElem?_map] at h
  cases z : (xs.zip ys)[i]? with
  | none => rw [z] at h; cases h
  | some p =>
    rw [z] at h
    cases h
    obtain ⟨a, b⟩ := List.getElem?_zip_eq_some.mp z
    exact ⟨p.1, p.2, a, b, rfl⟩
theorem zip_len {xs ys : List D} : ((xs.zip ys).map pairD).length = min xs.length ys.length := by
  rw [List.length_map, List.length_zip]
theorem pair_rep {F' : Hp} {T : Addr} {v w : V} {x y : D} (hn : F' T = none) (h1 : Rep K F' v x) (h2 : Rep K F' w y) : Rep K (upd F' T (.tup [v, w])) (.ref T) (.tuple [x, y]) := by
  have sm : Same F' (upd F' T (.tup [v, w])) := same_new hn
  exact .tup (SqT.of upd_same) (.cons (h1.mono sm) (.cons (h2.mono sm) .nil))
theorem none_sub {F H : Hp} {T : Addr} (s : Same F H) (h : H T = none) : F T = none := by
  cases e : F T with
  | none => rfl
  | some o => rw [s T o e] at h; cases h
theorem walks_zipL {a b : Addr} {vs ws : List V} {xs ys : List D} (h1 : SqL K F a vs) (r1 : RepL K F vs xs) (h2 : SqL K F b ws) (r2 : RepL K F ws ys) : Walks K (Itz K a b) F ((xs.zip ys).map pairD) where
  stop := fun i H F' s1 s2 hi => by
    rw [zip_len] at hi
    exact ⟨vs, ws, (s1.trans s2).seq h1, (s1.trans s2).seq h2, by rw [r1.length, r2.length]; omega⟩
  go := fun i H F' s1 s2 hi => by
    rw [zip_len] at hi
    have l1 : i < vs.length := by rw [r1.length]; omega
    have l2 : i < ws.length := by rw [r2.length]; omega
    exact ⟨vs, ws, vs[i], ws[i], (s1.trans s2).seq h1, (s1.trans s2).seq h2, List.getElem?_eq_getElem l1, List.getElem?_eq_getElem l2⟩
  yld := fun i H F' v H' d s1 s2 hd ⟨T, x, y, e, hT, eH, f1, f2⟩ => by
    obtain ⟨dx, dy, gx, gy, rfl⟩ := zip_get hd
    obtain ⟨vx, hx, rx⟩ := r1.get gx
    obtain ⟨vy, hy, ry⟩ := r2.get gy
    have e1 := f1 vs ((s1.trans s2).seq h1)
    have e2 := f2 ws ((s1.trans s2).seq h2)
    rw [hx] at e1
    rw [hy] at e2
    cases e1
    cases e2
    subst e eH
    exact .inr ⟨T, _, hT, rfl, pair_rep (none_sub s2 hT) (rx.mono s1) (ry.mono s1)⟩
theorem walks_zipT {a b : Addr} {vs ws : List V} {xs ys : List D} (h1 : SqT K F a vs) (r1 : RepL K F vs xs) (h2 : SqT K F b ws) (r2 : RepL K F ws ys) : Walks K (RZ.ItzT K a b) F ((xs.zip ys).map pairD) where
  stop := fun i H F' s1 s2 hi => by
    rw [zip_len] at hi
    exact ⟨vs, ws, same_seqT (s1.trans s2) h1, same_seqT (s1.trans s2) h2, by rw [r1.length, r2.length]; omega⟩
  go := fun i H F' s1 s2 hi => by
    rw [zip_len] at hi
    have l1 : i < vs.length := by rw [r1.length]; omega
    have l2 : i < ws.length := by rw [r2.length]; omega
    exact ⟨vs, ws, vs[i], ws[i], same_seqT (s1.trans s2) h1, same_seqT (s1.trans s2) h2, List.getElem?_eq_getElem l1, List.getElem?_eq_getElem l2⟩
  yld := fun i H F' v H' d s1 s2 hd ⟨T, x, y, e, hT, eH, f1, f2⟩ => by
    obtain ⟨dx, dy, gx, gy, rfl⟩ := zip_get hd
    obtain ⟨vx, hx, rx⟩ := r1.get gx
    obtain ⟨vy, hy, ry⟩ := r2.get gy
    have e1 := f1 vs (same_seqT (s1.trans s2) h1)
    have e2 := f2 ws (same_seqT (s1.trans s2) h2)
    rw [hx] at e1
    rw [hy] at e2
    cases e1
    cases e2
    subst e eH
    exact .inr ⟨T, _, hT, rfl, pair_rep (none_sub s2 hT) (rx.mono s1) (ry.mono s1)⟩
theorem walks_enumL {a : Addr} {vs : List V} {xs : List D} (h1 : SqL K F a vs) (r1 : RepL K F vs xs) : Walks K (Ite K a) F (enumD xs) where
  stop := fun i H F' s1 s2 hi => by
    have hi : xs.length ≤ i := by simpa [enumD] using hi
    exact ⟨vs, (s1.trans s2).seq h1, by rw [r1.length]; exact hi⟩
  go := fun i H F' s1 s2 hi => by
    have hi : i < xs.length := by simpa [enumD] using hi
    have l1 : i < vs.length := by rw [r1.length]; exact hi
    exact ⟨vs, vs[i], (s1.trans s2).seq h1, List.getElem?_eq_getElem l1⟩
  yld := fun i H F' v H' d s1 s2 hd ⟨T, x, e, hT, eH, f1⟩ => by
    have hx : ∃ dx, xs[i]? = some dx ∧ d = .tuple [.int (i : Nat), dx] := by
      unfold enumD at hd
      rw [List.getElem?_map, List.getElem?_zipIdx] at hd
      cases z : xs[i]? with
      | none => rw [z] at hd; cases hd
      | some p =>
        rw [z] at hd
        cases hd
        exact ⟨p, rfl, by simp⟩
    obtain ⟨dx, gx, rfl⟩ := hx
    obtain ⟨vx, hx, rx⟩ := r1.get gx
    have e1 := f1 vs ((s1.trans s2).seq h1)
    rw [hx] at e1
    cases e1
    subst e eH
    exact .inr ⟨T, _, hT, rfl, pair_rep (none_sub s2 hT) (.int _) (rx.mono s1)⟩
theorem pi_iZip {ea eb : Expr} {f g : WE} {p pos tpos : Pos} {elts : List Expr} {kk : Nat} (hg : Gl X "zip") (hm : X.mg "zip" = none) (ha : PA X [ea, eb] (tCons (semE X W f) (tCons (semE X W g) tNil)))
    (hs : starEach [ea, eb] X.env = (false, eval ea X.env) :: starEach [eb] X.env := by rfl) (hpl : (backTo pos (starEach [eb] X.env)).any (·.1) = false := by rfl) : PI X (.Tuple elts kk tpos) (.Call (.Name "zip" p) [ea, eb] [] pos) (semI X W (iZip f g)) :=
  piOf (RZ.pi_zipA hg hm ha hs hpl) fun σ H Q ⟨B, F, env, G, Y, R, h, ok, x⟩ => evL_ok (fs := [f, g]) R h x fun ds env' vs H' F' ⟨xs, ys, e, q⟩ R' s r => by
    rcases e with e | e
    · subst e
      cases r with
      | cons r1 r2 =>
        cases r2 with
        | cons r2 r3 =>
          cases r3
          cases r1 with
          | lst a1 b1 =>
            cases r2 with
            | lst a2 b2 => exact ⟨_, _, _, _, rfl, .inl ⟨SqL.of (R'.sub _ _ a1), SqL.of (R'.sub _ _ a2), ok _ _ _ _ _ q R' s (walks_zipL (SqL.of a1) b1 (SqL.of a2) b2)⟩⟩
    · subst e
      cases r with
      | cons r1 r2 =>
        cases r2 with
        | cons r2 r3 =>
          cases r3
          cases r1 with
          | tup a1 b1 =>
            cases r2 with
            | tup a2 b2 => exact ⟨_, _, _, _, rfl, .inr ⟨same_seqT R'.sub a1, same_seqT R'.sub a2, ok _ _ _ _ _ q R' s (walks_zipT a1 b1 a2 b2)⟩⟩
theorem pi_iEnumL {ea : Expr} {f : WE} {p pos tpos : Pos} {elts : List Expr} {kk : Nat} (hg : Gl X "enumerate") (hm : X.mg "enumerate" = none) (ha : PA X [ea] (tCons (semE X W f) tNil)) (hs : starEach [ea] X.env = [(false, eval ea X.env)] := by rfl) : PI X (.Tuple elts kk tpos) (.Call (.Name "enumerate" p) [ea] [] pos) (semI X W (iEnumL f)) :=
  piOf (pi_enum hg hm ha hs) fun σ H Q ⟨B, F, env, G, Y, R, h, ok, x⟩ => evL_ok (fs := [f]) R h x fun ds env' vs H' F' ⟨xs, e, q⟩ R' s r => by
    subst e
    cases r with
    | cons r1 r2 =>
      cases r2
      cases r1 with
      | lst a1 b1 => exact ⟨_, _, rfl, SqL.of (R'.sub _ _ a1), ok _ _ _ _ _ q R' s (walks_enumL (SqL.of a1) b1)⟩
end
end Sw

/-! defs where no showing is under way: what repr asks -/
namespace Sw
open PySem PySem.Spec PyProof.Rows L2
/-- as the hand layer's promise, where nothing is being shown -/
structure FnG (P : Program) (w : World) (K : PySem.W.Frag) (mg : Str → Option Value) (base : Heap) (k : Nat) (f : Addr) (fd : FuncData) (ps : List Str) (sp : Sp) : Prop where
  len : ∀ vs H Q E, sp vs H Q E → vs.length = ps.length
  run : ∀ (A : Around) (outer : List Env) (s : Shared) (H : Hp) (args : Args) (us : List Value) (vs : List V) (Q : VK) (E : XK), A.guards = some [] → Room k A → Env0 P w K mg base A outer s H → BindsTo s fd args (ps.zip us) → Vals vs us → sp vs H Q E →
    codeAny (model P w) A (.call (.ref f) args) (CR (L2.CX P w) outer P w H s Q E) s
section
variable {P : Program} {w : World} {K : PySem.W.Frag} {mg : Str → Option Value} {base : Heap} {x qual : Str} {params : Arguments} {body : List Stmt} {scope : Scope} {kws : List (Str × V)} {dvs : List V} {f : Addr} {fd : FuncData} {N ps : List Str} {k : Nat} {sp : Sp}
/-- a def's code object, as its table tells it -/
theorem code_of {K : PySem.W.Frag} {h : Heap} {mg : Str → Option Value} {x : Str} {f c Pt : Addr} {fd : FuncData} {oc cdv : Value} {od : Option Addr} {osl : Array (Option Value)} (lk : K.lookup f = some ⟨oc, od, .func fd, osl⟩) (ec : fd.code = cdv) (X : K.In h) (G : h.Ns mainGlobals mg) (hm : mg x = some (.ref f)) (e : PySem.W.tabIn K x = some (c, Pt)) : cdv = .ref c := by
  unfold PySem.W.tabIn at e
  split at e
  · rename_i f' hf
    have e1 := PySem.W.mg_of X G hf
    rw [hm] at e1
    cases e1
    split at e
    · rename_i hfo
      rw [lk] at hfo
      cases hfo
      split at e
      · rename_i c' hc
        rw [ec] at hc
        subst hc
        split at e
        · split at e
          · cases e
            rfl
          · cases e
        · cases e
      · cases e
    · cases e
  · cases e
theorem fn_body (FD : FunD K x qual params body scope dvs kws f fd) (S : FnScope N ps scope) (hl : ∀ vs H Q E, sp vs H Q E → vs.length = ps.length)
    (hb : ∀ (cdv : Value) (A : Around) (outer : List Env) (s : Shared) (H : Hp) (vs : List V) (Q : VK) (E : XK), A.guards = some [] → Room k (A.deeper (envOfC qual scope s.heap.objs.size f cdv)) → (mg x = some (.ref f) → ∀ c Pt, PySem.W.tabIn K x = some (c, Pt) → cdv = .ref c) → sp vs H Q E →
      ∃ t, PSs (cxOf (L2.CX P w) P w K mg base N qual scope f cdv A outer s H E) body t ∧ t { nx := fun _ H' => Q .non H', rt := Q } (L2.start N vs) H) : FnG P w K mg base (k + 1) f fd ps sp := by
  obtain ⟨_, _, _, _, _, _, _, cdv, _, _, rfl, lk, code, _, _⟩ := FD.ex
  constructor
  · exact hl
  intro A outer s H args us vs Q E hg room e0 bnd rel promise
  have n := hl _ _ _ _ promise
  have inK : K.In s.heap := e0.mod.kin.keeps fun b o q => (e0.bs b o q).1
  have nolim : s.heap.NoLimit := e0.mod.nolimit.keeps fun b o q => (e0.bs b o q).1
  have kinds : ∀ y ∈ ps.zip us, scope.names.lookup y.1 = some .local ∨ (scope.names.lookup y.1 = some .cell ∧ ((cellsFrom (s.heap.objs.size + 1) scope.names []).lookup y.1).isSome = true) := by
    rintro ⟨nm, v⟩ hy
    rcases S.par nm (List.of_mem_zip hy).1 with c | c
    · left; exact c
    · right; exact ⟨c, PySem.W.cellsFrom_some _ _ _ (.inl c)⟩
  apply codeAny_call_function room.depth (inK _ _ lk) rfl S.co S.gen rfl (PySem.W.codeRec_of inK code) (bnd _ _ _ _ _)
  apply wpAny_newFunctionEnv_cells S.kind kinds
  intro env he s1 y
  subst he
  refine ⟨nolim.keeps y.toInCall.keep, codeAny_func ?_⟩
  obtain ⟨t, pt, q⟩ := hb cdv A outer s H vs Q E hg (room.deeper _) (fun hmx c Pt e => code_of lk rfl e0.mod.kin e0.mod.glob hmx e) promise
  have start := inv_start (CX := L2.CX P w) (E := E) S room.hd e0 n rel y
  apply wpAny_mono (pt.run [] s1 (L2.start N vs) H _ start q)
  · intro fl s' z
    cases fl with
    | ret u =>
      obtain ⟨v, σ', H', J, rv, q⟩ := z
      exact ⟨v, H', J.os, J.bare, J.base, J.hok, rv, q⟩
    | next =>
      obtain ⟨σ', H', J, q⟩ := z
      exact ⟨.non, H', J.os, J.bare, J.base, J.hok, rfl, q⟩
    | brk => exact z.elim fun _ z => z.elim fun _ z => z.2.elim
    | cont => exact z.elim fun _ z => z.elim fun _ z => z.2.elim
  · intro e s' z
    exact z
/-- a def keeps what its body tells -/
theorem fn_okG {n m : Nat} {wp : WS} (FD : FunD K x qual params body scope dvs kws f fd) (S : FnScope N ps scope) (hn : ps.length = n) (hm : N.length - n = m)
    (hb : ∀ (cdv : Value) (A : Around) (outer : List Env) (s : Shared) (H : Hp) (E : XK), A.guards = some [] → Room k (A.deeper (envOfC qual scope s.heap.objs.size f cdv)) → (mg x = some (.ref f) → ∀ c Pt, PySem.W.tabIn K x = some (c, Pt) → cdv = .ref c) →
      Takes (cxOf (L2.CX P w) P w K mg base N qual scope f cdv A outer s H E) (fun cls d _ H => E cls d H) → PassesOwn (model P w) (cxOf (L2.CX P w) P w K mg base N qual scope f cdv A outer s H E).A (cxOf (L2.CX P w) P w K mg base N qual scope f cdv A outer s H E).env (cxOf (L2.CX P w) P w K mg base N qual scope f cdv A outer s H E).xe →
      PSs (cxOf (L2.CX P w) P w K mg base N qual scope f cdv A outer s H E) body (semS (cxOf (L2.CX P w) P w K mg base N qual scope f cdv A outer s H E) (fun cls d _ H => E cls d H) wp)) :
    FnG P w K mg base (k + 1) f fd ps (spOf K mg n (ctOf wp m)) := by
  refine fn_body FD S (fun vs H Q E ⟨_, _, _, _, h, _⟩ => h.trans hn.symm) fun cdv A outer s H vs Q E hg hr hcd h => ?_
  obtain ⟨F, cs, P', Y, hl, R, hc, ok, xo⟩ := h
  exact ⟨_, hb cdv A outer s H E hg hr hcd (takes_of rfl rfl rfl rfl) (passes_of rfl), sem_in hm hl R hc ok xo⟩
end
section
variable {X : Cx} {W : WX} {pos p1 : Pos} {e : Expr} {x : Str} {k k' n : Nat} {fa : Addr} {fd : FuncData} {ps : List Str} {C : Ct} {es : List Expr} {as : List Arg} {sp : Sp}
/-- the call of such a def -/
theorem pe_callG {E : L2.St → XK} {t : TA} (FO : FnG X.prog X.w X.K X.mg X.base k fa fd ps sp) (gd : X.A.guards = some []) (hr : Room k X.A) (hm : X.mg x = some (.ref fa)) (kp : PySem.W.keepIn X.K (.ref fa) = true) (hbn : Binds X.K fd ps []) (hx : ∀ σ, PassesAt (L2.CX X.prog X.w) X σ (E σ)) (hg : Gl X x) (hA : PA X (e :: es) t)
    (hdb : (x == ("__debug__" : Str)) = false := by decide) (he : starEach (e :: es) X.env = (false, eval e X.env) :: starEach es X.env := by rfl) (hpl : (backTo pos (starEach es X.env)).any (·.1) = false := by rfl) : PE X (.Call (.Name x p1) (e :: es) [] pos) (tCallS sp E t) := by
  constructor
  intro pins s σ H Q I h
  apply wpAny_Call_Name_kw
  apply ld_glob I hg hm _ hdb
  apply PySem.W.callWith_K (h₀ := X.base) I.ok.mod.kin kp _ he hpl
  refine thn (hA.run pos pins s σ H _ I h) ?_
  rintro us s1 ⟨vs, H1, I1, r, q⟩
  refine ⟨I1.kIn, ?_⟩
  have n1 : us.length = ps.length := r.length.symm.trans (FO.len _ _ _ _ q)
  have b := hbn s1 us I1.kIn (by simpa using n1)
  rw [List.append_nil] at b
  apply wpAny_call
  refine codeAny_mono (FO.run X.A X.stack s1 H1 ⟨us, []⟩ us vs Q (E σ) gd hr I1.env0 b r q) ?_
  intro res s' z
  match res, z with
  | .error u, z => exact hx σ pins H1 s1 u s' I1 z
  | .ok (.ret u), z => exact I1.after z
theorem g_callG (FO : FnG X.prog X.w X.K X.mg X.base k fa fd ps (spOf X.K X.mg n C)) (gd : X.A.guards = some []) (hr : Room k' X.A) (hk : k ≤ k') (hm : X.mg x = some (.ref fa)) (kp : PySem.W.keepIn X.K (.ref fa) = true) (hbn : Binds X.K fd ps []) (tk : Takes X W) (hg : Gl X x) (hA : PA X (e :: es) (tArgs X W as)) (hn : as.length = n := by rfl) (nd : (lentOf as).Nodup := by decide)
    (hdb : (x == ("__debug__" : Str)) = false := by decide) (he : starEach (e :: es) X.env = (false, eval e X.env) :: starEach es X.env := by rfl) (hpl : (backTo pos (starEach es X.env)).any (·.1) = false := by rfl) : PE X (.Call (.Name x p1) (e :: es) [] pos) (semE X W (eCall C as)) :=
  peOf (pe_callG FO gd (hr.mono hk) hm kp hbn (passAt tk) hg hA hdb he hpl) (call_imp hn nd)
end
end Sw

/-! the law's end, for such defs; repr -/
namespace Sw
open PySem PySem.Spec PyProof.Rows L2
section
variable {P : Program} {w : World} {K : PySem.W.Frag} {mg mb : Str → Option Value} {k : Nat} {f a : Addr} {fd : FuncData} {x : Str} {sp : Sp} {s : Shared} {vs : List Value} {ns : List Int}
/-- what a law's run is to come to -/
abbrev Fine (s : Shared) (r : Result) (s' : Shared) : Prop := r = .ok (.ret (.bool true)) ∧ OldK s.heap s'.heap ∧ s'.os = s.os ∧ AllBare s'.gens
/-- the law's tables: the code objects and where their tables stand -/
structure TabsIn (K : PySem.W.Frag) : Prop where
  at_ : ∀ x ∈ lamNames, ∃ c P, PySem.W.tabIn K x = some (c, P) ∧ K.lookup P = none
  inj : ∀ p ∈ tabsK K, ∀ q ∈ tabsK K, p.1 = q.1 → p.2 = q.2
theorem tabsIn_of {K : PySem.W.Frag} (h : tabsInB K = true) : TabsIn K := by
  obtain ⟨h, h2⟩ := Bool.and_eq_true_iff.mp h
  refine ⟨fun x hx => ?_, fun p hp q hq e => ?_⟩
  case refine_2 =>
    have z := List.all_eq_true.mp (List.all_eq_true.mp h2 p hp) q hq
    rw [e] at z
    simpa using z
  have q := List.all_eq_true.mp h x hx
  cases e : PySem.W.tabIn K x with
  | none => rw [e] at q; cases q
  | some cp =>
    rw [e] at q
    exact ⟨cp.1, cp.2, rfl, Option.isNone_iff_eq_none.mp q⟩
/-- what the making of lambdas asks of the heap at the entry -/
structure TabsB (K : PySem.W.Frag) (mg : Str → Option Value) (base : Heap) : Prop where
  tin : TabsIn K
  tb : ∀ x ∈ lamNames, ∀ c P, PySem.W.tabIn K x = some (c, P) → LamX.TabB base mg c P
def isTab (K : PySem.W.Frag) (b : Addr) : Prop := ∃ x ∈ lamNames, ∃ c, PySem.W.tabIn K x = some (c, b)
theorem script_core (KI : K.In s.heap) (n1 : s.heap.Ns mainGlobals mg) (n2 : s.heap.Ns builtinsNs mb) (n3 : ∀ y : Str, y ≠ "__name__" → mb y = bootBuiltins y) (lim : s.heap.NoLimit) (gens : s.gens = #[]) (list : s.heap.get? a = some { cls := .type "list", data := .seq vs.toArray }) (room : Room k callerA)
    (hbm : ∃ (bm : Addr) (ob : Obj), mg "__builtins__" = some (.ref bm) ∧ bm ≠ builtinsNs ∧ s.heap.get? bm = some ob ∧ ob.cls = .type "module" ∧ ob.dict = some builtinsNs ∧ ob.data = .plain)
    (tin : TabsIn K) (tat : ∀ x ∈ lamNames, ∀ c P, PySem.W.tabIn K x = some (c, P) → PySem.W.CodeHd s.heap c P ∧ s.heap.get? P = some { cls := .none, data := .fields #[] })
    (FO : ∀ base : Heap, TabsB K mg base → FnG P w K mg base k f fd [x] sp) (bind : ∀ (s : Shared) (u : Value), BindsTo s fd ⟨[u], []⟩ [(x, u)]) (bad : ∀ H e s', L2.CX P w [] H s (fun _ _ _ => False) e s' → False)
    {H : Hp} (only : ∀ b, H b = none ∨ isTab K b ∨ ∃ o xs, H b = some (.frz o (.lst xs))) (hok : HOk P w H s.heap) (mine : ∀ b, H b ≠ none → b = a ∨ isTab K b) (tabs : ∀ b, isTab K b → H b = some (.tbl #[])) (free : H a ≠ none → K.lookup a = none) (said : sp [.ref a] H (fun v _ => v = .bl true) fun _ _ _ => False) : codeAny (model P w) callerA (.call (.ref f) ⟨[.ref a], []⟩) (Fine s) s := by
  have back : ∀ {b : Addr} {o : Obj}, s.heap.get? b = some o → H b = none → (hidT s.heap H).get? b = some o := fun q n => hidT_get q n
  have tabAt : ∀ b, isTab K b → s.heap.get? b = some { cls := .none, data := .fields #[] } := fun b ⟨x, hx, c, e⟩ => (tat x hx c b e).2
  have seen : ∀ {b : Addr} {o : Obj}, H b ≠ none → s.heap.get? b = some o → (∃ xs n, o.data = .seq xs n) ∨ o.data = .fields #[] := fun {b o} q e => by
    rcases mine b q with z | z
    · subst z
      rw [list] at e
      cases e
      exact .inl ⟨_, _, rfl⟩
    · rw [tabAt b z] at e
      cases e
      exact .inr rfl
  have clear : ∀ {b : Addr} {o : Obj}, s.heap.get? b = some o → (∀ xs n, o.data ≠ .seq xs n) → o.data ≠ .fields #[] → H b = none := fun {b o} q d1 d2 => by
    by_cases z : H b = none
    · exact z
    · rcases seen z q with ⟨xs, n, e⟩ | e
      · exact (d1 _ _ e).elim
      · exact (d2 e).elim
  have ns' : ∀ {b : Addr} {m : Str → Option Value}, s.heap.Ns b m → (hidT s.heap H).Ns b m := by
    rintro b m ⟨o, es, ep, q, d, r⟩
    exact ⟨o, es, ep, back q (clear q (fun xs n e => by rw [d] at e; cases e) fun e => by rw [d] at e; cases e), d, r⟩
  have inK : K.In (hidT s.heap H) := by
    intro b o q
    refine back (KI b o q) ?_
    by_cases z : H b = none
    · exact z
    · rcases mine b z with e | ⟨x, hx, c, e⟩
      · subst e
        rw [free z] at q
        cases q
      · obtain ⟨c', P', e', n'⟩ := tin.at_ x hx
        rw [e] at e'
        cases e'
        rw [n'] at q
        cases q
  obtain ⟨mc, c1, c2⟩ := lim
  have env0 : Env0 P w K mg (hidT s.heap H) callerA [] s H := by
    refine ⟨rfl, ⟨inK, ns' n1, ⟨mb, ns' n2, n3⟩, ⟨mc, ns' c1, c2⟩⟩, fun b o q => of_hidT q, Nat.le_of_eq (hidT_size _ _), trivial, ?_, hok, .of_eq gens⟩
    intro b hb
    cases hb
  have hTB : TabsB K mg (hidT s.heap H) := by
    refine ⟨tin, fun x hx c Pt e => ?_⟩
    obtain ⟨C, hP⟩ := tat x hx c Pt e
    constructor
    · obtain ⟨o, us, file, tf, flags, tg, inF, text, tt, e1, r1, r2, r3, r4⟩ := C
      exact ⟨o, us, file, tf, flags, tg, inF, text, tt, back e1 (clear e1 (fun xs n z => by rw [r2] at z; cases z) fun z => by rw [r2] at z; cases z; simp at r3), r1, r2, r3, r4⟩
    · obtain ⟨bm, ob, b1, b2, b3, b4, b5, b6⟩ := hbm
      refine ⟨bm, ob, b1, b2, fun z => ?_, fun z => ?_, back b3 (clear b3 (fun xs n z => by rw [b6] at z; cases z) fun z => by rw [b6] at z; cases z), b4, b5, b6⟩
      · obtain ⟨o, es, ep, q, d, _⟩ := n1
        rw [z, q] at b3
        cases b3
        rw [d] at b6
        cases b6
      · rw [z, hP] at b3
        cases b3
        cases b6
    · intro z
      obtain ⟨o, es, ep, q, d, _⟩ := n1
      rw [z, hP] at q
      cases q
      cases d
  refine codeAny_mono ((FO _ hTB).run callerA [] s H ⟨[.ref a], []⟩ [.ref a] [.ref a] _ _ rfl room env0 (bind s (.ref a)) (.cons rfl .nil) said) ?_
  intro r s' h
  match r, h with
  | .error e, h => exact (bad H e s' h).elim
  | .ok (.ret u), ⟨v, H', os, bare, un, hok', rel, q⟩ =>
    have q : v = .bl true := q
    subst q
    obtain rfl : u = Value.bool true := rel
    have same : ∀ b o, ¬ isTab K b → s.heap.get? b = some o → s'.heap.get? b = some o := fun b o nt old => by
      by_cases z : H b = none
      · exact un.keep b o old z (by intro y; cases y) (by simp)
      · rcases only b with y | y | ⟨ob, xs, y⟩
        · exact (z y).elim
        · exact (nt y).elim
        · obtain ⟨e1, _⟩ := hok b _ y
          obtain ⟨e2, _⟩ := hok' b _ (un.frzs b ob _ y)
          rw [old] at e1
          cases e1
          exact e2
    have grown : ∀ b, isTab K b → ∃ more : Array Value, s'.heap.get? b = some { cls := .none, data := .fields more } := fun b hb => by
      obtain ⟨more, z⟩ := un.tbls b #[] (tabs b hb)
      exact ⟨_, hok' b _ z⟩
    refine ⟨rfl, ⟨fun b o old => ?_, fun b o old => ?_⟩, os, bare⟩
    · by_cases hb : isTab K b
      · obtain ⟨more, hm⟩ := grown b hb
        have e := tabAt b hb
        rw [old] at e
        cases e
        obtain ⟨x, hx, c, ec⟩ := hb
        have C := (tat x hx c b ec).1
        exact .inr (.inl ⟨(C.tab old).isCodeTable, rfl, #[], more, rfl, by rw [Array.empty_append]; exact hm⟩)
      · exact .inl (same b o hb old)
    · by_cases hb : isTab K b
      · obtain ⟨more, hm⟩ := grown b hb
        exact ⟨_, hm⟩
      · exact ⟨o, same b o hb old⟩
theorem tabs_start {K : PySem.W.Frag} {H : Hp} (tabs : ∀ b, isTab K b → H b = some (.tbl #[])) : LamX.Tabs (tabsK K) H := fun p hp => by
  obtain ⟨x, hx, e⟩ := List.mem_filterMap.mp hp
  cases q : PySem.W.tabIn K x with
  | none => rw [q] at e; cases e
  | some cp =>
    rw [q] at e
    cases e
    exact LamX.TabS.nil (tabs _ ⟨x, hx, cp.1, q⟩)
open Classical in
theorem script_call (KI : K.In s.heap) (n1 : s.heap.Ns mainGlobals mg) (n2 : s.heap.Ns builtinsNs mb) (n3 : ∀ y : Str, y ≠ "__name__" → mb y = bootBuiltins y) (lim : s.heap.NoLimit) (gens : s.gens = #[]) (list : s.heap.get? a = some { cls := .type "list", data := .seq vs.toArray }) (nums : IntsAre vs ns) (small : ns.length ≤ sizeLine) (room : Room k callerA)
    (hbm : ∃ (bm : Addr) (ob : Obj), mg "__builtins__" = some (.ref bm) ∧ bm ≠ builtinsNs ∧ s.heap.get? bm = some ob ∧ ob.cls = .type "module" ∧ ob.dict = some builtinsNs ∧ ob.data = .plain)
    (tin : TabsIn K) (tat : ∀ x ∈ lamNames, ∀ c P, PySem.W.tabIn K x = some (c, P) → PySem.W.CodeHd s.heap c P ∧ s.heap.get? P = some { cls := .none, data := .fields #[] })
    (FO : ∀ base : Heap, TabsB K mg base → FnG P w K mg base k f fd [x] sp) (bind : ∀ (s : Shared) (u : Value), BindsTo s fd ⟨[u], []⟩ [(x, u)]) (said : ∀ H : Hp, SqL K H a (ns.map V.int) → LamX.Tabs (tabsK K) H → sp [.ref a] H (fun v _ => v = .bl true) fun _ _ _ => False)
    (bad : ∀ H e s', L2.CX P w [] H s (fun _ _ _ => False) e s' → False) : codeAny (model P w) callerA (.call (.ref f) ⟨[.ref a], []⟩) (Fine s) s := by
  have rel := vals_ints nums
  have len := nums.length
  have tabAt : ∀ b, isTab K b → s.heap.get? b = some { cls := .none, data := .fields #[] } := fun b ⟨x, hx, c, e⟩ => (tat x hx c b e).2
  have na : ¬ isTab K a := fun z => by
    have e := tabAt a z
    rw [list] at e
    cases e
  by_cases known : K.lookup a = none
  · let H : Hp := fun b => if b = a then some (.frz { cls := .type "list", data := .seq vs.toArray } (.lst (ns.map V.int))) else if isTab K b then some (.tbl #[]) else none
    have at_a : H a = some (.frz { cls := .type "list", data := .seq vs.toArray } (.lst (ns.map V.int))) := if_pos rfl
    have at_t : ∀ b, isTab K b → H b = some (.tbl #[]) := fun b h => (if_neg (fun e => na (by rw [← e]; exact h))).trans (if_pos h)
    have off : ∀ {b : Addr}, b ≠ a → ¬ isTab K b → H b = none := fun h1 h2 => (if_neg h1).trans (if_neg h2)
    have mine : ∀ b, H b ≠ none → b = a ∨ isTab K b := fun b z => by
      by_cases e : b = a
      · exact .inl e
      · by_cases e2 : isTab K b
        · exact .inr e2
        · exact (z (off e e2)).elim
    refine script_core KI n1 n2 n3 lim gens list room hbm tin tat FO bind bad (H := H) (fun b => ?_) (fun b u z => ?_) mine at_t (fun _ => known) (said H (.inl (.inr ⟨_, at_a⟩)) (tabs_start at_t))
    · by_cases e : b = a
      · subst e; exact .inr (.inr ⟨_, _, at_a⟩)
      · by_cases e2 : isTab K b
        · exact .inr (.inl e2)
        · exact .inl (off e e2)
    · by_cases e : b = a
      · subst e
        rw [at_a] at z
        cases z
        exact ⟨list, by rw [List.length_map]; exact small, vs, _, rel, list⟩
      · by_cases e2 : isTab K b
        · rw [at_t b e2] at z
          cases z
          exact tabAt b e2
        · rw [off e e2] at z
          cases z
  · cases q : K.lookup a with
    | none => exact (known q).elim
    | some o =>
      have e := KI a o q
      rw [list] at e
      cases e
      let H : Hp := fun b => if isTab K b then some (.tbl #[]) else none
      have at_t : ∀ b, isTab K b → H b = some (.tbl #[]) := fun b h => if_pos h
      have off : ∀ {b : Addr}, ¬ isTab K b → H b = none := fun h => if_neg h
      refine script_core KI n1 n2 n3 lim gens list room hbm tin tat FO bind bad (H := H) (fun b => ?_) (fun b u z => ?_) (fun b z => ?_) at_t (fun z => (z (off na)).elim) (said H (.inr ⟨_, vs.toArray, _, q, rfl, rfl, rfl, by rw [List.size_toArray, len]; exact small, by simpa using rel⟩) (tabs_start at_t))
      · by_cases e2 : isTab K b
        · exact .inr (.inl e2)
        · exact .inl (off e2)
      · by_cases e2 : isTab K b
        · rw [at_t b e2] at z
          cases z
          exact tabAt b e2
        · rw [off e2] at z
          cases z
      · by_cases e2 : isTab K b
        · exact .inr e2
        · exact (z (off e2)).elim
end
def LawSaidG (l : PySem.W.OpenLaw) (k : Nat) (C : Ct) (YP : World → Heap → Prop) (nm : Str) : Prop :=
  ∀ (w : World) (mg : Str → Option Value) (f : Addr) (h : Heap), YP w h → h.Ns mainGlobals mg → mg nm = some (.ref f) →
    ∃ (K : PySem.W.Frag) (fd : FuncData), K.In h ∧ TabsIn K ∧ (∀ (s : Shared) (u : Value), BindsTo s fd ⟨[u], []⟩ [("_law_script", u)]) ∧ ∀ base : Heap, TabsB K mg base → FnG l.prog w K mg base k f fd ["_law_script"] (spOf K mg 1 C)
theorem walk_saidG {l : PySem.W.OpenLaw} {n k : Nat} {q : Program} {loose : List Str} {XP : (Str → Option Value) → Heap → Prop} {YP : World → Heap → Prop} {d : DefRec} {C : Ct} (h1 : l.most = some n) (h2 : n ≤ 16777216) (h3 : d.params.defaults = []) (h4 : Room k callerA)
    (hr : ∀ x ∈ lamNames, ∃ d, (recsOf q).find? (fun e => e.name == x) = some d)
    (said : LawSaidG l k C YP d.name) (law : ∀ ns : List Int, ns.length ≤ n → C [.sc ns] (fun c _ => c = .fz (.bool true)) fun _ => False) : PySem.W.WalkO q loose XP YP l.row.toRowW d [] (fun f vs => PySem.call f vs) := by
  refine Att.attach_call h1 h3 fun w s s' mg mb f o pm cd doc a vs ns G Y e1 e2 e3 e4 e5 e6 e7 e8 => ?_
  obtain ⟨K, fd, KI, tin, bnd, ok⟩ := said w mg f _ Y G.T.g e4
  have small : ns.length ≤ sizeLine := by
    rw [sizeLine_eq]
    exact Nat.le_trans e7 h2
  exact script_call KI G.T.g G.T.b G.T.builtins G.T.nolimit e8 e5 e6 small h4 G.T.bmain tin (fun x hx c P e => by
    obtain ⟨d, hd⟩ := hr x hx
    exact PySem.W.tab_of G.T KI hd e) ok bnd (fun H hS hT => sp_script hS hT (law ns e7)) fun H e s'' => cx_none
/-! ### repr -/
section
variable {X : Cx} {W : WX} {K : PySem.W.Frag}
def gRepr (d : D) (P : Cl → Prop) : Prop := (∃ xs, Sw.items? d = some xs) ∧ d.plain = true ∧ d.showable = true ∧ d.depth ≤ 60 ∧ d.shown.length ≤ sizeLine ∧ P (.fz (.str d.shown))
def rRepr (K : PySem.W.Frag) : List V → Hp → VK → Prop := fun xs H Q => ∃ (F : Hp) (v : V) (d : D), Same F H ∧ xs = [v] ∧ RepR K H F v d ∧ (∃ xs, Sw.items? d = some xs) ∧ d.plain = true ∧ d.showable = true ∧ d.depth ≤ 60 ∧ d.shown.length ≤ sizeLine ∧ Q (.str d.shown) H
mutual
theorem plain_noDict : ∀ {d : D}, d.plain = true → d.hasDict = false
  | .none, _ => by unfold PyData.hasDict; rfl
  | .bool _, _ => by unfold PyData.hasDict; rfl
  | .int _, _ => by unfold PyData.hasDict; rfl
  | .str _, _ => by unfold PyData.hasDict; rfl
  | .list xs, h => by rw [PyData.hasDict]; exact plainAll_noDict (by simpa using h)
  | .tuple xs, h => by rw [PyData.hasDict]; exact plainAll_noDict (by simpa using h)
  | .dict _, h => by simp [PyData.plain] at h
theorem plainAll_noDict : ∀ {xs : List D}, PyData.plainAll xs = true → PyData.hasDictAll xs = false
  | [], _ => by unfold PyData.hasDictAll; rfl
  | x :: xs, h => by
    simp at h
    rw [PyData.hasDictAll, plain_noDict h.1, plainAll_noDict h.2]
    rfl
end
theorem call_reprD (gd : X.A.guards = some []) (hu : X.A.units + 64 < cLine) : CallR X (.builtin "repr") (rRepr X.K) := by
  intro pins s σ H xs us Q I r h
  obtain ⟨F, v, d, sm, rfl, rd, ⟨ys, it⟩, pl, sh, dp, sz, q⟩ := h
  obtain ⟨u, rfl, ru⟩ := r.one
  obtain ⟨as, hr⟩ := rd.reads I sm ru pl
  obtain ⟨b, rfl⟩ : ∃ b, u = .ref b := by
    cases d with
    | list _ => cases hr; exact ⟨_, rfl⟩
    | tuple _ => cases hr; exact ⟨_, rfl⟩
    | _ => cases it
  refine repr_of_reads' (prog := X.prog) (w := X.w) hr sh (fun z => by rw [plain_noDict pl] at z; cases z) gd (by omega) (fun _ _ e => e) (fun h' t tk keep => ?_) sz
  exact ⟨.str d.shown, H, I.kept (t' := tk) keep, ⟨t, rfl⟩, q⟩
theorem og_repr : OneG X (rRepr X.K) gRepr := fun B σ H F env x d P Q R r ⟨c1, c2, c3, c4, c5, p⟩ k => ⟨F, x, d, R.sub, rfl, r, c1, c2, c3, c4, c5, k _ _ _ _ p (R.push (.str _)) (Same.refl F)⟩
theorem g_repr {pos p1 : Pos} {e : Expr} {a : Opd} (gd : X.A.guards = some []) (hu : X.A.units + 64 < cLine) (hm : X.mg "repr" = none) (hg : Gl X "repr") (ha : PE X e (tO X W a)) (s1 : starEach [e] X.env = (false, eval e X.env) :: starEach [] X.env := by rfl) (pl : (backTo pos (starEach [] X.env)).any (·.1) = false := by rfl) : PE X (.Call (.Name "repr" p1) [e] [] pos) (semE X W (eOp1 gRepr a)) := g_1B (call_reprD gd hu) og_repr (by rfl) hm hg ha (s1 := s1) (pl := pl)
end
end Sw

/-! enumerate of a tuple; a tuple times one -/
namespace Sw
open PySem PySem.Spec PyProof.Rows L2
def IteT (K : PySem.W.Frag) (k0 : Int) (a : Addr) : It :=
  ⟨fun i H => ∃ (xs : List V) (x : V), SqT K H a xs ∧ xs[i]? = some x, fun i H v H' => ∃ T x, v = .ref T ∧ H T = none ∧ H' = upd H T (.tup [.int (k0 + (i : Nat)), x]) ∧ ∀ xs, SqT K H a xs → xs[i]? = some x, fun i H => ∃ xs : List V, SqT K H a xs ∧ xs.length ≤ i⟩
theorem turn_enumT {P : Program} {w : World} {K : PySem.W.Frag} {elts : List Expr} {kk : Nat} {tpos : Pos} (k0 : Int) (a e it : Addr) :
    Turn P w K (.Tuple elts kk tpos) (IteT K k0 a) [e, it] e (fun i h => (∃ old, IsEnum h e it (k0 + ((i : Nat) : Int)) old) ∧ h.IsTupleIter it a i ∧ e ≠ it ∧ a ≠ e ∧ a ≠ it) where
  mem := by simp
  obj := fun i h st b hb => by
    obtain ⟨⟨old, he⟩, ⟨o, ho, hc, hd⟩, _⟩ := st
    have e' : b = e ∨ b = it := by simpa using hb
    rcases e' with z | z
    · rw [z]; exact ⟨_, he, fun v q => nomatch q⟩
    · rw [z]; exact ⟨o, ho, fun v q => by rw [hd] at q; cases q⟩
  keep := fun i h h' st k => let ⟨⟨old, he⟩, hi, hne⟩ := st; ⟨⟨old, k e (by simp) _ he⟩, hi.at fun o q => k it (by simp) o q, hne⟩
  item := by
    intro X hP hw hK hc i pins s σ H E I hf st hg
    subst hP hw hK
    obtain ⟨⟨old, he⟩, hit, hne, hae, hai⟩ := st
    obtain ⟨xs, x, hq, hx⟩ := hg
    obtain ⟨its, rv, p, hz⟩ := I.tuple hq
    obtain ⟨u, hu, ru⟩ := rv.get hx
    have hel : e < s.heap.objs.size := Heap.lt_size he
    have hil : it < s.heap.objs.size := by obtain ⟨_, q, _⟩ := hit; exact Heap.lt_size q
    have hlt : i < its.toArray.size := by
      have := (List.getElem?_eq_some_iff.mp hu).1
      simpa using this
    refine wpAny_pyNext_enum_itemC (Draws.tuple (A := X.A.in1) (show X.A.in1.handled = none from I.ok.hd hc) it a hai its.toArray) he ⟨hit, p⟩ hlt hne (by simp; exact ⟨hne, Ne.symm hae⟩) fun x' h' tk hx' ho hs' hT hsz hk => ?_
    have ex : x' = u := by
      have h1 : its[i]? = some x' := by simpa using hx'
      rw [hu] at h1
      cases h1
      rfl
    subst ex
    refine ⟨_, rfl, wpAny_letOwnedTupleGo_enum (s := { s with heap := h', toks := tk + 1 }) ho fun h'' he' sb => ?_⟩
    have hT2 : h''.get? s.heap.objs.size = some { cls := .type "tuple", data := .seq #[.int (k0 + (i : Int)) tk, x'] } := (sb.2 _ (Nat.ne_of_gt hel)).trans hT
    have new : ObjOk X.prog X.w (upd H s.heap.objs.size (.tup [.int (k0 + (i : Nat)), x])) h'' s.heap.objs.size (.tup [.int (k0 + (i : Nat)), x]) :=
      ⟨by show 2 ≤ sizeLine; decide, [.int (k0 + (i : Int)) tk, x'], .cons ⟨_, rfl⟩ (.cons ru .nil), ⟨_, hT2, rfl, _, rfl⟩⟩
    have I1 : Inv X pins σ (upd H s.heap.objs.size (.tup [.int (k0 + (i : Nat)), x])) { s with heap := h'', toks := tk + 1 } :=
      I.turnedNew (t' := tk + 1) (ch := [e, it]) (fun b ob hb q => (sb.2 b (fun z => hb (by simp [z]))).trans (hk b ob (fun z => hb (by simp [z])) (fun z => hb (by simp [z])) q)) hf (Nat.le_refl _) new
    refine ⟨.ref s.heap.objs.size, _, I1, rfl, ⟨_, x, rfl, I.hok.fresh (Nat.le_refl _), rfl, fun ys hy => by rw [I.tuple_inj hy hq]; exact hx⟩, ⟨⟨x', ?_⟩, hs'.1.at fun o q => (sb.2 it (Ne.symm hne)).trans q, hne, hae, hai⟩, fun b hb => ?_⟩
    · have e1 : k0 + ((i + 1 : Nat) : Int) = k0 + (i : Int) + 1 := by omega
      rw [e1]; exact he'
    · have hb' : b < s.heap.objs.size := by
        have e' : b = e ∨ b = it := by simpa using hb
        rcases e' with z | z
        · rw [z]; exact hel
        · rw [z]; exact hil
      rw [upd_ne (Nat.ne_of_lt hb')]
      exact (hf b hb).1
  done := by
    intro X hP hw hK hc i pins s σ H E I hf st hg
    subst hP hw hK
    obtain ⟨⟨old, he⟩, hit, hne, hae, hai⟩ := st
    obtain ⟨xs, hq, hx⟩ := hg
    obtain ⟨its, rv, p, hz⟩ := I.tuple hq
    obtain ⟨f0, f1, f2, f3, f4, f5⟩ := hf it (by simp)
    have hl := rv.length
    have D : Draws X.prog X.w X.A.in1 it [it, a] i (fun _ _ => False) (fun j h => j = i ∧ h.IsTupleIter it a i ∧ h.IsTuple a its.toArray) :=
      { live := fun _ _ st => let ⟨o, ho, _⟩ := st.2.1; ⟨o, ho⟩
        frame := fun _ _ _ st hk => ⟨st.1, st.2.1.at fun o e => hk it (by simp) o e, st.2.2.at fun o e => hk a (by simp) o e⟩
        item := fun j s Q E hi st hQ => by have := st.1; omega
        done := fun s Q E st hE => wpAny_nextOf_tuple_end (show X.A.in1.handled = none from I.ok.hd hc) st.2.1 st.2.2 (by simp; omega) hE }
    exact wpAny_pyNext_enum_endD D he ⟨rfl, hit, p⟩ fun h' eb => ⟨rfl, I.turned (t' := s.toks) (fun b o hb q => eb b o hb q) f0 f1 f3 f4 f5⟩
  self := fun A i s Q E st h => let ⟨⟨_, he⟩, _⟩ := st; wpAny_pyIter_enum he h
theorem meets_enum_new1 {v : Value} {o : Obj} {H : Heap → Prop} (B : Begins v o H) :
    Meets (Builtin.«enumerate.__new__» ⟨[.type "enumerate", v], []⟩) (fun _ R s => H s.heap ∧
      R (.ok (.ret (.ref (s.heap.push o).objs.size))) { s with heap := (s.heap.push o).push { cls := .type "enumerate", data := .fields #[.none, .bool false, .ref s.heap.objs.size, rawInt 0, .none, .none] } }) :=
  .of_wp fun prog w A R s h => by
    obtain ⟨hp, g, d, tk, os⟩ := s; obtain ⟨h1, h⟩ := h
    have hsub := sub_enumerate
    have q1 : ∀ {A' : Around} {E : Value → Shared → Prop} {Q : Value → Shared → Prop}, Q (.ref hp.objs.size) ⟨hp.push o, g, d, tk, os⟩ → wpAny (model prog w) A' (pyIter v) Q E ⟨hp, g, d, tk, os⟩ :=
      fun q => B.iter prog w _ _ ⟨hp, g, d, tk, os⟩ _ h1 q
    wp_walk using q1
    refine wpAny_stack_any fun st => wpAny_pure ?_
    split
    · rename_i c _ _ _ _ _
      cases (c == Value.type "enumerate")
      · wp_walk using q1
        exact ⟨_, rfl, h⟩
      · wp_walk using q1
        exact ⟨_, rfl, h⟩
    · wp_walk using q1
      exact ⟨_, rfl, h⟩
section
variable {prog : Program} {w : World} {A : Around} {E : Value → Shared → Prop} {s : Shared}
theorem enum_begins1 {v : Value} {o : Obj} {H : Heap → Prop} {Q : Value → Shared → Prop} (B : Begins v o H) (h1 : H s.heap)
    (h : ∀ h', IsEnum h' (s.heap.objs.size + 1) s.heap.objs.size 0 .none → h'.get? s.heap.objs.size = some o → h'.objs.size = s.heap.objs.size + 2 →
      (∀ b o, s.heap.get? b = some o → h'.get? b = some o) → Q (.ref (s.heap.objs.size + 1)) { s with heap := h' }) :
    wpAny (model prog w) A (call (.type "enumerate") [v]) Q E s := by
  refine callType_new F.called_enumerate (by decide) (F.typeCall_enumerate_1 _) (F.newCall_enumerate_1 _) (fun obj => F.args_object_init_2 obj _) F.entry_enumerate_new
    (meets_enum_new1 B) ⟨h1, ?_⟩
  have hz : (s.heap.push o).objs.size = s.heap.objs.size + 1 := Heap.size_push ..
  show _ ∧ _
  rw [hz]
  have he : IsEnum ((s.heap.push o).push { cls := .type "enumerate", data := .fields #[.none, .bool false, .ref s.heap.objs.size, rawInt 0, .none, .none] }) (s.heap.objs.size + 1) s.heap.objs.size 0 .none := by
    have := Heap.get?_push_size (s.heap.push o) (o := { cls := .type "enumerate", data := .fields #[.none, .bool false, .ref s.heap.objs.size, rawInt 0, .none, .none] }) rfl
    rw [hz] at this; exact this
  refine ⟨⟨_, he, rfl⟩, h _ he (Heap.get?_push_of_some _ (Heap.get?_push_size _ B.free)) (by rw [Heap.size_push, hz]) fun b o x => Heap.get?_push_of_some _ (Heap.get?_push_of_some _ x)⟩
end
def iEnumTA (K : PySem.W.Frag) (ta : TA) : TI := fun σ H R => ta σ H fun vs H1 => ∃ a xs, vs = [.ref a] ∧ ((SqL K H1 a xs ∧ R (Ite K a) H1) ∨ (SqT K H1 a xs ∧ R (IteT K 0 a) H1))
theorem pi_enumTA {X : Cx} {e : Expr} {ta : TA} {p pos tpos : Pos} {elts : List Expr} {kk : Nat} (hg : Gl X "enumerate") (hm : X.mg "enumerate" = none) (ha : PA X [e] ta) (hs : starEach [e] X.env = [(false, eval e X.env)] := by rfl) :
    PI X (.Tuple elts kk tpos) (.Call (.Name "enumerate" p) [e] [] pos) (iEnumTA X.K ta) := by
  refine ⟨fun pins s σ H R I h => ?_⟩
  refine Call_ (ld_blt I hg hm boot_enumerate (PyProof.Rows.callWith_type1 (thn (ha.run pos pins s σ H _ I h) fun us s1 ⟨vs, H1, I1, r1, q1⟩ => ?_) hs rfl))
  obtain ⟨a, xs, ex, q1⟩ := q1
  subst ex
  cases r1 with
  | cons r rr =>
    cases rr
    cases r
    have fresh2 : ∀ b, b ∈ [s1.heap.objs.size + 1, s1.heap.objs.size] → FpOk X pins H1 b := fun b hb => by
      have e' : b = s1.heap.objs.size + 1 ∨ b = s1.heap.objs.size := by simpa using hb
      have hle : s1.heap.objs.size ≤ b := by
        rcases e' with z | z
        · rw [z]; exact Nat.le_add_right _ _
        · rw [z]; exact Nat.le_refl _
      exact I1.fpOk hle (I1.hok.fresh hle)
    rcases q1 with ⟨hq, q⟩ | ⟨hq, q⟩
    · obtain ⟨its, rv, p', hz⟩ := I1.list hq
      refine call_enumerate_list p'.isList fun h' he hit hsz hk => wpAny_pyIter_enum he ?_
      have I2 : Inv X pins σ H1 { s1 with heap := h' } := I1.kept (t' := s1.toks) hk
      exact ⟨s1.heap.objs.size + 1, [s1.heap.objs.size + 1, s1.heap.objs.size], _, _, H1, rfl, I2, turn_enum a (s1.heap.objs.size + 1) s1.heap.objs.size, ⟨⟨.none, he⟩, hit, Nat.succ_ne_self _⟩, fresh2, q⟩
    · obtain ⟨its, rv, p', hz⟩ := I1.tuple hq
      have hal : a < s1.heap.objs.size := by obtain ⟨_, y, _⟩ := p'; exact Heap.lt_size y
      refine enum_begins1 (begins_tuple a its.toArray) p' fun h' he hit hsz hk => wpAny_pyIter_enum he ?_
      have I2 : Inv X pins σ H1 { s1 with heap := h' } := I1.kept (t' := s1.toks) hk
      exact ⟨s1.heap.objs.size + 1, [s1.heap.objs.size + 1, s1.heap.objs.size], _, _, H1, rfl, I2, turn_enumT 0 a (s1.heap.objs.size + 1) s1.heap.objs.size, ⟨⟨.none, by simpa using he⟩, ⟨_, hit, rfl, rfl⟩, Nat.succ_ne_self _, Nat.ne_of_lt (Nat.lt_succ_of_lt hal), Nat.ne_of_lt hal⟩, fresh2, q⟩
/-- enumerate of a list or a tuple -/
@[simp ↓] def iEnum (a : WE) : WI := fun env g Y => evL [a] env (fun ds env' => ∃ d xs, ds = [d] ∧ Sw.items? d = some xs ∧ g (enumD xs) env') Y
section
variable {X : Cx} {W : WX} {B : Bd} {σ : L2.St} {H F : Hp} {env : En} {Y : XP} {K : PySem.W.Frag}
theorem walks_enumT {a : Addr} {vs : List V} {xs : List D} (h1 : SqT K F a vs) (r1 : RepL K F vs xs) : Walks K (IteT K 0 a) F (enumD xs) where
  stop := fun i H F' s1 s2 hi => by
    have hi : xs.length ≤ i := by simpa [enumD] using hi
    exact ⟨vs, same_seqT (s1.trans s2) h1, by rw [r1.length]; exact hi⟩
  go := fun i H F' s1 s2 hi => by
    have hi : i < xs.length := by simpa [enumD] using hi
    have l1 : i < vs.length := by rw [r1.length]; exact hi
    exact ⟨vs, vs[i], same_seqT (s1.trans s2) h1, List.getElem?_eq_getElem l1⟩
  yld := fun i H F' v H' d s1 s2 hd ⟨T, x, e, hT, eH, f1⟩ => by
    have hx : ∃ dx, xs[i]? = some dx ∧ d = .tuple [.int (i : Nat), dx] := by
      unfold enumD at hd
      rw [List.getElem?_map, List.getElem?_zipIdx] at hd
      cases z : xs[i]? with
      | none => rw [z] at hd; cases hd
      | some p =>
        rw [z] at hd
        cases hd
        exact ⟨p, rfl, by simp⟩
    obtain ⟨dx, gx, rfl⟩ := hx
    obtain ⟨vx, hx, rx⟩ := r1.get gx
    have e1 := f1 vs (same_seqT (s1.trans s2) h1)
    rw [hx] at e1
    cases e1
    rw [Int.zero_add] at eH
    subst e eH
    exact .inr ⟨T, _, hT, rfl, pair_rep (none_sub s2 hT) (.int _) (rx.mono s1)⟩
theorem pi_iEnum {ea : Expr} {f : WE} {p pos tpos : Pos} {elts : List Expr} {kk : Nat} (hg : Gl X "enumerate") (hm : X.mg "enumerate" = none) (ha : PA X [ea] (tCons (semE X W f) tNil)) (hs : starEach [ea] X.env = [(false, eval ea X.env)] := by rfl) : PI X (.Tuple elts kk tpos) (.Call (.Name "enumerate" p) [ea] [] pos) (semI X W (iEnum f)) :=
  piOf (pi_enumTA hg hm ha hs) fun σ H Q ⟨B, F, env, G, Y, R, h, ok, x⟩ => evL_ok (fs := [f]) R h x fun ds env' vs H' F' ⟨d, xs, e, it, q⟩ R' s r => by
    subst e
    cases r with
    | cons r1 r2 =>
      cases r2
      cases d with
      | list ys =>
        cases it
        cases r1 with
        | lst a1 b1 => exact ⟨_, _, rfl, .inl ⟨SqL.of (R'.sub _ _ a1), ok _ _ _ _ _ q R' s (walks_enumL (SqL.of a1) b1)⟩⟩
      | tuple ys =>
        cases it
        cases r1 with
        | tup a1 b1 => exact ⟨_, _, rfl, .inr ⟨same_seqT R'.sub a1, ok _ _ _ _ _ q R' s (walks_enumT a1 b1)⟩⟩
      | _ => cases it
end
end Sw

/-! comprehensions and loops by items; how long a text is -/
namespace Sw
open PySem PySem.Spec PyProof.Rows L2
/-- a list written out, item by item, the state as it was -/
theorem compL_map {α : Type} {en h : α → D} {t : Tg} {el : WE} {vs : List Nat} {g : List D → En → Prop} {xs : List α} {e : En} (hl : xs.length ≤ sizeLine)
    (hs : ∀ x ∈ xs, ∀ N : D → En → Prop, N (h x) e → asg t (en x) e fun e2 => el e2 (fun c e4 => c.isSc = false ∧ N c.toD (wipeE e4 vs)) (fun _ => False))
    (hd : g (xs.map h) e) : compL t none el vs g (xs.map en) [] e := by
  have main : ∀ (ys : List α) (acc : List α), acc ++ ys = xs → compL t none el vs g (ys.map en) (acc.map h) e := fun ys => by
    induction ys with
    | nil => intro acc hx; rw [List.append_nil] at hx; subst hx; exact hd
    | cons y ys ih =>
      intro acc hx
      rw [List.map_cons, compL_c]
      have hlt : (acc.map h).length < sizeLine := by
        rw [← hx] at hl
        simp only [List.length_append, List.length_cons] at hl
        rw [List.length_map]
        omega
      refine hs y (by rw [← hx]; simp) (fun d e' => (acc.map h).length < sizeLine ∧ compL t none el vs g (ys.map en) (acc.map h ++ [d]) e') ⟨hlt, ?_⟩
      have := ih (acc ++ [y]) (by rw [← hx]; simp)
      rwa [List.map_append] at this
  exact main xs [] rfl
/-- with a test -/
theorem compL_filter {α : Type} {en h : α → D} {p : α → Bool} {t : Tg} {tt : WT} {el : WE} {vs : List Nat} {g : List D → En → Prop} {xs : List α} {e : En} (hl : xs.length ≤ sizeLine)
    (hs : ∀ x ∈ xs, ∀ (N : D → En → Prop) (Z : En → Prop), (p x = true → N (h x) e) → (p x = false → Z e) → asg t (en x) e fun e2 => tt e2 (fun k e3 => if k = true then el e3 (fun c e4 => c.isSc = false ∧ N c.toD (wipeE e4 vs)) (fun _ => False) else Z (wipeE e3 vs)) (fun _ => False))
    (hd : g ((xs.filter p).map h) e) : compL t (some tt) el vs g (xs.map en) [] e := by
  have main : ∀ (ys : List α) (acc : List α), acc ++ ys = xs → compL t (some tt) el vs g (ys.map en) ((acc.filter p).map h) e := fun ys => by
    induction ys with
    | nil => intro acc hx; rw [List.append_nil] at hx; subst hx; exact hd
    | cons y ys ih =>
      intro acc hx
      rw [List.map_cons, compL_c]
      have hlt : ((acc.filter p).map h).length < sizeLine := by
        rw [← hx] at hl
        simp only [List.length_append, List.length_cons] at hl
        rw [List.length_map]
        have := List.length_filter_le p acc
        omega
      have nx := ih (acc ++ [y]) (by rw [← hx]; simp)
      rw [List.filter_append, List.map_append] at nx
      refine hs y (by rw [← hx]; simp) (fun d e' => ((acc.filter p).map h).length < sizeLine ∧ compL t (some tt) el vs g (ys.map en) ((acc.filter p).map h ++ [d]) e') (fun e' => compL t (some tt) el vs g (ys.map en) ((acc.filter p).map h) e') (fun hp => ⟨hlt, ?_⟩) fun hp => ?_
      · rw [List.filter_cons, if_pos hp, List.filter_nil] at nx
        exact nx
      · rw [List.filter_cons, if_neg (by rw [hp]; exact Bool.false_ne_true), List.filter_nil, List.map_nil, List.append_nil] at nx
        exact nx
  exact main xs [] rfl
/-- a loop over items of a kind -/
theorem forL_map {α : Type} {en : α → D} {vs : List Nat} {t : Tg} {b : WS} {S : SK} {xs : List α} (I : Nat → En → Prop)
    (hs : ∀ (i : Nat) (hi : i < xs.length) (e : En) (N : En → Prop), I i e → (∀ e', I (i + 1) (dropE e' vs) → N e') → asg t (en xs[i]) e fun e2 => b e2 { S with nx := N, ct := N, bk := fun e3 => S.nx e3 })
    (hd : ∀ e, I xs.length e → S.nx e) {e : En} (h0 : I 0 e) : forL vs t b S (xs.map en) e := by
  refine forL_idx (ds := xs.map en) I (fun i hi e N hI hN => ?_) (fun e h => hd e (by rwa [List.length_map] at h)) h0
  have hi' : i < xs.length := by rwa [List.length_map] at hi
  have := hs i hi' e N hI hN
  rw [List.getElem_map]
  exact this
/-- a loop whose state is told by a thing that each item changes -/
theorem forL_fold {α β : Type} {en : α → D} {vs : List Nat} {t : Tg} {b : WS} {S : SK} {xs : List α} (E : β → En) (st : β → α → β) {b0 : β}
    (hs : ∀ x ∈ xs, ∀ (y : β) (N : En → Prop), (∀ e', dropE e' vs = E (st y x) → N e') → asg t (en x) (E y) fun e2 => b e2 { S with nx := N, ct := N, bk := fun e3 => S.nx e3 })
    (hd : S.nx (E (xs.foldl st b0))) : forL vs t b S (xs.map en) (E b0) := by
  refine forL_map (fun i e => e = E ((xs.take i).foldl st b0)) (fun i hi e N hI hN => ?_) (fun e h => ?_) (by simp)
  · subst hI
    refine hs _ (List.getElem_mem hi) _ N fun e' he' => hN e' ?_
    rw [he', List.take_add_one, List.getElem?_eq_getElem hi, Option.toList_some, List.foldl_append]
    rfl
  · rw [h, List.take_length]
    exact hd
/-! ### how long a text is -/
mutual
def wt : D → Nat
  | .none => 10
  | .bool _ => 10
  | .int _ => 1930
  | .str x => if x.cps.all (· < 4294967296) then 10 * x.length + 10 else (reprText x).length
  | .list xs => wtA xs + 10
  | .tuple xs => wtA xs + 10
  | .dict _ => 0
def wtA : List D → Nat
  | [] => 0
  | x :: xs => wt x + 2 + wtA xs
end
@[simp] theorem wt_n : wt .none = 10 := by unfold wt; rfl
@[simp] theorem wt_b {b} : wt (.bool b) = 10 := by unfold wt; rfl
@[simp] theorem wt_i {b} : wt (.int b) = 1930 := by unfold wt; rfl
@[simp] theorem wt_s {x} : wt (.str x) = if x.cps.all (· < 4294967296) then 10 * x.length + 10 else (reprText x).length := by unfold wt; rfl
@[simp] theorem wt_l {x} : wt (.list x) = wtA x + 10 := by rw [wt]
@[simp] theorem wt_t {x} : wt (.tuple x) = wtA x + 10 := by rw [wt]
@[simp] theorem wtA_n : wtA [] = 0 := by unfold wtA; rfl
@[simp] theorem wtA_c {x xs} : wtA (x :: xs) = wt x + 2 + wtA xs := by rw [wtA]
theorem wtA_le {xs : List D} {k : Nat} (h : ∀ x ∈ xs, wt x ≤ k) : wtA xs ≤ xs.length * (k + 2) := by
  induction xs with
  | nil => simp
  | cons x xs ih =>
    have h1 := h x List.mem_cons_self
    have h2 := ih fun y hy => h y (List.mem_cons_of_mem _ hy)
    rw [wtA_c, List.length_cons, Nat.add_mul]
    omega
theorem listText_len : ∀ ts : List Str, (listText ts).length ≤ piled ts + 2
  | [] => by rw [listText_nil]; decide
  | t :: ts => by
    have h := textFrom_length_pos ts 1 (("[" : Str) ++ (if 0 > 0 then ", " else "" : String) ++ t) (by decide)
    have e : (("[" : Str) ++ (if 0 > 0 then ", " else "" : String) ++ t).length = 1 + 0 + t.length := by
      rw [strLen_append, strLen_append]
      rfl
    unfold listText
    rw [strLen_append]
    have e2 : (textFrom 0 "[" (t :: ts)).length = 1 + 0 + t.length + piled ts := by
      rw [← e]
      exact h
    have e3 : (("]" : String) : Str).length = 1 := rfl
    rw [e2, e3, piled_cons]
    omega
theorem tupleText_len (ts : List Str) : (tupleText ts).length ≤ piled ts + 3 := by
  unfold tupleText
  rw [strLen_append, strLen_append]
  have e1 : (("(" : String) : Str).length = 1 := rfl
  have e2 : ((if ts.length == 1 then ",)" else ")" : String) : Str).length ≤ 2 := by
    split <;> decide
  have e3 : (Str.join ", " ts).length ≤ piled ts := by
    cases ts with
    | nil => exact Nat.le_refl 0
    | cons t ts =>
      have := join_length_add (t :: ts) (by simp)
      omega
  rw [e1]
  omega
mutual
theorem shown_len : ∀ {d : D}, d.plain = true → d.showable = true → d.shown.length ≤ wt d
  | .none, _, _ => by rw [wt_n]; unfold PyData.shown; decide
  | .bool b, _, _ => by rw [wt_b]; unfold PyData.shown; cases b <;> decide
  | .int i, _, h => by
    have h' : i.natAbs.log2 < 1920 := by simpa [PyData.showable] using h
    have := int_text_len_1921 h'
    rw [wt_i]
    unfold PyData.shown
    omega
  | .str x, _, _ => by
    rw [wt_s]
    unfold PyData.shown
    split
    · rename_i h
      have := StrLaws.reprText_len x (fun c hc => by
        have h2 := (Array.all_eq_true_iff_forall_mem.mp h) c (by simpa using hc)
        have h3 : c < 4294967296 := by simpa using h2
        exact Nat.lt_of_lt_of_le h3 (by decide))
      omega
    · exact Nat.le_refl _
  | .list xs, p, h => by
    have := shownA_len (xs := xs) (by simpa using p) (by simpa [PyData.showable] using h)
    rw [wt_l, PyData.shown]
    have := listText_len (PyData.shownAll xs)
    omega
  | .tuple xs, p, h => by
    have := shownA_len (xs := xs) (by simpa using p) (by simpa [PyData.showable] using h)
    rw [wt_t, PyData.shown]
    have := tupleText_len (PyData.shownAll xs)
    omega
  | .dict _, p, _ => by simp [PyData.plain] at p
theorem shownA_len : ∀ {xs : List D}, PyData.plainAll xs = true → PyData.showableAll xs = true → piled (PyData.shownAll xs) ≤ wtA xs
  | [], _, _ => by rw [wtA_n]; unfold PyData.shownAll; exact Nat.le_refl 0
  | x :: xs, p, h => by
    rw [plainA_c, Bool.and_eq_true] at p
    have h' : x.showable = true ∧ PyData.showableAll xs = true := by simpa [PyData.showableAll] using h
    have h1 := shown_len p.1 h'.1
    have h2 := shownA_len p.2 h'.2
    rw [wtA_c, PyData.shownAll, piled_cons]
    omega
end
@[simp] theorem showb_n : PyData.showable .none = true := by unfold PyData.showable; rfl
@[simp] theorem showb_b {b} : PyData.showable (.bool b) = true := by unfold PyData.showable; rfl
@[simp] theorem showb_s {b} : PyData.showable (.str b) = true := by unfold PyData.showable; rfl
theorem showb_i {i : Int} {k : Nat} (h : Sm k i) (hk : k < 1920) : PyData.showable (.int i) = true := by
  unfold PyData.showable
  have := h.log
  simp
  omega
@[simp] theorem showb_l {xs} : PyData.showable (.list xs) = PyData.showableAll xs := by rw [PyData.showable]
@[simp] theorem showb_t {xs} : PyData.showable (.tuple xs) = PyData.showableAll xs := by rw [PyData.showable]
@[simp] theorem showbA_n : PyData.showableAll [] = true := by unfold PyData.showableAll; rfl
@[simp] theorem showbA_c {x xs} : PyData.showableAll (x :: xs) = (PyData.showable x && PyData.showableAll xs) := by rw [PyData.showableAll]
theorem showbA_all {xs : List D} (h : ∀ x ∈ xs, x.showable = true) : PyData.showableAll xs = true := by
  induction xs with
  | nil => simp
  | cons x xs ih => rw [showbA_c, h x List.mem_cons_self, ih fun y hy => h y (List.mem_cons_of_mem _ hy)]; rfl
theorem plainA_all {xs : List D} (h : ∀ x ∈ xs, x.plain = true) : PyData.plainAll xs = true := by
  induction xs with
  | nil => simp
  | cons x xs ih => rw [plainA_c, h x List.mem_cons_self, ih fun y hy => h y (List.mem_cons_of_mem _ hy)]; rfl
theorem depthA_le {xs : List D} {k : Nat} (h : ∀ x ∈ xs, x.depth ≤ k) : PyData.depthAll xs ≤ k := by
  induction xs with
  | nil => simp
  | cons x xs ih =>
    have h1 := h x List.mem_cons_self
    have h2 := ih fun y hy => h y (List.mem_cons_of_mem _ hy)
    rw [depthA_c]
    omega
/-- what may be shown: of one kind, not too deep, not too much -/
structure Shw (k w : Nat) (d : D) : Prop where
  p : d.plain = true
  s : d.showable = true
  t : d.depth ≤ k
  w : wt d ≤ w
theorem Shw.int {i : Int} {b k : Nat} (h : Sm b i) (hk : b < 1920) : Shw k 1930 (.int i) := ⟨by simp, showb_i h hk, by simp, by simp⟩
theorem Shw.mono {k k' w w' : Nat} {d : D} (h : Shw k w d) (h1 : k ≤ k') (h2 : w ≤ w') : Shw k' w' d := ⟨h.p, h.s, Nat.le_trans h.t h1, Nat.le_trans h.w h2⟩
theorem Shw.tuple {k w : Nat} {xs : List D} (h : ∀ x ∈ xs, Shw k w x) : Shw (k + 1) (xs.length * (w + 2) + 10) (.tuple xs) :=
  ⟨by rw [plain_t]; exact plainA_all fun x hx => (h x hx).p, by rw [showb_t]; exact showbA_all fun x hx => (h x hx).s, by rw [depth_t]; have := depthA_le fun x hx => (h x hx).t; omega, by rw [wt_t]; have := wtA_le fun x hx => (h x hx).w; omega⟩
theorem Shw.list {k w : Nat} {xs : List D} (h : ∀ x ∈ xs, Shw k w x) : Shw (k + 1) (xs.length * (w + 2) + 10) (.list xs) :=
  ⟨by rw [plain_l]; exact plainA_all fun x hx => (h x hx).p, by rw [showb_l]; exact showbA_all fun x hx => (h x hx).s, by rw [depth_l]; have := depthA_le fun x hx => (h x hx).t; omega, by rw [wt_l]; have := wtA_le fun x hx => (h x hx).w; omega⟩
theorem Shw.frac {q : Rat} {b : Nat} (h : Bq b q) (hk : b < 1920) : Shw 1 3900 (Frac q) := by
  have := Shw.tuple (k := 0) (w := 1930) (xs := [.int q.num, .int (q.den : Int)]) (fun x hx => by
    simp at hx
    rcases hx with rfl | rfl
    · exact Shw.int h.1 hk
    · exact Shw.int h.2 hk)
  exact this.mono (Nat.le_refl _) (by simp)
theorem gRepr_ok {d : D} {P : Cl → Prop} {k w : Nat} (h : Shw k w d) (hi : ∃ xs, Sw.items? d = some xs) (hk : k ≤ 60) (hw : w ≤ 16777216) (hp : P (.fz (.str d.shown))) : gRepr d P :=
  ⟨hi, h.p, h.s, Nat.le_trans h.t hk, by have := shown_len h.p h.s; have := h.w; rw [sizeLine_eq]; omega, hp⟩
end Sw

/-! a name's thing let be once it is stored -/
namespace Sw
open PySem PySem.Spec PyProof.Rows L2
def frzAt (e : En) (i : Nat) (P : En → Prop) : Prop := match e[i]? with
  | some (some (.ow o)) => o.isOb = false ∧ P (e.set i (some (.fz o.toD)))
  | _ => P e
@[simp ↓] theorem frzAt_ow {e : En} {i : Nat} {P : En → Prop} {o : OD} (h : e[i]? = some (some (.ow o))) : frzAt e i P = (o.isOb = false ∧ P (e.set i (some (.fz o.toD)))) := by
  unfold frzAt; rw [h]
@[simp ↓] theorem frzAt_fz {e : En} {i : Nat} {P : En → Prop} {d : D} (h : e[i]? = some (some (.fz d))) : frzAt e i P = P e := by
  unfold frzAt; rw [h]
@[simp ↓] def sFz (i : Nat) (w : WS) : WS := fun env S => w env { S with nx := fun e => frzAt e i S.nx }
section
variable {X : Cx} {W : WX}
theorem fz_imp {i : Nat} {w : WS} : ∀ D σ H, semS X W (sFz i w) D σ H → semS X W w D σ H := fun D σ H ⟨B, F, env, S, R, h, ok, x⟩ =>
  ⟨B, F, env, _, R, h, ⟨fun e σ' H' F' p R' s => by
    have p : frzAt e i S.nx := p
    unfold frzAt at p
    split at p
    · rename_i o ho
      obtain ⟨no, p⟩ := p
      obtain ⟨q, F2, _, s2, _, R2⟩ := R'.freezeAt ho no
      exact ok.nx _ _ _ _ p R2 (s.trans s2)
    · exact ok.nx _ _ _ _ p R' s, ok.rt, ok.bk, ok.ct⟩, x⟩
theorem s_fz {i : Nat} {w : WS} {st : Stmt} (h : PS X st (semS X W w)) : PS X st (semS X W (sFz i w)) := psOf h fz_imp
end
end Sw

/-! names of a block stored at once; the module's data; list(range) -/
namespace Sw
open PySem PySem.Spec PyProof.Rows L2
section
variable {X : Cx} {W : WX} {pos : Pos} {ea eb ec ed : Expr} {f g h q : WE} {i j l o : Nat} {tg : Expr} {k2 : Nat} {pt2 : Pos}
theorem parT_imp {is : List Nat} {fs : List WE} {G : TG} (hG : ∀ (vs : List V) (T : Addr) (σ : L2.St) (H : Hp) (Q : L2.St → Hp → Prop), vs.length = is.length → SqT X.K H T vs → Q (setAll is vs σ) H → G (.ref T) σ H Q) (hz : is.length ≤ 100) : ∀ D σ H, semS X W (sPar is fs) D σ H → tAsg (tTup (tEs X W fs)) G D σ H := fun D σ H h =>
  par_core (fs := fs) h fun vs H1 hl _ qT => ⟨by rw [hl, sizeLine_eq]; omega, fun T hT => hG vs T σ _ _ hl (SqT.of upd_same) (qT T hT)⟩
theorem two_names (i j : Nat) (K : PySem.W.Frag) (vs : List V) (T : Addr) (σ : L2.St) (H : Hp) (Q : L2.St → Hp → Prop) (hl : vs.length = [i, j].length) (s : SqT K H T vs) (p : Q (setAll [i, j] vs σ) H) : gT K (.tp (.cons (.nm i) (.cons (.nm j) .nil))) (.ref T) σ H Q := by
  match vs, hl with
  | [v, w], _ =>
    simp only [gT, gTs]
    exact ⟨T, [v, w], rfl, s, rfl, v, [w], rfl, w, [], rfl, rfl, p⟩
theorem three_names (i j l : Nat) (K : PySem.W.Frag) (vs : List V) (T : Addr) (σ : L2.St) (H : Hp) (Q : L2.St → Hp → Prop) (hl : vs.length = [i, j, l].length) (s : SqT K H T vs) (p : Q (setAll [i, j, l] vs σ) H) : gT K (.tp (.cons (.nm i) (.cons (.nm j) (.cons (.nm l) .nil)))) (.ref T) σ H Q := by
  match vs, hl with
  | [v, w, u], _ =>
    simp only [gT, gTs]
    exact ⟨T, [v, w, u], rfl, s, rfl, v, [w, u], rfl, w, [u], rfl, u, [], rfl, rfl, p⟩
theorem s_parT2 (hg : PG X tg (gT X.K (.tp (.cons (.nm i) (.cons (.nm j) .nil))))) (h1 : PE X ea (semE X W f)) (h2 : PE X eb (semE X W g))
    (hs : swapsWithSole [tg] (.Tuple [ea, eb] k2 pt2) pos.line X.env = pure false := by rfl) (hw : swappedStores [tg] (.Tuple [ea, eb] k2 pt2) X.env = pure none := by rfl) (h0 : (assignEach [tg] X.env).map (·.2) = [assign tg X.env] := by rfl)
    (s1 : starEach [ea, eb] X.env = (false, eval ea X.env) :: starEach [eb] X.env := by rfl) (s2 : starEach [eb] X.env = (false, eval eb X.env) :: starEach [] X.env := by rfl) : PS X (.Assign [tg] (.Tuple [ea, eb] k2 pt2) pos) (semS X W (sPar [i, j] [f, g])) :=
  psOf (ps_asg (pe_tup (pa_cons h1 (pa_cons h2 pa_nil s2) s1)) hg hs hw h0) (parT_imp (fs := [f, g]) (two_names i j X.K) (by simp))
theorem s_parT3 (hg : PG X tg (gT X.K (.tp (.cons (.nm i) (.cons (.nm j) (.cons (.nm l) .nil)))))) (h1 : PE X ea (semE X W f)) (h2 : PE X eb (semE X W g)) (h3 : PE X ec (semE X W h))
    (hs : swapsWithSole [tg] (.Tuple [ea, eb, ec] k2 pt2) pos.line X.env = pure false := by rfl) (hw : swappedStores [tg] (.Tuple [ea, eb, ec] k2 pt2) X.env = pure none := by rfl) (h0 : (assignEach [tg] X.env).map (·.2) = [assign tg X.env] := by rfl)
    (s1 : starEach [ea, eb, ec] X.env = (false, eval ea X.env) :: starEach [eb, ec] X.env := by rfl) (s2 : starEach [eb, ec] X.env = (false, eval eb X.env) :: starEach [ec] X.env := by rfl) (s3 : starEach [ec] X.env = (false, eval ec X.env) :: starEach [] X.env := by rfl) : PS X (.Assign [tg] (.Tuple [ea, eb, ec] k2 pt2) pos) (semS X W (sPar [i, j, l] [f, g, h])) :=
  psOf (ps_asg (pe_tup (pa_cons h1 (pa_cons h2 (pa_cons h3 pa_nil s3) s2) s1)) hg hs hw h0) (parT_imp (fs := [f, g, h]) (three_names i j l X.K) (by simp))
/-! ### list(range(..)) -/
def rgD (a b : Int) : List D := (List.range (b - a).toNat).map fun i : Nat => .int (a + (i : Int))
theorem rg_rep {K : PySem.W.Frag} {F : Hp} (a b : Int) : RepL K F (rgV a b) (rgD a b) := by
  have e1 : rgV a b = ((List.range (b - a).toNat).map fun i : Nat => a + (i : Int)).map V.int := by unfold rgV; rw [List.map_map]; rfl
  have e2 : rgD a b = ((List.range (b - a).toNat).map fun i : Nat => a + (i : Int)).map PyData.int := by unfold rgD; rw [List.map_map]; rfl
  rw [e1, e2]
  exact RepL.of_ints _
def cRg (a b : Int) : Prop := RgOk a b
@[simp ↓] def eLRg1 (a : WE) : WE := fun env P Y => a env (fun c env' => ∃ n, c = .fz (.int n) ∧ RgOk 0 n ∧ P (.ow (.lst (rgD 0 n))) env') Y
@[simp ↓] def eTRg1 (a : WE) : WE := fun env P Y => a env (fun c env' => ∃ n, c = .fz (.int n) ∧ RgOk 0 n ∧ P (.fz (.tuple (rgD 0 n))) env') Y
theorem lrg1_imp {a : WE} : ∀ σ H Q, semE X W (eLRg1 a) σ H Q → tLstRg (tRg1 (semE X W a)) σ H Q := fun σ H Q ⟨B, F, env, P, Y, R, h, ok, x⟩ =>
  ⟨B, F, env, _, Y, R, h, fun c env' v H' F' ⟨n, e, rg, p⟩ R' s => by
    subst e
    have ev := topInt R'
    subst ev
    exact ⟨n, rfl, rg, fun q hq => ok _ _ _ _ _ p ((R'.pop R.nio).fresh hq (show OwnAt X.K (upd H' q (.lst (rgV 0 n))) F' q (.lst (rgD 0 n)) from ⟨_, upd_same, rg_rep 0 n⟩)) s⟩, x⟩
theorem trg1_imp {a : WE} : ∀ σ H Q, semE X W (eTRg1 a) σ H Q → tTupRg (tRg1 (semE X W a)) σ H Q := fun σ H Q ⟨B, F, env, P, Y, R, h, ok, x⟩ =>
  ⟨B, F, env, _, Y, R, h, fun c env' v H' F' ⟨n, e, rg, p⟩ R' s => by
    subst e
    have ev := topInt R'
    subst ev
    refine ⟨n, rfl, rg, fun q hq => ?_⟩
    have Rp := R'.pop R.nio
    have sm : Same F' (upd F' q (.tup (rgV 0 n))) := same_new (Rp.nF hq)
    exact ok _ _ _ _ _ p ((Rp.grow hq).push (.tup (SqT.of upd_same) ((rg_rep 0 n).mono sm))) (s.trans sm), x⟩
variable {p1 p2 : Pos} {e : Expr}
theorem g_lrg1 (hc : X.calm = true) (hg : Gl X "list") (hm : X.mg "list" = none) (hg2 : Gl X "range") (hm2 : X.mg "range" = none) (he : PE X e (semE X W f)) (na : starEach [e] X.env = (false, eval e X.env) :: starEach [] X.env := by rfl)
    (nb : starEach [.Call (.Name "range" p1) [e] [] pt2] X.env = (false, eval (.Call (.Name "range" p1) [e] [] pt2) X.env) :: starEach [] X.env := by rfl) : PE X (.Call (.Name "list" p2) [.Call (.Name "range" p1) [e] [] pt2] [] pos) (semE X W (eLRg1 f)) :=
  peOf (pe_listRg hc hg hm (prg_1 hg2 hm2 he na) nb) lrg1_imp
theorem g_trg1 (hc : X.calm = true) (hg : Gl X "tuple") (hm : X.mg "tuple" = none) (hg2 : Gl X "range") (hm2 : X.mg "range" = none) (he : PE X e (semE X W f)) (na : starEach [e] X.env = (false, eval e X.env) :: starEach [] X.env := by rfl)
    (nb : starEach [.Call (.Name "range" p1) [e] [] pt2] X.env = (false, eval (.Call (.Name "range" p1) [e] [] pt2) X.env) :: starEach [] X.env := by rfl) : PE X (.Call (.Name "tuple" p2) [.Call (.Name "range" p1) [e] [] pt2] [] pos) (semE X W (eTRg1 f)) :=
  peOf (pe_tupRg hc hg hm (prg_1 hg2 hm2 he na) nb) trg1_imp
end
/-! ### the module's data -/
mutual
theorem datB_ok {K : PySem.W.Frag} : ∀ {u : Value} {d : D}, datB K u d = true → ∃ v, RelV v u ∧ ∀ F, Rep K F v d := by
  intro u d
  match d with
  | .none => cases u <;> (intro hb; first | exact ⟨.non, rfl, fun _ => .non⟩ | simp [datB] at hb)
  | .bool c =>
    intro hb
    cases u with
    | bool b =>
      have e : b = c := by simpa [datB] using hb
      subst e
      exact ⟨.bl b, rfl, fun _ => .bl b⟩
    | _ => simp [datB] at hb
  | .int j =>
    intro hb
    cases u with
    | int i t =>
      have e : i = j := by simpa [datB] using hb
      subst e
      exact ⟨.int i, ⟨t, rfl⟩, fun _ => .int i⟩
    | _ => simp [datB] at hb
  | .str y =>
    intro hb
    cases u with
    | str x t =>
      have e : x = y := by simpa [datB] using hb
      subst e
      exact ⟨.str x, ⟨t, rfl⟩, fun _ => .str x⟩
    | _ => simp [datB] at hb
  | .list _ => intro hb; cases u <;> simp [datB] at hb
  | .dict _ => intro hb; cases u <;> simp [datB] at hb
  | .tuple ds =>
    intro hb
    cases u with
    | ref a =>
      unfold datB at hb
      split at hb
      · rename_i c dd its n sl lk
        simp only [Bool.and_eq_true, beq_iff_eq, decide_eq_true_eq] at hb
        obtain ⟨hc, hz, hds⟩ := hb
        obtain ⟨vs, rv, rp⟩ := datsB_ok hds
        exact ⟨.ref a, rfl, fun F => .tup (.inr ⟨_, its, n, lk, by rw [hc], rfl, hz, rv⟩) (rp F)⟩
      · cases hb
    | _ => simp [datB] at hb
theorem datsB_ok {K : PySem.W.Frag} : ∀ {us : List Value} {ds : List D}, datsB K us ds = true → ∃ vs, Vals vs us ∧ ∀ F, RepL K F vs ds := by
  intro us ds
  match us, ds with
  | [], [] => intro _; exact ⟨[], .nil, fun _ => .nil⟩
  | [], _ :: _ => intro hb; simp [datsB] at hb
  | _ :: _, [] => intro hb; simp [datsB] at hb
  | u :: us, d :: ds =>
    intro hb
    simp only [datsB, Bool.and_eq_true] at hb
    obtain ⟨v, r1, p1⟩ := datB_ok hb.1
    obtain ⟨vs, r2, p2⟩ := datsB_ok hb.2
    exact ⟨v :: vs, .cons r1 r2, fun F => .cons (p1 F) (p2 F)⟩
end
/-- a name of the module that stands for data -/
def GloD (K : PySem.W.Frag) (mg : Str → Option Value) (x : Str) (d : D) : Prop := ∃ u v, mg x = some u ∧ RelV v u ∧ ∀ F, Rep K F v d
theorem gloDB_ok {K : PySem.W.Frag} {hp : Heap} {mg : Str → Option Value} {x : Str} {d : D} (KI : K.In hp) (G : hp.Ns mainGlobals mg) (c : gloDB K x d = true) : GloD K mg x d := by
  unfold gloDB at c
  split at c
  · rename_i u hu
    obtain ⟨v, r, p⟩ := datB_ok c
    exact ⟨u, v, PySem.W.mg_of KI G hu, r, p⟩
  · cases c
theorem g_gdat {X : Cx} {W : WX} {pos : Pos} {x : Str} {d : D} (hm : GloD X.K X.mg x d) (hg : Gl X x) (hd : (x == ("__debug__" : Str)) = false := by decide) : PE X (.Name x pos) (semE X W (eD d)) := by
  obtain ⟨u, v, m, r, p⟩ := hm
  exact pe_constD (pe_glob hg m r hd) p
end Sw

/-! xs[::-1] of a tuple or a list -/
namespace Sw
open PySem PySem.Spec PyProof.Rows L2
section
variable {prog : Program} {w : World} {A : Around} {E : Value → Shared → Prop} {s : Shared}
theorem sliceApplied_rev {sl : Addr} {vl vu vs : Value} {n : Nat} {Q : Int × Int × Nat → Shared → Prop} (hs : s.heap.IsSliceOf sl vl vu vs) (pl : IsPart vl none) (pu : IsPart vu none) (ps : IsPart vs (some (-1)))
    (h : Q ((n : Int) - 1, -1, n) s) : wpAny (model prog w) A (Builtin.Slice.sliceApplied (.ref sl) (pure (n : Int))) Q E s := by
  obtain ⟨os, hos, hcs, hds⟩ := id hs
  unfold Builtin.Slice.sliceApplied Builtin.Slice.sliceFields
  refine wpAny_bind (wpAny_bind (wpAny_field hos hds (x := vl) rfl (wpAny_bind (wpAny_field hos hds (x := vu) rfl (wpAny_bind (wpAny_field hos hds (x := vs) rfl (wpAny_pure ?_)))))))
  refine wpAny_bind (HT.slicePart_ ps ?_)
  show wpAny _ _ (if ((-1 : Int) == 0) = true then _ else _) _ _ s
  rw [if_neg (by decide)]
  refine wpAny_bind (HT.slicePart_ pl (wpAny_bind (HT.slicePart_ pu (wpAny_bind (wpAny_pure ?_)))))
  show wpAny _ _ (pure ((n : Int) - 1, (-1 : Int), Builtin.Slice.slicePlaces ((n : Int) - 1) (-1) (-1))) _ _ s
  have e : Builtin.Slice.slicePlaces ((n : Int) - 1) (-1) (-1) = n := by
    unfold Builtin.Slice.slicePlaces
    rw [if_neg (by decide)]
    by_cases h0 : (n : Int) - 1 > -1
    · rw [if_pos h0]
      have : ((n : Int) - 1 - -1 - 1) / (- -1) = (n : Int) - 1 := by
        rw [show (- -1 : Int) = 1 from rfl, Int.ediv_one]
        omega
      rw [this]
      omega
    · rw [if_neg h0]
      omega
  rw [e]
  exact wpAny_pure h
theorem fm_congr {α β : Type} {f g : α → Option β} : ∀ {l : List α}, (∀ x ∈ l, f x = g x) → l.filterMap f = l.filterMap g
  | [], _ => rfl
  | a :: l, h => by rw [List.filterMap_cons, List.filterMap_cons, h a (List.mem_cons_self ..), fm_congr fun x hx => h x (List.mem_cons_of_mem _ hx)]
theorem pick_rev (xs : Array Value) : ((List.range xs.size).filterMap fun (m : Nat) => xs[((xs.size : Int) - 1 + (m : Int) * (-1)).toNat]?).toArray = xs.toList.reverse.toArray := by
  have e : ((List.range xs.size).filterMap fun (m : Nat) => xs[((xs.size : Int) - 1 + (m : Int) * (-1)).toNat]?) = ((List.range xs.size).map fun k => xs.size - 1 - k).filterMap (xs[·]?) := by
    rw [List.filterMap_map]
    apply fm_congr
    intro m hm
    have := List.mem_range.mp hm
    have q : ((xs.size : Int) - 1 + (m : Int) * (-1)).toNat = xs.size - 1 - m := by omega
    rw [q]
    rfl
  rw [e, PySem.W.krv_range, List.filterMap_reverse, PySem.W.krv_all]
theorem getItem_tuple_rev {t sl : Addr} {items : Array Value} {vl vu vs : Value} {Q : Value → Shared → Prop} (ht : IsTup s.heap t items) (hs : s.heap.IsSliceOf sl vl vu vs) (pl : IsPart vl none) (pu : IsPart vu none) (ps : IsPart vs (some (-1)))
    (h : Q (.ref s.heap.objs.size) { s with heap := s.heap.push { cls := .type "tuple", data := .seq items.toList.reverse.toArray } })
    (hsz : items.size ≤ sizeLine) : wpAny (model prog w) A (getItem (.ref t) (.ref sl)) Q E s := by
  have htake : sizeOk (.seq items.toList.reverse.toArray) := by
    show items.toList.reverse.toArray.size ≤ sizeLine
    rw [List.size_toArray, List.length_reverse, Array.length_toList]
    omega
  obtain ⟨os, hos, hcs, hds⟩ := id hs
  have hTs : s.TypeIs (.ref sl) "slice" := ⟨os, hos, hcs⟩
  unfold getItem
  try with_reducible refine wpAny_holding ?_
  first | refine wpAny_bind (wpAny_pure ?_) | skip
  refine wpAny_bind (wpAny_sequenceKey ht.typeIs (by decide) ?_)
  refine wpAny_bind (wpAny_callSpecial?_slot (name := Str.ofString "__getitem__") ht.typeIs PyProof.Rows.slot_tuple_getitem
    (wpAny_call_entry PyProof.Rows.slot_tuple_getitem ht.typeIs entry_tuple_getitem ?_ (args_tuple_getitem _ _)))
  show wpAny _ _ (Builtin.Tuple.tupleItemsOf (.ref t) >>= _) _ _ s
  refine wpAny_bind (tupleItemsOf_ ht ?_)
  refine wpAny_bind (wpAny_typeOf hTs ?_)
  rw [if_pos (by decide)]
  refine wpAny_bind (sliceApplied_rev hs pl pu ps ?_)
  have hno : ¬ (((((items.size : Nat) : Int) - 1) == 0 && (-1 : Int) == 1 && items.size == items.size) = true) := by
    intro q
    rw [Bool.and_eq_true, Bool.and_eq_true] at q
    exact absurd (eq_of_beq q.1.2) (by decide)
  show wpAny _ _ (if ((((items.size : Nat) : Int) - 1) == 0 && (-1 : Int) == 1 && items.size == items.size) = true then _ else _) _ _ s
  rw [if_neg hno, pick_rev]
  first
    | exact wpAny_bind (m := Builtin.Tuple.tupleExact _) (wpAny_newObj_type (wpAny_pure ⟨_, rfl, wpAny_pure h⟩) htake)
    | exact wpAny_bind (m := Builtin.Tuple.tupleExact _) (wpAny_newObj_type (wpAny_bind (wpAny_pure (wpAny_pure ⟨_, rfl, wpAny_pure h⟩))) htake)
    | exact wpAny_bind (wpAny_bind (m := Builtin.Tuple.tupleExact _) (wpAny_newObj_type (wpAny_pure (wpAny_pure ⟨_, rfl, wpAny_pure h⟩)) htake))
    | exact wpAny_bind (wpAny_bind (m := Builtin.Tuple.tupleExact _) (wpAny_newObj_type (wpAny_pure ⟨_, rfl, wpAny_pure h⟩) htake))
end
section
variable {X : Cx} {W : WX} {B : Bd} {σ : L2.St} {H F : Hp} {env : En} {Y : XP} {K : PySem.W.Frag}
def tRevA (K : PySem.W.Frag) (te : TE) : TE := fun σ H Q => te σ H fun x H1 => ∃ a xs, x = .ref a ∧ ((SqL K H1 a xs ∧ ∀ p, H1 p = none → Q (.ref p) (upd H1 p (.lst xs.reverse))) ∨ (SqT K H1 a xs ∧ ∀ p, H1 p = none → Q (.ref p) (upd H1 p (.tup xs.reverse))))
theorem pe_revA {e : Expr} {te : TE} {k : Nat} {p1 p2 p3 pos : Pos} (he : PE X e te) : PE X (.Subscript e (.Slice none none (some (.UnaryOp .USub (.Constant (.int 1) k p1) p2)) p3) pos) (tRevA X.K te) := by
  refine ⟨fun pins s σ H Q I h => ?_⟩
  refine Subscript_ (thn (he.run pins s σ H _ I h) fun v s1 ⟨x, H1, I1, r1, q1⟩ => ?_)
  obtain ⟨a, xs, ex, hx⟩ := q1
  subst ex
  cases r1
  have hst : PO X (some (.UnaryOp .USub (.Constant (.int 1) k p1) p2)) (tPart (tUn (rU fun i => .int (-i)) (tC (.int 1)))) := po_some (pe_un un_neg pe_int)
  refine wpAny_Slice (thn (po_none.run pins s1 σ H1 (fun o H2 => o = none ∧ H2 = H1) I1 ⟨rfl, rfl⟩) fun vl s2 ⟨l, H2, I2, pl, el, e2⟩ => ?_)
  subst el e2
  refine thn (po_none.run pins s2 σ H2 (fun o H3 => o = none ∧ H3 = H2) I2 ⟨rfl, rfl⟩) fun vu s3 ⟨u, H3, I3, pu, eu, e3⟩ => ?_
  subst eu e3
  refine thn (hst.run pins s3 σ H3 (fun o H4 => o = some (-1) ∧ H4 = H3) I3 ⟨1, rfl, -1, rfl, rfl, rfl⟩) fun vs s4 ⟨o, H4, I4, ps, eo, e4⟩ => ?_
  subst eo e4
  have I5 : Inv X pins σ H4 { s4 with heap := s4.heap.push { cls := .type "slice", data := .fields #[vl, vu, vs] } } := I4.kept (t' := s4.toks) fun b ob q => Heap.get?_push_of_some _ q
  show wpAny (model X.prog X.w) X.A (subscriptTail e (.Slice none none (some (.UnaryOp .USub (.Constant (.int 1) k p1) p2)) p3) (.ref a) (.ref s4.heap.objs.size)) (EP X pins σ Q) X.xe { s4 with heap := s4.heap.push { cls := .type "slice", data := .fields #[vl, vu, vs] } }
  rcases hx with ⟨hx, q⟩ | ⟨hx, q⟩
  · obtain ⟨its, r, ht, hz⟩ := I5.list hx
    have hlen := r.length
    refine tail_any (ops := [.ref a, .ref s4.heap.objs.size]) ht.isList.typeIs (PySem.slot_list_getitem.lookup) ?_ (by with_unfolding_all rfl)
    refine wpAny_getItem_list_slice ht.isList (Heap.IsSliceOf.new _ vl vu vs) pl pu ps (by decide) ?_ (by rw [List.size_toArray]; omega)
    rw [PySem.W.krv_pick]
    refine ⟨.ref _, _, I5.laid (t' := s4.toks) (o := .lst xs.reverse) (fun b ob q => Heap.get?_push_of_some _ q) (Nat.le_refl _) ?_, rfl, q _ (I5.hok.fresh (Nat.le_refl _))⟩
    exact ⟨by rw [List.length_reverse]; exact hz, _, 0, r.reverse, Heap.get?_push_size _ rfl⟩
  · obtain ⟨its, r, ht, hz⟩ := I5.tuple hx
    have hlen := r.length
    refine tail_any (ops := [.ref a, .ref s4.heap.objs.size]) ht.typeIs (PyProof.Rows.slot_tuple_getitem.lookup) ?_ (by with_unfolding_all rfl)
    refine getItem_tuple_rev ht (Heap.IsSliceOf.new _ vl vu vs) pl pu ps ?_ (by rw [List.size_toArray]; omega)
    refine ⟨.ref _, _, I5.laid (t' := s4.toks) (o := .tup xs.reverse) (fun b ob q => Heap.get?_push_of_some _ q) (Nat.le_refl _) ?_, rfl, q _ (I5.hok.fresh (Nat.le_refl _))⟩
    exact ⟨by rw [List.length_reverse]; exact hz, _, r.reverse, IsTup.new _ _⟩
def gRev : D → (Cl → Prop) → Prop
  | .list xs, P => P (.ow (.lst xs.reverse))
  | .tuple xs, P => P (.fz (.tuple xs.reverse))
  | _, _ => False
theorem rev_imp {a : Opd} : ∀ σ H Q, semE X W (eOp1 gRev a) σ H Q → tRevA X.K (tO X W a) σ H Q := fun σ H Q ⟨B, F, env, P, Y, R, h, ok, x⟩ =>
  ev1_ok R h x fun d env' v H' F' g R' s r => by
    cases d with
    | list xs =>
      obtain ⟨a, vs, rfl, h, l⟩ := r.lst R'.sub
      exact ⟨a, vs, rfl, .inl ⟨SqL.of h, fun p hp => ok _ _ _ _ _ g (R'.fresh hp ⟨_, upd_same, l.reverse⟩) s⟩⟩
    | tuple xs =>
      obtain ⟨a, vs, rfl, h, l⟩ := r.tup R'.sub
      refine ⟨a, vs, rfl, .inr ⟨h, fun p hp => ?_⟩⟩
      have sm : Same F' (upd F' p (.tup vs.reverse)) := same_new (R'.nF hp)
      exact ok _ _ _ _ _ g ((R'.grow hp).push (.tup (SqT.of upd_same) (l.reverse.mono sm))) (s.trans sm)
    | _ => exact g.elim
theorem g_rev {e : Expr} {a : Opd} {k : Nat} {p1 p2 p3 pos : Pos} (ha : PE X e (tO X W a)) : PE X (.Subscript e (.Slice none none (some (.UnaryOp .USub (.Constant (.int 1) k p1) p2)) p3) pos) (semE X W (eOp1 gRev a)) := peOf (pe_revA ha) rev_imp
@[simp ↓] theorem gRev_list {xs : List D} {P : Cl → Prop} : gRev (.list xs) P = P (.ow (.lst xs.reverse)) := rfl
@[simp ↓] theorem gRev_tuple {xs : List D} {P : Cl → Prop} : gRev (.tuple xs) P = P (.fz (.tuple xs.reverse)) := rfl
/-! tuple(range(a, b)), list(range(a, b)) -/
@[simp ↓] def eTRg2 (a b : Opd) : WE := fun env P Y => ev2 a b env (fun d1 d2 env' => ∃ i j, d1 = .int i ∧ d2 = .int j ∧ RgOk i j ∧ P (.fz (.tuple (rgD i j))) env') Y
@[simp ↓] def eLRg2 (a b : Opd) : WE := fun env P Y => ev2 a b env (fun d1 d2 env' => ∃ i j, d1 = .int i ∧ d2 = .int j ∧ RgOk i j ∧ P (.ow (.lst (rgD i j))) env') Y
theorem trg2_imp {a b : Opd} : ∀ σ H Q, semE X W (eTRg2 a b) σ H Q → tTupRg (tRg2 (tO X W a) (tO X W b)) σ H Q := fun σ H Q ⟨B, F, env, P, Y, R, h, ok, x⟩ =>
  ev2_ok R h x fun d1 d2 env' v w H' F' ⟨i, j, e1, e2, rg, p⟩ R' s r1 r2 => by
    subst e1 e2
    refine ⟨i, j, r1.int, r2.int, rg, fun q hq => ?_⟩
    have sm : Same F' (upd F' q (.tup (rgV i j))) := same_new (R'.nF hq)
    exact ok _ _ _ _ _ p ((R'.grow hq).push (.tup (SqT.of upd_same) ((rg_rep i j).mono sm))) (s.trans sm)
theorem lrg2_imp {a b : Opd} : ∀ σ H Q, semE X W (Sw.eLRg2 a b) σ H Q → tLstRg (tRg2 (tO X W a) (tO X W b)) σ H Q := fun σ H Q ⟨B, F, env, P, Y, R, h, ok, x⟩ =>
  ev2_ok R h x fun d1 d2 env' v w H' F' ⟨i, j, e1, e2, rg, p⟩ R' s r1 r2 => by
    subst e1 e2
    exact ⟨i, j, r1.int, r2.int, rg, fun q hq => ok _ _ _ _ _ p (R'.fresh hq (show OwnAt X.K (upd H' q (.lst (rgV i j))) F' q (.lst (rgD i j)) from ⟨_, upd_same, rg_rep i j⟩)) s⟩
theorem g_trg2 {pos p1 p2 pt2 : Pos} {e1 e2 : Expr} {a b : Opd} (hc : X.calm = true) (hg : Gl X "tuple") (hm : X.mg "tuple" = none) (hg2 : Gl X "range") (hm2 : X.mg "range" = none) (ha : PE X e1 (tO X W a)) (hb : PE X e2 (tO X W b)) (na : starEach [e1, e2] X.env = (false, eval e1 X.env) :: starEach [e2] X.env := by rfl)
    (nb : starEach [e2] X.env = (false, eval e2 X.env) :: starEach [] X.env := by rfl) (hp : (backTo pt2 (starEach [e2] X.env)).any (·.1) = false := by rfl) (nc : starEach [.Call (.Name "range" p1) [e1, e2] [] pt2] X.env = (false, eval (.Call (.Name "range" p1) [e1, e2] [] pt2) X.env) :: starEach [] X.env := by rfl) : PE X (.Call (.Name "tuple" p2) [.Call (.Name "range" p1) [e1, e2] [] pt2] [] pos) (semE X W (eTRg2 a b)) :=
  peOf (pe_tupRg hc hg hm (prg_2 hg2 hm2 ha hb na nb hp) nc) trg2_imp
theorem g_lrg2 {pos p1 p2 pt2 : Pos} {e1 e2 : Expr} {a b : Opd} (hc : X.calm = true) (hg : Gl X "list") (hm : X.mg "list" = none) (hg2 : Gl X "range") (hm2 : X.mg "range" = none) (ha : PE X e1 (tO X W a)) (hb : PE X e2 (tO X W b)) (na : starEach [e1, e2] X.env = (false, eval e1 X.env) :: starEach [e2] X.env := by rfl)
    (nb : starEach [e2] X.env = (false, eval e2 X.env) :: starEach [] X.env := by rfl) (hp : (backTo pt2 (starEach [e2] X.env)).any (·.1) = false := by rfl) (nc : starEach [.Call (.Name "range" p1) [e1, e2] [] pt2] X.env = (false, eval (.Call (.Name "range" p1) [e1, e2] [] pt2) X.env) :: starEach [] X.env := by rfl) : PE X (.Call (.Name "list" p2) [.Call (.Name "range" p1) [e1, e2] [] pt2] [] pos) (semE X W (Sw.eLRg2 a b)) :=
  peOf (pe_listRg hc hg hm (prg_2 hg2 hm2 ha hb na nb hp) nc) lrg2_imp
end
end Sw

/-! zip of a tuple and a list -/
namespace Sw
open PySem PySem.Spec PyProof.Rows L2
def ItzM (K : PySem.W.Frag) (a b : Addr) : It :=
  ⟨fun i H => ∃ (xs ys : List V) (x y : V), SqT K H a xs ∧ SqL K H b ys ∧ xs[i]? = some x ∧ ys[i]? = some y,
    fun i H v H' => ∃ T x y, v = .ref T ∧ H T = none ∧ H' = upd H T (.tup [x, y]) ∧ (∀ xs, SqT K H a xs → xs[i]? = some x) ∧ ∀ ys, SqL K H b ys → ys[i]? = some y,
    fun i H => ∃ xs ys : List V, SqT K H a xs ∧ SqL K H b ys ∧ (xs.length ≤ i ∨ ys.length ≤ i)⟩
section
variable {prog : Program} {w : World} {A : Around}
def drT_end (hh : A.handled = none) (it t : Addr) (its : Array Value) (i : Nat) (hi : its.size ≤ i) : Draws prog w A it [it, t] i (fun _ _ => False) (fun j h => j = i ∧ h.IsTupleIter it t i ∧ h.IsTuple t its) :=
  { live := fun _ _ st => let ⟨o, ho, _⟩ := st.2.1; ⟨o, ho⟩
    frame := fun _ _ _ st hk => ⟨st.1, st.2.1.at fun o e => hk it (by simp) o e, st.2.2.at fun o e => hk t (by simp) o e⟩
    item := fun j s Q E hi st hQ => by have := st.1; omega
    done := fun s Q E st hE => wpAny_nextOf_tuple_end hh st.2.1 st.2.2 (by simp; omega) hE }
def drL_end (hh : A.handled = none) (it t : Addr) (its : Array Value) (i : Nat) (hi : its.size ≤ i) : Draws prog w A it [it, t] i (fun _ _ => False) (fun j h => j = i ∧ h.IsListIter it t i ∧ h.IsList t its) :=
  { live := fun _ _ st => let ⟨o, ho, _⟩ := st.2.1; ⟨o, ho⟩
    frame := fun _ _ _ st hk => ⟨st.1, st.2.1.at fun o e => hk it (by simp) o e, st.2.2.at fun o e => hk t (by simp) o e⟩
    item := fun j s Q E hi st hQ => by have := st.1; omega
    done := fun s Q E st hE => wpAny_nextOf_list_end hh st.2.1 st.2.2 (by simp; omega) hE }
end
theorem turn_zipM {P : Program} {w : World} {K : PySem.W.Frag} {elts : List Expr} {kk : Nat} {tpos : Pos} {a b z TI TO i1 i2 : Addr} (S : ZipSep2 z TI TO i1 i2 [i1, a] [i2, b]) :
    Turn P w K (.Tuple elts kk tpos) (ItzM K a b) [z, TI, TO, i1, i2] z (fun i h => IsZip h z TI TO .none ∧ IsTupOf2 h TI (.ref i1) (.ref i2) ∧ (∃ x y, IsTupOf2 h TO x y) ∧ h.IsTupleIter i1 a i ∧ h.IsListIter i2 b i) where
  mem := by simp
  obj := fun i h st c hc => by
    obtain ⟨hz, hTI, ⟨x, y, hTO⟩, ⟨o1, e1, _, d1⟩, ⟨o2, e2, _, d2⟩⟩ := st
    have e' : c = z ∨ c = TI ∨ c = TO ∨ c = i1 ∨ c = i2 := by simpa using hc
    rcases e' with q | q | q | q | q
    · rw [q]; exact ⟨_, hz, fun v q => nomatch q⟩
    · rw [q]; exact ⟨_, hTI, fun v q => nomatch q⟩
    · rw [q]; exact ⟨_, hTO, fun v q => nomatch q⟩
    · rw [q]; exact ⟨o1, e1, fun v q => by rw [d1] at q; cases q⟩
    · rw [q]; exact ⟨o2, e2, fun v q => by rw [d2] at q; cases q⟩
  keep := fun i h h' st k => by
    obtain ⟨hz, hTI, ⟨x, y, hTO⟩, h1, h2⟩ := st
    exact ⟨k z (by simp) _ hz, k TI (by simp) _ hTI, ⟨x, y, k TO (by simp) _ hTO⟩, h1.at fun o q => k i1 (by simp) o q, h2.at fun o q => k i2 (by simp) o q⟩
  item := by
    intro X hP hw hK hc i pins s σ H E I hf st hg
    subst hP hw hK
    obtain ⟨hz, hTI, ⟨x0, y0, hTO⟩, h1, h2⟩ := st
    obtain ⟨xs, ys, x, y, hqx, hqy, hx, hy⟩ := hg
    obtain ⟨its, rv, p, _⟩ := I.tuple hqx
    obtain ⟨its2, rv2, p2, _⟩ := I.list hqy
    obtain ⟨u, hu, ru⟩ := rv.get hx
    obtain ⟨u2, hu2, ru2⟩ := rv2.get hy
    have hzl : z < s.heap.objs.size := Heap.lt_size hz
    have hh : X.A.in1.handled = none := I.ok.hd hc
    have l1 : i < its.toArray.size := by simpa using (List.getElem?_eq_some_iff.mp hu).1
    have l2 : i < its2.toArray.size := by simpa using (List.getElem?_eq_some_iff.mp hu2).1
    have s1 := S.sep1_2
    have s2 := S.sep2_1
    have ha1 : a ≠ i1 := fun q => by have := S.zf1; have h3 := h1; obtain ⟨o, ho, hcl, _⟩ := h3; obtain ⟨o', ho', hcl', _⟩ := p; rw [q, ho] at ho'; cases ho'; rw [hcl] at hcl'; simp at hcl'
    have hb2 : b ≠ i2 := fun q => by obtain ⟨o, ho, hcl, _⟩ := h2; obtain ⟨o', ho', hcl', _⟩ := p2.isList; rw [q, ho] at ho'; cases ho'; rw [hcl] at hcl'; simp at hcl'
    refine wpAny_pyNext_zipD2_item S (Draws.tuple hh i1 a ha1 its.toArray) (Draws.list hh i2 b hb2 its2.toArray) hz hTI hTO ⟨h1, p⟩ ⟨h2, p2.isList⟩ l1 l2 fun x1 x2 h' tk hx1 hx2 z' TO' h1' h2' hT hsz hk => ?_
    have ex1 : x1 = u := by
      have h3 : its[i]? = some x1 := by simpa using hx1
      rw [hu] at h3
      cases h3
      rfl
    have ex2 : x2 = u2 := by
      have h3 : its2[i]? = some x2 := by simpa using hx2
      rw [hu2] at h3
      cases h3
      rfl
    subst ex1 ex2
    refine ⟨_, rfl, wpAny_letOwnedTupleGo_zip (s := { s with heap := h', toks := tk }) z' fun h'' z'' sb => ?_⟩
    have hT2 : h''.get? s.heap.objs.size = some { cls := .type "tuple", data := .seq #[x1, x2] } := (sb.2 _ (Nat.ne_of_gt hzl)).trans hT
    have new : ObjOk X.prog X.w (upd H s.heap.objs.size (.tup [x, y])) h'' s.heap.objs.size (.tup [x, y]) :=
      ⟨by show 2 ≤ sizeLine; decide, [x1, x2], .cons ru (.cons ru2 .nil), ⟨_, hT2, rfl, _, rfl⟩⟩
    have I1 : Inv X pins σ (upd H s.heap.objs.size (.tup [x, y])) { s with heap := h'', toks := tk } :=
      I.turnedNew (t' := tk) (ch := [z, TI, TO, i1, i2]) (fun c o hb q => (sb.2 c (fun q' => hb (by simp [q']))).trans (hk c o (fun q' => hb (by simp [q'])) (fun q' => hb (by simp [q'])) (fun q' => hb (by simp [q'])) (fun q' => hb (by simp [q'])) q)) hf (Nat.le_refl _) new
    have TIz := S.TIz
    have TOz := S.TOz
    have i1z := S.zi1
    have i2z := S.zi2
    refine ⟨.ref s.heap.objs.size, _, I1, rfl, ⟨_, x, y, rfl, I.hok.fresh (Nat.le_refl _), rfl, fun l hl => by rw [I.tuple_inj hl hqx]; exact hx, fun l hl => by rw [I.list_inj hl hqy]; exact hy⟩, ⟨z'', ?_, ⟨x1, x2, ?_⟩, ?_, ?_⟩, fun c hcm => ?_⟩
    · exact (sb.2 _ S.TIz).trans (hk _ _ S.TIz S.TITO S.TIi1 S.TIi2 hTI)
    · exact (sb.2 _ S.TOz).trans TO'
    · exact h1'.1.at fun o q => (sb.2 _ (Ne.symm S.zi1)).trans q
    · exact h2'.1.at fun o q => (sb.2 _ (Ne.symm S.zi2)).trans q
    · have hlt : c < s.heap.objs.size := by
        have e' : c = z ∨ c = TI ∨ c = TO ∨ c = i1 ∨ c = i2 := by simpa using hcm
        rcases e' with q | q | q | q | q
        · rw [q]; exact hzl
        · rw [q]; exact Heap.lt_size hTI
        · rw [q]; exact Heap.lt_size hTO
        · rw [q]; obtain ⟨_, e1, _⟩ := h1; exact Heap.lt_size e1
        · rw [q]; obtain ⟨_, e2, _⟩ := h2; exact Heap.lt_size e2
      rw [upd_ne (Nat.ne_of_lt hlt)]
      exact (hf c hcm).1
  done := by
    intro X hP hw hK hc i pins s σ H E I hf st hg
    subst hP hw hK
    obtain ⟨hz, hTI, ⟨x0, y0, hTO⟩, h1, h2⟩ := st
    obtain ⟨xs, ys, hqx, hqy, hend⟩ := hg
    obtain ⟨its, rv, p, _⟩ := I.tuple hqx
    obtain ⟨its2, rv2, p2, _⟩ := I.list hqy
    have e1 := rv.length
    have e2 := rv2.length
    have hh : X.A.in1.handled = none := I.ok.hd hc
    have ha1 : a ≠ i1 := fun q => by obtain ⟨o, ho, hcl, _⟩ := h1; obtain ⟨o', ho', hcl', _⟩ := p; rw [q, ho] at ho'; cases ho'; rw [hcl] at hcl'; simp at hcl'
    have hb2 : b ≠ i2 := fun q => by obtain ⟨o, ho, hcl, _⟩ := h2; obtain ⟨o', ho', hcl', _⟩ := p2.isList; rw [q, ho] at ho'; cases ho'; rw [hcl] at hcl'; simp at hcl'
    have fin : ∀ h' tk, (∀ c o, c ≠ z → c ≠ TO → c ≠ i1 → c ≠ i2 → s.heap.get? c = some o → h'.get? c = some o) → (none : Option Value) = none ∧ Inv X pins σ H { s with heap := h', toks := tk } := fun h' tk hk => ⟨rfl, I.turnedL (t' := tk) (ch := [z, TI, TO, i1, i2]) (fun c o hb q =>
      hk c o (fun q' => hb (by simp [q'])) (fun q' => hb (by simp [q'])) (fun q' => hb (by simp [q'])) (fun q' => hb (by simp [q'])) q) hf⟩
    by_cases q1 : its.toArray.size ≤ i
    · by_cases q2 : its2.toArray.size ≤ i
      · exact wpAny_pyNext_zipD2_end S (drT_end hh i1 a _ i q1) (drL_end hh i2 b _ i q2) hz hTI hTO ⟨rfl, h1, p⟩ ⟨rfl, h2, p2.isList⟩ (Nat.le_refl _) (Nat.le_refl _) (.inl rfl) fin
      · exact wpAny_pyNext_zipD2_end S (drT_end hh i1 a _ i q1) (Draws.list hh i2 b hb2 its2.toArray) hz hTI hTO ⟨rfl, h1, p⟩ ⟨h2, p2.isList⟩ (Nat.le_refl _) (by omega) (.inl rfl) fin
    · have q2 : its2.toArray.size ≤ i := by
        rw [List.size_toArray] at q1 ⊢
        omega
      exact wpAny_pyNext_zipD2_end S (Draws.tuple hh i1 a ha1 its.toArray) (drL_end hh i2 b _ i q2) hz hTI hTO ⟨h1, p⟩ ⟨rfl, h2, p2.isList⟩ (by omega) (Nat.le_refl _) (.inr rfl) fin
  self := fun A i s Q E st h => wpAny_pyIter_zip st.1 h
theorem sep5 (n a b : Nat) (la : a < n) (lb : b < n) : ZipSep2 (n + 4) (n + 2) (n + 3) n (n + 1) [n, a] [n + 1, b] where
  TIz := Nat.ne_of_lt (by omega)
  TOz := Nat.ne_of_lt (by omega)
  TITO := Nat.ne_of_lt (by omega)
  TIi1 := Nat.ne_of_gt (by omega)
  mem1 := by simp
  zf1 := fun h => by
    rcases List.mem_cons.mp h with h | h
    · exact absurd (show (n + 4 : Nat) = n from h) (by omega)
    · exact absurd (show (n + 4 : Nat) = a from List.mem_singleton.mp h) (by omega)
  Tf1 := fun h => by
    rcases List.mem_cons.mp h with h | h
    · exact absurd (show (n + 3 : Nat) = n from h) (by omega)
    · exact absurd (show (n + 3 : Nat) = a from List.mem_singleton.mp h) (by omega)
  TIi2 := Nat.ne_of_gt (by omega)
  mem2 := by simp
  zf2 := fun h => by
    rcases List.mem_cons.mp h with h | h
    · exact absurd (show (n + 4 : Nat) = n + 1 from h) (by omega)
    · exact absurd (show (n + 4 : Nat) = b from List.mem_singleton.mp h) (by omega)
  Tf2 := fun h => by
    rcases List.mem_cons.mp h with h | h
    · exact absurd (show (n + 3 : Nat) = n + 1 from h) (by omega)
    · exact absurd (show (n + 3 : Nat) = b from List.mem_singleton.mp h) (by omega)
  sep1_2 := fun h => by
    rcases List.mem_cons.mp h with h | h
    · exact absurd (show (n : Nat) = n + 1 from h) (by omega)
    · exact absurd (show (n : Nat) = b from List.mem_singleton.mp h) (by omega)
  sep2_1 := fun h => by
    rcases List.mem_cons.mp h with h | h
    · exact absurd (show (n + 1 : Nat) = n from h) (by omega)
    · exact absurd (show (n + 1 : Nat) = a from List.mem_singleton.mp h) (by omega)
def iZipMA (K : PySem.W.Frag) (ta : TA) : TI := fun σ H R => ta σ H fun vs H1 => ∃ a b xs ys, vs = [.ref a, .ref b] ∧ SqT K H1 a xs ∧ SqL K H1 b ys ∧ R (ItzM K a b) H1
theorem pi_zipMA {X : Cx} {e e2 : Expr} {ta : TA} {p pos tpos : Pos} {elts : List Expr} {kk : Nat} (hg : Gl X "zip") (hm : X.mg "zip" = none) (ha : PA X [e, e2] ta)
    (hs : starEach [e, e2] X.env = (false, eval e X.env) :: starEach [e2] X.env := by rfl) (hpl : (backTo pos (starEach [e2] X.env)).any (·.1) = false := by rfl) :
    PI X (.Tuple elts kk tpos) (.Call (.Name "zip" p) [e, e2] [] pos) (iZipMA X.K ta) := by
  refine ⟨fun pins s σ H R I h => ?_⟩
  refine Call_ (ld_blt I hg hm PyProof.Rows.boot_zip (PyProof.Rows.callWith_type1 (thn (ha.run pos pins s σ H _ I h) fun us s1 ⟨vs, H1, I1, r1, q1⟩ => ?_) hs hpl))
  obtain ⟨a, b, xs, ys, ex, hqx, hqy, q⟩ := q1
  subst ex
  cases r1 with
  | cons r rr =>
    cases rr with
    | cons r' rr =>
      cases rr
      cases r
      cases r'
      have fresh5 : ∀ c, c ∈ [s1.heap.objs.size + 4, s1.heap.objs.size + 2, s1.heap.objs.size + 3, s1.heap.objs.size, s1.heap.objs.size + 1] → FpOk X pins H1 c := fun c hcm => by
        have e' : c = s1.heap.objs.size + 4 ∨ c = s1.heap.objs.size + 2 ∨ c = s1.heap.objs.size + 3 ∨ c = s1.heap.objs.size ∨ c = s1.heap.objs.size + 1 := by simpa using hcm
        have hle : s1.heap.objs.size ≤ c := by omega
        exact I1.fpOk hle (I1.hok.fresh hle)
      obtain ⟨its, rv, p1, _⟩ := I1.tuple hqx
      obtain ⟨its2, rv2, p2, _⟩ := I1.list hqy
      obtain ⟨o1, ho1, _⟩ := id p1
      have la : a < s1.heap.objs.size := Heap.lt_size ho1
      have lb : b < s1.heap.objs.size := p2.lt
      refine zip_begins2 (begins_tuple a its.toArray) (begins_list b its2.toArray) (show s1.heap.IsTuple a its.toArray from p1) p2.isList fun h' hz hTI hTO g1 g2 hsz hk => wpAny_pyIter_zip hz ?_
      have I2 : Inv X pins σ H1 { s1 with heap := h' } := I1.kept (t' := s1.toks) hk
      generalize hn : s1.heap.objs.size = n at *
      have S5 := sep5 n a b la lb
      exact ⟨n + 4, [n + 4, n + 2, n + 3, n, n + 1], _, _, H1, rfl, I2, turn_zipM S5, ⟨hz, hTI, ⟨_, _, hTO⟩, ⟨_, g1, rfl, rfl⟩, ⟨_, g2, rfl, rfl⟩⟩, fresh5, q⟩
def iZipM (a b : WE) : WI := fun env g Y => evL [a, b] env (fun ds env' => ∃ xs ys, ds = [.tuple xs, .list ys] ∧ g ((xs.zip ys).map pairD) env') Y
section
variable {X : Cx} {W : WX} {B : Bd} {σ : L2.St} {H F : Hp} {env : En} {Y : XP} {K : PySem.W.Frag}
theorem walks_zipM {a b : Addr} {vs ws : List V} {xs ys : List D} (h1 : SqT K F a vs) (r1 : RepL K F vs xs) (h2 : SqL K F b ws) (r2 : RepL K F ws ys) : Walks K (ItzM K a b) F ((xs.zip ys).map pairD) where
  stop := fun i H F' s1 s2 hi => by
    rw [zip_len] at hi
    exact ⟨vs, ws, same_seqT (s1.trans s2) h1, (s1.trans s2).seq h2, by rw [r1.length, r2.length]; omega⟩
  go := fun i H F' s1 s2 hi => by
    rw [zip_len] at hi
    have l1 : i < vs.length := by rw [r1.length]; omega
    have l2 : i < ws.length := by rw [r2.length]; omega
    exact ⟨vs, ws, vs[i], ws[i], same_seqT (s1.trans s2) h1, (s1.trans s2).seq h2, List.getElem?_eq_getElem l1, List.getElem?_eq_getElem l2⟩
  yld := fun i H F' v H' d s1 s2 hd ⟨T, x, y, e, hT, eH, f1, f2⟩ => by
    obtain ⟨dx, dy, gx, gy, rfl⟩ := zip_get hd
    obtain ⟨vx, hx, rx⟩ := r1.get gx
    obtain ⟨vy, hy, ry⟩ := r2.get gy
    have e1 := f1 vs (same_seqT (s1.trans s2) h1)
    have e2 := f2 ws ((s1.trans s2).seq h2)
    rw [hx] at e1
    rw [hy] at e2
    cases e1
    cases e2
    subst e eH
    exact .inr ⟨T, _, hT, rfl, pair_rep (none_sub s2 hT) (rx.mono s1) (ry.mono s1)⟩
theorem pi_iZipM {ea eb : Expr} {f g : WE} {p pos tpos : Pos} {elts : List Expr} {kk : Nat} (hg : Gl X "zip") (hm : X.mg "zip" = none) (ha : PA X [ea, eb] (tCons (semE X W f) (tCons (semE X W g) tNil)))
    (hs : starEach [ea, eb] X.env = (false, eval ea X.env) :: starEach [eb] X.env := by rfl) (hpl : (backTo pos (starEach [eb] X.env)).any (·.1) = false := by rfl) : PI X (.Tuple elts kk tpos) (.Call (.Name "zip" p) [ea, eb] [] pos) (semI X W (iZipM f g)) :=
  piOf (pi_zipMA hg hm ha hs hpl) fun σ H Q ⟨B, F, env, G, Y, R, h, ok, x⟩ => evL_ok (fs := [f, g]) R h x fun ds env' vs H' F' ⟨xs, ys, e, q⟩ R' s r => by
    subst e
    cases r with
    | cons r1 r2 =>
      cases r2 with
      | cons r2 r3 =>
        cases r3
        cases r1 with
        | tup a1 b1 =>
          cases r2 with
          | lst a2 b2 => exact ⟨_, _, _, _, rfl, same_seqT R'.sub a1, SqL.of (R'.sub _ _ a2), ok _ _ _ _ _ q R' s (walks_zipM a1 b1 (SqL.of a2) b2)⟩
end
end Sw

/-! {} and {k: v} of whole numbers; repr of a thing of any kind -/
namespace Sw
open PySem PySem.Spec PyProof.Rows L2
section
variable {X : Cx} {W : WX} {B : Bd} {σ : L2.St} {H F : Hp} {env : En} {Y : XP} {K : PySem.W.Frag} {pins : List (Addr × Obj)} {s : Shared}
@[simp ↓] def eDct0 : WE := fun env P Y => P (.ow (.dct [])) env
@[simp ↓] def eDct1 (k v : Int) : WE := fun env P Y => P (.ow (.dct [(.int k, .int v)])) env
theorem upd_twice {H : Hp} {p : Addr} {a b : HO} : upd (upd H p a) p b = upd H p b := by
  funext q
  unfold upd
  split <;> rfl
theorem g_dct0 {pos : Pos} : PE X (.Dict [] [] pos) (semE X W eDct0) := peOf pe_dnewK fun σ H Q ⟨B, F, env, P, Y, R, h, ok, x⟩ p hp =>
  ok _ _ _ _ _ h (R.fresh hp (.inl ⟨[], [], upd_same, rfl, .nil⟩)) (Same.refl F)
theorem g_dct1 {pos p1 p2 : Pos} {k v : Int} {k1 k2 : Nat} : PE X (.Dict [some (.Constant (.int k) k1 p1)] [.Constant (.int v) k2 p2] pos) (semE X W (eDct1 k v)) :=
  peOf (pe_disp (pps_cons pe_int pe_int pps_nil) (by rfl) (by rfl) (by simp) (by simp)) fun σ H Q ⟨B, F, env, P, Y, R, h, ok, x⟩ p hp => by
    refine ⟨upd_same, [(.inl k, .int v)], rfl, by simp, ?_⟩
    rw [upd_twice]
    exact ok _ _ _ _ _ h (R.fresh hp (.inl ⟨[(.inl k, .int v)], [.int v], upd_same, rfl, .cons (.int v) .nil⟩)) (Same.refl F)
/-! repr of a thing of any kind; a dict of whole numbers too -/
def dI (kvs : List (Int × Int)) : D := .dict (kvs.map fun p => (.int p.1, .int p.2))
theorem pairs_reads {P : Program} {w : World} {h : Heap} : ∀ {kvs : List (Key × V)} {vs : List (Key × Value)} {es : List DictEntry} {ns : List (Int × Int)}, KV kvs vs → Pairs (mixKind P w) es vs → (kvs.map fun p => keyD1 p.1) = (ns.map fun p => PyData.int p.1) → kvs.map (·.2) = ns.map (fun p => V.int p.2) →
    ReadsAll h (es.map (·.key)) (ns.map fun p => .int p.1) [] ∧ ReadsAll h (es.map (·.val)) (ns.map fun p => .int p.2) []
  | [], _, _, ns, hk, hp, e1, e2 => by
    cases hk
    cases hp
    cases ns with
    | nil => exact ⟨.nil, .nil⟩
    | cons n ns => cases e1
  | p :: kvs, _, _, ns, hk, hp, e1, e2 => by
    cases hk with
    | @cons a b l1 l2 h1 h2 =>
      cases hp with
      | @cons e kv es kvs' i1 i2 i3 =>
        cases ns with
        | nil => cases e1
        | cons n ns =>
          simp only [List.map_cons, List.cons.injEq] at e1 e2
          obtain ⟨q1, q2⟩ := pairs_reads (h := h) h2 i3 e1.2 e2.2
          have hkey : ∃ t, e.key = Value.int n.1 t := by
            rcases keyIs_shape i1 with ⟨i, t, z1, z2⟩ | ⟨x, t, z1, z2⟩
            · rw [← h1.1] at z1
              rw [z1] at e1
              have := e1.1
              simp only [keyD1, PyData.int.injEq] at this
              exact ⟨t, by rw [z2, this]⟩
            · rw [← h1.1] at z1
              rw [z1] at e1
              exact absurd e1.1 (by simp [keyD1])
          obtain ⟨t, hkey⟩ := hkey
          have hval : ∃ t, e.val = Value.int n.2 t := by
            rw [i2]
            have := h1.2
            rw [e2.1] at this
            obtain ⟨t, ht⟩ := this
            exact ⟨t, ht⟩
          obtain ⟨t2, hval⟩ := hval
          refine ⟨?_, ?_⟩
          · show ReadsAll h (e.key :: es.map (·.key)) _ ([] ++ [])
            rw [hkey]
            exact .cons (.int _ _) q1
          · show ReadsAll h (e.val :: es.map (·.val)) _ ([] ++ [])
            rw [hval]
            exact .cons (.int _ _) q2
theorem dI_keys {ks ds : List D} {ns : List (Int × Int)} (hl : ks.length = ds.length) (e : PyData.dict (ks.zip ds) = dI ns) : ks = (ns.map fun p => PyData.int p.1) ∧ ds = (ns.map fun p => p.2).map PyData.int := by
  unfold dI at e
  injection e with e
  have e1 : (ks.zip ds).map Prod.fst = ks := List.map_fst_zip (by omega)
  have e2 : (ks.zip ds).map Prod.snd = ds := List.map_snd_zip (by omega)
  rw [e, List.map_map] at e1 e2
  refine ⟨e1.symm, ?_⟩
  rw [List.map_map]
  exact e2.symm
theorem dK_reads {ns : List (Int × Int)} {a : Addr} {kvs : List (Key × V)} {ds : List D} (I : Inv X pins σ H s) (h : H a = some (.dK kvs)) (rs : RepL X.K F (kvs.map (·.2)) ds) (e : PyData.dict ((kvs.map fun p => keyD1 p.1).zip ds) = dI ns) : ∃ as, Reads s.heap (.ref a) (dI ns) as ∧ sysModules ∉ as := by
  obtain ⟨e1, e2⟩ := dI_keys (by rw [List.length_map]; have := rs.length; rw [List.length_map] at this; exact this) e
  rw [e2] at rs
  have e3 := rs.ints
  rw [List.map_map] at e3
  obtain ⟨z, hs, vs, hk, o, es, ep, ho, hx, hd, _, hp, _⟩ := dk_of I.hok h
  obtain ⟨q1, q2⟩ := pairs_reads (h := s.heap) hk hp e1 e3
  refine ⟨_, Reads.dict ho hx.1 hd (by rw [List.map_map]; exact q1) (by rw [List.map_map]; exact q2), ?_⟩
  simp
  intro e
  subst e
  simp at hs
theorem dT_reads {ns : List (Int × Int)} {a : Addr} {kvs : List (List Key × V)} {ds : List D} (I : Inv X pins σ H s) (h : H a = some (.dT kvs)) (rs : RepL X.K F (kvs.map (·.2)) ds) (e : PyData.dict ((kvs.map fun p => PyData.tuple (p.1.map keyD1)).zip ds) = dI ns) : ∃ as, Reads s.heap (.ref a) (dI ns) as ∧ sysModules ∉ as := by
  obtain ⟨e1, e2⟩ := dI_keys (by rw [List.length_map]; have := rs.length; rw [List.length_map] at this; exact this) e
  cases kvs with
  | cons p kvs =>
    cases ns with
    | nil => cases e1
    | cons n ns =>
      simp only [List.map_cons, List.cons.injEq] at e1
      exact absurd e1.1 (by simp)
  | nil =>
    cases ns with
    | cons n ns => cases e1
    | nil =>
      obtain ⟨_, hs, xs, hp, o, es, ep, ho, hx, hd, hes, _⟩ := (show ObjOk X.prog X.w H s.heap a (.dT []) from I.hok a _ h)
      cases hp
      rw [List.map_nil] at hes
      refine ⟨_, Reads.dict ho hx.1 hd (as := []) (bs := []) (by rw [hes]; exact .nil) (by rw [hes]; exact .nil), ?_⟩
      simp
      intro e
      subst e
      simp at hs
theorem RepR.dreads {ns : List (Int × Int)} {v : V} {u : Value} (I : Inv X pins σ H s) (sm : Same F H) (r : RepR X.K H F v (dI ns)) (rv : RelV v u) : ∃ a, u = .ref a ∧ ∃ as, Reads s.heap (.ref a) (dI ns) as ∧ sysModules ∉ as := by
  rcases r with r | ⟨a, o, hv, e, h⟩ | ⟨a, o, hv, e, h⟩
  · generalize hd : dI ns = d at r
    cases r with
    | dK h rs =>
      cases rv
      have := dK_reads I (sm _ _ h) rs hd.symm
      rw [hd] at this
      exact ⟨_, rfl, this⟩
    | dT h rs =>
      cases rv
      have := dT_reads I (sm _ _ h) rs hd.symm
      rw [hd] at this
      exact ⟨_, rfl, this⟩
    | _ => cases hd
  · cases e
  · subst hv
    cases rv
    refine ⟨a, rfl, ?_⟩
    rcases h with ⟨kvs, es, h1, h2, h3⟩ | ⟨kvs, es, h1, h2, h3⟩
    · exact dK_reads I h1 h3 (by rw [← h2]; exact e.symm)
    · exact dT_reads I h1 h3 (by rw [← h2]; exact e.symm)
def gReprX (d : D) (P : Cl → Prop) : Prop := (d.plain = true ∨ ∃ ns, d = dI ns) ∧ d.showable = true ∧ d.depth ≤ 60 ∧ d.shown.length ≤ sizeLine ∧ P (.fz (.str d.shown))
def rReprX (K : PySem.W.Frag) : List V → Hp → VK → Prop := fun xs H Q => ∃ (F : Hp) (v : V) (d : D), Same F H ∧ xs = [v] ∧ RepR K H F v d ∧ (d.plain = true ∨ ∃ ns, d = dI ns) ∧ d.showable = true ∧ d.depth ≤ 60 ∧ d.shown.length ≤ sizeLine ∧ Q (.str d.shown) H
theorem call_reprX (gd : X.A.guards = some []) (hu : X.A.units + 64 < cLine) : CallR X (.builtin "repr") (rReprX X.K) := by
  intro pins s σ H xs us Q I r h
  obtain ⟨F, v, d, sm, rfl, rd, pl, sh, dp, sz, q⟩ := h
  obtain ⟨u, rfl, ru⟩ := r.one
  rcases pl with pl | ⟨ns, rfl⟩
  · obtain ⟨as, hr⟩ := rd.reads I sm ru pl
    cases d with
    | none =>
      cases hr
      exact PySem.P.repr_of_none ⟨V.str PyData.none.shown, H, I.tok _, ⟨_, rfl⟩, q⟩
    | bool b =>
      cases hr
      exact PySem.P.repr_of_bool ⟨V.str (PyData.bool b).shown, H, I.tok _, ⟨_, rfl⟩, q⟩
    | int i =>
      cases hr
      exact PySem.P.repr_of_int (by simpa [PyData.showable] using sh) ⟨V.str (PyData.int i).shown, H, I.tok _, ⟨_, rfl⟩, q⟩
    | str x =>
      cases hr
      exact PySem.P.repr_of_str ⟨V.str (PyData.str x).shown, H, I.tok _, ⟨_, rfl⟩, q⟩ sz
    | list ys =>
      obtain ⟨b, rfl⟩ : ∃ b, u = .ref b := by cases hr; exact ⟨_, rfl⟩
      refine repr_of_reads' (prog := X.prog) (w := X.w) hr sh (fun z => by rw [plain_noDict pl] at z; cases z) gd (by omega) (fun _ _ e => e) (fun h' t tk keep => ?_) sz
      exact ⟨.str _, H, I.kept (t' := tk) keep, ⟨t, rfl⟩, q⟩
    | tuple ys =>
      obtain ⟨b, rfl⟩ : ∃ b, u = .ref b := by cases hr; exact ⟨_, rfl⟩
      refine repr_of_reads' (prog := X.prog) (w := X.w) hr sh (fun z => by rw [plain_noDict pl] at z; cases z) gd (by omega) (fun _ _ e => e) (fun h' t tk keep => ?_) sz
      exact ⟨.str _, H, I.kept (t' := tk) keep, ⟨t, rfl⟩, q⟩
    | dict kvs => simp [PyData.plain] at pl
  · obtain ⟨a, rfl, as, hr, hs⟩ := rd.dreads I sm ru
    refine repr_of_reads' (prog := X.prog) (w := X.w) hr sh (fun _ => hs) gd (by omega) (fun _ _ e => e) (fun h' t tk keep => ?_) sz
    exact ⟨.str _, H, I.kept (t' := tk) keep, ⟨t, rfl⟩, q⟩
theorem og_reprX : OneG X (rReprX X.K) gReprX := fun B σ H F env x d P Q R r ⟨c2, c3, c4, c5, p⟩ k => ⟨F, x, d, R.sub, rfl, r, c2, c3, c4, c5, k _ _ _ _ p (R.push (.str _)) (Same.refl F)⟩
theorem g_reprX {pos p1 : Pos} {e : Expr} {a : Opd} (gd : X.A.guards = some []) (hu : X.A.units + 64 < cLine) (hm : X.mg "repr" = none) (hg : Gl X "repr") (ha : PE X e (tO X W a)) (s1 : starEach [e] X.env = (false, eval e X.env) :: starEach [] X.env := by rfl) (pl : (backTo pos (starEach [] X.env)).any (·.1) = false := by rfl) : PE X (.Call (.Name "repr" p1) [e] [] pos) (semE X W (eOp1 gReprX a)) := g_1B (call_reprX gd hu) og_reprX (by rfl) hm hg ha (s1 := s1) (pl := pl)
end
end Sw

/-! lambdas handed to a def that catches what they raise; the def that names it -/
namespace Sw
open PySem PySem.Spec PyProof.Rows L2
/-! ### the state of later -/
section
variable {K : PySem.W.Frag} {B : Bd} {σ : L2.St} {H F H' F' : Hp} {env : En}
/-- all that stood stands yet -/
theorem Rl.later (R : Rl K B σ H F env) (hk : ∀ q o, strip H q = some o → H' q = some o) (tb : LamX.Tabs (tabsK K) H') (s1 : Same F F') (s2 : SubN F' H') (nw : ∀ q o, F' q = some o → F q = some o ∨ strip H q = none ∨ TupO o) : Rl K B σ H' F' env := by
  refine R.change rfl s1 s2 tb nw (fun _ => False) (fun q h => h.elim) (fun q o h _ => hk q o h) (fun i c h => ?_) (fun i o h => ⟨o, h⟩)
  obtain ⟨v, ev, r⟩ := R.cell i c h
  refine ⟨c, v, h, by cases c <;> first | trivial | rfl, ev, r.keep s1 fun p u o hv hu hn => ?_⟩
  obtain ⟨p', e', _, u', hu', hs, _⟩ := R.atS h o
  rw [ev, hv] at e'
  cases e'
  rw [hu] at hu'
  cases hu'
  refine ⟨?_, hk p u hs⟩
  cases z : F' p with
  | none => rfl
  | some w =>
    rcases nw p w z with y | y | y
    · rw [hn] at y; cases y
    · rw [hs] at y; cases y
    · have e1 := s2.1 p w z
      rw [hk p u hs] at e1
      cases e1
      exact (R.ntup h o (by rw [ev, hv]) hu y).elim
/-- the tables alone have grown -/
theorem Rl.extN (R : Rl K B σ H F env) (e : LamX.ExtN H H') (tb : LamX.Tabs (tabsK K) H') : Rl K B σ H' F env :=
  R.later (fun q o h => e q o (strip_get h).1 (strip_get h).2) tb (Same.refl F) ⟨fun q o h => e q o (R.sub q o h) fun ps z => R.subn.2 q ps (by rw [h, z]), R.subn.2⟩ fun q o h => .inl h
/-- what a lambda sees: what stays -/
def maskC : Option Cl → Option Cl
  | some (.fz d) => some (.fz d)
  | some (.xn x) => if x.g.isSome = true then some (.xn x) else none
  | _ => none
def mask (env : En) : En := env.map maskC
@[simp ↓] theorem mask_nil : mask [] = [] := rfl
@[simp ↓] theorem mask_fz {d : D} {e : En} : mask (some (.fz d) :: e) = some (.fz d) :: mask e := rfl
@[simp ↓] theorem mask_ow {d : OD} {e : En} : mask (some (.ow d) :: e) = none :: mask e := rfl
@[simp ↓] theorem mask_io {d : OD} {e : En} : mask (some (.io d) :: e) = none :: mask e := rfl
@[simp ↓] theorem mask_sc {d : List Int} {e : En} : mask (some (.sc d) :: e) = none :: mask e := rfl
@[simp ↓] theorem mask_xn {d : XA} {e : En} : mask (some (.xn d) :: e) = (if d.g.isSome = true then some (.xn d) else none) :: mask e := rfl
@[simp ↓] theorem mask_none {e : En} : mask (none :: e) = none :: mask e := rfl
theorem mask_get {env : En} {i : Nat} {c : Cl} (h : (mask env)[i]? = some (some c)) : ((∃ d, c = .fz d) ∨ ∃ x, c = .xn x) ∧ env[i]? = some (some c) := by
  unfold mask at h
  rw [List.getElem?_map] at h
  cases e : env[i]? with
  | none => rw [e] at h; cases h
  | some x =>
    rw [e] at h
    have h : maskC x = some c := by simpa using h
    cases x with
    | none => cases h
    | some y =>
      cases y with
      | fz d => cases h; exact ⟨.inl ⟨_, rfl⟩, rfl⟩
      | xn z =>
        unfold maskC at h
        dsimp only at h
        split at h
        · cases h; exact ⟨.inr ⟨_, rfl⟩, rfl⟩
        · cases h
      | _ => cases h
def bdL (H F : Hp) : Bd := ⟨strip H, F, fun _ _ => False, fun _ => False⟩
theorem Rl.mask (R : Rl K B σ H F env) : Rl K (bdL H F) σ H F (mask env) where
  len := by unfold Sw.mask; rw [List.length_map]; exact R.len
  subn := R.subn
  ext := Same.refl F
  new := fun _ _ h => .inl h
  kept := ⟨fun _ _ h _ _ => (strip_get h).1, fun q ps h => (strip_get h).2 ps rfl, R.kept.tabs⟩
  cell := fun i c h => by
    exact R.cell i _ (mask_get h).2
  own := fun i o p h _ => by rcases (mask_get h).1 with ⟨d, z⟩ | ⟨d, z⟩ <;> cases z
  ion := fun i o p h _ => by rcases (mask_get h).1 with ⟨d, z⟩ | ⟨d, z⟩ <;> cases z
  ioc := fun i p h => h.elim
  dist := fun i j c c' p h o _ h' o' _ => by rcases (mask_get h).1 with ⟨d, rfl⟩ | ⟨d, rfl⟩ <;> cases o
theorem bdL_kept (k : Kept K (bdL H F) H') : ∀ q o, strip H q = some o → H' q = some o := fun q o h => k.keep q o h (fun ⟨_, z⟩ => z) fun z => z
end
/-! ### a def handed a caught exception -/
def eIsx (i : Nat) (a : XA) (b : Bool) : WE := fun env P _ => env[i]? = some (some (.xn a)) ∧ P (.fz (.bool b)) env
@[simp ↓] theorem eIsx_eq {i : Nat} {a : XA} {b : Bool} {env : En} {P : EK} {Y : XP} : eIsx i a b env P Y = (env[i]? = some (some (.xn a)) ∧ P (.fz (.bool b)) env) := rfl
/-- such a def called with it -/
def eCallX (C : Ct) (i : Nat) (a : XA) : WE := fun env P _ => env[i]? = some (some (.xn a)) ∧ C [.xn a] (fun c _ => P c env) fun _ => False
/-- the exceptions that the law meets: their names -/
structure XFact (K : PySem.W.Frag) (mg : Str → Option Value) (ex : Str → Str → Bool) (rs ns : List Str) (top : Str) : Prop where
  cls : ∀ c ∈ rs, ∃ C, mg c = some (.ref C) ∧ ExcC K C ∧ PySem.W.kitOne K (.ref C) (.type "ValueError") = some true ∧ (∃ T, mg top = some (.ref T) ∧ PySem.W.exmOne K (.ref C) (.ref T) = some true) ∧
    ∀ n ∈ ns, ∃ N, mg n = some (.ref N) ∧ PySem.W.kitOne K (.ref C) (.ref N) = some (ex c n)
theorem excC_of {K : PySem.W.Frag} {D : Addr} (h : excCB K D = true) : ExcC K D := by
  unfold excCB at h
  simp only [Bool.and_eq_true, beq_iff_eq] at h
  obtain ⟨⟨⟨⟨⟨⟨⟨h1, h2⟩, h3⟩, h4⟩, h5⟩, h6⟩, h7⟩, h8⟩ := h
  exact ⟨h1, h2, h3, h4, h5, h6, h7, h8⟩
theorem clsB_mg {K : PySem.W.Frag} {h : Heap} {mg : Str → Option Value} {c : Str} {C : Addr} (X : K.In h) (G : h.Ns mainGlobals mg) (e : clsB K c = some C) : mg c = some (.ref C) := by
  unfold clsB at e
  split at e
  · rename_i C' q
    cases e
    exact PySem.W.mg_of X G q
  · cases e
theorem xf_of {K : PySem.W.Frag} {h : Heap} {mg : Str → Option Value} {ex : Str → Str → Bool} {rs ns : List Str} {top : Str} (X : K.In h) (G : h.Ns mainGlobals mg) (e : xfB ex rs ns top K = true) : XFact K mg ex rs ns top := by
  refine ⟨fun c hc => ?_⟩
  have q := List.all_eq_true.mp e c hc
  split at q
  · rename_i C T e1 e2
    simp only [Bool.and_eq_true, beq_iff_eq] at q
    obtain ⟨⟨⟨q1, q2⟩, q3⟩, q4⟩ := q
    refine ⟨C, clsB_mg X G e1, excC_of q1, q2, ⟨T, clsB_mg X G e2, q3⟩, fun n hn => ?_⟩
    have z := List.all_eq_true.mp q4 n hn
    split at z
    · rename_i N e3
      exact ⟨N, clsB_mg X G e3, by simpa using z⟩
    · cases z
  · cases q
theorem cx_any {P : Program} {w : World} {l : List Env} {H : Hp} {s : Shared} {e : Value} {s' : Shared} (h : L2.CX P w l H s (fun _ _ _ => False) e s') : False := by
  obtain ⟨_, _, _, _, _, _, _, _, _, _, _, _, z⟩ := h
  exact z.elim
/-- what such a def promises, where the exception stands outside of what is tracked -/
def XHas (D : Addr) (b : XA) (p : Addr × Obj) : Prop := p.1 = b.a ∧ Zc (.ref D) b.dct p.2 ∧ b.g = none
structure FnW (P : Program) (w : World) (K : PySem.W.Frag) (mg : Str → Option Value) (base : Heap) (k : Nat) (f : Addr) (fd : FuncData) (a : Str) (rs : List Str) (C : Str → XA → Ct) : Prop where
  run : ∀ (A : Around) (outer : List Env) (s : Shared) (H : Hp) (args : Args) (Q : VK) (E : XK) (p : Addr × Obj) (c : Str) (b : XA) (D : Addr), L2H.RoomH k A → L2H.PinOk outer H s p → c ∈ rs → mg c = some (.ref D) → XHas D b p → (∃ vs, p.2.data = .fields vs) → Env0 P w K mg base A outer s H → BindsTo s fd args [(a, .ref p.1)] → spOf K mg 1 (C c b) [.ref p.1] H Q E →
    codeAny (model P w) A (.call (.ref f) args) (CR (L2.CX P w) outer P w H s Q E) s
section
variable {P : Program} {w : World} {K : PySem.W.Frag} {mg : Str → Option Value} {base : Heap} {x qual : Str} {params : Arguments} {body : List Stmt} {scope : Scope} {kws : List (Str × V)} {dvs : List V} {f : Addr} {fd : FuncData} {N : List Str} {k : Nat} {a : Str} {rs : List Str}
theorem fnW_ok {m : Nat} {wp : Str → XA → WS} (FD : FunD K x qual params body scope dvs kws f fd) (S : FnScope N [a] scope) (hm : N.length - 1 = m)
    (hb : ∀ (cdv : Value) (A : Around) (outer : List Env) (s : Shared) (H : Hp) (E : XK) (p : Addr × Obj) (c : Str) (b : XA) (D : Addr), L2H.RoomH k (A.deeper (envOfC qual scope s.heap.objs.size f cdv)) → c ∈ rs → mg c = some (.ref D) → XHas D b p → (∃ vs, p.2.data = .fields vs) →
      PSs (L2H.cxH (L2.CX P w) P w K mg base N qual scope f cdv A outer s H E p) body (semS (L2H.cxH (L2.CX P w) P w K mg base N qual scope f cdv A outer s H E p) (fun cls d _ H => E cls d H) (wp c b))) :
    FnW P w K mg base (k + 1) f fd a rs (fun c b => ctOf (wp c b) m) := by
  obtain ⟨_, _, _, _, _, _, _, cdv, _, _, rfl, lk, code, _, _⟩ := FD.ex
  constructor
  intro A outer s H args Q E p c b D room pin hc hmc hz hf e0 bnd promise
  have inK : K.In s.heap := e0.mod.kin.keeps fun b o q => (e0.bs b o q).1
  have nolim : s.heap.NoLimit := e0.mod.nolimit.keeps fun b o q => (e0.bs b o q).1
  have kinds : ∀ y ∈ [(a, Value.ref p.1)], scope.names.lookup y.1 = some .local ∨ (scope.names.lookup y.1 = some .cell ∧ ((cellsFrom (s.heap.objs.size + 1) scope.names []).lookup y.1).isSome = true) := by
    rintro ⟨nm, v⟩ hy
    cases List.mem_singleton.mp hy
    rcases S.par a List.mem_cons_self with c | c
    · left; exact c
    · right; exact ⟨c, PySem.W.cellsFrom_some _ _ _ (.inl c)⟩
  apply codeAny_call_function room.depth (inK _ _ lk) rfl S.co S.gen rfl (PySem.W.codeRec_of inK code) (bnd _ _ _ _ _)
  apply wpAny_newFunctionEnv_cells S.kind kinds
  intro env he s1 y
  subst he
  refine ⟨nolim.keeps y.toInCall.keep, codeAny_func ?_⟩
  have pt := hb cdv A outer s H E p c b D (room.deeper _) hc hmc hz hf
  have start := L2H.inv_startH (CX := L2.CX P w) (E := E) (us := [.ref p.1]) (vs := [.ref p.1]) S pin e0 rfl (.cons rfl .nil) y
  obtain ⟨F, cs, P', Y, hl, R, hcc, ok, xo⟩ := promise
  have q := sem_in (X := L2H.cxH (L2.CX P w) P w K mg base N qual scope f cdv A outer s H E p) (n := 1) hm hl R hcc ok xo
  apply wpAny_mono (pt.run [] s1 (L2.start N [.ref p.1]) H _ start q)
  · intro fl s' z
    cases fl with
    | ret u =>
      obtain ⟨v, σ', H', J, rv, q⟩ := z
      exact ⟨v, H', J.os, J.bare, J.base, J.hok, rv, q⟩
    | next =>
      obtain ⟨σ', H', J, q⟩ := z
      exact ⟨.non, H', J.os, J.bare, J.base, J.hok, rfl, q⟩
    | brk => exact z.elim fun _ z => z.elim fun _ z => z.2.elim
    | cont => exact z.elim fun _ z => z.elim fun _ z => z.2.elim
  · intro e s' z
    exact z
end
section
variable {X : Cx} {W : WX} {pos p1 p2 p3 : Pos} {x y : Str} {k i : Nat} {fa : Addr} {fd : FuncData} {a : Str} {rs ns : List Str} {C : Str → XA → Ct} {p : Addr × Obj} {b : XA} {c n top : Str} {D : Addr} {ex : Str → Str → Bool}
/-- isinstance(e, c), e the exception that b tells of -/
def rIsB (K : PySem.W.Frag) (D : Addr) (b : XA) : List V → Hp → VK → Prop := fun xs H Q => ∃ (c : V) (cv : Value) (t : Bool), xs = [.ref b.a, c] ∧ (∀ u, RelV c u → u = cv) ∧ PySem.W.kitOne K (.ref D) cv = some t ∧ (∀ p, b.f = some p → H p.1 = some (.xd [(("at" : Str), .int p.2)])) ∧ Q (.bl t) H
theorem inst_X {pins : List (Addr × Obj)} {σ : L2.St} {H : Hp} {s : Shared} (hp : p ∈ X.pn) (hz : XHas D b p) (hf : ∃ vs, p.2.data = .fields vs) (I : Inv X pins σ H s) (hx : ∀ p, b.f = some p → H p.1 = some (.xd [(("at" : Str), .int p.2)])) :
    (b.f = none ∧ PySem.W.InstAt s.heap b.a p.2 D none) ∨ ∃ q od u, b.f = some q ∧ PySem.W.InstAt s.heap b.a p.2 D (some od) ∧ RelV (.int q.2) u ∧ PySem.W.lookIn "at" od = some (some u) := by
  have look := (I.pin p (List.mem_append_left _ hp)).1
  obtain ⟨vs, hv⟩ := hf
  obtain ⟨q1, oc, od, oda, osl⟩ := p
  obtain ⟨h0, ⟨h1, h2⟩, _⟩ := hz
  obtain ⟨ba, bf, bg⟩ := b
  dsimp only at h0 h1 h2 hv look hx ⊢
  subst h0 h1 hv
  cases bf with
  | none =>
    have h2 : od = none := h2
    subst h2
    exact .inl ⟨rfl, look, rfl, rfl, trivial⟩
  | some q =>
    have h2 : od = some q.1 := h2
    subst h2
    have ok : ObjOk X.prog X.w H s.heap q.1 (.xd [(("at" : Str), .int q.2)]) := I.hok q.1 _ (hx q rfl)
    obtain ⟨mA, hns, hr⟩ := ok
    obtain ⟨od, ho, hl⟩ := lookIn_ns hns
    obtain ⟨u, hu, ru⟩ := RelO.some_of (v := .int q.2) (o := mA "at") (by have := hr "at"; simpa [List.lookup] using this)
    exact .inr ⟨q, od, u, rfl, ⟨look, rfl, rfl, ho⟩, ru, by rw [hl, hu]⟩
theorem clsIs {K : PySem.W.Frag} {D : Addr} (h : PySem.W.hasDictIn K D = true) : (PySem.W.clsIn K D).isSome = true := by
  obtain ⟨cd, hc, _⟩ := PySem.W.any_some h
  rw [hc]
  rfl
theorem call_isX (hp : p ∈ X.pn) (EC : ExcC X.K D) (hz : XHas D b p) (hf : ∃ vs, p.2.data = .fields vs) : CallR X (.builtin "isinstance") (rIsB X.K D b) := by
  rintro pins s σ H xs us Q I r ⟨c, cv, t, rfl, hcv, e, hx, q⟩
  obtain ⟨u1, u2, rfl, r1, r2⟩ := vals2 r
  have e1 : u1 = .ref b.a := r1
  have e2 := hcv _ r2
  subst e1 e2
  rcases inst_X hp hz hf I hx with ⟨_, J⟩ | ⟨_, od, _, _, J, _⟩
  · exact PySem.W.kia_one (PySem.W.kitx_exc (clsIs EC.hd) EC.hg EC.hk EC.hs EC.ha EC.hn EC.ht EC.hm) I.kIn J e (fun z => nomatch z) fun tk => ⟨.bl t, H, I.kept (t' := tk) fun _ _ z => z, rfl, q⟩
  · exact PySem.W.kia_one (PySem.W.kitx_exc (clsIs EC.hd) EC.hg EC.hk EC.hs EC.ha EC.hn EC.ht EC.hm) I.kIn J e (fun z => nomatch z) fun tk => ⟨.bl t, H, I.kept (t' := tk) fun _ _ z => z, rfl, q⟩
theorem isx_imp {v : V} {cv : Value} {t : Bool} (hbg : b.g = none) (hcv : ∀ u, RelV v u → u = cv) (e : PySem.W.kitOne X.K (.ref D) cv = some t) : ∀ σ H Q, semE X W (eIsx i b t) σ H Q → tCB (rIsB X.K D b) (tCons (tVar i) (tCons (tC v) tNil)) σ H Q := fun σ H Q ⟨B, F, env, P, Y, R, ⟨h1, h⟩, ok, xo⟩ => by
  obtain ⟨u, eu, rx⟩ := R.cell i _ h1
  obtain ⟨r, rf⟩ := rx.1 hbg
  subst r
  exact ⟨_, eu, v, cv, t, rfl, hcv, e, fun p hp => R.sub _ _ (rf p hp), ok _ _ _ _ _ h (R.push (.bl t)) (Same.refl F)⟩
/-- isinstance(e, an own class) -/
theorem g_isx (hp : p ∈ X.pn) (XF : XFact X.K X.mg ex rs ns top) (hc : c ∈ rs) (hn : n ∈ ns) (hmc : X.mg c = some (.ref D)) (hz : XHas D b p) (hf : ∃ vs, p.2.data = .fields vs) (hN : X.N[i]? = some x) (hv : Vis X.env.scope x) (g1 : Gl X "isinstance") (m1 : X.mg "isinstance" = none) (g2 : Gl X n)
    (hd : (x == ("__debug__" : Str)) = false := by decide) (hcd : (x == ("__classdict__" : Str)) = false := by decide) (hd2 : (n == ("__debug__" : Str)) = false := by decide)
    (s1 : starEach [.Name x p2, .Name n p3] X.env = (false, eval (.Name x p2) X.env) :: starEach [.Name n p3] X.env := by rfl) (s2 : starEach [.Name n p3] X.env = (false, eval (.Name n p3) X.env) :: starEach [] X.env := by rfl) (pl : (backTo pos (starEach [.Name n p3] X.env)).any (·.1) = false := by rfl) :
    PE X (.Call (.Name "isinstance" p1) [.Name x p2, .Name n p3] [] pos) (semE X W (eIsx i b (ex c n))) := by
  obtain ⟨C', h1, h2, h3, _, h5⟩ := XF.cls c hc
  rw [hmc] at h1
  cases h1
  obtain ⟨N, m2, h6⟩ := h5 n hn
  exact peOf (pe_callB (call_isX hp h2 hz hf) g1 m1 (by rfl) (pa_cons (pe_var hN hv hd hcd) (pa_cons (pe_glob (v := .ref N) g2 m2 rfl hd2) pa_nil s2) s1) (he := s1) (hpl := pl)) (isx_imp hz.2.2 (fun u r => r) h6)
/-- isinstance(e, ValueError) -/
theorem g_isxV (hp : p ∈ X.pn) (XF : XFact X.K X.mg ex rs ns top) (hc : c ∈ rs) (hmc : X.mg c = some (.ref D)) (hz : XHas D b p) (hf : ∃ vs, p.2.data = .fields vs) (hN : X.N[i]? = some x) (hv : Vis X.env.scope x) (g1 : Gl X "isinstance") (m1 : X.mg "isinstance" = none) (g2 : Gl X "ValueError") (m2 : X.mg "ValueError" = none)
    (hd : (x == ("__debug__" : Str)) = false := by decide) (hcd : (x == ("__classdict__" : Str)) = false := by decide)
    (s1 : starEach [.Name x p2, .Name "ValueError" p3] X.env = (false, eval (.Name x p2) X.env) :: starEach [.Name "ValueError" p3] X.env := by rfl) (s2 : starEach [.Name "ValueError" p3] X.env = (false, eval (.Name "ValueError" p3) X.env) :: starEach [] X.env := by rfl) (pl : (backTo pos (starEach [.Name "ValueError" p3] X.env)).any (·.1) = false := by rfl) :
    PE X (.Call (.Name "isinstance" p1) [.Name x p2, .Name "ValueError" p3] [] pos) (semE X W (eIsx i b true)) := by
  obtain ⟨C', h1, h2, h3, _, _⟩ := XF.cls c hc
  rw [hmc] at h1
  cases h1
  exact peOf (pe_callB (call_isX hp h2 hz hf) g1 m1 (by rfl) (pa_cons (pe_var hN hv hd hcd) (pa_cons (pe_bltn (v := .ty "ValueError") g2 m2 (by rfl) rfl (by decide) (by decide)) pa_nil s2) s1) (he := s1) (hpl := pl)) (isx_imp hz.2.2 (fun u r => r) h3)
theorem run_W {pins : List (Addr × Obj)} {σ : L2.St} {H : Hp} {s : Shared} {Q : VK} (FW : FnW X.prog X.w X.K X.mg X.base k fa fd a rs C) (hr : L2H.RoomH k X.A) (hp : p ∈ X.pn) (hc : c ∈ rs) (hmc : X.mg c = some (.ref D)) (hz : XHas D b p) (hf : ∃ vs, p.2.data = .fields vs) (hb : Binds X.K fd [a] [])
    (I : Inv X pins σ H s) (h : spOf X.K X.mg 1 (C c b) [.ref p.1] H Q fun _ _ _ => False) : wpAny (model X.prog X.w) X.A (call (.ref fa) [.ref p.1]) (EP X pins σ Q) X.xe s := by
  have bs := hb s [.ref p.1] I.kIn rfl
  have P1 := I.pin p (List.mem_append_left _ hp)
  have pin : L2H.PinOk X.stack H s p := ⟨P1.1, P1.2.1, fun hm => (List.mem_cons.mp (I.stkSub p.1 hm)).elim P1.2.2.1 P1.2.2.2.1, P1.2.2.2.2⟩
  refine wpAny_call (codeAny_mono (FW.run X.A X.stack s H ⟨[.ref p.1], []⟩ Q _ p c b D hr pin hc hmc hz hf I.env0 bs h) fun r s' hq => ?_)
  match r, hq with
  | .error e, hq => exact (cx_any hq).elim
  | .ok (.ret u), hq => exact I.after hq
/-- the handled exception handed on, in such a def -/
theorem g_callX (FW : FnW X.prog X.w X.K X.mg X.base k fa fd a rs C) (hr : L2H.RoomH k X.A) (hp : p ∈ X.pn) (hc : c ∈ rs) (hmc : X.mg c = some (.ref D)) (hz : XHas D b p) (hf : ∃ vs, p.2.data = .fields vs) (hb : Binds X.K fd [a] []) (hm : X.mg y = some (.ref fa)) (kp : PySem.W.keepIn X.K (.ref fa) = true) (hg : Gl X y) (hN : X.N[i]? = some x) (hv : Vis X.env.scope x)
    (hd : (x == ("__debug__" : Str)) = false := by decide) (hcd : (x == ("__classdict__" : Str)) = false := by decide) (hdb : (y == ("__debug__" : Str)) = false := by decide)
    (he : starEach [.Name x p2] X.env = (false, eval (.Name x p2) X.env) :: starEach [] X.env := by rfl) (hpl : (backTo pos (starEach [] X.env)).any (·.1) = false := by rfl) : PE X (.Call (.Name y p1) [.Name x p2] [] pos) (semE X W (eCallX (C c b) i b)) := by
  constructor
  rintro pins s σ H Q I ⟨B, F, env, P, Y, R, ⟨h1, h⟩, ok, xo⟩
  obtain ⟨u, eu, rx⟩ := R.cell i _ h1
  obtain ⟨r, rf⟩ := rx.1 hz.2.2
  rw [← hz.1] at r
  subst r
  apply wpAny_Call_Name_kw
  apply ld_glob I hg hm _ hdb
  apply PySem.W.callWith_K (h₀ := X.base) I.ok.mod.kin kp _ he hpl
  refine thn ((pa_cons (pe_var (pos := p2) hN hv hd hcd) pa_nil he).run pos pins s σ H (fun vs H1 => vs = [.ref p.1] ∧ H1 = H) I ⟨_, eu, rfl, rfl⟩) ?_
  rintro us s1 ⟨vs, H1, I1, rv, rfl, rfl⟩
  obtain ⟨u1, rfl, r1⟩ := rv.one
  have e1 : u1 = .ref p.1 := r1
  subst e1
  refine ⟨I1.kIn, ?_⟩
  refine run_W FW hr hp hc hmc hz hf hb I1 ⟨F, [.xn b], _, _, rfl, ?_, h, fun c' os v H' F' q po => ?_, fun _ _ _ _ z => z.elim⟩
  · refine ⟨rfl, R.subn, Same.refl F, fun _ _ h => .inl h, ⟨fun _ _ h _ _ => (strip_get h).1, fun q ps h => (strip_get h).2 ps rfl, R.kept.tabs⟩, fun i c h => ?_, fun i o p h e => ?_, fun i o p h e => ?_, fun i p h => ?_, fun i j c c' p h o e h' o' e' => ?_⟩
    · cases i with
      | zero => cases h; exact ⟨_, rfl, fun _ => ⟨congrArg V.ref hz.1, rf⟩, fun n e => by rw [hz.2.2] at e; cases e⟩
      | succ i => simp at h
    · cases i with
      | zero => cases h
      | succ i => simp at h
    · cases i with
      | zero => cases h
      | succ i => simp at h
    · obtain ⟨⟨o, h⟩, _⟩ := h
      cases i with
      | zero => cases h
      | succ i => simp at h
    · cases i with
      | zero => cases h; cases o
      | succ i => simp at h
  · have nl : ∀ j q, ¬ lentAt [V.ref p.1] [Cl.xn b] j q := fun j q ⟨⟨o, z⟩, _⟩ => by
      cases j with
      | zero => cases z
      | succ j => simp at z
    have R2 : Rl X.K B σ H' F' env := R.later (fun q o h => po.kept q o h fun j => nl j q) po.tabs po.s1 po.s2 po.new
    refine ok _ _ _ _ _ q (R2.pushC po.res po.nio fun o q e1 e2 => ?_) po.s1
    have n := po.own o q e1 e2
    refine ⟨R.freeS n, fun j c' ej oj es => ?_⟩
    obtain ⟨p', e', _, u, _, hu, _⟩ := R.atS ej oj
    rw [es] at e'
    cases e'
    rw [n] at hu
    cases hu
end
/-! ### try: return .. call() .. / except X as e: return .. word(e) .. -/
def rTold (b : Bool) (t : TE) : TE := match b with
  | true => tLst (tCons t tNil)
  | false => tTup (tCons (tC (.str "told")) (tCons t tNil))
def rWord (b : Bool) (t : TE) : TE := match b with
  | true => t
  | false => tTup (tCons t tNil)
def toldD (b : Bool) (d : D) : D := match b with
  | true => .list [d]
  | false => .tuple [.str "told", d]
def wordD (b : Bool) (d : D) : D := match b with
  | true => d
  | false => .tuple [d]
/-- what it makes of what the lambda raises -/
def sayX (K : PySem.W.Frag) (mg : Str → Option Value) (b2 : Bool) (rs : List Str) (C : Str → XA → Ct) (Q : VK) : XK := fun cls d H' =>
  ∃ c D, ∃ f : Option (Addr × Int), c ∈ rs ∧ mg c = some (.ref D) ∧ cls = .ref D ∧ d = f.map (fun p => p.1) ∧ ∀ a, H' a = none → rWord b2 (fun _ H2 Q2 => spOf K mg 1 (C c ⟨a, f, none⟩) [.ref a] H2 Q2 fun _ _ _ => False) [] H' Q
/-- what the catching def makes of the lambda's reading -/
def TTs (K : PySem.W.Frag) (mg : Str → Option Value) (T : Addr) (b1 b2 : Bool) (rs : List Str) (C : Str → XA → Ct) : (XK → Hp → VK → Prop) → Hp → VK → Prop := fun tl H Q =>
  ∃ Ech, (∀ cls d H', Ech cls d H' → sayX K mg b2 rs C Q cls d H') ∧ rTold b1 (fun _ H Q => tl Ech H Q) [] H Q
theorem rTold_imp {b : Bool} {t t' : TE} {σ σ' : L2.St} {H : Hp} {Q : VK} (h : ∀ Q, t σ H Q → t' σ' H Q) (q : rTold b t σ H Q) : rTold b t' σ' H Q := by
  cases b with
  | true => exact h _ q
  | false => exact h _ q
theorem rWord_imp {b : Bool} {t t' : TE} {σ σ' : L2.St} {H : Hp} {Q : VK} (h : ∀ Q, t σ H Q → t' σ' H Q) (q : rWord b t σ H Q) : rWord b t' σ' H Q := by
  cases b with
  | true => exact h _ q
  | false => exact h _ q
section
variable {X : Cx}
theorem said_gives {Ng : List Str} {x a e wd q top : Str} {sg : Scope} {g T fw : Addr} {cdg : Value} {fdw : FuncData} {aw : Str} {k : Nat} {rs ns : List Str} {C : Str → XA → Ct} {ex : Str → Str → Bool} {b1 b2 : Bool} {re se : Expr} {p1 p2 p3 p4 p5 p6 p7 p8 p9 p10 : Pos}
    (XF : XFact X.K X.mg ex rs ns top) (FW : FnW X.prog X.w X.K X.mg X.base k fw fdw aw rs C) (hbw : Binds X.K fdw [aw] []) (hmw : X.mg wd = some (.ref fw)) (kpw : PySem.W.keepIn X.K (.ref fw) = true) (hgw : sg.names.lookup wd = some .globalImplicit) (hdw : (wd == ("__debug__" : Str)) = false)
    (hr : ∀ A : Around, A.depth = X.A.depth + 1 → A.units = X.A.units + 3 → L2H.RoomH k A)
    (hge : sg.names.lookup top = some .globalImplicit) (hme : X.mg top = some (.ref T)) (hde : (top == ("__debug__" : Str)) = false)
    (hNn : Ng.Nodup) (hNe : Ng[1]? = some e) (hNl : Ng.length = 2) (hle : sg.names.lookup e = some .local) (hd : (e == ("__debug__" : Str)) = false) (hcd : (e == ("__classdict__" : Str)) = false)
    (hR : ∀ (X' : Cx) (t : TE), PE X' (.Call (.Name a p1) [] [] p2) t → PE X' re (rTold b1 t)) (hS : ∀ (X' : Cx) (t : TE), PE X' (.Call (.Name wd p3) [.Name e p4] [] p5) t → PE X' se (rWord b2 t))
    (h0 : ∀ f : Addr, (L2.start Ng [V.ref f])[0]? = some (some (V.ref f))) :
    LamX.GivesTo X Ng x sg g cdg [.Try [.Return (some re) p6] [.ExceptHandler (some (.Name top p7)) (some e) [.Return (some se) p8] p9] [] [] p10] a q (TTs X.K X.mg T b1 b2 rs C) := by
  intro f c' s H Q tl act hc h
  have hgl : Gl (cxOf C8.CX0 X.prog X.w X.K X.mg X.base Ng x sg g cdg X.A X.stack s H C8.E0).nox top := hge
  refine ⟨_, pss_one (ps_try_as (X := (cxOf C8.CX0 X.prog X.w X.K X.mg X.base Ng x sg g cdg X.A X.stack s H C8.E0).nox) (c := .ref T) (i := 1)
      (ts := fun a cls d D σ H => ∃ c D0, ∃ f : Option (Addr × Int), c ∈ rs ∧ X.mg c = some (.ref D0) ∧ cls = .ref D0 ∧ d = f.map (fun p => p.1) ∧ rWord b2 (fun σ H2 Q2 => (1 < σ.length → σ[1]? = some (some (.ref a))) ∧ spOf X.K X.mg 1 (C c ⟨a, f, none⟩) [.ref a] H2 Q2 fun _ _ _ => False) σ H D.rt)
      (tb := fun W D σ H => ∃ Ech : XK, (∀ cls d σ' H', Ech cls d H' → W cls d σ' H') ∧ σ[0]? = some (some (.ref f)) ∧ H c' = some (LamX.CodeO c' q) ∧ rTold b1 (fun _ H Q => tl Ech H Q) [] H D.rt)
      rfl rfl hNn hNe (by exact hle) ⟨hgl, hde, .inl hme⟩ LamX.takes0 (fun W pn xe tk _ => ?_) (fun a oe cls d pn hz hf => ?_)), ?_⟩
  · refine ⟨fun pins s' σ H' D I h' => ?_⟩
    obtain ⟨Ech, hW, h1, h2, h3⟩ := h'
    have hp := act W pn xe Ech p1 p2 tk hW
    have hq := pss_one (ps_ret (pos := p6) (hR _ _ hp))
    exact hq.run pins s' σ H' D I (rTold_imp (fun Q q => ⟨h1, h2, q⟩) h3)
  · refine ⟨fun pins s' σ H' D I h' => ?_⟩
    obtain ⟨c, D0, fo, hc, hmc, ecls, ed, h3⟩ := h'
    subst ecls ed
    have hp : PE ((cxOf C8.CX0 X.prog X.w X.K X.mg X.base Ng x sg g cdg X.A X.stack s H C8.E0).nox.suite a ((a, oe) :: pn)) (.Call (.Name wd p3) [.Name e p4] [] p5) (fun σ H2 Q2 => (1 < σ.length → σ[1]? = some (some (.ref a))) ∧ spOf X.K X.mg 1 (C c ⟨a, fo, none⟩) [.ref a] H2 Q2 fun _ _ _ => False) := by
      refine ⟨fun pins s σ H Q I ⟨h1, h2⟩ => ?_⟩
      have hl : σ.length = Ng.length := I.len
      have eu := h1 (by rw [hl, hNl]; decide)
      refine wpAny_Call_Name_kw (ld_glob I hgw hmw ?_ hdw)
      refine PySem.W.callWith_K (h₀ := X.base) I.ok.mod.kin kpw (thn ((pa_cons (pe_var (pos := p4) (i := 1) hNe (.inl hle) hd hcd) pa_nil rfl).run p5 pins s σ H (fun vs H1 => vs = [.ref a] ∧ H1 = H) I ⟨_, eu, rfl, rfl⟩) ?_) rfl rfl
      rintro us s1 ⟨vs, H1, I1, r, rfl, rfl⟩
      obtain ⟨u1, rfl, r1⟩ := r.one
      have e1 : u1 = .ref a := r1
      subst e1
      refine ⟨I1.kIn, ?_⟩
      exact run_W (p := (a, oe)) (b := ⟨a, fo, none⟩) FW (hr _ rfl rfl) List.mem_cons_self hc hmc ⟨rfl, hz, rfl⟩ hf hbw I1 h2
    exact (pss_one (ps_ret (pos := p8) (hS _ _ hp))).run pins s' σ H' D I h3
  · obtain ⟨Ech, hE, h⟩ := h
    refine ⟨Ech, fun cls d σ' H' hx => ?_, h0 f, hc, h⟩
    obtain ⟨c, D0, fo, hc, hmc, ecls, ed, q⟩ := hE _ _ _ hx
    subst ecls ed
    obtain ⟨C', h1, _, _, ⟨T', h4, h5⟩, _⟩ := XF.cls c hc
    rw [hmc] at h1
    cases h1
    rw [hme] at h4
    cases h4
    refine ⟨true, h5, fun _ a ha => ⟨c, D0, fo, hc, hmc, rfl, rfl, rWord_imp (fun Q q => ⟨fun hl => ?_, q⟩) (q a ha)⟩, fun z => by cases z⟩
    rw [List.length_set] at hl
    exact List.getElem?_set_self hl
end
/-! ### the def that catches, handed a lambda -/
def eSaid (b1 b2 : Bool) (rs : List Str) (C : Str → XA → Ct) (f : WE) : WE := fun env P _ =>
  f (mask env) (fun c _ => c.isSc = false ∧ P (.fz (toldD b1 c.toD)) env) fun x => ∃ c, c ∈ rs ∧ x = (c, none) ∧ ∀ a : Addr, C c a [.xn a] (fun c' _ => c'.isSc = false ∧ P (.fz (wordD b2 c'.toD)) env) fun _ => False
section
variable {X : Cx} {W : WX} {K : PySem.W.Frag} {B : Bd} {σ : L2.St} {H F : Hp} {env : En}
theorem rl_xn {a : Addr} (sb : SubN F H) (tb : LamX.Tabs (tabsK K) H) : Rl K (bdOf H F [.ref a] [.xn a]) [some (.ref a)] H F [some (.xn a)] := by
  refine ⟨rfl, sb, Same.refl F, fun _ _ h => .inl h, ⟨fun _ _ h _ _ => (strip_get h).1, fun q ps h => (strip_get h).2 ps rfl, tb⟩, fun i c h => ?_, fun i o p h e => ?_, fun i o p h e => ?_, fun i p h => ?_, fun i j c c' p h o e h' o' e' => ?_⟩
  · cases i with
    | zero => cases h; exact ⟨_, rfl, fun _ => ⟨rfl, fun p hp => by cases hp⟩, fun n e => by cases e⟩
    | succ i => simp at h
  · cases i with
    | zero => cases h
    | succ i => simp at h
  · cases i with
    | zero => cases h
    | succ i => simp at h
  · obtain ⟨⟨o, h⟩, _⟩ := h
    cases i with
    | zero => cases h
    | succ i => simp at h
  · cases i with
    | zero => cases h; cases o
    | succ i => simp at h
def toldK (b : Bool) (Q : VK) : VK := match b with
  | true => fun v H => [v].length ≤ sizeLine ∧ ∀ q, H q = none → Q (.ref q) (upd H q (.lst [v]))
  | false => fun v H => [V.str "told", v].length ≤ sizeLine ∧ ∀ q, H q = none → Q (.ref q) (upd H q (.tup [.str "told", v]))
def wordK (b : Bool) (Q : VK) : VK := match b with
  | true => Q
  | false => fun v H => [v].length ≤ sizeLine ∧ ∀ q, H q = none → Q (.ref q) (upd H q (.tup [v]))
theorem rTold_K {b : Bool} {t : TE} {σ : L2.St} {H : Hp} {Q : VK} : rTold b t σ H Q = t σ H (toldK b Q) := by cases b <;> rfl
theorem rWord_K {b : Bool} {t : TE} {σ : L2.St} {H : Hp} {Q : VK} : rWord b t σ H Q = t σ H (wordK b Q) := by cases b <;> rfl
theorem wrap_told {b : Bool} {v : V} {d : D} {Q : VK} {P : EK} {F0 : Hp} (R : Rl K B σ H F env) (r : Rep K F v d) (s : Same F0 F) (p : P (.fz (toldD b d)) env) (ok : EOk K B σ F0 P Q) : toldK b Q v H := by
  cases b with
  | true =>
    refine ⟨by rw [sizeLine_eq]; simp, fun q hq => ?_⟩
    have sm : Same F (upd F q (.lst [v])) := same_new (R.nF hq)
    exact ok _ _ _ _ _ p ((R.grow hq).push (.lst upd_same (.cons (r.mono sm) .nil))) (s.trans sm)
  | false =>
    refine ⟨by rw [sizeLine_eq]; simp, fun q hq => ?_⟩
    have sm : Same F (upd F q (.tup [.str "told", v])) := same_new (R.nF hq)
    exact ok _ _ _ _ _ p ((R.grow hq).push (.tup (SqT.of upd_same) (.cons (.str _) (.cons (r.mono sm) .nil)))) (s.trans sm)
theorem wrap_word {b : Bool} {v : V} {d : D} {Q : VK} {P : EK} {F0 : Hp} (R : Rl K B σ H F env) (r : Rep K F v d) (s : Same F0 F) (p : P (.fz (wordD b d)) env) (ok : EOk K B σ F0 P Q) : wordK b Q v H := by
  cases b with
  | true => exact ok _ _ _ _ _ p (R.push r) s
  | false =>
    refine ⟨by rw [sizeLine_eq]; simp, fun q hq => ?_⟩
    have sm : Same F (upd F q (.tup [v])) := same_new (R.nF hq)
    exact ok _ _ _ _ _ p ((R.grow hq).push (.tup (SqT.of upd_same) (.cons (r.mono sm) .nil))) (s.trans sm)
/-- behind a call that changes nothing of ours -/
theorem post_rep {vs : List V} {cs : List Cl} {c : Cl} {os : List OD} {v : V} {H' F' : Hp} (R : Rl K B σ H F env) (nl : ∀ j q, ¬ lentAt vs cs j q) (po : PostOk K H F vs cs c os v H' F') (nsc : c.isSc = false) : ∃ F2, Same F F2 ∧ Rl K B σ H' F2 env ∧ Rep K F2 v c.toD := by
  have R2 : Rl K B σ H' F' env := R.later (fun q o h => po.kept q o h fun j => nl j q) po.tabs po.s1 po.s2 po.new
  have R3 : Rl K B (σ ++ [some v]) H' F' (env ++ [some c]) := R2.pushC po.res po.nio fun o q e1 e2 => by
    have n := po.own o q e1 e2
    refine ⟨R.freeS n, fun j c' ej oj es => ?_⟩
    obtain ⟨p', e', _, u, _, hu, _⟩ := R.atS ej oj
    rw [es] at e'
    cases e'
    rw [n] at hu
    cases hu
  obtain ⟨F2, s2, R4, r4⟩ := R3.freeze R2.nio nsc
  exact ⟨F2, po.s1.trans s2, R4, r4⟩
theorem said_imp {T : Addr} {b1 b2 : Bool} {rs : List Str} {C : Str → XA → Ct} {f : WE} : ∀ σ H Q, semE X W (eSaid b1 b2 rs C f) σ H Q → LamX.tLam (tabsK X.K) (TTs X.K X.mg T b1 b2 rs C) (fun E => semE X (fun cls d _ H => E cls d H) f) σ H Q := by
  rintro σ H Q ⟨B, F, env, P, Y, R, h, ok, xo⟩
  refine ⟨R.kept.tabs, fun H1 eN T1 => ?_⟩
  have R1 := R.extN eN T1
  refine ⟨_, fun _ _ _ z => z, ?_⟩
  rw [rTold_K]
  refine ⟨bdL H1 F, F, mask env, _, _, R1.mask, h, fun c env' v H' F' ⟨sc, p⟩ R' s => ?_, fun x σ' H' cls d ⟨c, hc, ex, hC⟩ hx k => ?_⟩
  · obtain ⟨F2, s2, R2, r2⟩ := R'.freeze (fun p z => z) sc
    have R3 : Rl X.K B σ H' F2 env := R1.later (bdL_kept R2.kept) R2.kept.tabs (s.trans s2) R2.subn fun q o h => by
      rcases R2.new q o h with z | z | z | z
      · exact .inl z
      · exact .inr (.inl z)
      · exact z.elim
      · exact .inr (.inr z)
    exact wrap_told R3 r2 (s.trans s2) p ok
  · subst ex
    obtain ⟨D0, m1, e1, e2⟩ := hx
    refine ⟨c, D0, none, hc, m1, e1, e2, fun a ha => ?_⟩
    rw [rWord_K]
    have sb : SubN F H' := ⟨fun q o h => bdL_kept k q o (strip_some (R1.sub q o h) fun ps z => R1.subn.2 q ps (by rw [h, z])), R1.subn.2⟩
    have R2 : Rl X.K B σ H' F env := R1.later (bdL_kept k) k.tabs (Same.refl F) sb fun q o h => .inl h
    refine ⟨F, [.xn a], _, _, rfl, rl_xn sb k.tabs, hC a, fun c' os v H2 F2 ⟨sc, p⟩ po => ?_, fun _ _ _ _ z => z.elim⟩
    have nl : ∀ j q, ¬ lentAt [V.ref a] [Cl.xn a] j q := fun j q ⟨⟨o, z⟩, _⟩ => by
      cases j with
      | zero => cases z
      | succ j => simp at z
    obtain ⟨F3, s3, R3, r3⟩ := post_rep R2 nl po sc
    exact wrap_word R3 r3 s3 p ok
theorem g_said {T g : Addr} {b1 b2 : Bool} {rs : List Str} {C : Str → XA → Ct} {f : WE} {x a lx : Str} {pg : Arguments} {bg : List Stmt} {sg : Scope} {dvs : List V} {kws : List (Str × V)} {fd : FuncData} {Ng : List Str} {params : Arguments} {body : Expr} {scope : Scope} {p lpos pos : Pos} {k : Nat}
    (FD : FunD X.K x x pg bg sg dvs kws g fd) (hb : Binds X.K fd [a] []) (Sg : FnScope Ng [a] sg) (hNg : Ng[0]? = some a) (hva : Vis sg a) (hg : Gl X x) (hm : X.mg x = some (.ref g))
    (hG : ∀ cdg, LamX.GivesTo X Ng x sg g cdg bg a (X.env.qual ++ "<lambda>") (TTs X.K X.mg T b1 b2 rs C)) (HB : TabsB X.K X.mg X.base) (hx : lx ∈ lamNames) (hcode : ∀ c P, PySem.W.tabIn X.K lx = some (c, P) → X.env.code = .ref c) (hq : X.env.qual = lx ++ ".<locals>.")
    (hr : Room (k + 2) X.A) (L : LamX.LamS X.env.scope scope) (hdef : defaultsOf params X.env = ([], [])) (hbind : ∀ (q : Str) (cl : List (Str × Addr)) (pm cv ctv : Value), bindArgs (PySem.W.kla_fn "<lambda>" q params body scope cl pm cv ctv) ⟨[], []⟩ = pure [])
    (hbody : ∀ (A : Around) (outer : List Env) (s : Shared) (H : Hp) (E : XK) (f' c' : Addr), Room k (A.deeper (LamX.lamEnv X scope s.heap.objs.size f' c')) → PE (LamX.lamCx X A outer s H E scope f' c') body (semE X (fun cls d _ H => E cls d H) f))
    (hdb : (x == ("__debug__" : Str)) = false := by decide) (hd : (a == ("__debug__" : Str)) = false := by decide) (hcd : (a == ("__classdict__" : Str)) = false := by decide) :
    PE X (.Call (.Name x p) [.Lambda params body scope lpos] [] pos) (semE X W (eSaid b1 b2 rs C f)) := by
  obtain ⟨_, _, _, _, _, _, _, cdv, _, _, rfl, lk, code, _, _⟩ := FD.ex
  obtain ⟨c, Pt, ht, _⟩ := HB.tin.at_ lx hx
  have hmT : (Pt, X.env.qual ++ "<lambda>") ∈ tabsK X.K := by
    refine List.mem_filterMap.mpr ⟨lx, hx, ?_⟩
    rw [ht, hq]
    rfl
  exact peOf (LamX.pe_lamcall (T := tabsK X.K) hg hm FD.kp lk code hb Sg hNg hva (hG cdv) (HB.tb lx hx c Pt ht) (hcode c Pt ht) hmT (fun p hp e => HB.tin.inj p hp _ hmT e) hr L hdef hbind hbody hdb hd hcd) said_imp
end
end Sw

/-! what the generator names beside: l.index of a truth, room, a lambda's body -/
namespace Sw
open PySem PySem.Spec PyProof.Rows L2
section
variable {X : Cx} {W : WX}
def boolsD : List D → Option (List Bool)
  | [] => some []
  | .bool b :: r => (boolsD r).map (b :: ·)
  | _ => none
theorem boolsD_eq : ∀ {xs : List D} {bs : List Bool}, boolsD xs = some bs → xs = bs.map PyData.bool
  | [], bs, h => by cases h; rfl
  | x :: r, bs, h => by
    cases x with
    | bool b =>
      cases e : boolsD r with
      | none => simp [boolsD, e] at h
      | some cs =>
        simp [boolsD, e] at h
        subst h
        rw [boolsD_eq e]
        rfl
    | _ => simp [boolsD] at h
def gIxB : D → D → (Cl → Prop) → Prop
  | .list xs, .bool b, P => ∃ bs, boolsD xs = some bs ∧ b ∈ bs ∧ P (.fz (.int (bs.idxOf b : Nat)))
  | _, _, _ => False
theorem mg_indexB : MtG X (rIndex X.K) gIxB := fun B σ H F env x y d1 d2 P Q R r1 r2 g k => by
  cases d1 with
  | list xs =>
    cases d2 with
    | bool b =>
      obtain ⟨bs, e, hb, p⟩ := g
      have e := boolsD_eq e
      subst e
      obtain ⟨a, vs, rfl, h, l⟩ := r1.lst R.sub
      have := l.bools
      subst this
      have ey : y = .bl b := by
        rcases r2 with r2 | ⟨_, _, _, z, _⟩ | ⟨_, _, _, z, _⟩
        · cases r2; rfl
        · cases z
        · cases z
      subst ey
      have hi : bs.idxOf b < bs.length := List.idxOf_lt_length_of_mem hb
      refine ⟨a, bs.map V.bl, .bl b, bs.idxOf b, .bl b, rfl, rfl, SqL.of h, rfl, ?_, ?_, ?_, fun m z hm hz => ?_, k _ _ _ _ p (R.push (.int _)) (Same.refl F)⟩
      · rw [List.all_map]
        exact List.all_eq_true.mpr fun _ _ => rfl
      · rw [List.getElem?_map, List.getElem?_eq_getElem hi, List.getElem_idxOf hi]
        rfl
      · simp [eqV]
      · rw [List.getElem?_map] at hz
        have hml : m < bs.length := by omega
        rw [List.getElem?_eq_getElem hml] at hz
        cases hz
        exact List.not_of_lt_findIdx (p := (· == b)) hm
    | _ => exact g.elim
  | _ => exact g.elim
theorem g_indexB {ea eb : Expr} {a b : Opd} {p1 pos : Pos} (ha : PE X ea (tO X W a)) (hb : PE X eb (tO X W b)) (hbase : attributeBase ea "index" X.env (eval ea X.env) = eval ea X.env := by rfl)
    (hfew : ((backTo pos (starEach [eb] X.env)).all (fun x => !x.1) && (backToKw pos (keywordEach [] X.env)).all (fun x => x.1.isSome) && decide ([eb].length + ([] : List Keyword).length + (if ([] : List Keyword).isEmpty then 0 else 1) < 30)) = true := by rfl)
    (hline : (p1.endLine == pos.line) = true := by rfl) (hs : starEach [eb] X.env = (false, eval eb X.env) :: starEach [] X.env := by rfl) (hp : (backTo pos (starEach [] X.env)).any (·.1) = false := by rfl) : PE X (.Call (.Attribute ea "index" p1) [eb] [] pos) (semE X W (eMt2 "list" gIxB a b)) :=
  peOf (pe_bm PySem.F.plainAttrs_list PySem.F.slot_list_index PySem.F.type_list_index mt_index ha (pa_cons hb pa_nil hs) hbase hfew hline hs hp) (mt2_imp (.inl rfl) mg_indexB)
/-- what is never reached -/
def eNo : WE := fun _ _ _ => False
theorem g_no {e : Expr} : PE X e (semE X W eNo) := ⟨fun _ _ _ _ _ _ ⟨_, _, _, _, _, _, h, _⟩ => h.elim⟩
theorem lam_in {A : Around} {outer : List Env} {s : Shared} {H : Hp} {E : XK} {scope : Scope} {f c' : Addr} {e : Expr} {t : WE} (h : Takes (LamX.lamCx X A outer s H E scope f c') (fun cls d _ H => E cls d H) → PE (LamX.lamCx X A outer s H E scope f c') e (semE (LamX.lamCx X A outer s H E scope f c') (fun cls d _ H => E cls d H) t)) :
    PE (LamX.lamCx X A outer s H E scope f c') e (semE X (fun cls d _ H => E cls d H) t) := h (takes_of rfl rfl rfl rfl)
end
theorem hunits {k : Nat} {A : Around} (r : L2H.RoomH k A) : A.units + 64 < cLine := by have := r.un; omega
theorem roomW {k : Nat} {B : Around} (r : Room (k + 1) B) : ∀ A : Around, A.depth = B.depth + 1 → A.units = B.units + 3 → L2H.RoomH k A := fun A h1 h2 => ⟨by have := r.dp; omega, by have := r.un; omega⟩
theorem FnG.of {P : Program} {w : World} {K : PySem.W.Frag} {mg : Str → Option Value} {base : Heap} {k : Nat} {f : Addr} {fd : FuncData} {ps : List Str} {sp : Sp} (h : FnOk P w K mg base (L2.CX P w) k f fd ps sp) : FnG P w K mg base k f fd ps sp := ⟨h.len, fun A outer s H args us vs Q E _ hr e0 hb r q => h.run A outer s H args us vs Q E hr e0 hb r q⟩
end Sw

/-! repr of things that hold dicts of whole numbers, at any depth -/
namespace Sw
open PySem PySem.Spec PyProof.Rows L2
def niceKv : List (D × D) → Bool
  | [] => true
  | (.int _, .int _) :: r => niceKv r
  | _ => false
mutual
def nice : D → Bool
  | .dict kvs => niceKv kvs
  | .list xs => niceA xs
  | .tuple xs => niceA xs
  | _ => true
def niceA : List D → Bool
  | [] => true
  | x :: r => nice x && niceA r
end
theorem niceKv_dI : ∀ {kvs : List (D × D)}, niceKv kvs = true → ∃ ns, PyData.dict kvs = dI ns
  | [], _ => ⟨[], rfl⟩
  | (a, b) :: r, h => by
    unfold niceKv at h
    split at h
    · rename_i e
      cases e
    · rename_i i j r' e
      cases e
      obtain ⟨ns, e⟩ := niceKv_dI h
      unfold dI at e
      injection e with e
      exact ⟨(i, j) :: ns, by unfold dI; rw [e]; rfl⟩
    · cases h
section
variable {X : Cx} {pins : List (Addr × Obj)} {σ : L2.St} {H F : Hp} {s : Shared}
/-- what is shown of a thing -/
def Shows (X : Cx) (h : Heap) (u : Value) (d : D) : Prop := (∃ as, Reads h u d as) ∧ ∃ bs, ReadAtMost h d.depth bs ∧ ReprK X.prog X.w bs h d.depth u d.shown
def ShowsA (X : Cx) (h : Heap) (us : List Value) (ds : List D) : Prop := (∃ as, ReadsAll h us ds as) ∧ ∃ bs, ReadAtMost h (PyData.depthAll ds) bs ∧ ReprAllK X.prog X.w bs h (PyData.depthAll ds) us (PyData.shownAll ds)
theorem shows_list {a : Addr} {o : Obj} {its : List Value} {n : Nat} {ds : List D} (ho : s.heap.get? a = some o) (hc : o.cls = .type "list") (hd : o.data = .seq its.toArray n) (q : ShowsA X s.heap its ds) : Shows X s.heap (.ref a) (.list ds) := by
  obtain ⟨⟨as, r⟩, bs, hb, hk⟩ := q
  have r0 : Reads s.heap (.ref a) (.list ds) _ := Reads.list ho hc hd r
  refine ⟨⟨_, r0⟩, a :: bs, ReadAtMost.cons r0 (by simp only [PyData.depth]; omega) hb, ?_⟩
  have hna : a ∉ bs := not_mem_of_deeper r0 (by simp only [PyData.depth]; omega) hb
  simp only [PyData.depth, PyData.shown]
  cases its with
  | nil =>
    cases r
    simp only [PyData.shownAll, listText_nil]
    exact ReprK.listEmpty ho hc hd
  | cons x l => exact ReprK.list ho hc hd hna (by simpa using hk.length_eq) (fun i y e => hk.item i y (by simpa using e))
theorem shows_tuple {a : Addr} {o : Obj} {its : List Value} {n : Nat} {ds : List D} (ho : s.heap.get? a = some o) (hc : o.cls = .type "tuple") (hd : o.data = .seq its.toArray n) (q : ShowsA X s.heap its ds) : Shows X s.heap (.ref a) (.tuple ds) := by
  obtain ⟨⟨as, r⟩, bs, hb, hk⟩ := q
  have r0 : Reads s.heap (.ref a) (.tuple ds) _ := Reads.tuple ho hc hd r
  refine ⟨⟨_, r0⟩, a :: bs, ReadAtMost.cons r0 (by simp only [PyData.depth]; omega) hb, ?_⟩
  have hna : a ∉ bs := not_mem_of_deeper r0 (by simp only [PyData.depth]; omega) hb
  simp only [PyData.depth, PyData.shown]
  exact ReprK.tuple ho hc hd hna hk
theorem dI_reprK {ns : List (Int × Int)} {u : Value} (r : ∃ as, Reads s.heap u (dI ns) as ∧ sysModules ∉ as) (sh : (dI ns).showable = true) (sz : (dI ns).shown.length ≤ sizeLine) : Shows X s.heap u (dI ns) := by
  obtain ⟨as, r, hs⟩ := r
  exact ⟨⟨_, r⟩, ReprK.of_reads r sh (fun _ => hs) sz⟩
mutual
theorem Rep.shows (I : Inv X pins σ H s) (sm : Same F H) : ∀ {v : V} {d : D} (u : Value), Rep X.K F v d → RelV v u → nice d = true → d.showable = true → d.shown.length ≤ sizeLine → Shows X s.heap u d
  | _, _, _, .non, r, _, sh, sz => by cases r; exact ⟨⟨_, Reads.none⟩, ReprK.of_reads Reads.none sh (fun z => by simp [PyData.hasDict] at z) sz⟩
  | _, _, _, .bl b, r, _, sh, sz => by cases r; exact ⟨⟨_, Reads.bool b⟩, ReprK.of_reads (Reads.bool b) sh (fun z => by simp [PyData.hasDict] at z) sz⟩
  | _, _, _, .int i, r, _, sh, sz => by obtain ⟨t, rfl⟩ := r; exact ⟨⟨_, Reads.int i t⟩, ReprK.of_reads (Reads.int i t) sh (fun z => by simp [PyData.hasDict] at z) sz⟩
  | _, _, _, .str x, r, _, sh, sz => by obtain ⟨t, rfl⟩ := r; exact ⟨⟨_, Reads.str x t⟩, ReprK.of_reads (Reads.str x t) sh (fun z => by simp [PyData.hasDict] at z) sz⟩
  | _, _, _, .lst (ds := ds) h rs, r, p, sh, sz => by
    cases r
    obtain ⟨its, rv, ⟨o, n, ho, hc, _, hd⟩, _⟩ := I.list (SqL.of (sm _ _ h))
    have hz : (listText (PyData.shownAll ds)).length ≤ sizeLine := by simpa only [PyData.shown] using sz
    exact shows_list ho hc hd (RepL.shows I sm its rs rv (by simpa [nice] using p) (by simpa [PyData.showable] using sh) fun t ht => Nat.le_trans (listText_mem_le ht) hz)
  | _, _, _, .tup (ds := ds) h rs, r, p, sh, sz => by
    cases r
    obtain ⟨its, rv, ⟨o, ho, hc, n, hd⟩, _⟩ := I.tuple (same_seqT sm h)
    have hz : (tupleText (PyData.shownAll ds)).length ≤ sizeLine := by simpa only [PyData.shown] using sz
    exact shows_tuple ho hc hd (RepL.shows I sm its rs rv (by simpa [nice] using p) (by simpa [PyData.showable] using sh) fun t ht => Nat.le_trans (tupleText_mem_le ht) hz)
  | _, _, _, .dK (a := a) h rs, r, p, sh, sz => by
    obtain ⟨ns, e⟩ := niceKv_dI (by simpa [nice] using p)
    cases r
    rw [e] at sh sz ⊢
    exact dI_reprK (dK_reads I (sm _ _ h) rs e) sh sz
  | _, _, _, .dT (a := a) h rs, r, p, sh, sz => by
    obtain ⟨ns, e⟩ := niceKv_dI (by simpa [nice] using p)
    cases r
    rw [e] at sh sz ⊢
    exact dI_reprK (dT_reads I (sm _ _ h) rs e) sh sz
theorem RepL.shows (I : Inv X pins σ H s) (sm : Same F H) : ∀ {vs : List V} {ds : List D} (us : List Value), RepL X.K F vs ds → Vals vs us → niceA ds = true → PyData.showableAll ds = true → (∀ t ∈ PyData.shownAll ds, t.length ≤ sizeLine) → ShowsA X s.heap us ds
  | _, _, _, .nil, r, _, _, _ => by
    cases r
    exact ⟨⟨_, ReadsAll.nil⟩, [], (fun _ h => nomatch h), by simp only [PyData.shownAll]; exact .nil⟩
  | _, _, _, .cons (ds := ds) (d := d) h1 h2, r, p, sh, sz => by
    cases r with
    | cons r1 r2 =>
      simp only [niceA, Bool.and_eq_true] at p
      simp only [PyData.showableAll, Bool.and_eq_true] at sh
      obtain ⟨⟨as, q1⟩, b1, hb1, k1⟩ := Rep.shows I sm _ h1 r1 p.1 sh.1 (sz _ (by simp only [PyData.shownAll]; exact List.mem_cons_self))
      obtain ⟨⟨bs, q2⟩, b2, hb2, k2⟩ := RepL.shows I sm _ h2 r2 p.2 sh.2 (fun t ht => sz t (by simp only [PyData.shownAll]; exact List.mem_cons_of_mem _ ht))
      refine ⟨⟨_, ReadsAll.cons q1 q2⟩, b1 ++ b2, (hb1.mono ?_).append (hb2.mono ?_), ?_⟩
      · simp only [PyData.depthAll]; exact Nat.le_max_left _ _
      · simp only [PyData.depthAll]; exact Nat.le_max_right _ _
      · simp only [PyData.depthAll, PyData.shownAll]
        exact .cons ((k1.more fun b hb => List.mem_append_left _ hb).level_le (Nat.le_max_left _ _)) (k2.more_le (fun b hb => List.mem_append_right _ hb) (Nat.le_max_right _ _))
end
end
end Sw

/-! repr(x) of such a thing -/
namespace Sw
open PySem PySem.Spec PyProof.Rows L2
section
variable {X : Cx} {W : WX} {pins : List (Addr × Obj)} {σ : L2.St} {H F : Hp} {s : Shared}
theorem by_list {a : Addr} {o : Obj} {its : List Value} {n : Nat} {ds : List D} (ho : s.heap.get? a = some o) (hc : o.cls = .type "list") (hd : o.data = .seq its.toArray n) (q : ShowsA X s.heap its ds) (sz : (PyData.list ds).shown.length ≤ sizeLine) : ∃ T idr, ShowsBy X.prog X.w s.heap a (.list ds) T idr := by
  obtain ⟨⟨as, r⟩, bs, hb, hk⟩ := q
  have r0 : Reads s.heap (.ref a) (.list ds) _ := Reads.list ho hc hd r
  have hna : a ∉ bs := not_mem_of_deeper r0 (by simp only [PyData.depth]; omega) hb
  have hz : (listText (PyData.shownAll ds)).length ≤ sizeLine := by simpa only [PyData.shown] using sz
  refine ⟨"list", "list.__repr__", PySem.F.slot_list_repr.toG, PySem.F.slot_list_str, PySem.F.slot_list_format, fun s' hk0 => ⟨o, hk0 _ _ ho, hc⟩, fun A E s' Q hg hu hk0 hQ => ?_⟩
  simp only [PyData.depth] at hu
  simp only [PyData.shown] at hQ
  cases its with
  | nil =>
    cases r
    simp only [PyData.shownAll, listText_nil] at hQ
    exact call_list_repr_empty ⟨o, hk0 _ _ ho, hc⟩ (hk0 _ _ ho) hd (hQ s'.heap _ _ fun _ _ e => e)
  | cons x l => exact call_list_reprK ho hc hd hna (by simpa using hk.length_eq) (fun i y e => hk.item i y (by simpa using e)) hg (fun b _ => Clear.nil b) hu hk0 hQ hz
theorem by_tuple {a : Addr} {o : Obj} {its : List Value} {n : Nat} {ds : List D} (ho : s.heap.get? a = some o) (hc : o.cls = .type "tuple") (hd : o.data = .seq its.toArray n) (q : ShowsA X s.heap its ds) (sz : (PyData.tuple ds).shown.length ≤ sizeLine) : ∃ T idr, ShowsBy X.prog X.w s.heap a (.tuple ds) T idr := by
  obtain ⟨⟨as, r⟩, bs, hb, hk⟩ := q
  have r0 : Reads s.heap (.ref a) (.tuple ds) _ := Reads.tuple ho hc hd r
  have hna : a ∉ bs := not_mem_of_deeper r0 (by simp only [PyData.depth]; omega) hb
  have hz : (tupleText (PyData.shownAll ds)).length ≤ sizeLine := by simpa only [PyData.shown] using sz
  refine ⟨"tuple", "tuple.__repr__", PySem.F.slot_tuple_repr, PySem.F.slot_tuple_str, PySem.F.slot_tuple_format, fun s' hk0 => ⟨o, hk0 _ _ ho, hc⟩, fun A E s' Q hg hu hk0 hQ => ?_⟩
  simp only [PyData.depth] at hu
  simp only [PyData.shown] at hQ
  exact call_tuple_reprK ho hc hd hna hk hg (fun b _ => Clear.nil b) hu hk0 hQ hz
theorem call_by {a : Addr} {d : D} {Q : Value → Shared → Prop} {E : Value → Shared → Prop} {A : Around} (b : ∃ T idr, ShowsBy X.prog X.w s.heap a d T idr) (hg : A.guards = some []) (hu : A.units + (d.depth + 1) < cLine)
    (hQ : ∀ h' u tk, (∀ b o, s.heap.get? b = some o → h'.get? b = some o) → Q (.str d.shown u) { s with heap := h', toks := tk }) : wpAny (model X.prog X.w) A (call (.builtin "repr") [.ref a]) Q E s := by
  obtain ⟨T, idr, S⟩ := b
  exact call_repr_slot (by omega) (S.typeIs s fun _ _ e => e) S.slotRepr (S.call A.in1 E s _ hg (by show A.units + 1 + d.depth < cLine; omega) (fun _ _ e => e) fun h' u tk hk => ⟨_, _, rfl, hQ h' u tk hk⟩)
def gReprN (d : D) (P : Cl → Prop) : Prop := nice d = true ∧ d.showable = true ∧ d.depth ≤ 60 ∧ d.shown.length ≤ sizeLine ∧ P (.fz (.str d.shown))
def rReprN (K : PySem.W.Frag) : List V → Hp → VK → Prop := fun xs H Q => ∃ (F : Hp) (v : V) (d : D), Same F H ∧ xs = [v] ∧ RepR K H F v d ∧ nice d = true ∧ d.showable = true ∧ d.depth ≤ 60 ∧ d.shown.length ≤ sizeLine ∧ Q (.str d.shown) H
theorem call_reprN (gd : X.A.guards = some []) (hu : X.A.units + 64 < cLine) : CallR X (.builtin "repr") (rReprN X.K) := by
  intro pins s σ H xs us Q I r h
  obtain ⟨F, v, d, sm, rfl, rd, pl, sh, dp, sz, q⟩ := h
  obtain ⟨u, rfl, ru⟩ := r.one
  have fin : ∀ h' t tk, (∀ b o, s.heap.get? b = some o → h'.get? b = some o) → EP X pins σ Q (.str d.shown t) { s with heap := h', toks := tk } := fun h' t tk keep => ⟨.str _, H, I.kept (t' := tk) keep, ⟨t, rfl⟩, q⟩
  have dict : ∀ ns, d = dI ns → wpAny (model X.prog X.w) X.A (call (.builtin "repr") [u]) (EP X pins σ Q) X.xe s := fun ns e => by
    subst e
    obtain ⟨a, rfl, as, hr, hs⟩ := rd.dreads I sm ru
    exact repr_of_reads' (prog := X.prog) (w := X.w) hr sh (fun _ => hs) gd (by omega) (fun _ _ e => e) fin sz
  rcases rd with rd | ⟨a, xs, hv, e, ho⟩ | ⟨a, xs, hv, e, ho⟩
  · cases rd with
    | non =>
      cases ru
      exact PySem.P.repr_of_none ⟨V.str PyData.none.shown, H, I.tok _, ⟨_, rfl⟩, q⟩
    | bl b =>
      cases ru
      exact PySem.P.repr_of_bool ⟨V.str (PyData.bool b).shown, H, I.tok _, ⟨_, rfl⟩, q⟩
    | int i =>
      obtain ⟨t, rfl⟩ := ru
      exact PySem.P.repr_of_int (by simpa [PyData.showable] using sh) ⟨V.str (PyData.int i).shown, H, I.tok _, ⟨_, rfl⟩, q⟩
    | str x =>
      obtain ⟨t, rfl⟩ := ru
      exact PySem.P.repr_of_str ⟨V.str (PyData.str x).shown, H, I.tok _, ⟨_, rfl⟩, q⟩ sz
    | @lst a vs ds h rs =>
      cases ru
      obtain ⟨its, rv, ⟨o, n, ho, hc, _, hd⟩, _⟩ := I.list (SqL.of (sm _ _ h))
      have hz : (listText (PyData.shownAll ds)).length ≤ sizeLine := by simpa only [PyData.shown] using sz
      exact call_by (by_list ho hc hd (RepL.shows I sm its rs rv (by simpa [nice] using pl) (by simpa [PyData.showable] using sh) fun t ht => Nat.le_trans (listText_mem_le ht) hz) sz) gd (by omega) fin
    | @tup a vs ds h rs =>
      cases ru
      obtain ⟨its, rv, ⟨o, ho, hc, n, hd⟩, _⟩ := I.tuple (same_seqT sm h)
      have hz : (tupleText (PyData.shownAll ds)).length ≤ sizeLine := by simpa only [PyData.shown] using sz
      exact call_by (by_tuple ho hc hd (RepL.shows I sm its rs rv (by simpa [nice] using pl) (by simpa [PyData.showable] using sh) fun t ht => Nat.le_trans (tupleText_mem_le ht) hz) sz) gd (by omega) fin
    | dK h rs =>
      obtain ⟨ns, e⟩ := niceKv_dI (by simpa [nice] using pl)
      exact dict ns e
    | dT h rs =>
      obtain ⟨ns, e⟩ := niceKv_dI (by simpa [nice] using pl)
      exact dict ns e
  · subst e hv
    cases ru
    obtain ⟨vs, h1, h2⟩ := ho
    obtain ⟨its, rvs, ⟨o, n, ho, hc, _, hd⟩, _⟩ := I.list (SqL.of h1)
    have hz : (listText (PyData.shownAll xs)).length ≤ sizeLine := by simpa only [PyData.shown] using sz
    exact call_by (by_list ho hc hd (RepL.shows I sm its h2 rvs (by simpa [nice] using pl) (by simpa [PyData.showable] using sh) fun t ht => Nat.le_trans (listText_mem_le ht) hz) sz) gd (by omega) fin
  · subst e
    obtain ⟨ns, e⟩ := niceKv_dI (by simpa [nice] using pl)
    exact dict ns e
theorem og_reprN : OneG X (rReprN X.K) gReprN := fun B σ H F env x d P Q R r ⟨c2, c3, c4, c5, p⟩ k => ⟨F, x, d, R.sub, rfl, r, c2, c3, c4, c5, k _ _ _ _ p (R.push (.str _)) (Same.refl F)⟩
theorem g_reprN {pos p1 : Pos} {e : Expr} {a : Opd} (gd : X.A.guards = some []) (hu : X.A.units + 64 < cLine) (hm : X.mg "repr" = none) (hg : Gl X "repr") (ha : PE X e (tO X W a)) (s1 : starEach [e] X.env = (false, eval e X.env) :: starEach [] X.env := by rfl) (pl : (backTo pos (starEach [] X.env)).any (·.1) = false := by rfl) : PE X (.Call (.Name "repr" p1) [e] [] pos) (semE X W (eOp1 gReprN a)) := g_1B (call_reprN gd hu) og_reprN (by rfl) hm hg ha (s1 := s1) (pl := pl)
end
end Sw

/-! what may be shown, dicts of whole numbers within -/
namespace Sw
open PySem PySem.Spec PyProof.Rows L2
mutual
theorem plain_nice : ∀ {d : D}, d.plain = true → nice d = true
  | .none, _ => by unfold nice; rfl
  | .bool _, _ => by unfold nice; rfl
  | .int _, _ => by unfold nice; rfl
  | .str _, _ => by unfold nice; rfl
  | .list xs, h => by rw [nice]; exact plainA_nice (by simpa using h)
  | .tuple xs, h => by rw [nice]; exact plainA_nice (by simpa using h)
  | .dict _, h => by simp [PyData.plain] at h
theorem plainA_nice : ∀ {xs : List D}, PyData.plainAll xs = true → niceA xs = true
  | [], _ => by unfold niceA; rfl
  | x :: xs, h => by
    simp at h
    rw [niceA, plain_nice h.1, plainA_nice h.2]
    rfl
end
structure ShN (k w : Nat) (d : D) : Prop where
  n : nice d = true
  s : d.showable = true
  t : d.depth ≤ k
  l : d.shown.length ≤ w
theorem ShN.mono {k k' w w' : Nat} {d : D} (h : ShN k w d) (h1 : k ≤ k') (h2 : w ≤ w') : ShN k' w' d := ⟨h.n, h.s, Nat.le_trans h.t h1, Nat.le_trans h.l h2⟩
theorem ShN.of {k w : Nat} {d : D} (h : Shw k w d) : ShN k w d := ⟨plain_nice h.p, h.s, h.t, Nat.le_trans (shown_len h.p h.s) h.w⟩
theorem niceA_all {xs : List D} (h : ∀ x ∈ xs, nice x = true) : niceA xs = true := by
  induction xs with
  | nil => unfold niceA; rfl
  | cons x xs ih => rw [niceA, h x List.mem_cons_self, ih fun y hy => h y (List.mem_cons_of_mem _ hy)]; rfl
theorem piled_le {xs : List D} {w : Nat} (h : ∀ x ∈ xs, x.shown.length ≤ w) : piled (PyData.shownAll xs) ≤ xs.length * (w + 2) := by
  induction xs with
  | nil => unfold PyData.shownAll; exact Nat.zero_le _
  | cons x xs ih =>
    have h1 := h x List.mem_cons_self
    have h2 := ih fun y hy => h y (List.mem_cons_of_mem _ hy)
    rw [PyData.shownAll, piled_cons, List.length_cons, Nat.add_mul]
    omega
theorem ShN.tuple {k w : Nat} {xs : List D} (h : ∀ x ∈ xs, ShN k w x) : ShN (k + 1) (xs.length * (w + 2) + 10) (.tuple xs) :=
  ⟨by rw [nice]; exact niceA_all fun x hx => (h x hx).n, by rw [showb_t]; exact showbA_all fun x hx => (h x hx).s, by rw [depth_t]; have := depthA_le fun x hx => (h x hx).t; omega, by
    have h1 := tupleText_len (PyData.shownAll xs)
    have h2 := piled_le fun x hx => (h x hx).l
    rw [PyData.shown]
    omega⟩
theorem ShN.list {k w : Nat} {xs : List D} (h : ∀ x ∈ xs, ShN k w x) : ShN (k + 1) (xs.length * (w + 2) + 10) (.list xs) :=
  ⟨by rw [nice]; exact niceA_all fun x hx => (h x hx).n, by rw [showb_l]; exact showbA_all fun x hx => (h x hx).s, by rw [depth_l]; have := depthA_le fun x hx => (h x hx).t; omega, by
    have h1 := listText_len (PyData.shownAll xs)
    have h2 := piled_le fun x hx => (h x hx).l
    rw [PyData.shown]
    omega⟩
theorem ShN.int {i : Int} {b k : Nat} (h : Sm b i) (hk : b < 1920) : ShN k 1930 (.int i) := .of (Shw.int h hk)
theorem ShN.none {k : Nat} : ShN k 10 .none := .of ⟨by simp, by simp, by simp, by simp⟩
theorem ShN.bool {k : Nat} {b : Bool} : ShN k 10 (.bool b) := .of ⟨by simp, by simp, by simp, by simp⟩
theorem ShN.str {k w : Nat} {x : Str} (h : wt (.str x) ≤ w) : ShN k w (.str x) := .of ⟨by simp, by simp, by simp, h⟩
theorem ShN.dct0 : ShN 1 2 (dI []) := ⟨by rfl, by decide +kernel, by decide +kernel, by decide +kernel⟩
theorem ShN.dct1 : ShN 2 6 (dI [(0, 1)]) := ⟨by rfl, by decide +kernel, by decide +kernel, by decide +kernel⟩
theorem gReprN_ok {d : D} {P : Cl → Prop} {k w : Nat} (h : ShN k w d) (hk : k ≤ 60) (hw : w ≤ 16777216) (hp : P (.fz (.str d.shown))) : gReprN d P :=
  ⟨h.n, h.s, Nat.le_trans h.t hk, by have := h.l; rw [sizeLine_eq]; omega, hp⟩
end Sw

/-! sorted(set(x)), x a tuple of whole numbers -/
namespace Sw
open PySem PySem.Spec PyProof.Rows L2
section
variable {X : Cx} {W : WX}
def rSetT (K : PySem.W.Frag) (w : World) : List V → Hp → VK → Prop := fun xs H Q => ∃ (p : Addr) (ns : List Int), xs = [.ref p] ∧ SqT K H p (ns.map V.int) ∧ ns.length < 64 ∧ ∀ q c, c ≤ ns.length → H q = none → Q (.ref q) (upd H q (SetO w q (fun j => decide (j ∈ ns)) c))
theorem cr_setT (hc : X.calm = true) : CallR X (.type "set") (rSetT X.K X.w) := by
  intro pins s σ H xs us Q I r h
  obtain ⟨p, ns, rfl, hq, hl, q⟩ := h
  obtain ⟨u, rfl, ru⟩ := r.one
  cases ru
  obtain ⟨its, rv, pt, hz⟩ := I.tuple hq
  have hi : IntsAre its.toArray.toList ns := ints_of_vals rv
  refine call_set_tupI ns (I.ok.hd hc) (show s.heap.IsTuple p its.toArray from pt) hi (by unfold scanBound; omega) fun h' tk c new hcn keep => ?_
  exact ⟨.ref _, upd H s.heap.objs.size (SetO X.w s.heap.objs.size (fun j => decide (j ∈ ns)) c), I.laid (t' := tk) keep (Nat.le_refl _) (setO_new new), rfl, q _ c hcn (I.hok.fresh (Nat.le_refl _))⟩
def gSrtSet (d : D) (P : Cl → Prop) : Prop := ∃ ns : List Int, d = .tuple (ns.map PyData.int) ∧ ns.length < 64 ∧ ∀ ns' : List Int, ns'.Pairwise (· < ·) → (∀ k, k ∈ ns' ↔ k ∈ ns) → P (.ow (.lst (ns'.map PyData.int)))
theorem srtset_imp {a : Opd} : ∀ σ H Q, semE X W (eOp1 gSrtSet a) σ H Q → tCB (rSortedSet X.w) (tCons (tCB (rSetT X.K X.w) (tCons (tO X W a) tNil)) tNil) σ H Q := fun σ H Q ⟨B, F, env, P, Y, R, h, ok, x⟩ =>
  ev1_ok R h x fun d env' v H' F' g R' s r => by
    obtain ⟨ns, e, hl, g⟩ := g
    subst e
    obtain ⟨p, vs, rfl, h1, h2⟩ := r.tup R'.sub
    have := h2.ints
    subst this
    refine ⟨p, ns, rfl, h1, hl, fun q c hc hq => ?_⟩
    refine ⟨q, _, c, rfl, upd_same, by omega, fun ns' p' hs hm hc' hp => ?_⟩
    have hp2 : upd H' q (SetO X.w q (fun j => decide (j ∈ ns)) c) p' = none := hp
    have R2 : Rl X.K B σ (upd H' q (SetO X.w q (fun j => decide (j ∈ ns)) c)) F' env' := by
      refine R'.later (fun q' o hq' => ?_) (tabs_new R'.kept.tabs hq) (Same.refl F') ⟨fun q' o hq' => ?_, R'.subn.2⟩ fun q o h => .inl h
      · have z := (strip_get hq').1
        rw [upd_ne (ne_of_none z hq)]
        exact z
      · have z := R'.sub q' o hq'
        rw [upd_ne (ne_of_none z hq)]
        exact z
    refine ok _ _ _ _ _ (g ns' hs fun k => ?_) (R2.fresh hp2 (show OwnAt X.K (upd _ p' (.lst (ns'.map V.int))) F' p' (.lst (ns'.map PyData.int)) from ⟨_, upd_same, RepL.of_ints ns'⟩)) s
    rw [hm k]
    simp
theorem g_srtset {e : Expr} {a : Opd} {p1 p2 pos pos2 : Pos} (hc : X.calm = true) (h1 : X.mg "sorted" = none) (g1 : Gl X "sorted") (h2 : X.mg "set" = none) (g2 : Gl X "set") (ha : PE X e (tO X W a)) (s1 : starEach [e] X.env = (false, eval e X.env) :: starEach [] X.env := by rfl) (pl : (backTo pos2 (starEach [] X.env)).any (·.1) = false := by rfl)
    (s2 : starEach [.Call (.Name "set" p2) [e] [] pos2] X.env = (false, eval (.Call (.Name "set" p2) [e] [] pos2) X.env) :: starEach [] X.env := by rfl) (pl2 : (backTo pos (starEach [] X.env)).any (·.1) = false := by rfl) :
    PE X (.Call (.Name "sorted" p1) [.Call (.Name "set" p2) [e] [] pos2] [] pos) (semE X W (eOp1 gSrtSet a)) :=
  peOf (pe_callB (cr_sortedSet hc) g1 h1 (by rfl) (pa_cons (pe_callTy (cr_setT hc) g2 h2 (by rfl) (pa_cons ha pa_nil s1) (by decide) (by decide) (he := s1) (hpl := pl)) pa_nil s2) (by decide) (by decide) (he := s2) (hpl := pl2)) srtset_imp
end
end Sw

/-! defs that call themselves; calls with keywords -/
namespace Sw
open PySem PySem.Spec PyProof.Rows L2
/-- no fuel: nothing is promised -/
def cNo : Ct := fun _ _ _ => False
theorem fn_zero {P : Program} {w : World} {K : PySem.W.Frag} {mg : Str → Option Value} {base : Heap} {k n : Nat} {f : Addr} {fd : FuncData} {ps : List Str} : FnG P w K mg base k f fd ps (spOf K mg n cNo) :=
  ⟨fun _ _ _ _ ⟨_, _, _, _, _, _, h, _⟩ => h.elim, fun _ _ _ _ _ _ _ _ _ _ _ _ _ _ ⟨_, _, _, _, _, _, h, _⟩ => h.elim⟩
/-! ### calls with keywords -/
def pickL {α : Type} (is : List Nat) (xs : List α) : List α := is.filterMap fun i => xs[i]?
@[simp] theorem pickL_n {α : Type} {xs : List α} : pickL [] xs = [] := rfl
@[simp] theorem pickL_c {α : Type} {i : Nat} {is : List Nat} {xs : List α} : pickL (i :: is) xs = match xs[i]? with | some x => x :: pickL is xs | none => pickL is xs := by
  unfold pickL
  rw [List.filterMap_cons]
  cases xs[i]? <;> rfl
/-- n things by place, the others by names; dfl: what is left out; is: the order in which the def wants them -/
@[simp ↓] def eCallK (is : List Nat) (dfl : List D) (C : Ct) (fs : List WE) : WE := fun env P Y => evL fs env (fun ds env' => ds.length = fs.length ∧ C ((pickL is (ds ++ dfl)).map Cl.fz) (fun c _ => P c env') Y) Y
theorem Vals.getS : ∀ {vs : List V} {us : List Value}, Vals vs us → ∀ i : Nat, (vs[i]? = none ∧ us[i]? = none) ∨ ∃ v u, vs[i]? = some v ∧ us[i]? = some u ∧ RelV v u
  | _, _, .nil, i => .inl ⟨by simp, by simp⟩
  | _, _, .cons r t, 0 => .inr ⟨_, _, rfl, rfl, r⟩
  | _, _, .cons r t, i + 1 => by simpa using Vals.getS t i
theorem pick_vals {vs : List V} {us : List Value} (h : Vals vs us) : ∀ is : List Nat, Vals (pickL is vs) (pickL is us)
  | [] => .nil
  | i :: is => by
    rw [pickL_c, pickL_c]
    rcases Vals.getS h i with ⟨e1, e2⟩ | ⟨v, u, e1, e2, r⟩
    · rw [e1, e2]; exact pick_vals h is
    · rw [e1, e2]; exact .cons r (pick_vals h is)
section
variable {K : PySem.W.Frag} {σ : L2.St} {H F : Hp} {env : En}
theorem RepL.getS : ∀ {vs : List V} {ds : List D}, RepL K F vs ds → ∀ i : Nat, (vs[i]? = none ∧ ds[i]? = none) ∨ ∃ v u, vs[i]? = some v ∧ ds[i]? = some u ∧ Rep K F v u
  | _, _, .nil, i => .inl ⟨by simp, by simp⟩
  | _, _, .cons r t, 0 => .inr ⟨_, _, rfl, rfl, r⟩
  | _, _, .cons r t, i + 1 => by simpa using RepL.getS t i
theorem RepL.pick {vs : List V} {ds : List D} (h : RepL K F vs ds) : ∀ is : List Nat, RepL K F (pickL is vs) (pickL is ds)
  | [] => .nil
  | i :: is => by
    rw [pickL_c, pickL_c]
    rcases RepL.getS h i with ⟨e1, e2⟩ | ⟨v, u, e1, e2, r⟩
    · rw [e1, e2]; exact RepL.pick h is
    · rw [e1, e2]; exact .cons r (RepL.pick h is)
def noA : Arg := .v (eD .none)
theorem AA.fzs : ∀ {vs : List V} {ds : List D}, RepL K F vs ds → AA K σ H F env (ds.map fun _ => noA) vs (ds.map Cl.fz)
  | _, _, .nil => ⟨rfl, rfl⟩
  | _, _, .cons r t => ⟨_, _, _, _, rfl, rfl, rfl, r, AA.fzs t⟩
theorem lent_no : ∀ ds : List D, lentOf (ds.map fun _ => noA) = []
  | [] => rfl
  | _ :: ds => lent_no ds
theorem put_no : ∀ (ds : List D) (os : List OD), putO (ds.map fun _ => noA) os env = env
  | [], os => by cases os <;> rfl
  | _ :: ds, os => by
    show putO (noA :: ds.map fun _ => noA) os env = env
    unfold noA putO
    exact put_no ds os
end
section
variable {X : Cx} {W : WX} {k n m : Nat} {f : Addr} {fd : FuncData} {ps ks : List Str} {sp : Sp} {x : Str} {p pos : Pos} {e : Expr} {es : List Expr} {kws : List Keyword} {t tk : TA} {g : List Value → List Value → List Value} {gV : List V → List V → List V}
def tCallNS (n m : Nat) (sp : Sp) (gV : List V → List V → List V) (E : L2.St → XK) (t tk : TA) : TE := fun σ H Q => t σ H fun vs H1 => tk σ H1 fun zs H2 => vs.length = n ∧ zs.length = m ∧ sp (gV vs zs) H2 Q (E σ)
theorem tEs_app {fs : List WE} : ∀ {gs : List WE} {σ : L2.St} {H : Hp} {Q : List V → Hp → Prop}, tEs X W (gs ++ fs) σ H Q → tEs X W gs σ H fun vs H1 => tEs X W fs σ H1 fun zs H2 => Q (vs ++ zs) H2
  | [], _, _, _, h => h
  | g :: gs, σ, H, Q, h => by
    obtain ⟨B, F, env, P, Y, R, q, ok, x⟩ := h
    exact ⟨B, F, env, P, Y, R, q, fun c env' v H' F' p R' s => tEs_app (ok c env' v H' F' p R' s), x⟩
theorem tEs_mono : ∀ {fs : List WE} {σ : L2.St} {H : Hp} {Q Q' : List V → Hp → Prop}, tEs X W fs σ H Q → (∀ vs H, Q vs H → Q' vs H) → tEs X W fs σ H Q'
  | [], _, _, _, _, h, k => k _ _ h
  | g :: gs, σ, H, Q, Q', h, k => by
    obtain ⟨B, F, env, P, Y, R, q, ok, x⟩ := h
    exact ⟨B, F, env, P, Y, R, q, fun c env' v H' F' p R' s => tEs_mono (ok c env' v H' F' p R' s) fun vs H q => k _ _ q, x⟩
theorem tEs_len : ∀ {fs : List WE} {σ : L2.St} {H : Hp} {Q : List V → Hp → Prop}, tEs X W fs σ H Q → tEs X W fs σ H fun vs H1 => vs.length = fs.length ∧ Q vs H1
  | [], _, _, _, h => ⟨rfl, h⟩
  | g :: gs, σ, H, Q, h => by
    obtain ⟨B, F, env, P, Y, R, q, ok, x⟩ := h
    refine ⟨B, F, env, P, Y, R, q, fun c env' v H' F' p R' s => ?_, x⟩
    have z := tEs_len (ok c env' v H' F' p R' s)
    exact tEs_mono z fun vs H2 ⟨l, q⟩ => ⟨congrArg (· + 1) l, q⟩
theorem callK_imp {C : Ct} {is : List Nat} {dfl : List D} {gs fs : List WE} {dv : List V} (hd : ∀ F, RepL X.K F dv dfl) (hl : ∀ ds : List D, ds.length = gs.length + fs.length → (pickL is (ds ++ dfl)).length = ps.length) :
    ∀ σ H Q, semE X W (eCallK is dfl C (gs ++ fs)) σ H Q → tCallNS gs.length fs.length (spOf X.K X.mg ps.length C) (fun vs zs => pickL is (vs ++ zs ++ dv)) (L2.WE W) (tEs X W gs) (tEs X W fs) σ H Q := by
  intro σ H Q ⟨B, F, env, P, Y, R, h, ok, x⟩
  have main : tEs X W (gs ++ fs) σ H fun vs H' => spOf X.K X.mg ps.length C (pickL is (vs ++ dv)) H' Q (L2.WE W σ) := evL_ok R h x fun ds env' vs H' F' ⟨hln, hc⟩ R' s l => by
    rw [List.length_append] at hln
    have l2 := (l.append (hd F')).pick is
    have hA : AA X.K σ H' F' env' ((pickL is (ds ++ dfl)).map fun _ => noA) (pickL is (vs ++ dv)) ((pickL is (ds ++ dfl)).map Cl.fz) := by first | exact AA.fzs l2
    have nd : (lentOf ((pickL is (ds ++ dfl)).map fun _ => noA)).Nodup := by rw [lent_no]; exact List.nodup_nil
    refine ⟨F', _, _, Y, by rw [l2.length]; exact hl ds hln, hA.entry R' nd, hc, fun c os v H2 F2 p q => ?_, fun e cls d H2 y i k => x e σ H2 cls d y i ⟨fun a o h1 h2 h3 => ?_, R'.kept.nt, k.tabs⟩⟩
    · have z := q.after R' hA nd
      rw [put_no] at z
      exact ok _ _ _ _ _ p z (s.trans q.s1)
    · refine k.keep a o (strip_some (R'.kept.keep a o h1 h2 h3) fun ps z => by rw [z] at h1; exact R'.kept.nt a ps h1) (fun ⟨j, hj⟩ => ?_) fun z => z
      obtain ⟨⟨u, e1⟩, e2⟩ := hj
      rw [List.getElem?_map] at e1
      cases q : (pickL is (ds ++ dfl))[j]? with
      | none => rw [q] at e1; cases e1
      | some c => rw [q] at e1; cases e1
  refine tEs_mono (tEs_len (tEs_app main)) fun vs H1 ⟨l1, q1⟩ => ?_
  exact tEs_mono (tEs_len q1) fun zs H2 ⟨l2, q2⟩ => ⟨l1, l2, q2⟩
theorem run_fnNS {pins : List (Addr × Obj)} {σ : L2.St} {H : Hp} {s : Shared} {Q : VK} {us ws : List Value} {vs zs : List V} {E : XK} (F : FnOk X.prog X.w X.K X.mg X.base (L2.CX X.prog X.w) k f fd ps sp) (hr : Room k X.A) (hb : KBn X.K fd ps n ks g gV) (hx : PassesAt (L2.CX X.prog X.w) X σ E)
    (I : Inv X pins σ H s) (r : Vals vs us) (rz : Vals zs ws) (l1 : vs.length = n) (l2 : zs.length = ks.length) (h : sp (gV vs zs) H Q E) : wpAny (model X.prog X.w) X.A (call (.ref f) us (ks.zip ws)) (EP X pins σ Q) X.xe s := by
  have r2 := hb.rel r rz
  refine wpAny_call (codeAny_mono (F.run X.A X.stack s H ⟨us, ks.zip ws⟩ (g us ws) (gV vs zs) Q E hr I.env0 (hb.to s us ws I.kIn (r.length.symm.trans l1) (rz.length.symm.trans l2)) r2 h) fun r s' hq => ?_)
  cases r with
  | error e => exact hx pins H s e s' I hq
  | ok fl =>
    cases fl with
    | ret u => exact I.after hq
    | next => exact False.elim hq
    | brk => exact False.elim hq
    | cont => exact False.elim hq
theorem pe_callNS {E : L2.St → XK} (F : FnOk X.prog X.w X.K X.mg X.base (L2.CX X.prog X.w) k f fd ps sp) (hr : Room k X.A) (hg : Gl X x) (hm : X.mg x = some (.ref f)) (hk : PySem.W.keepIn X.K (.ref f) = true) (hb : KBn X.K fd ps n ks g gV) (hx : ∀ σ, PassesAt (L2.CX X.prog X.w) X σ (E σ))
    (ha : PA X (e :: es) t) (hkw : PK X kws tk) (hall : (backToKw pos (keywordEach kws X.env)).all (·.1.isSome) = true := by rfl) (hks : (backToKw pos (keywordEach kws X.env)).filterMap (·.1) = ks := by rfl)
    (hdb : (x == ("__debug__" : Str)) = false := by decide) (he : starEach (e :: es) X.env = (false, eval e X.env) :: starEach es X.env := by rfl)
    (hpl : ((backTo pos (starEach (e :: es) X.env)).any (·.1) || (backToKw pos (keywordEach kws X.env)).any (·.1.isNone)) = false := by rfl) :
    PE X (.Call (.Name x p) (e :: es) kws pos) (tCallNS n ks.length sp gV E t tk) := by
  refine ⟨fun pins s σ H Q I h => ?_⟩
  refine wpAny_Call_Name_kw (ld_glob I hg hm ?_ hdb)
  refine PySem.W.callWith_KW (h₀ := X.base) I.ok.mod.kin hk hall (thn (ha.run pos pins s σ H _ I h) fun us s1 ⟨vs, H1, I1, r, q⟩ => ?_) hpl he
  refine thn (hkw.run pos pins s1 σ H1 _ I1 q) fun ws s2 ⟨zs, H2, I2, rz, l1, l2, q2⟩ => ⟨I2.kIn, ?_⟩
  rw [hks]
  exact run_fnNS F hr hb (hx σ) I2 r rz l1 l2 q2
theorem pe_callNS0 {E : L2.St → XK} (F : FnOk X.prog X.w X.K X.mg X.base (L2.CX X.prog X.w) k f fd ps sp) (hr : Room k X.A) (hg : Gl X x) (hm : X.mg x = some (.ref f)) (hk : PySem.W.keepIn X.K (.ref f) = true) (hb : KBn X.K fd ps n ks g gV) (hx : ∀ σ, PassesAt (L2.CX X.prog X.w) X σ (E σ))
    (hkw : PK X kws tk) (hall : (backToKw pos (keywordEach kws X.env)).all (·.1.isSome) = true := by rfl) (hks : (backToKw pos (keywordEach kws X.env)).filterMap (·.1) = ks := by rfl)
    (hdb : (x == ("__debug__" : Str)) = false := by decide)
    (hpl : ((backTo pos (starEach [] X.env)).any (·.1) || (backToKw pos (keywordEach kws X.env)).any (·.1.isNone)) = false := by rfl) :
    PE X (.Call (.Name x p) [] kws pos) (tCallNS n ks.length sp gV E tNil tk) := by
  refine ⟨fun pins s σ H Q I h => ?_⟩
  refine wpAny_Call_Name_kw (ld_glob I hg hm ?_ hdb)
  refine PySem.W.callWith_KW0 (h₀ := X.base) I.ok.mod.kin hk hall (thn (hkw.run pos pins s σ H _ I h) fun ws s2 ⟨zs, H2, I2, rz, l1, l2, q2⟩ => ⟨I2.kIn, ?_⟩) hpl
  rw [hks]
  exact run_fnNS (us := []) (vs := []) F hr hb (hx σ) I2 .nil rz l1 l2 q2
/-- f(e, .., k = v, ..) -/
theorem g_callK {C : Ct} {is : List Nat} {dfl : List D} {gs fs : List WE} {dv : List V} {k' : Nat} (FO : FnOk X.prog X.w X.K X.mg X.base (L2.CX X.prog X.w) k f fd ps (spOf X.K X.mg ps.length C)) (hr : Room k' X.A) (hk : k ≤ k') (hm : X.mg x = some (.ref f)) (kp : PySem.W.keepIn X.K (.ref f) = true) (hb : KBn X.K fd ps gs.length ks g (fun vs zs => pickL is (vs ++ zs ++ dv)))
    (tk : Takes X W) (hg : Gl X x) (hd : ∀ F, RepL X.K F dv dfl) (ha : PA X (e :: es) (tEs X W gs)) (hkw : PK X kws (tEs X W fs)) (hf : fs.length = ks.length := by rfl) (hl : ∀ ds : List D, ds.length = gs.length + fs.length → (pickL is (ds ++ dfl)).length = ps.length := by first | (exact fun ds h => match ds, h with | [_], _ => rfl) | (exact fun ds h => match ds, h with | [_, _], _ => rfl) | (exact fun ds h => match ds, h with | [_, _, _], _ => rfl) | (exact fun ds h => match ds, h with | [_, _, _, _], _ => rfl))
    (hall : (backToKw pos (keywordEach kws X.env)).all (·.1.isSome) = true := by rfl) (hks : (backToKw pos (keywordEach kws X.env)).filterMap (·.1) = ks := by rfl)
    (hdb : (x == ("__debug__" : Str)) = false := by decide) (he : starEach (e :: es) X.env = (false, eval e X.env) :: starEach es X.env := by rfl)
    (hpl : ((backTo pos (starEach (e :: es) X.env)).any (·.1) || (backToKw pos (keywordEach kws X.env)).any (·.1.isNone)) = false := by rfl) :
    PE X (.Call (.Name x p) (e :: es) kws pos) (semE X W (eCallK is dfl C (gs ++ fs))) :=
  peOf (pe_callNS FO (hr.mono hk) hg hm kp hb (passAt tk) ha hkw hall hks hdb he hpl) fun σ H Q h => by
    rw [← hf]
    exact callK_imp hd hl σ H Q h
/-- f(k = v, ..) -/
theorem g_callK0 {C : Ct} {is : List Nat} {dfl : List D} {fs : List WE} {dv : List V} {k' : Nat} (FO : FnOk X.prog X.w X.K X.mg X.base (L2.CX X.prog X.w) k f fd ps (spOf X.K X.mg ps.length C)) (hr : Room k' X.A) (hk : k ≤ k') (hm : X.mg x = some (.ref f)) (kp : PySem.W.keepIn X.K (.ref f) = true) (hb : KBn X.K fd ps 0 ks g (fun vs zs => pickL is (vs ++ zs ++ dv)))
    (tk : Takes X W) (hg : Gl X x) (hd : ∀ F, RepL X.K F dv dfl) (hkw : PK X kws (tEs X W fs)) (hf : fs.length = ks.length := by rfl) (hl : ∀ ds : List D, ds.length = 0 + fs.length → (pickL is (ds ++ dfl)).length = ps.length := by first | (exact fun ds h => match ds, h with | [_], _ => rfl) | (exact fun ds h => match ds, h with | [_, _], _ => rfl) | (exact fun ds h => match ds, h with | [_, _, _], _ => rfl) | (exact fun ds h => match ds, h with | [_, _, _, _], _ => rfl))
    (hall : (backToKw pos (keywordEach kws X.env)).all (·.1.isSome) = true := by rfl) (hks : (backToKw pos (keywordEach kws X.env)).filterMap (·.1) = ks := by rfl)
    (hdb : (x == ("__debug__" : Str)) = false := by decide)
    (hpl : ((backTo pos (starEach [] X.env)).any (·.1) || (backToKw pos (keywordEach kws X.env)).any (·.1.isNone)) = false := by rfl) :
    PE X (.Call (.Name x p) [] kws pos) (semE X W (eCallK is dfl C fs)) :=
  peOf (pe_callNS0 FO (hr.mono hk) hg hm kp hb (passAt tk) hkw hall hks hdb hpl) fun σ H Q h => by
    rw [← hf]
    exact callK_imp (gs := []) hd hl σ H Q h
theorem k_nil : PK X [] (tEs X W []) := pk_nil
theorem k_cons {nm : Option Str} {kpos : Pos} {f : WE} {fs : List WE} (h1 : PE X e (semE X W f)) (h2 : PK X kws (tEs X W fs)) : PK X (⟨nm, e, kpos⟩ :: kws) (tEs X W (f :: fs)) := pk_cons h1 h2
end
section
variable {K : PySem.W.Frag} {x qual : Str} {params : Arguments} {body : List Stmt} {scope : Scope} {kws : List (Str × V)} {f : Addr} {fd : FuncData} {ps : List Str}
/-- nothing is left out -/
theorem FunD.kbindsN (F : FunD K x qual params body scope [] kws f fd) (n : Nat) (ks : List Str) (is : List Nat)
    (h : ∀ (kV doc pm : Value) (an : Option Addr) (cdv ct : Value) (us ws : List Value), us.length = n → ws.length = ks.length → bindArgs (PySem.W.fnOf x qual params body scope .none kV doc pm an cdv ct) ⟨us, ks.zip ws⟩ = pure (ps.zip (pickL is (us ++ ws ++ [])))) :
    KBn K fd ps n ks (fun us ws => pickL is (us ++ ws ++ [])) (fun vs zs => pickL is (vs ++ zs ++ [])) := by
  obtain ⟨oc, od, dV, kV, doc, pm, an, cdv, ct, osl, rfl, lk, hcd, hD, hK⟩ := F.ex
  rcases hD with ⟨_, rfl⟩ | ⟨e, _⟩
  · exact ⟨fun s us ws _ l1 l2 => .of_eq (h kV doc pm an cdv ct us ws l1 l2), fun r1 r2 => pick_vals ((r1.append r2).append .nil) is⟩
  · exact absurd rfl e
/-- ms: the keyword-only ones that are left out -/
theorem FunD.kbinds0 (F : FunD K x qual params body scope [] kws f fd) (n : Nat) (ks : List Str) (ms : List (Str × V)) (is : List Nat) (hk : kws ≠ []) (hms : ∀ q ∈ ms, q ∈ kws)
    (h : ∀ (D : Addr) (doc pm : Value) (an : Option Addr) (cdv ct : Value) (us mv ws : List Value), us.length = n → mv.length = ms.length → ws.length = ks.length →
      KwChain D ((ms.map (·.1)).zip mv) (bindArgs (PySem.W.fnOf x qual params body scope .none (.ref D) doc pm an cdv ct) ⟨us, ks.zip ws⟩) (ps.zip (pickL is (us ++ ws ++ mv)))) :
    ∃ mv : List Value, KBn K fd ps n ks (fun us ws => pickL is (us ++ ws ++ mv)) (fun vs zs => pickL is (vs ++ zs ++ ms.map (·.2))) := by
  obtain ⟨oc, od, dV, kV, doc, pm, an, cdv, ct, osl, rfl, lk, hcd, hD, hK⟩ := F.ex
  rcases hD with ⟨_, rfl⟩ | ⟨e, _⟩
  · rcases hK with e | ⟨D, rfl, hq⟩
    · exact absurd e hk
    · obtain ⟨mv, hl, rk, hks⟩ := kwd_vals (ms := ms) fun q hm => hq q (hms q hm)
      exact ⟨mv, ⟨fun s us ws X l1 l2 => BindsTo.of_looks fun M => KwChain.looks X hks (h D doc pm an cdv ct us mv ws l1 hl l2), fun r1 r2 => pick_vals ((r1.append r2).append rk) is⟩⟩
  · exact absurd rfl e
end
theorem kwd_rep {K : PySem.W.Frag} {a : Addr} {d : D} (h : datB K (.ref a) d = true) : ∀ F, Rep K F (.ref a) d := by
  obtain ⟨v, r, p⟩ := datB_ok h
  cases v with
  | ref b =>
    obtain rfl : a = b := by
      have e : Value.ref a = Value.ref b := r
      cases e
      rfl
    exact p
  | int i => obtain ⟨t, e⟩ := r; cases e
  | str i => obtain ⟨t, e⟩ := r; cases e
  | _ => first | (have e : Value.ref a = _ := r; cases e) | (obtain ⟨t, e⟩ := r; cases e)
end Sw

/-! l.index(x) of data, l.pop(i), a == b == c, x == (), a, l[i] = .. -/
namespace Sw
open PySem PySem.Spec PyProof.Rows L2
section
variable {X : Cx} {W : WX} {B : Bd} {σ : L2.St} {H F : Hp} {env : En} {Y : XP}
/-! ### l.index(x) -/
def gIxP : D → D → (Cl → Prop) → Prop
  | .list ds, d, P => PyData.canLayAll0 ds = true ∧ d.canLay0 = true ∧ PyData.plainAll ds = true ∧ d.plain = true ∧ min (PyData.depthAll ds) d.depth ≤ 60 ∧ ∃ (j : Nat) (z : D), ds[j]? = some z ∧ PyData.eqv z d = true ∧ (∀ (m : Nat) (z' : D), m < j → ds[m]? = some z' → PyData.eqv z' d = false) ∧ P (.fz (.int (j : Nat)))
  | _, _, _ => False
def rIxP (K : PySem.W.Frag) : V → List V → Hp → VK → Prop := fun x xs H Q => ∃ (F : Hp) (a : Addr) (vs : List V) (y : V) (d : D) (ds : List D) (j : Nat) (z : D), Same F H ∧ x = V.ref a ∧ xs = [y] ∧ H a = some (.lst vs) ∧ RepL K F vs ds ∧ RepR K H F y d ∧
  PyData.canLayAll0 ds = true ∧ d.canLay0 = true ∧ PyData.plainAll ds = true ∧ d.plain = true ∧ min (PyData.depthAll ds) d.depth ≤ 60 ∧ ds[j]? = some z ∧ PyData.eqv z d = true ∧ (∀ (m : Nat) (z' : D), m < j → ds[m]? = some z' → PyData.eqv z' d = false) ∧ Q (.int (j : Nat)) H
theorem mt_ixP (hu : X.A.units + 64 < cLine) : MtR X "list.index" (rIxP X.K) := by
  intro pins s σ H x xs v us Q I rx rxs h
  obtain ⟨F, a, vs, y, d, ds, j, z, sm, rfl, rfl, hH, hl, hy, hxs, hd0, pl, pd, hdp, hz, hzj, hno, q⟩ := h
  cases rx
  cases rxs with
  | cons ry rt =>
    rename_i uy ut
    cases rt
    obtain ⟨bs, r1⟩ := hy.reads I sm ry pd
    have hroom : X.A.units + 1 + min (PyData.depthAll ds) d.depth < cLine := by omega
    obtain ⟨its, rv, ⟨⟨cls, dd, data, sls⟩, n, ho, hc, hdn, hdt⟩, hlen⟩ := I.list (SqL.of hH)
    simp only at hc hdt
    subst hc hdt
    obtain ⟨as, h4⟩ := RepL.reads I sm its hl rv pl
    have hn : its.length = ds.length := SeqAt.ReadsAll.length ds its as h4
    have hmap : its.map (SeqAt.readOf s.heap) = ds := SeqAt.readsAll_map ds its as hxs h4
    have hvl := rv.length
    have hsl := sizeLine_eq
    obtain ⟨hjd, _⟩ := List.getElem?_eq_some_iff.mp hz
    have hjl : j < its.length := by omega
    have hj : j < its.toArray.size := by simpa using hjl
    have at_ : ∀ (m : Nat) (hm : m < its.toArray.size) (z' : D), ds[m]? = some z' → SeqAt.readOf s.heap its.toArray[m] = z' := by
      intro m hm z' hz'
      have hml : m < its.length := by simpa using hm
      rw [← hmap, List.getElem?_map, List.getElem?_eq_getElem hml] at hz'
      have e1 : SeqAt.readOf s.heap its[m] = z' := Option.some.inj (show some (SeqAt.readOf s.heap its[m]) = some z' from hz')
      simpa using e1
    refine call_meets PySem.F.slot_list_index ⟨_, ho, rfl⟩ PySem.F.entry_list_index (PySem.F.args_list_index_2 _ _)
      (SeqAt.list_indexAt a its.toArray n dd sls uy (fun u => PyData.eqv (SeqAt.readOf s.heap u) d) j hj (by omega) ?_ ?_) ⟨ho, SeqAt.items_eqAt (vs := its.toArray) (show ReadsAll s.heap its.toArray.toList ds as from h4) r1 hxs hd0 hroom, ?_⟩
    · show PyData.eqv (SeqAt.readOf s.heap its.toArray[j]) d = true
      rw [at_ j hj z hz]
      exact hzj
    · intro m hm hmj
      have hmd : m < ds.length := by omega
      have hz' : ds[m]? = some ds[m] := List.getElem?_eq_getElem hmd
      show PyData.eqv (SeqAt.readOf s.heap its.toArray[m]) d = false
      rw [at_ m hm _ hz']
      exact hno m _ hmj hz'
    · exact ⟨.int (j : Nat), H, I.tok _, ⟨_, rfl⟩, q⟩
theorem mg_ixP : MtG X (rIxP X.K) gIxP := fun B σ H F env x y d1 d2 P Q R r1 r2 g k => by
  cases d1 with
  | list ds =>
    obtain ⟨c1, c2, c3, c4, c5, j, z, c6, c7, c8, p⟩ := g
    obtain ⟨a, vs, rfl, h, l⟩ := r1.lst R.sub
    exact ⟨F, a, vs, y, d2, ds, j, z, R.sub, rfl, rfl, h, l, r2, c1, c2, c3, c4, c5, c6, c7, c8, k _ _ _ _ p (R.push (.int _)) (Same.refl F)⟩
  | _ => exact g.elim
theorem g_indexP (hu : X.A.units + 64 < cLine) {ea eb : Expr} {a b : Opd} {p1 pos : Pos} (ha : PE X ea (tO X W a)) (hb : PE X eb (tO X W b)) (hbase : attributeBase ea "index" X.env (eval ea X.env) = eval ea X.env := by rfl)
    (hfew : ((backTo pos (starEach [eb] X.env)).all (fun x => !x.1) && (backToKw pos (keywordEach [] X.env)).all (fun x => x.1.isSome) && decide ([eb].length + ([] : List Keyword).length + (if ([] : List Keyword).isEmpty then 0 else 1) < 30)) = true := by rfl)
    (hline : (p1.endLine == pos.line) = true := by rfl) (hs : starEach [eb] X.env = (false, eval eb X.env) :: starEach [] X.env := by rfl) (hp : (backTo pos (starEach [] X.env)).any (·.1) = false := by rfl) : PE X (.Call (.Attribute ea "index" p1) [eb] [] pos) (semE X W (eMt2 "list" gIxP a b)) :=
  peOf (pe_bm PySem.F.plainAttrs_list PySem.F.slot_list_index PySem.F.type_list_index (mt_ixP hu) ha (pa_cons hb pa_nil hs) hbase hfew hline hs hp) (mt2_imp (.inl rfl) mg_ixP)
/-! ### l.pop(i) -/
def ePopAt (i : Nat) (f : WE) : WE := fun env P Y => (∃ xs, lend env i (.lst xs)) ∧ f env (fun c env' => ∃ (j : Nat) (xs : List D) (d : D), c = .fz (.int (j : Int)) ∧ (j : Int) < 2 ^ 63 ∧ lend env' i (.lst xs) ∧ xs[j]? = some d ∧ P (.fz d) (setO env' i (.lst (xs.eraseIdx j)))) Y
theorem RepL.erase {K : PySem.W.Frag} {vs : List V} {ds : List D} (j : Nat) (h : RepL K F vs ds) : RepL K F (vs.eraseIdx j) (ds.eraseIdx j) := by
  rw [List.eraseIdx_eq_take_drop_succ, List.eraseIdx_eq_take_drop_succ]
  exact (h.take j).append (h.drop (j + 1))
theorem popAt_imp {i : Nat} {f : WE} : ∀ σ H Q, semE X W (ePopAt i f) σ H Q → tBM X.K "list" rPopAt (tVar i) (tCons (semE X W f) tNil) σ H Q := fun σ H Q ⟨B, F, env, P, Y, R, ⟨⟨xs0, l0⟩, h⟩, ok, x⟩ => by
  obtain ⟨v, ev⟩ := l0.val R
  obtain ⟨p, vs, rfl, n, h1, h2⟩ := l0.lst R ev
  refine ⟨_, ev, .inl ⟨rfl, vs, SqL.of h1⟩, B, F, env, _, Y, R, h, fun c env' u H' F' ⟨j, xs, d, hc, hj, l, hd, q⟩ R' s => ?_, x⟩
  subst hc
  have eu := topInt R'
  subst eu
  have R2 := R'.pop R.nio
  obtain ⟨p', vs', e', n', h1', h2'⟩ := l.lst R2 ev
  cases e'
  obtain ⟨w, hw, rw'⟩ := h2'.get hd
  have hlt : j < vs'.length := (List.getElem?_eq_some_iff.mp hw).1
  refine ⟨p, vs', (j : Int), j, w, rfl, rfl, h1', by omega, hj, ?_, hw, ?_⟩
  · unfold seqIndex?
    have hlt' : ((j : Int)) < (vs'.length : Int) := by omega
    simp [show ¬ ((j : Int) < 0) by omega, hlt']
  · exact ok _ _ _ _ _ q ((R2.mutL l ev n' (h2'.erase j)).push rw') s
/-! ### a == b == c -/
@[simp ↓] def eChainEq (fs : List WE) (fc : WE) : WE := fun env P Y => evL fs env (fun ds env2 => ∃ d1 d2, ds = [d1, d2] ∧ CEq d1 d2 ∧ if PyData.eqv d1 d2 = true then fc env2 (fun c env3 => c.isSc = false ∧ CEq d2 c.toD ∧ P (.fz (.bool (PyData.eqv d2 c.toD))) env3) Y else P (.fz (.bool false)) env2) Y
theorem chainEq_imp {fa fb fc : WE} : ∀ σ H Q, semE X W (eChainEq [fa, fb] fc) σ H Q → tChain (rDat X.K CEq PyData.eqv) (rDat X.K CEq PyData.eqv) (semE X W fa) (semE X W fb) (semE X W fc) σ H Q := fun σ H Q ⟨B, F, env, P, Y, R, h, ok, x⟩ => by
  have main : tEs X W [fa, fb] σ H fun vs H' => ∃ a b, vs = [a, b] ∧ rDat X.K CEq PyData.eqv a b H' fun z H3 => ∃ k, z = .bl k ∧ (if k = true then semE X W fc σ H3 fun w H4 => rDat X.K CEq PyData.eqv b w H4 Q else Q (.bl false) H3) := evL_ok R h x fun ds env2 vs H2 F2 ⟨d1, d2, hds, ce, p⟩ R2 s2 l => by
    subst hds
    cases l with
    | cons r1 l =>
      cases l with
      | cons r2 l =>
        cases l
        refine ⟨_, _, rfl, F2, d1, d2, R2.sub, .inl r1, .inl r2, ce, _, rfl, ?_⟩
        by_cases he : PyData.eqv d1 d2 = true
        · rw [if_pos he] at p ⊢
          refine ⟨B, F2, env2, _, Y, R2, p, fun c env3 w H3 F3 ⟨sc, ce2, q⟩ R3 s3 => ?_, x⟩
          obtain ⟨F4, s4, R4, r4⟩ := R3.freeze R2.nio sc
          exact ⟨F4, d2, c.toD, R4.sub, .inl ((r2.mono s3).mono s4), .inl r4, ce2, ok _ _ _ _ _ q (R4.push (.bl _)) ((s2.trans s3).trans s4)⟩
        · have he' : PyData.eqv d1 d2 = false := Bool.eq_false_iff.mpr he
          rw [if_neg he] at p ⊢
          exact ok _ _ _ _ _ p (R2.push (.bl _)) s2
  obtain ⟨B1, F1, env1, P1, Y1, R1, h1, ok1, x1⟩ := main
  refine ⟨B1, F1, env1, P1, Y1, R1, h1, fun c e v H' F' p' R' s' => ?_, x1⟩
  obtain ⟨B3, F3, env3, P3, Y3, R3, h3, ok3, x3⟩ := ok1 c e v H' F' p' R' s'
  refine ⟨B3, F3, env3, P3, Y3, R3, h3, fun c e v H' F' p' R' s' => ?_, x3⟩
  obtain ⟨a, b, ev, q⟩ := ok3 c e v H' F' p' R' s'
  cases ev
  exact q
theorem g_chainEq (hu : X.A.units + 64 < cLine) {ea eb ec : Expr} {fa fb fc : WE} {pos : Pos} (ha : PE X ea (semE X W fa)) (hb : PE X eb (semE X W fb)) (hc : PE X ec (semE X W fc)) (hm : lastMarks [.Eq, .Eq] [eb, ec] = false := by rfl) : PE X (.Compare ea [.Eq, .Eq] [eb, ec] pos) (semE X W (eChainEq [fa, fb] fc)) :=
  peOf (pe_chain (op_eqDat hu) (op_eqDat hu) ha hb hc hm) chainEq_imp
/-! ### x == (), x != () -/
def gEq0 : D → D → (Cl → Prop) → Prop
  | .tuple xs, .tuple [], P => P (.fz (.bool xs.isEmpty))
  | _, _, _ => False
def gNe0 : D → D → (Cl → Prop) → Prop
  | .tuple xs, .tuple [], P => P (.fz (.bool (!xs.isEmpty)))
  | _, _, _ => False
@[simp ↓] theorem gEq0_t {xs : List D} {P : Cl → Prop} : gEq0 (.tuple xs) (.tuple []) P = P (.fz (.bool xs.isEmpty)) := rfl
@[simp ↓] theorem gNe0_t {xs : List D} {P : Cl → Prop} : gNe0 (.tuple xs) (.tuple []) P = P (.fz (.bool (!xs.isEmpty))) := rfl
def rEq0 (K : PySem.W.Frag) (f : Bool → Bool) : R2 := fun x y H Q => ∃ a b xs, x = .ref a ∧ y = .ref b ∧ SqT K H a xs ∧ SqT K H b [] ∧ Q (.bl (f xs.isEmpty)) H
theorem op_eq0 (hu : X.A.units < cLine) : OpR X (compareOp .Eq) (rEq0 X.K fun b => b) := by
  intro pins s σ H x y v u Q I rx ry h
  obtain ⟨a, b, xs, rfl, rfl, h1, h2, q⟩ := h
  cases rx
  cases ry
  obtain ⟨its, rv, ⟨o, ho, hc, n, hd⟩, _⟩ := I.tuple h1
  obtain ⟨its2, rv2, ⟨o2, ho2, hc2, n2, hd2⟩, _⟩ := I.tuple h2
  cases rv2
  have hl := rv.length
  refine SeqAt.RcAt.tuples (e := fun _ => true) ⟨o, ho, hc, n, hd⟩ ⟨o2, ho2, hc2, n2, hd2⟩ hu (fun j h1 h2 => by simp at h2) _ _ _ _ ⟨.bl xs.isEmpty, H, I, ?_, q⟩
  show Value.bool _ = Value.bool _
  congr 1
  cases xs with
  | nil =>
    cases rv
    rfl
  | cons x xs =>
    cases rv
    simp
theorem op_ne0 (hu : X.A.units < cLine) : OpR X (compareOp .NotEq) (rEq0 X.K fun b => !b) := by
  intro pins s σ H x y v u Q I rx ry h
  obtain ⟨a, b, xs, rfl, rfl, h1, h2, q⟩ := h
  cases rx
  cases ry
  obtain ⟨its, rv, ⟨o, ho, hc, n, hd⟩, _⟩ := I.tuple h1
  obtain ⟨its2, rv2, ⟨o2, ho2, hc2, n2, hd2⟩, _⟩ := I.tuple h2
  cases rv2
  refine SeqAt.RcNeAt.tuples (e := fun _ => true) ⟨o, ho, hc, n, hd⟩ ⟨o2, ho2, hc2, n2, hd2⟩ hu (fun j h1 h2 => by simp at h2) _ _ _ _ ⟨.bl (!xs.isEmpty), H, I, ?_, q⟩
  show Value.bool _ = Value.bool _
  congr 1
  cases xs with
  | nil =>
    cases rv
    rfl
  | cons x xs =>
    cases rv
    simp
theorem RepR.tupS {K : PySem.W.Frag} {v : V} {ds : List D} (sb : Same F H) (r : RepR K H F v (.tuple ds)) : ∃ a vs, v = .ref a ∧ SqT K H a vs ∧ RepL K F vs ds := by
  rcases r with r | ⟨_, _, _, e, _⟩ | ⟨_, _, _, e, _⟩
  · cases r with
    | tup h1 h2 => exact ⟨_, _, rfl, same_seqT sb h1, h2⟩
  · cases e
  · cases e
theorem og_eq0 : OpG X (rEq0 X.K fun b => b) gEq0 := fun B σ H F env x y d1 d2 P Q R r1 r2 g k => by
  unfold gEq0 at g
  split at g
  · rename_i xs
    obtain ⟨a, vs, rfl, h1, l1⟩ := r1.tupS R.sub
    obtain ⟨b, ws, rfl, h2, l2⟩ := r2.tupS R.sub
    cases l2
    have e : vs.isEmpty = xs.isEmpty := by cases l1 <;> rfl
    exact ⟨a, b, vs, rfl, rfl, h1, h2, by rw [e]; exact k _ _ _ _ g (R.push (.bl _)) (Same.refl F)⟩
  · exact g.elim
theorem og_ne0 : OpG X (rEq0 X.K fun b => !b) gNe0 := fun B σ H F env x y d1 d2 P Q R r1 r2 g k => by
  unfold gNe0 at g
  split at g
  · rename_i xs
    obtain ⟨a, vs, rfl, h1, l1⟩ := r1.tupS R.sub
    obtain ⟨b, ws, rfl, h2, l2⟩ := r2.tupS R.sub
    cases l2
    have e : vs.isEmpty = xs.isEmpty := by cases l1 <;> rfl
    exact ⟨a, b, vs, rfl, rfl, h1, h2, by rw [e]; exact k _ _ _ _ g (R.push (.bl _)) (Same.refl F)⟩
  · exact g.elim
end
end Sw

/-! nodes: x == (), x != (), l.pop(i) -/
namespace Sw
open PySem PySem.Spec PyProof.Rows L2
section
variable {X : Cx} {W : WX} {pos p1 p2 p3 : Pos} {e ea eb ec : Expr} {f g h : WE} {a b c : Opd} {i j : Nat} {x : Str}
theorem g_eq0 (ha : PE X ea (tO X W a)) (hb : PE X eb (tO X W b)) (hu : X.A.units + 64 < cLine) : PE X (.Compare ea [.Eq] [eb] pos) (semE X W (eOp2 gEq0 a b)) := pe_cmp2 (op_eq0 (by omega)) og_eq0 ha hb (nomark _)
theorem g_ne0 (ha : PE X ea (tO X W a)) (hb : PE X eb (tO X W b)) (hu : X.A.units + 64 < cLine) : PE X (.Compare ea [.NotEq] [eb] pos) (semE X W (eOp2 gNe0 a b)) := pe_cmp2 (op_ne0 (by omega)) og_ne0 ha hb (nomark _)
theorem h_eq0 (ha : PE X ea (tO X W a)) (hb : PE X eb (tO X W b)) (hu : X.A.units + 64 < cLine) : PT X (.Compare ea [.Eq] [eb] pos) (semT X W (tOp2 gEq0 a b)) := pt_cmp2 (op_eq0 (by omega)) og_eq0 ha hb (nomark _)
theorem h_ne0 (ha : PE X ea (tO X W a)) (hb : PE X eb (tO X W b)) (hu : X.A.units + 64 < cLine) : PT X (.Compare ea [.NotEq] [eb] pos) (semT X W (tOp2 gNe0 a b)) := pt_cmp2 (op_ne0 (by omega)) og_ne0 ha hb (nomark _)
end
section
variable {X : Cx} {W : WX} {B : Bd} {σ : L2.St} {H F : Hp} {env : En} {Y : XP}
theorem g_popAt {i : Nat} {ea eb : Expr} {f : WE} {p1 pos : Pos} (ha : PE X ea (tVar i)) (hb : PE X eb (semE X W f)) (hbase : attributeBase ea "pop" X.env (eval ea X.env) = eval ea X.env := by rfl)
    (hfew : ((backTo pos (starEach [eb] X.env)).all (fun x => !x.1) && (backToKw pos (keywordEach [] X.env)).all (fun x => x.1.isSome) && decide ([eb].length + ([] : List Keyword).length + (if ([] : List Keyword).isEmpty then 0 else 1) < 30)) = true := by rfl)
    (hline : (p1.endLine == pos.line) = true := by rfl) (hs : starEach [eb] X.env = (false, eval eb X.env) :: starEach [] X.env := by rfl) (hp : (backTo pos (starEach [] X.env)).any (·.1) = false := by rfl) : PE X (.Call (.Attribute ea "pop" p1) [eb] [] pos) (semE X W (ePopAt i f)) :=
  peOf (pe_bm PySem.F.plainAttrs_list PySem.F.slot_list_pop PySem.F.type_list_pop mt_popAt ha (pa_cons hb pa_nil hs) hbase hfew hline hs hp) popAt_imp
end
end Sw

/-! slots that the frame does not know: what belongs to an object stands there; defs that are lent such, that make such -/
namespace Sw
open PySem PySem.Spec PyProof.Rows L2
section
variable {X : Cx} {W : WX} {B : Bd} {σ σ' : L2.St} {H F H' F' : Hp} {env : En} {Y : XP} {pins : List (Addr × Obj)} {s : Shared}
/-- the same but for names that the frame does not know -/
def Gst (X : Cx) (σ σ' : L2.St) : Prop := σ'.length = σ.length ∧ ∀ (i : Nat) (x : Str), X.N[i]? = some x → Vis X.env.scope x → σ'[i]? = σ[i]?
theorem Gst.inv (g : Gst X σ σ') (I : Inv X pins σ H s) : Inv X pins σ' H s where
  ok := I.ok
  os := I.os
  bare := I.bare
  base := I.base
  loc := by
    obtain ⟨m, n, l⟩ := I.loc
    exact ⟨m, n, fun i x v hN hs hv => l i x v hN (by rw [← g.2 i x hN hv]; exact hs) hv⟩
  cell := I.cell
  free := I.free
  freeC := I.freeC
  pin := I.pin
  hok := I.hok
  len := g.1.trans I.len
theorem pss_ghost {sts : List Stmt} {t : TS} (h : PSs X sts t) : PSs X sts (fun D σ H => ∃ σ', Gst X σ σ' ∧ t D σ' H) := ⟨fun pins s σ H D I ⟨σ', g, q⟩ => h.run pins s σ' H D (g.inv I) q⟩
theorem ps_ghost {st : Stmt} {t : TS} (h : PS X st t) : PS X st (fun D σ H => t { D with nx := fun σ' H' => ∃ σ'', Gst X σ' σ'' ∧ D.nx σ'' H' } σ H) := ⟨fun pins s σ H D I q => thn (h.run pins s σ H _ I q) fun f s' z => by
  cases f with
  | next =>
    obtain ⟨σ', H', J, σ'', g, q⟩ := z
    exact ⟨σ'', H', g.inv J, q⟩
  | brk => exact z
  | cont => exact z
  | ret u => exact z⟩
/-! ### what such a def promises -/
/-- new things of one's own at a def's end, beside what it gives -/
structure News (K : PySem.W.Frag) (H H' F' : Hp) (v : V) (c : Cl) (zs : List V) (ns : List OD) : Prop where
  len : zs.length = ns.length
  at_ : ∀ (k : Nat) (o : OD), ns[k]? = some o → ∃ p, zs[k]? = some (.ref p) ∧ F' p = none ∧ OwnAt K H' F' p o ∧ strip H p = none
  ne : ∀ (k l : Nat) (p : Addr), zs[k]? = some (.ref p) → zs[l]? = some (.ref p) → k = l
  nv : ∀ (o : OD) (k : Nat) (p : Addr), c = .ow o → v = .ref p → zs[k]? ≠ some (.ref p)
/-- n arguments; g things lent beside; r new ones -/
def spN (K : PySem.W.Frag) (mg : Str → Option Value) (n g r : Nat) (C : Ct) : Sp := fun vs H Q E => ∃ (gs : List V) (F : Hp) (cs : List Cl) (P : Cl → List OD → Prop) (Y : XP), vs.length = n ∧ gs.length = g ∧ Rl K (bdOf H F (vs ++ gs) cs) ((vs ++ gs).map some) H F (cs.map some) ∧ C cs P Y ∧
  (∀ c os ns zs v H' F', ns.length = r → P c (os ++ ns) → PostOk K H F (vs ++ gs) cs c os v H' F' → News K H H' F' v c zs ns → Q v H') ∧ (∀ x cls d H', Y x → ExnIs mg H' x cls d → Kept K (bdOf H F (vs ++ gs) cs) H' → E cls d H')
/-- the own things at some slots -/
@[simp ↓] def newsAt (e : En) : List Nat → (List OD → Prop) → Prop
  | [], P => P []
  | j :: js, P => ∃ o, e[j]? = some (some (.ow o)) ∧ newsAt e js fun ns => P (o :: ns)
theorem newsAt_get {e : En} : ∀ {js : List Nat} {P : List OD → Prop}, newsAt e js P → ∃ ns, ns.length = js.length ∧ P ns ∧ ∀ (k j : Nat) (o : OD), js[k]? = some j → ns[k]? = some o → e[j]? = some (some (.ow o))
  | [], P, h => ⟨[], rfl, h, fun k j o e => by simp at e⟩
  | j :: js, P, ⟨o, ho, h⟩ => by
    obtain ⟨ns, l, p, q⟩ := newsAt_get h
    refine ⟨o :: ns, by simp [l], p, fun k j' o' e1 e2 => ?_⟩
    cases k with
    | zero => cases e1; cases e2; exact ho
    | succ k => exact q k j' o' e1 e2
@[simp ↓] def skN (js : List Nat) (cs : List Cl) (P : Cl → List OD → Prop) (Y : XP) : SK where
  nx := fun e => newsAt e js fun ns => P (.fz .none) (outsOf cs e ++ ns)
  rt := fun c e => newsAt e js fun ns => P c (outsOf cs e ++ ns)
  bk := fun _ => False
  ct := fun _ => False
  xc := Y
@[simp ↓] def ctN (w : WS) (k : Nat) (js : List Nat) : Ct := fun cs P Y => w (cs.map some ++ List.replicate k none) (skN js cs P Y)
theorem ctN_in {w : WS} {k : Nat} {js : List Nat} {cs : List Cl} {P : Cl → List OD → Prop} {Y : XP} (h : w (cs.map some ++ List.replicate k none) (skN js cs P Y)) : ctN w k js cs P Y := h
theorem sem_inN {m r : Nat} {js : List Nat} {wp : WS} {vs : List V} {cs : List Cl} {P' : Cl → List OD → Prop} {Q : VK} {E : XK} (hj : js.Nodup) (hr : js.length = r) (R : Rl X.K (bdOf H F vs cs) (vs.map some) H F (cs.map some)) (hc : ctN wp m js cs P' Y)
    (ok : ∀ c os ns zs v H' F', ns.length = r → P' c (os ++ ns) → PostOk X.K H F vs cs c os v H' F' → News X.K H H' F' v c zs ns → Q v H') (xo : ∀ x cls d H', Y x → ExnIs X.mg H' x cls d → Kept X.K (bdOf H F vs cs) H' → E cls d H') : semS X (fun cls d _ H => E cls d H) wp { nx := fun _ H' => Q .non H', rt := Q } (vs.map some ++ List.replicate m none) H := by
  refine ⟨bdOf H F vs cs, F, _, skN js cs P' Y, R.pad m, hc, ?_, fun x σ' H' cls d y i kk => xo x cls d H' y i kk⟩
  have hcl : vs.length = cs.length := by simpa using R.len.symm
  have fin : ∀ c env' σ' v H' F', (newsAt env' js fun ns => P' c (outsOf cs env' ++ ns)) → Rl X.K (bdOf H F vs cs) (σ' ++ [some v]) H' F' (env' ++ [some c]) → (∀ p, ¬ (bdOf H F vs cs).io σ'.length p) → Same F F' → Q v H' := fun c env' σ' v H' F' p R' nio sm => by
    obtain ⟨ns, nl, p, hns⟩ := newsAt_get p
    have le : env'.length = σ'.length := R'.len1
    have Rp := R'.pop nio
    -- the values of the new ones
    have zex : ∀ ns' : List OD, ∀ js' : List Nat, ns'.length = js'.length → (∀ (k j : Nat) (o : OD), js'[k]? = some j → ns'[k]? = some o → env'[j]? = some (some (.ow o))) → ∃ zs : List V, zs.length = ns'.length ∧ ∀ (k j : Nat), js'[k]? = some j → σ'[j]? = some (zs[k]?) := by
      intro ns'
      induction ns' with
      | nil =>
        intro js' hl _
        cases js' with
        | nil => exact ⟨[], rfl, fun k j e => by simp at e⟩
        | cons => cases hl
      | cons o ns' ih =>
        intro js' hl hq
        cases js' with
        | nil => cases hl
        | cons j js' =>
          obtain ⟨zs, zl, hz⟩ := ih js' (by simpa using hl) fun k j o e1 e2 => hq (k + 1) j o (by simpa using e1) (by simpa using e2)
          obtain ⟨v0, ev, _⟩ := Rp.cell j _ (hq 0 j o rfl rfl)
          refine ⟨v0 :: zs, by simp [zl], fun k j' e => ?_⟩
          cases k with
          | zero => cases e; exact ev
          | succ k => exact hz k j' (by simpa using e)
    obtain ⟨zs, zl, hz⟩ := zex ns js nl hns
    have jat : ∀ (k : Nat) (p : Addr), zs[k]? = some (.ref p) → ∃ j o, js[k]? = some j ∧ env'[j]? = some (some (.ow o)) ∧ σ'[j]? = some (some (.ref p)) := fun k p e => by
      have hk : k < zs.length := (List.getElem?_eq_some_iff.mp e).1
      have hkn : k < ns.length := by omega
      have hkj : k < js.length := by omega
      have e1 : js[k]? = some js[k] := List.getElem?_eq_getElem hkj
      have e2 : ns[k]? = some ns[k] := List.getElem?_eq_getElem hkn
      exact ⟨_, _, e1, hns k _ _ e1 e2, by rw [hz k _ e1, e]⟩
    have gl : ∀ {j : Nat} {c : Cl}, env'[j]? = some (some c) → j < σ'.length := fun h => by rw [← le]; exact (List.getElem?_eq_some_iff.mp h).1
    refine ok c _ ns zs v H' F' (nl.trans hr) p ⟨sm, R'.subn, fun q o h => ?_, fun q o h1 h2 => R'.kept.keep q o h1 (fun ⟨j, hj⟩ => h2 j hj) fun z => z, R'.kept.tabs, R'.top le, fun o e => ?_, fun o q e hv => ?_, ?_⟩ ⟨zl, fun k o e => ?_, fun k l q e1 e2 => ?_, fun o k q ec hv e => ?_⟩
    · rcases R'.new q o h with z | z | z | z
      · exact .inl z
      · exact .inr (.inl z)
      · exact z.elim
      · exact .inr (.inr z)
    · subst e
      obtain ⟨q, hv, _⟩ := R'.top le
      subst hv
      exact nio q (R'.ion σ'.length o q (by rw [← le]; exact get_last) get_last)
    · subst e hv
      rcases R'.own σ'.length o q (by rw [← le]; exact get_last) get_last with z | z
      · exact z
      · exact z.elim
    · refine outs_ok (T := []) hcl fun j o hj => ?_
      have hjv : j < vs.length := by
        have := (List.getElem?_eq_some_iff.mp hj).1
        omega
      obtain ⟨v0, ev0, q, hv0, _⟩ := R.cell j (.io o) (by rw [List.getElem?_map, hj]; rfl)
      subst hv0
      have evj : vs[j]? = some (.ref q) := by
        rw [List.getElem?_map] at ev0
        cases z : vs[j]? with
        | none => rw [z] at ev0; cases ev0
        | some y => rw [z] at ev0; cases ev0; rfl
      obtain ⟨a, o', b⟩ := Rp.ioc j q ⟨⟨o, hj⟩, evj⟩
      obtain ⟨v1, ev1, q1, hv1, nq, oa⟩ := Rp.cell j _ b
      rw [a] at ev1
      cases ev1
      cases hv1
      exact ⟨q, o', evj, b, nq, oa⟩
    · have hk : k < ns.length := (List.getElem?_eq_some_iff.mp e).1
      have e1 : js[k]? = some (js[k]'(by omega)) := List.getElem?_eq_getElem (by omega)
      have e2 := hns k _ o e1 e
      obtain ⟨v0, ev, q, hv, nq, oa⟩ := Rp.cell _ _ e2
      subst hv
      have e3 := hz k _ e1
      rw [ev] at e3
      have e4 : zs[k]? = some (.ref q) := by
        cases z : zs[k]? with
        | none => rw [z] at e3; cases e3
        | some y => rw [z] at e3; cases e3; rfl
      rcases Rp.own _ o q e2 ev with z | z
      · exact ⟨q, e4, nq, oa, z⟩
      · exact z.elim
    · obtain ⟨j1, o1, a1, b1, c1⟩ := jat k q e1
      obtain ⟨j2, o2, a2, b2, c2⟩ := jat l q e2
      have := Rp.dist j1 j2 _ _ q b1 rfl c1 b2 rfl c2
      subst this
      have h1 := List.getElem?_eq_some_iff.mp a1
      have h2 := List.getElem?_eq_some_iff.mp a2
      have hpw := List.pairwise_iff_getElem.mp hj
      rcases Nat.lt_trichotomy k l with z | z | z
      · exact absurd (h1.2.trans h2.2.symm) (hpw k l h1.1 h2.1 z)
      · exact z
      · exact absurd (h2.2.trans h1.2.symm) (hpw l k h2.1 h1.1 z)
    · subst ec hv
      obtain ⟨j1, o1, a1, b1, c1⟩ := jat k q e
      have hj1 := gl b1
      have := R'.dist j1 σ'.length _ _ q (get_pre b1) rfl (get_pre c1) (by rw [← le]; exact get_last) rfl get_last
      omega
  exact ⟨fun env' σ' H' F' p R' sm => fin _ _ _ _ _ _ p (R'.push .non) R'.nio sm, fun c env' σ' v H' F' p R' n sm => fin _ _ _ _ _ _ p R' n sm, fun _ _ _ _ p => p.elim, fun _ _ _ _ p => p.elim⟩
end
section
variable {P : Program} {w : World} {K : PySem.W.Frag} {mg : Str → Option Value} {base : Heap} {x qual : Str} {params : Arguments} {body : List Stmt} {scope : Scope} {kws : List (Str × V)} {dvs : List V} {f : Addr} {fd : FuncData} {N ps : List Str} {k n g m r : Nat} {js : List Nat} {wp : WS}
/-- such a def keeps what its body tells -/
theorem fn_okN (FD : FunD K x qual params body scope dvs kws f fd) (S : FnScope N ps scope) (hn : ps.length = n) (hm : N.length = n + g + m) (hgv : ∀ (i : Nat) (y : Str), n ≤ i → i < n + g → N[i]? = some y → ¬ Vis scope y) (hj : js.Nodup) (hr : js.length = r)
    (hb : ∀ (cdv : Value) (A : Around) (outer : List Env) (s : Shared) (H : Hp) (E : XK), A.guards = some [] → Room k (A.deeper (envOfC qual scope s.heap.objs.size f cdv)) → (mg x = some (.ref f) → ∀ c Pt, PySem.W.tabIn K x = some (c, Pt) → cdv = .ref c) →
      Takes (cxOf (L2.CX P w) P w K mg base N qual scope f cdv A outer s H E) (fun cls d _ H => E cls d H) → PassesOwn (model P w) (cxOf (L2.CX P w) P w K mg base N qual scope f cdv A outer s H E).A (cxOf (L2.CX P w) P w K mg base N qual scope f cdv A outer s H E).env (cxOf (L2.CX P w) P w K mg base N qual scope f cdv A outer s H E).xe →
      PSs (cxOf (L2.CX P w) P w K mg base N qual scope f cdv A outer s H E) body (semS (cxOf (L2.CX P w) P w K mg base N qual scope f cdv A outer s H E) (fun cls d _ H => E cls d H) wp)) :
    FnG P w K mg base (k + 1) f fd ps (spN K mg n g r (ctN wp m js)) := by
  refine fn_body FD S (fun vs H Q E ⟨_, _, _, _, _, h, _⟩ => h.trans hn.symm) fun cdv A outer s H vs Q E hg hro hcd h => ?_
  obtain ⟨gs, F, cs, P', Y, hl, hgl, R, hc, ok, xo⟩ := h
  refine ⟨_, pss_ghost (hb cdv A outer s H E hg hro hcd (takes_of rfl rfl rfl rfl) (passes_of rfl)), (vs ++ gs).map some ++ List.replicate m none, ⟨?_, fun i y hN hv => ?_⟩, sem_inN (X := cxOf (L2.CX P w) P w K mg base N qual scope f cdv A outer s H E) hj hr R hc ok xo⟩
  · unfold L2.start
    simp [hl, hgl, hm]
    omega
  · have hN : N[i]? = some y := hN
    have hv : Vis scope y := hv
    have hi : i < N.length := (List.getElem?_eq_some_iff.mp hN).1
    unfold L2.start
    by_cases c1 : i < n
    · rw [List.getElem?_append_left (by simp; omega), List.getElem?_append_left (by simp; omega)]
      simp only [List.getElem?_map]
      rw [List.getElem?_append_left (by omega)]
    · by_cases c2 : i < n + g
      · exact absurd hv (hgv i y (by omega) c2 hN)
      · rw [List.getElem?_append_right (by simp; omega), List.getElem?_append_right (by simp; omega)]
        rw [List.getElem?_replicate, List.getElem?_replicate, if_pos (by simp; omega), if_pos (by simp; omega)]
end
section
variable {X : Cx} {W : WX} {B : Bd} {σ σ' : L2.St} {H F H' F' : Hp} {env : En} {Y : XP} {pins : List (Addr × Obj)} {s : Shared}
theorem tArgs_mono : ∀ {as : List Arg} {σ : L2.St} {H : Hp} {Q Q' : List V → Hp → Prop}, tArgs X W as σ H Q → (∀ vs H, Q vs H → Q' vs H) → tArgs X W as σ H Q'
  | [], _, _, _, _, h, k => k _ _ h
  | .v g :: as, σ, H, Q, Q', h, k => by
    obtain ⟨B, F, env, P, Y, R, q, ok, x⟩ := h
    exact ⟨B, F, env, P, Y, R, q, fun c env' v H' F' p R' s => tArgs_mono (ok c env' v H' F' p R' s) fun vs H q => k _ _ q, x⟩
  | .r i :: as, σ, H, Q, Q', h, k => by
    obtain ⟨v, e, q⟩ := h
    exact ⟨v, e, tArgs_mono q fun vs H q => k _ _ q⟩
theorem tArgs_app {bs : List Arg} : ∀ {as : List Arg} {σ : L2.St} {H : Hp} {Q : List V → Hp → Prop}, tArgs X W (as ++ bs) σ H Q → tArgs X W as σ H fun vs H1 => vs.length = as.length ∧ tArgs X W bs σ H1 fun zs H2 => Q (vs ++ zs) H2
  | [], _, _, _, h => ⟨rfl, h⟩
  | .v g :: as, σ, H, Q, h => by
    obtain ⟨B, F, env, P, Y, R, q, ok, x⟩ := h
    exact ⟨B, F, env, P, Y, R, q, fun c env' v H' F' p R' s => tArgs_mono (tArgs_app (ok c env' v H' F' p R' s)) fun vs H2 ⟨l, q⟩ => ⟨congrArg (· + 1) l, q⟩, x⟩
  | .r i :: as, σ, H, Q, h => by
    obtain ⟨v, e, q⟩ := h
    exact ⟨v, e, tArgs_mono (tArgs_app q) fun vs H2 ⟨l, q⟩ => ⟨congrArg (· + 1) l, q⟩⟩
theorem tArgs_r : ∀ {js : List Nat} {σ : L2.St} {H : Hp} {Q : List V → Hp → Prop}, tArgs X W (js.map Arg.r) σ H Q → ∃ zs : List V, zs.length = js.length ∧ Q zs H
  | [], _, _, _, h => ⟨[], rfl, h⟩
  | j :: js, σ, H, Q, h => by
    obtain ⟨v, e, q⟩ := h
    obtain ⟨zs, l, q⟩ := tArgs_r q
    exact ⟨v :: zs, by simp [l], q⟩
/-- behind a call: nothing of ours was touched, but for what was lent -/
theorem kept_call {as : List Arg} {vs : List V} {cs : List Cl} (R : Rl X.K B σ H F env) (l : AA X.K σ H F env as vs cs) (k : Kept X.K (bdOf H F vs cs) H') : Kept X.K B H' := by
  refine ⟨fun a o h1 h2 h3 => ?_, R.kept.nt, k.tabs⟩
  refine k.keep a o (strip_some (R.kept.keep a o h1 h2 h3) fun ps z => by rw [z] at h1; exact R.kept.nt a ps h1) (fun ⟨j, hj⟩ => ?_) fun z => z
  obtain ⟨⟨u, e1⟩, e2⟩ := hj
  obtain ⟨i, ei, lo, v', ev', es'⟩ := l.slot j u e1
  rw [e2] at ev'
  cases ev'
  rcases lo with lo | lo
  · rcases R.own i u a lo es' with z | z
    · rw [h1] at z; cases z
    · exact h3 z
  · exact h2 ⟨i, R.ion i u a lo es'⟩
/-- a call of a def that is lent things beside -/
theorem callN_imp {C : Ct} {as : List Arg} {gl : List Nat} {n g : Nat} (hn : as.length = n) (hg : gl.length = g) (nd : (lentOf (as ++ gl.map Arg.r)).Nodup) : ∀ σ H Q, semE X W (eCall C (as ++ gl.map Arg.r)) σ H Q → tCallS (spN X.K X.mg n g 0 C) (L2.WE W) (tArgs X W as) σ H Q := fun σ H Q ⟨B, F, env, P, Y, R, h, ok, x⟩ => by
  have key : tArgs X W (as ++ gl.map Arg.r) σ H fun vs H' => ∃ (F : Hp) (cs : List Cl) (P : Cl → List OD → Prop) (Y : XP), Rl X.K (bdOf H' F vs cs) (vs.map some) H' F (cs.map some) ∧ C cs P Y ∧
      (∀ c os v H2 F2, P c os → PostOk X.K H' F vs cs c os v H2 F2 → Q v H2) ∧ (∀ x cls d H2, Y x → ExnIs X.mg H2 x cls d → Kept X.K (bdOf H' F vs cs) H2 → L2.WE W σ cls d H2) :=
    evA_ok R h x fun cs env' vs H' F' hc R' s l => ⟨F', cs, _, Y, l.entry R' nd, hc, fun c os v H2 F2 p q => ok _ _ _ _ _ p (q.after R' l nd) (s.trans q.s1), fun e cls d H2 y i k => x e σ H2 cls d y i (kept_call R' l k)⟩
  refine tArgs_mono (tArgs_app key) fun vs H1 ⟨hl, q⟩ => ?_
  obtain ⟨zs, zl, F', cs, P', Y', R', hc, k1, k2⟩ := tArgs_r q
  refine ⟨zs, F', cs, P', Y', hl.trans hn, zl.trans hg, R', hc, fun c os ns zs' v H2 F2 h0 p po _ => ?_, k2⟩
  have : ns = [] := List.length_eq_zero_iff.mp h0
  subst this
  rw [List.append_nil] at p
  exact k1 c os v H2 F2 p po
/-- an instance at a slot -/
def obAt (env : En) (i : Nat) (c : Str) (fs : List (Str × (D ⊕ Addr))) : Prop := lend env i (.ob c fs) ∨ ∃ a, lend env i (.oba a c fs)
theorem FsAt.look {x : Str} : ∀ {vs : List (Str × V)} {fs : List (Str × (D ⊕ Addr))}, FsAt X.K F vs fs → fs.lookup x = none → vs.lookup x = none
  | _, _, .nil, _ => rfl
  | _, _, .fz (x := y) r t, h => by
    rw [List.lookup_cons] at h ⊢
    cases q : x == y with
    | true => rw [q] at h; cases h
    | false => rw [q] at h; exact FsAt.look t h
  | _, _, .ad (x := y) t, h => by
    rw [List.lookup_cons] at h ⊢
    cases q : x == y with
    | true => rw [q] at h; cases h
    | false => rw [q] at h; exact FsAt.look t h
theorem obAt.at {i : Nat} {c : Str} {fs : List (Str × (D ⊕ Addr))} (R : Rl X.K B σ H F env) (h : obAt env i c fs) : ∃ p, σ[i]? = some (some (.ref p)) ∧ F p = none ∧ ObAt X.K H F p c fs := by
  rcases h with h | ⟨a, h⟩
  · exact lend.cell R h
  · obtain ⟨p, e, n, rfl, o⟩ := lend.cell R h
    exact ⟨p, e, n, o⟩
/-- o.m(..), o at slot i, of class c -/
def eMeth (c m : Str) (i : Nat) (C : Ct) (as : List Arg) : WE := fun env P Y => (∃ fs, obAt env i c fs ∧ fs.lookup m = none) ∧ eCall C (.r i :: as) env P Y
def tMethG (C : Addr) (m : Str) (sp : Sp) (E : L2.St → XK) (ta : TE) (t : TA) : TE := fun σ H Q => ta σ H fun x H1 => ∃ a dx fs, x = .ref a ∧ H1 a = some (.ins C dx fs) ∧ fs.lookup m = none ∧ t σ H1 fun vs H2 => sp (x :: vs) H2 Q (E σ)
theorem meth_imp {c m : Str} {C : Addr} {i : Nat} {Ct : Ct} {as : List Arg} {gl : List Nat} {n g : Nat} (hC : clsN X.K c C) (hn : as.length + 1 = n) (hg : gl.length = g) (nd : (lentOf (.r i :: (as ++ gl.map Arg.r))).Nodup) : ∀ σ H Q, semE X W (eMeth c m i Ct (as ++ gl.map Arg.r)) σ H Q → tMethG C m (spN X.K X.mg n g 0 Ct) (L2.WE W) (tVar i) (tArgs X W as) σ H Q := fun σ H Q ⟨B, F, env, P, Y, R, ⟨⟨fs, ho, hl⟩, h⟩, ok, x⟩ => by
  obtain ⟨p, ep, np, C', dx, vs, hc', h1, _, fa⟩ := obAt.at R ho
  have : C' = C := by
    unfold clsN at hC hc'
    rw [hC] at hc'
    cases hc'
    rfl
  subst this
  have z := callN_imp (C := Ct) (as := .r i :: as) (gl := gl) (n := n) (g := g) (by simpa using hn) hg (by simpa using nd) σ H Q ⟨B, F, env, P, Y, R, h, ok, x⟩
  obtain ⟨v, ev, z⟩ := z
  rw [ep] at ev
  cases ev
  exact ⟨_, ep, p, dx, vs, rfl, h1, fa.look hl, z⟩
end
end Sw

/-! what is made: a new object with what belongs to it -/
namespace Sw
open PySem PySem.Spec PyProof.Rows L2
section
variable {K : PySem.W.Frag} {B : Bd} {σ : L2.St} {H F H' F' : Hp} {env : En}
theorem own_old {as : List Arg} {vs : List V} {cs : List Cl} {os : List OD} {j : Nat} {c' : Cl} (l : AA K σ H F env as vs cs) (h : (putO as os env)[j]? = some (some c')) (o : c'.own = true) : ∃ c0, env[j]? = some (some c0) ∧ c0.own = true := by
  by_cases q : j ∈ lentOf as
  · obtain ⟨_, u, _, _, _, _, lo⟩ := l.at j q
    exact lo.own
  · rw [putO_out q] at h
    exact ⟨c', h, o⟩
theorem Rl.pushN {G : Addr → Prop} : ∀ {zs : List V} {ns : List OD}, Rl K B σ H' F' env → zs.length = ns.length → (∀ (k : Nat) (o : OD), ns[k]? = some o → ∃ p, zs[k]? = some (.ref p) ∧ F' p = none ∧ OwnAt K H' F' p o ∧ G p) →
    (∀ (k l : Nat) (p : Addr), zs[k]? = some (.ref p) → zs[l]? = some (.ref p) → k = l) → (∀ p, G p → B.H0 p = none ∨ B.own p) → (∀ p, G p → ∀ (j : Nat) (c' : Cl), env[j]? = some (some c') → c'.own = true → σ[j]? ≠ some (some (.ref p))) →
    Rl K B (σ ++ (zs.map some).reverse) H' F' (env ++ ((ns.map Cl.ow).map some).reverse)
  | [], [], R, _, _, _, _, _ => by simpa using R
  | [], _ :: _, _, h, _, _, _, _ => by cases h
  | _ :: _, [], _, h, _, _, _, _ => by cases h
  | z :: zs, o :: ns, R, hl, hz, ne, g1, g2 => by
    have R' := Rl.pushN (zs := zs) (ns := ns) R (by simpa using hl) (fun k o e => hz (k + 1) o (by simpa using e)) (fun k l p e1 e2 => by have := ne (k + 1) (l + 1) p (by simpa using e1) (by simpa using e2); omega) g1 g2
    obtain ⟨p, e, np, oa, gp⟩ := hz 0 o rfl
    cases e
    simp only [List.map_cons, List.reverse_cons, ← List.append_assoc]
    refine R'.pushC (c := .ow o) ⟨p, rfl, np, oa⟩ (fun o z => by cases z) fun o' p' e1 e2 => ?_
    cases e2
    refine ⟨g1 p gp, fun j c' h o' e => ?_⟩
    have hel := R.len
    by_cases hj : j < σ.length
    · rw [List.getElem?_append_left (by omega)] at h
      rw [List.getElem?_append_left hj] at e
      exact g2 p gp j c' h o' e
    · rw [List.getElem?_append_right (by omega)] at e
      have hm : some (V.ref p) ∈ (zs.map some).reverse := List.mem_of_getElem? e
      rw [List.mem_reverse] at hm
      obtain ⟨x, hx, ex⟩ := List.mem_map.mp hm
      cases ex
      obtain ⟨k, hk⟩ := List.mem_iff_getElem?.mp hx
      have := ne 0 (k + 1) p rfl (by simpa using hk)
      omega
theorem after_news {as : List Arg} {vs : List V} {cs : List Cl} {c : Cl} {os ns : List OD} {v : V} {zs : List V} (R : Rl K B σ H F env) (l : AA K σ H F env as vs cs) (nd : (lentOf as).Nodup) (q : PostOk K H F vs cs c os v H' F') (nw : News K H H' F' v c zs ns) :
    Rl K B (σ ++ ((v :: zs).map some).reverse) H' F' (putO as os env ++ ((c :: ns.map Cl.ow).map some).reverse) := by
  have R1 := q.after R l nd
  have R2 := R1.pop R.nio
  have old : ∀ p, strip H p = none → ∀ (j : Nat) (c' : Cl), (putO as os env)[j]? = some (some c') → c'.own = true → σ[j]? ≠ some (some (.ref p)) := fun p hp j c' h o e => by
    obtain ⟨c0, h0, o0⟩ := own_old l h o
    obtain ⟨p', e', _, u, _, hs, _⟩ := R.atS h0 o0
    rw [e] at e'
    cases e'
    rw [hp] at hs
    cases hs
  have R3 := Rl.pushN (G := fun p => strip H p = none) R2 nw.len nw.at_ nw.ne (fun p hp => R.freeS hp) old
  have rc := R1.top R2.len
  simp only [List.map_cons, List.reverse_cons, ← List.append_assoc]
  refine R3.pushC rc q.nio fun o p e hv => ?_
  have hp := q.own o p e hv
  refine ⟨R.freeS hp, fun j c' h o' ej => ?_⟩
  have hel := R2.len
  by_cases hj : j < σ.length
  · rw [List.getElem?_append_left (by omega)] at h
    rw [List.getElem?_append_left hj] at ej
    exact old p hp j c' h o' ej
  · rw [List.getElem?_append_right (by omega)] at ej
    have hm : some (V.ref p) ∈ (zs.map some).reverse := List.mem_of_getElem? ej
    rw [List.mem_reverse] at hm
    obtain ⟨x, hx, ex⟩ := List.mem_map.mp hm
    cases ex
    obtain ⟨k, hk⟩ := List.mem_iff_getElem?.mp hx
    exact nw.nv o k p e hv hk
end
/-! ### readings with new things -/
abbrev WN := En → (Cl → List OD → En → Prop) → XP → Prop
def semN (X : Cx) (W : WX) (f : WN) (σ : L2.St) (H : Hp) (Q : V → List V → Hp → Prop) : Prop := ∃ (B : Bd) (F : Hp) (env : En) (P : Cl → List OD → En → Prop) (Y : XP), Rl X.K B σ H F env ∧ f env P Y ∧
  (∀ c ns env' v zs H' F', P c ns env' → zs.length = ns.length → Rl X.K B (σ ++ ((v :: zs).map some).reverse) H' F' (env' ++ ((c :: ns.map Cl.ow).map some).reverse) → Same F F' → Q v zs H') ∧ XOk X.K X.mg B W Y
/-- x = .., what belongs to it at js -/
@[simp ↓] def sSetN (i : Nat) (js : List Nat) (f : WN) : WS := fun env S => f env (fun c ns env' => ns.length = js.length ∧ putAll (i :: js) (c :: ns.map Cl.ow) env' S.nx) S.xc
section
variable {X : Cx} {W : WX} {B : Bd} {σ : L2.St} {H F H' F' : Hp} {env : En} {Y : XP}
theorem set_gst {js : List Nat} : ∀ {zs : List V} {σ : L2.St}, (∀ j ∈ js, ∀ x, X.N[j]? = some x → ¬ Vis X.env.scope x) → Gst X σ (setAll js zs σ) := by
  induction js with
  | nil => intro zs σ _; exact ⟨by cases zs <;> rfl, fun i x _ _ => by cases zs <;> rfl⟩
  | cons j js ih =>
    intro zs σ hg
    cases zs with
    | nil => exact ⟨rfl, fun i x _ _ => rfl⟩
    | cons z zs =>
      have g := ih (zs := zs) (σ := σ.set j (some z)) fun j hj => hg j (List.mem_cons_of_mem _ hj)
      refine ⟨g.1.trans (by rw [List.length_set]), fun i x hN hv => (g.2 i x hN hv).trans ?_⟩
      rw [List.getElem?_set_ne fun e => hg j List.mem_cons_self x (by rw [e]; exact hN) hv]
theorem setN_imp {i : Nat} {js : List Nat} {f : WN} {te : TE} (ht : ∀ σ H Q (Q' : VK), semN X W f σ H Q → (∀ v zs H', Q v zs H' → Q' v H') → te σ H Q') (hg : ∀ j ∈ js, ∀ x, X.N[j]? = some x → ¬ Vis X.env.scope x) :
    ∀ D σ H, semS X W (sSetN i js f) D σ H → tAsg te (gName i) { D with nx := fun σ' H' => ∃ σ'', Gst X σ' σ'' ∧ D.nx σ'' H' } σ H := fun D σ H ⟨B, F, env, S, R, h, ok, x⟩ =>
  ht σ H (fun v zs H' => D.nx (setAll (i :: js) (v :: zs) σ) H') _ ⟨B, F, env, _, S.xc, R, h, fun c ns env' v zs H' F' ⟨nl, p⟩ zl R' s => by
    have hle : env'.length = σ.length := by
      have := R'.len
      simp at this
      omega
    exact putAll_ok (is := i :: js) (cs := c :: ns.map Cl.ow) (vs := v :: zs) (Q := fun σ' H' => D.nx σ' H') R' R.ioLt hle (by simp; omega) p fun env'' p' R'' => ok.nx _ _ _ _ p' R'' s, x⟩ fun v zs H' q => ⟨setAll js zs (σ.set i (some v)), set_gst hg, q⟩
theorem s_setN {i : Nat} {js : List Nat} {f : WN} {te : TE} {x : Str} {e : Expr} {p1 pos : Pos} (hN : X.N.Nodup) (hi : X.N[i]? = some x) (hx : Loc X.env.scope x) (he : PE X e te) (ht : ∀ σ H Q (Q' : VK), semN X W f σ H Q → (∀ v zs H', Q v zs H' → Q' v H') → te σ H Q') (hg : ∀ j ∈ js, ∀ x, X.N[j]? = some x → ¬ Vis X.env.scope x)
    (hs : swapsWith e (some (.Name x p1)) pos.line X.env = pure false := by rfl) (hf : X.fn x = true ∨ X.env.scope.names.lookup x = some .local := by first | exact .inl rfl | exact .inr rfl) : PS X (.Assign [.Name x p1] e pos) (semS X W (sSetN i js f)) :=
  psOf (ps_ghost (ps_set hN hi hx he hs hf)) (setN_imp ht hg)
/-! ### a call that gives a new object -/
def ioN : List Cl → Nat
  | [] => 0
  | .io _ :: cs => ioN cs + 1
  | _ :: cs => ioN cs
theorem outs_len {vs : List V} {cs : List Cl} {os : List OD} (h : OutsAt X.K H F vs cs os) : os.length = ioN cs := by
  induction cs generalizing vs os with
  | nil =>
    cases vs with
    | nil =>
      cases os with
      | nil => rfl
      | cons o os => exact h.elim
    | cons v vs => exact h.elim
  | cons c cs ih =>
    cases vs with
    | nil => exact h.elim
    | cons v vs =>
      cases c with
      | io o =>
        cases os with
        | nil => exact h.elim
        | cons o os => exact congrArg (· + 1) (ih h.2)
      | fz d => exact ih h
      | ow o => exact ih h
      | sc ns => exact ih h
      | xn a => exact ih h
      | ky k => exact ih h
      | fo _ _ => exact ih h
      | fl _ _ => exact ih h
theorem AA.ioN : ∀ {as : List Arg} {vs : List V} {cs : List Cl}, AA X.K σ H F env as vs cs → ioN cs = (lentOf as).length
  | [], _, _, h => by obtain ⟨rfl, rfl⟩ := h; rfl
  | .v _ :: r, _, _, h => by
    obtain ⟨v, vs, c, cs, rfl, rfl, n, _, h⟩ := h
    have z := AA.ioN h
    cases c with
    | io o => cases n
    | _ => exact z
  | .r _ :: r, _, _, h => by
    obtain ⟨v, vs, o, cs, rfl, rfl, _, _, h⟩ := h
    exact congrArg (· + 1) (AA.ioN h)
/-- what such a call is wanted to come to -/
@[simp ↓] def cutN (as : List Arg) (env2 : En) (P : Cl → List OD → En → Prop) (c : Cl) (os : List OD) : Prop := P c (os.drop (lentOf as).length) (putO as (os.take (lentOf as).length) env2)
@[simp ↓] def nCall (C : Ct) (as : List Arg) : WN := fun env P Y => evA as env (fun cs env2 => C cs (cutN as env2 P) Y) Y
@[simp ↓] def nMeth (c m : Str) (i : Nat) (C : Ct) (as : List Arg) : WN := fun env P Y => (∃ fs, obAt env i c fs ∧ fs.lookup m = none) ∧ nCall C (.r i :: as) env P Y
theorem nCall_imp {C : Ct} {as : List Arg} {gl : List Nat} {n g r : Nat} (hn : as.length = n) (hg : gl.length = g) (nd : (lentOf (as ++ gl.map Arg.r)).Nodup) : ∀ σ H Q (Q' : VK), semN X W (nCall C (as ++ gl.map Arg.r)) σ H Q → (∀ v zs H', Q v zs H' → Q' v H') → tCallS (spN X.K X.mg n g r C) (L2.WE W) (tArgs X W as) σ H Q' := fun σ H Q Q' ⟨B, F, env, P, Y, R, h, ok, x⟩ hq => by
  have key : tArgs X W (as ++ gl.map Arg.r) σ H fun vs H' => ∃ (F : Hp) (cs : List Cl) (P : Cl → List OD → Prop) (Y : XP), Rl X.K (bdOf H' F vs cs) (vs.map some) H' F (cs.map some) ∧ C cs P Y ∧
      (∀ c os ns zs v H2 F2, P c (os ++ ns) → PostOk X.K H' F vs cs c os v H2 F2 → News X.K H' H2 F2 v c zs ns → Q' v H2) ∧ (∀ x cls d H2, Y x → ExnIs X.mg H2 x cls d → Kept X.K (bdOf H' F vs cs) H2 → L2.WE W σ cls d H2) :=
    evA_ok R h x fun cs env' vs H' F' hc R' s l => ⟨F', cs, _, Y, l.entry R' nd, hc, fun c os ns zs v H2 F2 p q nw => by
      have hl : os.length = (lentOf (as ++ gl.map Arg.r)).length := (outs_len q.outs).trans l.ioN
      unfold cutN at p
      rw [← hl, List.drop_left, List.take_left] at p
      exact hq _ _ _ (ok _ _ _ _ _ _ _ p nw.len (after_news R' l nd q nw) (s.trans q.s1)), fun e cls d H2 y i k => x e σ H2 cls d y i (kept_call R' l k)⟩
  refine tArgs_mono (tArgs_app key) fun vs H1 ⟨hl, q⟩ => ?_
  obtain ⟨zs, zl, F', cs, P', Y', R', hc, k1, k2⟩ := tArgs_r q
  exact ⟨zs, F', cs, P', Y', hl.trans hn, zl.trans hg, R', hc, fun c os ns zs' v H2 F2 _ p po nw => k1 c os ns zs' v H2 F2 p po nw, k2⟩
theorem nMeth_imp {c m : Str} {C : Addr} {i : Nat} {Ct : Ct} {as : List Arg} {gl : List Nat} {n g r : Nat} (hC : clsN X.K c C) (hn : as.length + 1 = n) (hg : gl.length = g) (nd : (lentOf (.r i :: (as ++ gl.map Arg.r))).Nodup) : ∀ σ H Q (Q' : VK), semN X W (nMeth c m i Ct (as ++ gl.map Arg.r)) σ H Q → (∀ v zs H', Q v zs H' → Q' v H') → tMethG C m (spN X.K X.mg n g r Ct) (L2.WE W) (tVar i) (tArgs X W as) σ H Q' := fun σ H Q Q' ⟨B, F, env, P, Y, R, ⟨⟨fs, ho, hl⟩, h⟩, ok, x⟩ hq => by
  obtain ⟨p, ep, np, C', dx, vs, hc', h1, _, fa⟩ := obAt.at R ho
  have : C' = C := by
    unfold clsN at hC hc'
    rw [hC] at hc'
    cases hc'
    rfl
  subst this
  have z := nCall_imp (C := Ct) (as := .r i :: as) (gl := gl) (n := n) (g := g) (r := r) (by simpa using hn) hg (by simpa using nd) σ H Q Q' ⟨B, F, env, P, Y, R, h, ok, x⟩ hq
  obtain ⟨v, ev, z⟩ := z
  rw [ep] at ev
  cases ev
  exact ⟨_, ep, p, dx, vs, rfl, h1, fa.look hl, z⟩
/-! ### a new object -/
theorem AA.lift {T : List (Option V)} {C' : List (Option Cl)} (sm : Same F F') : ∀ {as : List Arg} {vs : List V} {cs : List Cl}, AA X.K σ H F env as vs cs → AA X.K (σ ++ T) H' F' (env ++ C') as vs cs
  | [], _, _, h => h
  | .v _ :: r, _, _, h => by
    obtain ⟨v, vs, c, cs, rfl, rfl, n, q, h⟩ := h
    exact ⟨v, vs, c, cs, rfl, rfl, n, frz_keep n q sm, AA.lift sm h⟩
  | .r _ :: r, _, _, h => by
    obtain ⟨v, vs, o, cs, rfl, rfl, e, lo, h⟩ := h
    exact ⟨v, vs, o, cs, rfl, rfl, get_pre e, lo.imp get_pre get_pre, AA.lift sm h⟩
theorem putO_pre {c : Option Cl} : ∀ {as : List Arg} {os : List OD} {env : En}, (∀ i ∈ lentOf as, i < env.length) → putO as os (env ++ [c]) = putO as os env ++ [c]
  | [], _, _, _ => rfl
  | .v _ :: r, os, env, h => putO_pre (as := r) h
  | .r i :: r, [], env, h => rfl
  | .r i :: r, o :: os, env, h => by
    have hi : i < env.length := h i List.mem_cons_self
    have e : setO (env ++ [c]) i o = setO env i o ++ [c] := by
      unfold setO
      rw [List.getElem?_append_left hi, List.set_append_left _ _ hi]
    show putO r os (setO (env ++ [c]) i o) = putO r os (setO env i o) ++ [c]
    rw [e]
    exact putO_pre fun j hj => by rw [setO_len]; exact h j (List.mem_cons_of_mem _ hj)
theorem AA.lt : ∀ {as : List Arg} {vs : List V} {cs : List Cl}, AA X.K σ H F env as vs cs → ∀ i ∈ lentOf as, i < env.length
  | [], _, _, _, i, hi => by cases hi
  | .v _ :: r, _, _, h, i, hi => by
    obtain ⟨v, vs, c, cs, rfl, rfl, _, _, h⟩ := h
    exact AA.lt h i hi
  | .r _ :: r, _, _, h, i, hi => by
    obtain ⟨v, vs, o, cs, rfl, rfl, _, lo, h⟩ := h
    rcases List.mem_cons.mp hi with rfl | hi
    · rcases lo with lo | lo <;> exact (List.getElem?_eq_some_iff.mp lo).1
    · exact AA.lt h i hi
@[simp ↓] def sMake (c : Str) (i : Nat) (js : List Nat) (C : Ct) (as : List Arg) : WS := fun env S => evA as env (fun cs env2 => C (.io (.ob c []) :: cs) (fun r os => ∃ o1 rest, os = o1 :: rest ∧ r = .fz .none ∧ (rest.drop (lentOf as).length).length = js.length ∧
  putAll (js ++ [i]) ((rest.drop (lentOf as).length).map Cl.ow ++ [.ow o1]) (putO as (rest.take (lentOf as).length) env2) S.nx) S.xc) S.xc
def tMakeG (C : Addr) (sp : Sp) (E : L2.St → XK) (t : TA) : TE := fun σ H Q => t σ H fun vs H1 => ∀ x dx, H1 x = none → H1 dx = none → dx ≠ x → sp (.ref x :: vs) (upd (upd H1 dx (.own x)) x (.ins C dx [])) (fun v H2 => v = .non ∧ Q (.ref x) H2) (E σ)
theorem setAll_gst {js : List Nat} {zs : List V} {i : Nat} {v : V} (hl : zs.length = js.length) (hg : ∀ j ∈ js, ∀ x, X.N[j]? = some x → ¬ Vis X.env.scope x) (hi : ∀ x, X.N[i]? = some x → Vis X.env.scope x) (hiN : i < X.N.length) : Gst X (σ.set i (some v)) (setAll (js ++ [i]) (zs ++ [v]) σ) := by
  have e : setAll (js ++ [i]) (zs ++ [v]) σ = (setAll js zs σ).set i (some v) := by
    clear hg
    induction js generalizing zs σ with
    | nil =>
      cases zs with
      | nil => rfl
      | cons => cases hl
    | cons j js ih =>
      cases zs with
      | nil => cases hl
      | cons z zs => exact ih (by simpa using hl)
  have g := set_gst (X := X) (zs := zs) (σ := σ) hg
  rw [e]
  refine ⟨by rw [List.length_set, List.length_set, g.1], fun k x hN hv => ?_⟩
  by_cases q : i = k
  · subst q
    by_cases hk : i < σ.length
    · rw [List.getElem?_set_self (by rw [g.1]; exact hk), List.getElem?_set_self hk]
    · rw [List.getElem?_eq_none (by rw [List.length_set, g.1]; omega), List.getElem?_eq_none (by rw [List.length_set]; omega)]
  · rw [List.getElem?_set_ne q, List.getElem?_set_ne q]
    exact g.2 k x hN hv
theorem make_imp {c : Str} {C : Addr} {i : Nat} {js : List Nat} {Ct : Ct} {as : List Arg} {n : Nat} (hC : clsN X.K c C) (hn : as.length + 1 = n) (nd : (lentOf as).Nodup) (hg : ∀ j ∈ js, ∀ x, X.N[j]? = some x → ¬ Vis X.env.scope x) (hi : ∀ x, X.N[i]? = some x → Vis X.env.scope x) (hiN : i < X.N.length) :
    ∀ D σ H, semS X W (sMake c i js Ct as) D σ H → tAsg (tMakeG C (spN X.K X.mg n 0 js.length Ct) (L2.WE W) (tArgs X W as)) (gName i) { D with nx := fun σ' H' => ∃ σ'', Gst X σ' σ'' ∧ D.nx σ'' H' } σ H := fun D σ H ⟨B, F, env, S, R, h, ok, xo⟩ =>
  evA_ok R h xo fun cs env' vs H1 F1 hc R1 s l x dx hx hdx hne => by
    have R2 := R1.grow (p := dx) (u := .own x) hdx
    have hx2 : (upd H1 dx (.own x)) x = none := by rw [upd_ne (Ne.symm hne)]; exact hx
    have s2 : Same F1 (upd F1 dx (.own x)) := same_new (R1.nF hdx)
    have R3 := R2.fresh (p := x) (u := .ins C dx []) (o := .ob c []) hx2 ⟨C, dx, [], hC, upd_same, upd_same, .nil⟩
    have l2 : AA X.K (σ ++ [some (.ref x)]) (upd (upd H1 dx (.own x)) x (.ins C dx [])) (upd F1 dx (.own x)) (env' ++ [some (.ow (.ob c []))]) as vs cs := l.lift s2
    have l3 : AA X.K (σ ++ [some (.ref x)]) (upd (upd H1 dx (.own x)) x (.ins C dx [])) (upd F1 dx (.own x)) (env' ++ [some (.ow (.ob c []))]) (.r σ.length :: as) (.ref x :: vs) (.io (.ob c []) :: cs) :=
      ⟨.ref x, vs, .ob c [], cs, rfl, rfl, get_last, .inl (by rw [← R1.len]; exact get_last), l2⟩
    have nd3 : (lentOf (.r σ.length :: as)).Nodup := List.nodup_cons.mpr ⟨fun z => by have := l.lt _ z; have := R1.len; omega, nd⟩
    refine ⟨[], upd F1 dx (.own x), .io (.ob c []) :: cs, _, S.xc, by simp [l.len.1, hn], rfl, by rw [List.append_nil]; exact l3.entry R3 nd3, hc, fun c' os ns zs v H' F' nl p q nw => ?_, fun e cls d H' y k kk => ?_⟩
    · rw [List.append_nil] at q
      have ol : os.length = (lentOf as).length + 1 := (outs_len q.outs).trans l3.ioN
      obtain ⟨o1, rest, e1, rfl, kl, p⟩ := p
      cases os with
      | nil => simp at ol
      | cons o os =>
        have e1 : o :: (os ++ ns) = o1 :: rest := e1
        injection e1 with e1 e2
        subst e1 e2
        have ol' : os.length = (lentOf as).length := by simpa using ol
        rw [← ol', List.drop_left, List.take_left] at p
        have hv : v = .non := by
          have := q.res
          cases this
          rfl
        subst hv
        refine ⟨rfl, ?_⟩
        have RA := after_news R3 l3 nd3 q nw
        simp only [List.map_cons, List.reverse_cons, ← List.append_assoc] at RA
        have hel : env'.length = σ.length := R1.len
        have RB := RA.pop fun p hp => by
          obtain ⟨e, _⟩ := R3.ioc _ p hp
          have := (List.getElem?_eq_some_iff.mp e).1
          simp at this
        have ep : putO (.r σ.length :: as) (o :: os) (env' ++ [some (.ow (.ob c []))]) = putO as os env' ++ [some (.ow o)] := by
          show putO as os (setO (env' ++ [some (.ow (.ob c []))]) σ.length o) = _
          have : setO (env' ++ [some (.ow (.ob c []))]) σ.length o = env' ++ [some (.ow o)] := by
            unfold setO
            rw [← hel, get_last, List.set_append_right _ _ (Nat.le_refl _), Nat.sub_self]
            rfl
          rw [this, putO_pre l.lt]
        rw [ep] at RB
        have RC : Rl X.K B (σ ++ ((zs ++ [V.ref x]).map some).reverse) H' F' (putO as os env' ++ ((ns.map Cl.ow ++ [Cl.ow o]).map some).reverse) := by
          simpa using RB
        exact putAll_ok (is := js ++ [i]) (cs := ns.map Cl.ow ++ [.ow o]) (vs := zs ++ [.ref x]) (Q := fun σ' H' => ∃ σ'', Gst X (σ.set i (some (.ref x))) σ'' ∧ D.nx σ'' H') RC R.ioLt (by rw [putO_len]; exact hel) (by simp; rw [nw.len]; omega) p fun env'' p' R'' =>
          ⟨_, setAll_gst (by rw [nw.len]; exact nl) hg hi hiN, ok.nx _ _ _ _ p' R'' ((s.trans s2).trans q.s1)⟩
    · rw [List.append_nil] at kk
      exact xo e σ H' cls d y k (kept_call R3 l3 kk)
/-! ### the rules -/
theorem cls_one {c : Str} {C C' : Addr} (h : clsN X.K c C) (h' : clsN X.K c C') : C' = C := by
  unfold clsN at h h'
  rw [h] at h'
  cases h'
  rfl
section
variable {k k' n g r : Nat} {fa C : Addr} {fd : FuncData} {ps : List Str} {sp : Sp} {c x m : Str} {es : List Expr} {e o : Expr} {p1 pos apos : Pos} {E : L2.St → XK} {t : TA} {ta : TE} {Cc : Ct} {as : List Arg} {gl js : List Nat} {i : Nat}
theorem run_G {s : Shared} {Q : VK} {us : List Value} {vs : List V} {A : Around} (FO : FnG X.prog X.w X.K X.mg X.base k fa fd ps sp) (gd : A.guards = some []) (hr : Room k A) (hbn : Binds X.K fd ps []) (e0 : Env0 X.prog X.w X.K X.mg X.base A X.stack s H) (kin : X.K.In s.heap) (r : Vals vs us) {E : XK} (q : sp vs H Q E) :
    codeAny (model X.prog X.w) A (.call (.ref fa) ⟨us, []⟩) (CR (L2.CX X.prog X.w) X.stack X.prog X.w H s Q E) s := by
  have n1 : us.length = ps.length := r.length.symm.trans (FO.len _ _ _ _ q)
  have b := hbn s us kin (by simpa using n1)
  rw [List.append_nil] at b
  exact FO.run A X.stack s H ⟨us, []⟩ us vs Q E gd hr e0 b r q
theorem pe_methG {pl : Sem Bool} (hO : PE X o ta) (cl : Cls X.K C) (hm : Meth X.K C m fa) (FO : FnG X.prog X.w X.K X.mg X.base k fa fd ps sp) (gd : X.A.guards = some []) (hr : Room k X.A) (hbn : Binds X.K fd ps []) (hx : ∀ σ, PassesAt (L2.CX X.prog X.w) X σ (E σ)) (hA : PA X (e :: es) t)
    (s1 : starEach (e :: es) X.env = (false, eval e X.env) :: starEach es X.env := by rfl) (s2 : (backTo pos (starEach es X.env)).any (·.1) = false := by rfl)
    (s3 : eval (.Call (.Attribute o m apos) (e :: es) [] pos) X.env = (do
      let recv ← eval o X.env
      standAt apos.atName
      let (g, hd) ← holding [recv] (getMethod recv m pl)
      callWith pos g hd (backTo pos (starEach (e :: es) X.env)) (backToKw pos (keywordEach [] X.env))) := by rfl) : PE X (.Call (.Attribute o m apos) (e :: es) [] pos) (tMethG C m sp E ta t) := by
  constructor
  intro pins s σ H Q I h
  apply PySem.W.methodCall_KW (pl := pl) _ s3
  refine thn (hO.run pins s σ H _ I h) ?_
  rintro u s1' ⟨y, H1, I1, ry, a, dx, fs, rfl, ea, ln, q⟩
  cases ry
  apply getmeth_ok I1 ea cl hm ln
  apply PySem.W.callWith_K (first := [Value.ref a]) (h₀ := X.base) I.ok.mod.kin hm.kp _ s1 s2
  refine thn (hA.run pos pins s1' σ H1 _ I1 q) ?_
  rintro us s2' ⟨vs, H2, I2, rv, q2⟩
  refine ⟨I2.kIn, wpAny_call (codeAny_mono (run_G FO gd hr hbn I2.env0 I2.kIn (us := .ref a :: us) (vs := .ref a :: vs) (.cons rfl rv) q2) ?_)⟩
  intro res s' z
  match res, z with
  | .error u, z => exact hx σ pins H2 s2' u s' I2 z
  | .ok (.ret u), z => exact I2.after z
theorem pe_methG0 {pl : Sem Bool} (hO : PE X o ta) (cl : Cls X.K C) (hm : Meth X.K C m fa) (FO : FnG X.prog X.w X.K X.mg X.base k fa fd ps sp) (gd : X.A.guards = some []) (hr : Room k X.A) (hbn : Binds X.K fd ps []) (hx : ∀ σ, PassesAt (L2.CX X.prog X.w) X σ (E σ))
    (s3 : eval (.Call (.Attribute o m apos) [] [] pos) X.env = (do
      let recv ← eval o X.env
      standAt apos.atName
      let (g, hd) ← holding [recv] (getMethod recv m pl)
      callWith pos g hd (backTo pos (starEach [] X.env)) (backToKw pos (keywordEach [] X.env))) := by rfl) : PE X (.Call (.Attribute o m apos) [] [] pos) (tMethG C m sp E ta tNil) := by
  constructor
  intro pins s σ H Q I h
  apply PySem.W.methodCall_KW (pl := pl) _ s3
  refine thn (hO.run pins s σ H _ I h) ?_
  rintro u s1' ⟨y, H1, I1, ry, a, dx, fs, rfl, ea, ln, q⟩
  cases ry
  apply getmeth_ok I1 ea cl hm ln
  refine PySem.W.callWith_K0 (first := [Value.ref a]) I1.kIn hm.kp (wpAny_call (codeAny_mono (run_G FO gd hr hbn I1.env0 I1.kIn (us := [.ref a]) (vs := [.ref a]) (.cons rfl .nil) q) ?_))
  intro res s' z
  match res, z with
  | .error u, z => exact hx σ pins H1 s1' u s' I1 z
  | .ok (.ret u), z => exact I1.after z
end
end
end Sw

/-! fields of an instance: read, written; what is appended to one, popped from one; a class called -/
namespace Sw
open PySem PySem.Spec PyProof.Rows L2
section
variable {X : Cx} {W : WX} {B : Bd} {σ : L2.St} {H F H' F' : Hp} {env : En} {Y : XP}
/-- o.x, data that stays, o at slot i -/
@[simp ↓] def eFld (c : Str) (i : Nat) (x : Str) : WE := fun env P _ => ∃ cl fs d, env[i]? = some (some cl) ∧ cl.ob? = some (c, fs) ∧ fs.lookup x = some (.inl d) ∧ P (.fz d) env
theorem fld_imp {c x : Str} {i : Nat} : ∀ σ H Q, semE X W (eFld c i x) σ H Q → tFldN X.K c i x σ H Q := fun σ H Q ⟨B, F, env, P, Y, R, ⟨cl, fs, d, e1, e2, e3, q⟩, ok, _⟩ => by
  obtain ⟨v, ev, r⟩ := R.cell i cl e1
  obtain ⟨p, rfl, C, dx, vs, hc, h1, _, fa⟩ := r.ob R.sub e2
  obtain ⟨w, hw, rw_⟩ := fa.fzL e3
  exact ⟨p, C, dx, vs, w, ev, hc, h1, hw, ok _ _ _ _ _ q (R.push rw_) (Same.refl F)⟩
/-! ### fields written -/
def putS (f : Str) (y : D ⊕ Addr) : List (Str × (D ⊕ Addr)) → List (Str × (D ⊕ Addr))
  | [] => [(f, y)]
  | (g, z) :: r => if g = f then (g, y) :: r else (g, z) :: putS f y r
theorem FsAt.len {K : PySem.W.Frag} : ∀ {vs : List (Str × V)} {fs : List (Str × (D ⊕ Addr))}, FsAt K F vs fs → vs.length = fs.length
  | _, _, .nil => rfl
  | _, _, .fz _ t => congrArg (· + 1) (FsAt.len t)
  | _, _, .ad t => congrArg (· + 1) (FsAt.len t)
theorem FsAt.putD {K : PySem.W.Frag} {x : Str} {v : V} {d : D} (r : Rep K F v d) : ∀ {vs : List (Str × V)} {fs : List (Str × (D ⊕ Addr))}, FsAt K F vs fs → FsAt K F (putF x v vs) (putS x (.inl d) fs)
  | _, _, .nil => .fz r .nil
  | _, _, .fz (x := y) r0 t => by
    unfold putF putS
    split
    · exact .fz r t
    · exact .fz r0 (FsAt.putD r t)
  | _, _, .ad (x := y) t => by
    unfold putF putS
    split
    · exact .fz r t
    · exact .ad (FsAt.putD r t)
theorem FsAt.putA {K : PySem.W.Frag} {x : Str} {a : Addr} : ∀ {vs : List (Str × V)} {fs : List (Str × (D ⊕ Addr))}, FsAt K F vs fs → FsAt K F (putF x (.ref a) vs) (putS x (.inr a) fs)
  | _, _, .nil => .ad .nil
  | _, _, .fz (x := y) r0 t => by
    unfold putF putS
    split
    · exact .ad t
    · exact .fz r0 (FsAt.putA t)
  | _, _, .ad (x := y) t => by
    unfold putF putS
    split
    · exact .ad t
    · exact .ad (FsAt.putA t)
theorem upd_id {H : Hp} {p : Addr} {u : HO} (h : H p = some u) : upd H p u = H := by
  funext q
  by_cases e : q = p
  · subst e
    rw [upd_same, h]
  · rw [upd_ne e]
/-- the top told otherwise -/
theorem Rl.recell {K : PySem.W.Frag} {p : Addr} {o o' : OD} (R : Rl K B (σ ++ [some (.ref p)]) H F (env ++ [some (.ow o)])) (n : F p = none) (w : OwnAt K H F p o') : Rl K B (σ ++ [some (.ref p)]) H F (env ++ [some (.ow o')]) := by
  obtain ⟨u, hu⟩ := w.there
  have hl := R.len1
  have e : (σ ++ [some (V.ref p)])[env.length]? = some (some (.ref p)) := by rw [hl]; exact get_last
  have l : lend (env ++ [some (.ow o)]) env.length o := .inl get_last
  have R2 := R.mutate (u := u) l e n (by rw [upd_id hu]; exact w)
  rw [upd_id hu] at R2
  have es : setO (env ++ [some (.ow o)]) env.length o' = env ++ [some (.ow o')] := by
    unfold setO
    rw [get_last, List.set_append_right _ _ (Nat.le_refl _), Nat.sub_self]
    rfl
  rw [es] at R2
  exact R2
theorem lend_pre {i : Nat} {o : OD} {c : Option Cl} (h : lend env i o) : lend (env ++ [c]) i o := h.imp get_pre get_pre
theorem setO_pre {i : Nat} {o : OD} {c : Option Cl} (h : i < env.length) : setO (env ++ [c]) i o = setO env i o ++ [c] := by
  unfold setO
  rw [List.getElem?_append_left h, List.set_append_left _ _ h]
theorem lend.lt {i : Nat} {o : OD} (h : lend env i o) : i < env.length := by
  rcases h with h | h <;> exact (List.getElem?_eq_some_iff.mp h).1
/-- o.x = data, o at slot i -/
@[simp ↓] def sFldD (c : Str) (i : Nat) (x : Str) (f : WE) : WS := fun env S => f env (fun cl env' => cl.isSc = false ∧ ∃ fs, lend env' i (.ob c fs) ∧ fs.length < 1000 ∧ S.nx (setO env' i (.ob c (putS x (.inl cl.toD) fs)))) S.xc
/-- a thing of one's own at a place -/
def OD.at_ (a : Addr) : OD → Option OD
  | .lst xs => some (.lsa a xs)
  | .dct kvs => some (.dca a kvs)
  | .kd m => some (.kda a m)
  | _ => none
@[simp] theorem at_lst {a : Addr} {xs : List D} : OD.at_ a (.lst xs) = some (.lsa a xs) := rfl
@[simp] theorem at_kd {a : Addr} {m : List (List Int × D)} : OD.at_ a (.kd m) = some (.kda a m) := rfl
@[simp] theorem at_dct {a : Addr} {kvs : List (D × D)} : OD.at_ a (.dct kvs) = some (.dca a kvs) := rfl
theorem OwnAt.at_ {K : PySem.W.Frag} {p : Addr} {o o' : OD} (w : OwnAt K H F p o) (h : o.at_ p = some o') : OwnAt K H F p o' := by
  cases o with
  | lst xs => cases h; exact ⟨rfl, w⟩
  | dct xs => cases h; exact ⟨rfl, w⟩
  | kd m => cases h; exact ⟨rfl, w⟩
  | _ => exact absurd h (by intro z; cases z)
/-- o.x = a thing of its own, from here on at slot j -/
@[simp ↓] def sFldO (c : Str) (i j : Nat) (x : Str) (f : WE) : WS := fun env S => f env (fun cl env' => ∃ o, cl = .ow o ∧ ∃ fs, lend env' i (.ob c fs) ∧ fs.length < 1000 ∧ canSet env' j ∧
  ∀ a, ∃ o', o.at_ a = some o' ∧ S.nx ((setO env' i (.ob c (putS x (.inr a) fs))).set j (some (.ow o')))) S.xc
theorem fldD_imp {c x : Str} {C : Addr} {i : Nat} {f : WE} (hC : clsN X.K c C) (cl : Cls X.K C) (na : NoAttr X.K C x) : ∀ D σ H, semS X W (sFldD c i x f) D σ H → sFld X.K (tVar i) (semE X W f) x D σ H := fun D σ H ⟨B, F, env, S, R, h, ok, xo⟩ =>
  ⟨B, F, env, _, S.xc, R, h, fun c1 env' v H' F' ⟨sc, fs, l, hl, q⟩ R' s => by
    obtain ⟨F2, s2, R2, r2⟩ := R'.freeze R.nio sc
    obtain ⟨p, ep, n, C', dx, vs, hc, h1, hdx, fa⟩ := l.cell R2
    have := cls_one hC hc
    subst this
    refine ⟨_, ep, p, C', dx, vs, rfl, h1, cl, na, by rw [fa.len]; exact hl, ?_⟩
    refine ok.nx _ _ _ _ q (R2.mutate l ep n ⟨C', dx, _, hc, upd_same, hdx, fa.putD r2⟩) (s.trans s2), xo⟩
theorem fldO_imp {c x : Str} {C : Addr} {i j : Nat} {f : WE} (hC : clsN X.K c C) (cl : Cls X.K C) (na : NoAttr X.K C x) (hg : ∀ y, X.N[j]? = some y → ¬ Vis X.env.scope y) :
    ∀ D σ H, semS X W (sFldO c i j x f) D σ H → sFld X.K (tVar i) (semE X W f) x { D with nx := fun σ' H' => ∃ σ'', Gst X σ' σ'' ∧ D.nx σ'' H' } σ H := fun D σ H ⟨B, F, env, S, R, h, ok, xo⟩ =>
  ⟨B, F, env, _, S.xc, R, h, fun c1 env' v H' F' ⟨o, e0, fs, l, hl, cs, q⟩ R' s => by
    subst e0
    have hlen : env'.length = σ.length := R'.len1
    have R0 := R'.pop R.nio
    obtain ⟨p, ep, n, C', dx, vs, hc, h1, hdx, fa⟩ := l.cell R0
    have := cls_one hC hc
    subst this
    obtain ⟨a, ea, na_, wa⟩ := R'.top hlen
    subst ea
    obtain ⟨o', ho', q⟩ := q a
    refine ⟨_, ep, p, C', dx, vs, rfl, h1, cl, na, by rw [fa.len]; exact hl, ?_⟩
    have l' : lend (env' ++ [some (.ow o)]) i (.ob c fs) := lend_pre l
    have ep' : (σ ++ [some (V.ref a)])[i]? = some (some (.ref p)) := get_pre ep
    have R1 := R'.mutate l' ep' n (u := .ins C' dx (putF x (.ref a) vs)) (o' := .ob c (putS x (.inr a) fs)) ⟨C', dx, _, hc, upd_same, hdx, fa.putA⟩
    rw [setO_pre l.lt] at R1
    obtain ⟨a', ea', na', wa'⟩ := R1.top (by rw [setO_len]; exact hlen)
    cases ea'
    have R2 := R1.recell na' (wa'.at_ ho')
    have cs2 : canSet (setO env' i (.ob c (putS x (.inr a) fs))) j := by
      refine ⟨by rw [setO_len]; exact cs.1, fun o2 z => ?_⟩
      by_cases e : j = i
      · subst e
        unfold setO at z
        rw [List.getElem?_set_self cs.1] at z
        rcases l with l | l
        · rw [l] at z; cases z
        · exact cs.2 _ l
      · rw [setO_ne (Ne.symm e)] at z
        exact cs.2 _ z
    have R3 := R2.setTop R.nio cs2
    exact ⟨σ.set j (some (.ref a)), ⟨by rw [List.length_set], fun k y hN hv => List.getElem?_set_ne fun e => hg y (by rw [e]; exact hN) hv⟩, ok.nx _ _ _ _ q R3 s⟩, xo⟩
/-! ### o.x.append(e), o.x.pop() -/
theorem lend.lsa {K : PySem.W.Frag} {i : Nat} {a : Addr} {xs : List D} (R : Rl K B σ H F env) (h : lend env i (.lsa a xs)) : ∃ vs, σ[i]? = some (some (.ref a)) ∧ F a = none ∧ H a = some (.lst vs) ∧ RepL K F vs xs := by
  obtain ⟨p, e, n, rfl, vs, h1, h2⟩ := h.cell R
  exact ⟨vs, e, n, h1, h2⟩
theorem Rl.mutLa {K : PySem.W.Frag} {i : Nat} {o : OD} {p : Addr} {ws : List V} {ys : List D} (R : Rl K B σ H F env) (l : lend env i o) (e : σ[i]? = some (some (.ref p))) (n : F p = none) (w : RepL K F ws ys) : Rl K B σ (upd H p (.lst ws)) F (setO env i (.lsa p ys)) :=
  R.mutate l e n (show OwnAt K (upd H p (.lst ws)) F p (.lsa p ys) from ⟨rfl, ws, upd_same, w⟩)
@[simp ↓] def eAppF (c : Str) (i j : Nat) (x : Str) (f : WE) : WE := fun env P Y => ∃ a, fldA env c i x a ∧ (∃ xs, lend env j (.lsa a xs)) ∧ f env (fun cl env' => cl.isSc = false ∧ ∃ xs, lend env' j (.lsa a xs) ∧ xs.length < sizeLine ∧ P (.fz .none) (setO env' j (.lsa a (xs ++ [cl.toD])))) Y
theorem appF_imp {c x : Str} {i j : Nat} {f : WE} : ∀ σ H Q, semE X W (eAppF c i j x f) σ H Q → tBM X.K "list" rAppend (tFldN X.K c i x) (tCons (semE X W f) tNil) σ H Q := fun σ H Q ⟨B, F, env, P, Y, R, ⟨a, hf, ⟨xs0, l0⟩, h⟩, ok, xo⟩ => by
  obtain ⟨vs, ev, n, h1, h2⟩ := l0.lsa R
  refine hf.run R ⟨.inl ⟨rfl, vs, SqL.of h1⟩, B, F, env, _, Y, R, h, fun c env' u H' F' ⟨sc, xs, l, z, q⟩ R' s => ?_, xo⟩
  obtain ⟨F2, s2, R2, r2⟩ := R'.freeze R.nio sc
  obtain ⟨vs', e', n', h1', h2'⟩ := l.lsa R2
  refine ⟨a, vs', u, rfl, rfl, h1', by rw [h2'.length]; exact z, ?_⟩
  exact ok _ _ _ _ _ q ((R2.mutLa l e' n' (h2'.snoc r2)).push .non) (s.trans s2)
@[simp ↓] def ePopF (c : Str) (i j : Nat) (x : Str) : WE := fun env P _ => ∃ a, fldA env c i x a ∧ ∃ xs d, lend env j (.lsa a xs) ∧ xs[xs.length - 1]? = some d ∧ P (.fz d) (setO env j (.lsa a xs.dropLast))
theorem popF_imp {c x : Str} {i j : Nat} : ∀ σ H Q, semE X W (ePopF c i j x) σ H Q → tBM0 X.K "list" rPop (tFldN X.K c i x) σ H Q := fun σ H Q ⟨B, F, env, P, Y, R, ⟨a, hf, xs, d, l, hd, q⟩, ok, xo⟩ => by
  obtain ⟨vs, ev, n, h1, h2⟩ := l.lsa R
  obtain ⟨u, hu, ru⟩ := h2.get hd
  refine hf.run R ⟨.inl ⟨rfl, vs, SqL.of h1⟩, a, vs, u, rfl, rfl, h1, by rw [h2.length]; exact hu, ?_⟩
  exact ok _ _ _ _ _ q ((R.mutLa l ev n h2.dropLast).push ru) (Same.refl F)
end
end Sw

/-! rules: fields, methods, a class called -/
namespace Sw
open PySem PySem.Spec PyProof.Rows L2
/-! names that a frame does not see -/
def nvB (sc : Scope) (y : Str) : Bool := match sc.names.lookup y with
  | some .local => false
  | some .cell => false
  | some .free => false
  | _ => true
theorem nvB_ok {sc : Scope} {y : Str} (h : nvB sc y = true) : ¬ Vis sc y := fun z => by
  unfold nvB at h
  rcases z with z | z | z <;> rw [z] at h <;> cases h
def nvAt (N : List Str) (sc : Scope) (j : Nat) : Bool := match N[j]? with
  | some y => nvB sc y
  | none => true
theorem nv_one {N : List Str} {sc : Scope} {j : Nat} (h : nvAt N sc j = true) : ∀ y, N[j]? = some y → ¬ Vis sc y := fun y e => by
  unfold nvAt at h
  rw [e] at h
  exact nvB_ok h
theorem nv_js {N : List Str} {sc : Scope} {js : List Nat} (h : (js.all fun j => nvAt N sc j) = true) : ∀ j ∈ js, ∀ y, N[j]? = some y → ¬ Vis sc y := fun j hj => nv_one (List.all_eq_true.mp h j hj)
theorem nv_rng {N : List Str} {sc : Scope} {n g : Nat} (h : ((List.range g).all fun k => nvAt N sc (n + k)) = true) : ∀ (i : Nat) (y : Str), n ≤ i → i < n + g → N[i]? = some y → ¬ Vis sc y := fun i y h1 h2 e => by
  have := List.all_eq_true.mp h (i - n) (List.mem_range.mpr (by omega))
  rw [show n + (i - n) = i by omega] at this
  exact nv_one this y e
theorem obAt_iff {env : En} {i : Nat} {c : Str} {fs : List (Str × (D ⊕ Addr))} : obAt env i c fs ↔ ∃ cl, env[i]? = some (some cl) ∧ cl.obL? = some (c, fs) := by
  unfold obAt lend
  constructor
  · rintro ((h | h) | ⟨a, h | h⟩) <;> exact ⟨_, h, rfl⟩
  · rintro ⟨cl, h, e⟩
    cases cl with
    | ow o =>
      cases o with
      | ob _ _ => cases e; exact .inl (.inl h)
      | oba a _ _ => cases e; exact .inr ⟨a, .inl h⟩
      | _ => cases e
    | io o =>
      cases o with
      | ob _ _ => cases e; exact .inl (.inr h)
      | oba a _ _ => cases e; exact .inr ⟨a, .inr h⟩
      | _ => cases e
    | _ => cases e
/-- no field of that name -/
def noF (fs : List (Str × (D ⊕ Addr))) (m : Str) : Prop := fs.lookup m = none
@[simp ↓] theorem eMeth_eq {c m : Str} {i : Nat} {C : Ct} {as : List Arg} {env : En} {P : EK} {Y : XP} : eMeth c m i C as env P Y = ((∃ cl fs, env[i]? = some (some cl) ∧ cl.obL? = some (c, fs) ∧ noF fs m) ∧ eCall C (.r i :: as) env P Y) := by
  unfold eMeth
  congr 1
  apply propext
  constructor
  · rintro ⟨fs, h, e⟩
    obtain ⟨cl, h1, h2⟩ := obAt_iff.mp h
    exact ⟨cl, fs, h1, h2, e⟩
  · rintro ⟨cl, fs, h1, h2, e⟩
    exact ⟨fs, obAt_iff.mpr ⟨cl, h1, h2⟩, e⟩
section
variable {X : Cx} {W : WX} {k k' n g r : Nat} {fa C : Addr} {fd : FuncData} {ps : List Str} {sp : Sp} {c x y m : Str} {es : List Expr} {e o ea eb value : Expr} {p1 p2 pos pos' apos : Pos} {t : TA} {ta : TE} {Ct : Ct} {as : List Arg} {gl js : List Nat} {i j : Nat} {f : WE}
theorem pe_fldN (hO : PE X o (tVar i)) (hC : clsN X.K c C) (cl : Cls X.K C) (na : NoAttr X.K C x) (hb : attributeBase o x X.env (eval o X.env) = eval o X.env := by rfl) : PE X (.Attribute o x pos) (tO X W (.f c i j x)) :=
  peOf (pe_fld hO hb) fun σ H Q ⟨p, C', dx, vs, v, e1, hc, h1, l, q⟩ => by
    have := cls_one hC hc
    subst this
    exact ⟨_, e1, p, C', dx, vs, v, rfl, h1, cl, na, l, q⟩
theorem g_fld (hO : PE X o (tVar i)) (hC : clsN X.K c C) (cl : Cls X.K C) (na : NoAttr X.K C x) (hb : attributeBase o x X.env (eval o X.env) = eval o X.env := by rfl) : PE X (.Attribute o x pos) (semE X W (eFld c i x)) :=
  peOf (pe_fldN (W := W) (j := 0) hO hC cl na hb) fld_imp
theorem s_fldD (hO : PE X o (tVar i)) (hC : clsN X.K c C) (cl : Cls X.K C) (na : NoAttr X.K C x) (hv : PE X value (semE X W f)) (hs : swapsWith value (some (.Attribute o x pos')) pos.line X.env = pure false := by rfl) : PS X (.Assign [.Attribute o x pos'] value pos) (semS X W (sFldD c i x f)) :=
  psOf (ps_fld hO hv hs) (fldD_imp hC cl na)
theorem s_fldO (hO : PE X o (tVar i)) (hC : clsN X.K c C) (cl : Cls X.K C) (na : NoAttr X.K C x) (hv : PE X value (semE X W f)) (hg : ∀ y, X.N[j]? = some y → ¬ Vis X.env.scope y) (hs : swapsWith value (some (.Attribute o x pos')) pos.line X.env = pure false := by rfl) : PS X (.Assign [.Attribute o x pos'] value pos) (semS X W (sFldO c i j x f)) :=
  psOf (ps_ghost (ps_fld hO hv hs)) (fldO_imp hC cl na hg)
theorem g_appF (ha : PE X ea (tO X W (.f c i j x))) (hb : PE X eb (semE X W f)) (hbase : attributeBase ea "append" X.env (eval ea X.env) = eval ea X.env := by rfl)
    (hfew : ((backTo pos (starEach [eb] X.env)).all (fun x => !x.1) && (backToKw pos (keywordEach [] X.env)).all (fun x => x.1.isSome) && decide ([eb].length + ([] : List Keyword).length + (if ([] : List Keyword).isEmpty then 0 else 1) < 30)) = true := by rfl)
    (hline : (p1.endLine == pos.line) = true := by rfl) (hs : starEach [eb] X.env = (false, eval eb X.env) :: starEach [] X.env := by rfl) (hp : (backTo pos (starEach [] X.env)).any (·.1) = false := by rfl) : PE X (.Call (.Attribute ea "append" p1) [eb] [] pos) (semE X W (eAppF c i j x f)) :=
  peOf (pe_bm PySem.F.plainAttrs_list PySem.F.slot_list_append PySem.F.type_list_append mt_append ha (pa_cons hb pa_nil hs) hbase hfew hline hs hp) appF_imp
theorem g_popF (ha : PE X ea (tO X W (.f c i j x))) (hbase : attributeBase ea "pop" X.env (eval ea X.env) = eval ea X.env := by rfl) (hline : (p1.endLine == pos.line) = true := by rfl) : PE X (.Call (.Attribute ea "pop" p1) [] [] pos) (semE X W (ePopF c i j x)) :=
  peOf (pe_bm0 PySem.F.plainAttrs_list PySem.F.slot_list_pop PySem.F.type_list_pop mt_pop ha hbase hline) popF_imp
/-! ### methods -/
theorem g_meth (pl : Sem Bool) (hO : PE X o (tVar i)) (hC : clsN X.K c C) (cl : Cls X.K C) (hm : Meth X.K C m fa) (FO : FnG X.prog X.w X.K X.mg X.base k fa fd ps (spN X.K X.mg n g 0 Ct)) (gd : X.A.guards = some []) (hr : Room k' X.A) (hk : k ≤ k') (hbn : Binds X.K fd ps []) (tk : Takes X W) (hA : PA X (e :: es) (tArgs X W as))
    (hn : as.length + 1 = n := by rfl) (hg : gl.length = g := by rfl) (nd : (lentOf (.r i :: (as ++ gl.map Arg.r))).Nodup := by decide) (s1 : starEach (e :: es) X.env = (false, eval e X.env) :: starEach es X.env := by rfl) (s2 : (backTo pos (starEach es X.env)).any (·.1) = false := by rfl)
    (s3 : eval (.Call (.Attribute o m apos) (e :: es) [] pos) X.env = (do
      let recv ← eval o X.env
      standAt apos.atName
      let (g, hd) ← holding [recv] (getMethod recv m pl)
      callWith pos g hd (backTo pos (starEach (e :: es) X.env)) (backToKw pos (keywordEach [] X.env))) := by rfl) : PE X (.Call (.Attribute o m apos) (e :: es) [] pos) (semE X W (eMeth c m i Ct (as ++ gl.map Arg.r))) :=
  peOf (pe_methG (pl := pl) hO cl hm FO gd (hr.mono hk) hbn (passAt tk) hA s1 s2 s3) (meth_imp hC hn hg nd)
theorem g_meth0 (pl : Sem Bool) (hO : PE X o (tVar i)) (hC : clsN X.K c C) (cl : Cls X.K C) (hm : Meth X.K C m fa) (FO : FnG X.prog X.w X.K X.mg X.base k fa fd ps (spN X.K X.mg 1 g 0 Ct)) (gd : X.A.guards = some []) (hr : Room k' X.A) (hk : k ≤ k') (hbn : Binds X.K fd ps []) (tk : Takes X W)
    (hg : gl.length = g := by rfl) (nd : (lentOf (.r i :: ([] ++ gl.map Arg.r))).Nodup := by decide)
    (s3 : eval (.Call (.Attribute o m apos) [] [] pos) X.env = (do
      let recv ← eval o X.env
      standAt apos.atName
      let (g, hd) ← holding [recv] (getMethod recv m pl)
      callWith pos g hd (backTo pos (starEach [] X.env)) (backToKw pos (keywordEach [] X.env))) := by rfl) : PE X (.Call (.Attribute o m apos) [] [] pos) (semE X W (eMeth c m i Ct ([] ++ gl.map Arg.r))) :=
  peOf (pe_methG0 (pl := pl) hO cl hm FO gd (hr.mono hk) hbn (passAt tk) s3) (meth_imp (as := []) (n := 1) hC rfl hg nd)
/-! ### a class called -/
theorem run_makeG {E : L2.St → XK} {pins : List (Addr × Obj)} {σ : L2.St} {H : Hp} {s : Shared} {Q : VK} {us : List Value} {vs : List V} (M : Mk X.K C fa) (F : FnG X.prog X.w X.K X.mg X.base k fa fd ps sp) (gd : X.A.guards = some []) (hr : Room (k + 1) X.A) (hb : Binds X.K fd ps [])
    (hx : ∀ σ, PassesAt (L2.CX X.prog X.w) X σ (E σ)) (I : Inv X pins σ H s) (r : Vals vs us)
    (h : ∀ x dx, H x = none → H dx = none → dx ≠ x → sp (.ref x :: vs) (upd (upd H dx (.own x)) x (.ins C dx [])) (fun v H2 => v = .non ∧ Q (.ref x) H2) (E σ)) :
    wpAny (model X.prog X.w) X.A (call (.ref C) us) (EP X pins σ Q) X.xe s := by
  have hq := h (s.heap.objs.size + 1) s.heap.objs.size (I.hok.fresh (Nat.le_succ _)) (I.hok.fresh (Nat.le_refl _)) (Nat.ne_of_lt (Nat.lt_succ_self _))
  have I2 := Inv.made (C := C) I
  have r2 : Vals (V.ref (s.heap.objs.size + 1) :: vs) (Value.ref (s.heap.objs.size + 1) :: us) := .cons rfl r
  have hl : (Value.ref (s.heap.objs.size + 1) :: us).length = ps.length := by
    have e := r2.length
    rw [F.len _ _ _ _ hq] at e
    exact e.symm
  have bb := hb _ (Value.ref (s.heap.objs.size + 1) :: us) I2.kIn (by simpa using hl)
  rw [List.append_nil] at bb
  refine wpAny_call (make_map (f := fa) I.kIn M.makes M.init (beq_iff_eq.mp M.fn) (codeAny_mono (F.run _ X.stack _ _ ⟨Value.ref (s.heap.objs.size + 1) :: us, []⟩ (Value.ref (s.heap.objs.size + 1) :: us) _ _ (E σ) (by first | exact gd | simpa [Around.under] using gd) (hr.make C us [])
    (I2.env0.make C us []) bb r2 hq) fun r s' hq' => ?_))
  cases r with
  | error e => exact hx σ pins _ _ e s' I2 hq'
  | ok fl =>
    cases fl with
    | ret u =>
      obtain ⟨v, H', I3, rv, ev, q3⟩ := I2.after hq'
      subst ev
      exact ⟨rv, ⟨V.ref (s.heap.objs.size + 1), H', I3, rfl, q3⟩⟩
    | next => exact False.elim hq'
    | brk => exact False.elim hq'
    | cont => exact False.elim hq'
theorem pe_makeG {E : L2.St → XK} (M : Mk X.K C fa) (F : FnG X.prog X.w X.K X.mg X.base k fa fd ps sp) (gd : X.A.guards = some []) (hr : Room (k + 1) X.A) (hg : Gl X x) (hm : X.mg x = some (.ref C)) (hb : Binds X.K fd ps []) (hx : ∀ σ, PassesAt (L2.CX X.prog X.w) X σ (E σ))
    (ha : PA X (e :: es) t) (hdb : (x == ("__debug__" : Str)) = false := by decide) (he : starEach (e :: es) X.env = (false, eval e X.env) :: starEach es X.env := by rfl) (hpl : (backTo pos (starEach es X.env)).any (·.1) = false := by rfl) :
    PE X (.Call (.Name x p1) (e :: es) [] pos) (tMakeG C sp E t) := by
  refine ⟨fun pins s σ H Q I h => ?_⟩
  refine wpAny_Call_Name_kw (ld_glob I hg hm ?_ hdb)
  refine PySem.W.callWith_K (h₀ := X.base) I.ok.mod.kin M.kp (thn (ha.run pos pins s σ H _ I h) fun us s1 ⟨vs, H1, I1, r, q⟩ => ⟨I1.kIn, ?_⟩) he hpl
  exact run_makeG M F gd hr hb hx I1 r q
/-- y = C(..), what belongs to it at js -/
theorem s_make (hN : X.N.Nodup) (hi : X.N[i]? = some y) (hy : Loc X.env.scope y) (hC : clsN X.K c C) (M : Mk X.K C fa) (FO : FnG X.prog X.w X.K X.mg X.base k fa fd ps (spN X.K X.mg n 0 js.length Ct)) (gd : X.A.guards = some []) (hr : Room k' X.A) (hk : k + 1 ≤ k') (hgl : Gl X c) (hm : X.mg c = some (.ref C)) (hbn : Binds X.K fd ps []) (tk : Takes X W)
    (hA : PA X (e :: es) (tArgs X W as)) (hg : ∀ j ∈ js, ∀ x, X.N[j]? = some x → ¬ Vis X.env.scope x) (hv : Vis X.env.scope y) (hn : as.length + 1 = n := by rfl) (nd : (lentOf as).Nodup := by decide) (hdb : (c == ("__debug__" : Str)) = false := by decide) (s1 : starEach (e :: es) X.env = (false, eval e X.env) :: starEach es X.env := by rfl) (s2 : (backTo p2 (starEach es X.env)).any (·.1) = false := by rfl)
    (hs : swapsWith (.Call (.Name c apos) (e :: es) [] p2) (some (.Name y p1)) pos.line X.env = pure false := by rfl) (hf : X.fn y = true ∨ X.env.scope.names.lookup y = some .local := by first | exact .inl rfl | exact .inr rfl) : PS X (.Assign [.Name y p1] (.Call (.Name c apos) (e :: es) [] p2) pos) (semS X W (sMake c i js Ct as)) :=
  psOf (ps_ghost (ps_set hN hi hy (pe_makeG M FO gd (hr.mono hk) hgl hm hbn (passAt tk) hA hdb s1 s2) hs hf)) (make_imp hC hn nd hg (fun x hx => by rw [hi] at hx; cases hx; exact hv) (List.getElem?_eq_some_iff.mp hi).1)
end
end Sw

/-! several stored at once, new objects among them; defs that are lent objects -/
namespace Sw
open PySem PySem.Spec PyProof.Rows L2
section
variable {X : Cx} {W : WX} {B : Bd} {σ σ' : L2.St} {H F H' F' : Hp} {env : En} {Y : XP}
theorem Gst.symm (g : Gst X σ σ') : Gst X σ' σ := ⟨g.1.symm, fun i x h1 h2 => (g.2 i x h1 h2).symm⟩
theorem Gst.trans {σ'' : L2.St} (g : Gst X σ σ') (g' : Gst X σ' σ'') : Gst X σ σ'' := ⟨g'.1.trans g.1, fun i x h1 h2 => (g'.2 i x h1 h2).trans (g.2 i x h1 h2)⟩
theorem Gst.refl : Gst X σ σ := ⟨rfl, fun _ _ _ _ => rfl⟩
theorem pa_ghost {es : List Expr} {t : TA} (h : PA X es t) : PA X es (fun σ H Q => ∃ σ', Gst X σ σ' ∧ t σ' H Q) := ⟨fun pos pins s σ H Q I ⟨σ', g, q⟩ => thn (h.run pos pins s σ' H Q (g.inv I) q) fun us s' ⟨vs, H2, I2, r, z⟩ => ⟨vs, H2, g.symm.inv I2, r, z⟩⟩
/-- slots told in another order -/
theorem Rl.reidx {K : PySem.W.Frag} {env' : En} (R : Rl K B σ H F env) (hl : env'.length = σ'.length) (f : Nat → Nat) (inj : ∀ i j, i < env'.length → j < env'.length → f i = f j → i = j)
    (c : ∀ (j : Nat) (c : Cl), env'[j]? = some (some c) → env[f j]? = some (some c) ∧ σ'[j]? = σ[f j]?) (io : ∀ j p, B.io j p → env'[j]? = env[j]? ∧ σ'[j]? = σ[j]?) (nio : ∀ j o, env'[j]? = some (some (.io o)) → f j = j) : Rl K B σ' H F env' where
  len := hl
  subn := R.subn
  ext := R.ext
  new := R.new
  kept := R.kept
  cell := fun j c' h => by
    obtain ⟨h1, h2⟩ := c j c' h
    rw [h2]
    exact R.cell _ c' h1
  own := fun j o p h e => by
    obtain ⟨h1, h2⟩ := c j _ h
    exact R.own _ o p h1 (by rw [← h2]; exact e)
  ion := fun j o p h e => by
    obtain ⟨h1, h2⟩ := c j _ h
    have e1 := nio j o h
    rw [e1] at h1 h2
    exact R.ion j o p h1 (by rw [← h2]; exact e)
  ioc := fun j p h => by
    obtain ⟨h1, h2⟩ := io j p h
    rw [h1, h2]
    exact R.ioc j p h
  dist := fun i j c1 c2 p h1 o1 e1 h2 o2 e2 => by
    obtain ⟨a1, b1⟩ := c i c1 h1
    obtain ⟨a2, b2⟩ := c j c2 h2
    exact inj i j (List.getElem?_eq_some_iff.mp h1).1 (List.getElem?_eq_some_iff.mp h2).1 (R.dist _ _ c1 c2 p a1 o1 (by rw [← b1]; exact e1) a2 o2 (by rw [← b2]; exact e2))
/-- the last one told ahead of those below -/
theorem Rl.rot {K : PySem.W.Frag} {T : L2.St} {C : En} {v : Option V} {c : Option Cl} (R : Rl K B (σ ++ T ++ [v]) H F (env ++ C ++ [c])) (hl : env.length = σ.length) (hT : C.length = T.length) (nT : ∀ j p, B.io j p → j < σ.length) : Rl K B (σ ++ [v] ++ T) H F (env ++ [c] ++ C) := by
  let f : Nat → Nat := fun j => if j < σ.length then j else if j = σ.length then σ.length + T.length else j - 1
  have hn : (env ++ [c] ++ C).length = σ.length + 1 + T.length := by simp [hl, hT]; omega
  have g : ∀ {α : Type} (s t : List α) (x : α), s.length = σ.length → t.length = T.length → ∀ j, j < σ.length + 1 + T.length → (s ++ [x] ++ t)[j]? = (s ++ t ++ [x])[f j]? := fun s t x h1 h2 j hj => by
    simp only [f]
    by_cases a : j < σ.length
    · rw [if_pos a, List.append_assoc, List.append_assoc, List.getElem?_append_left (l₂ := [x] ++ t) (by omega), List.getElem?_append_left (l₂ := t ++ [x]) (by omega)]
    · rw [if_neg a]
      by_cases b : j = σ.length
      · rw [if_pos b, List.append_assoc, List.getElem?_append_right (l₂ := [x] ++ t) (by omega), List.getElem?_append_right (l₂ := [x]) (by simp; omega)]
        rw [show j - s.length = 0 by omega, show σ.length + T.length - (s ++ t).length = 0 by simp; omega]
        rfl
      · rw [if_neg b, List.getElem?_append_right (l₂ := t) (by simp; omega), List.getElem?_append_left (l₂ := [x]) (by simp; omega), List.getElem?_append_right (l₂ := t) (by omega)]
        congr 1
        simp
        omega
  refine R.reidx (by simp [hl, hT]) f (fun i j hi hj e => ?_) (fun j c' h => ?_) (fun j p h => ?_) fun j o h => ?_
  · rw [hn] at hi hj
    simp only [f] at e
    split at e <;> split at e <;> (try split at e) <;> (try split at e) <;> omega
  · have hj := (List.getElem?_eq_some_iff.mp h).1
    rw [hn] at hj
    rw [g env C c hl hT j hj] at h
    exact ⟨h, g σ T v rfl rfl j hj⟩
  · have hj := nT j p h
    rw [List.append_assoc, List.getElem?_append_left (by omega), List.append_assoc, List.getElem?_append_left (by omega), List.append_assoc, List.getElem?_append_left hj, List.append_assoc, List.getElem?_append_left hj]
    exact ⟨rfl, rfl⟩
  · have hj := (List.getElem?_eq_some_iff.mp h).1
    rw [hn] at hj
    rw [g env C c hl hT j hj] at h
    have eq : ∃ p, (σ ++ T ++ [v])[f j]? = some (some (.ref p)) := by
      obtain ⟨v', e', r⟩ := R.cell _ _ h
      obtain ⟨p, rfl, _⟩ := r
      exact ⟨p, e'⟩
    obtain ⟨p, ep⟩ := eq
    have := nT _ p (R.ion _ o p h ep)
    simp only [f] at this ⊢
    split at this
    · rename_i a; rw [if_pos a]
    · split at this <;> omega
/-! ### several, new things among them -/
@[simp ↓] def evN : List (List Nat × WN) → En → (List Cl → En → Prop) → XP → Prop
  | [], env, g, _ => g [] env
  | (js, f) :: r, env, g, Y => f env (fun c ns env1 => ns.length = js.length ∧ putAll js (ns.map Cl.ow) env1 fun env1' => evN r env1' (fun cs env2 => g (c :: cs) env2) Y) Y
/-- how one is run -/
structure NE (X : Cx) (W : WX) (e : Expr) (f : WN) (te : TE) : Prop where
  pe : PE X e te
  im : ∀ σ H Q (Q' : VK), semN X W f σ H Q → (∀ v zs H', Q v zs H' → Q' v H') → te σ H Q'
def tConsG (X : Cx) (te : TE) (t : TA) : TA := tCons te fun σ H Q => ∃ σ', Gst X σ σ' ∧ t σ' H Q
theorem pa_consG {e : Expr} {es : List Expr} {te : TE} {t : TA} (h1 : PE X e te) (h2 : PA X es t) (hs : starEach (e :: es) X.env = (false, eval e X.env) :: starEach es X.env := by rfl) : PA X (e :: es) (tConsG X te t) := pa_cons h1 (pa_ghost h2) hs
/-- what the list of them comes to -/
def NS (X : Cx) (W : WX) (l : List (List Nat × WN)) (t : TA) : Prop := ∀ {B : Bd} {H F : Hp} {env : En} {σ : L2.St} {g : List Cl → En → Prop} {Y : XP} {Q : List V → Hp → Prop}, Rl X.K B σ H F env → evN l env g Y → XOk X.K X.mg B W Y →
    (∀ cs env' vs σ' H' F', Gst X σ σ' → g cs env' → vs.length = l.length → Rl X.K B (σ' ++ (vs.map some).reverse) H' F' (env' ++ (cs.map some).reverse) → Same F F' → Q vs H') → t σ H Q
theorem ns_nil : NS X W [] tNil := fun R h x k => k [] _ [] _ _ _ .refl h rfl (by simpa using R) (Same.refl _)
theorem XOk.ghost {K : PySem.W.Frag} {mg : Str → Option Value} (x : XOk K mg B W Y) : XOk K mg B W Y := x
theorem ns_cons {js : List Nat} {f : WN} {l : List (List Nat × WN)} {e : Expr} {te : TE} {t : TA} (h1 : NE X W e f te) (hg : ∀ j ∈ js, ∀ x, X.N[j]? = some x → ¬ Vis X.env.scope x) (h2 : NS X W l t) : NS X W ((js, f) :: l) (tConsG X te t) := fun {B H F env σ g Y Q} R h x k => by
  refine h1.im σ H (fun v zs H1 => ∃ σ', Gst X σ σ' ∧ t σ' H1 fun vs H2 => Q (v :: vs) H2) _ ⟨B, F, env, _, Y, R, h, fun c ns env1 v zs H1 F1 ⟨nl, p⟩ zl R1 s => ?_, x⟩ fun v zs H1 q => q
  have hl : env1.length = σ.length := by
    have := R1.len
    simp [zl] at this
    omega
  have R2 : Rl X.K B (σ ++ [some v] ++ (zs.map some).reverse) H1 F1 (env1 ++ [some c] ++ ((ns.map Cl.ow).map some).reverse) := by
    refine Rl.rot ?_ hl (by simp [zl]) R.ioLt
    simpa [List.append_assoc] using R1
  have ltj : ∀ {js : List Nat} {cs : List Cl} {env : En} {P : En → Prop}, putAll js cs env P → ∀ j ∈ js, j < env.length := fun {js} => by
    induction js with
    | nil => intro cs env P _ j hj; cases hj
    | cons i is ih =>
      intro cs env P h j hj
      cases cs with
      | nil => unfold putAll at h; exact h.elim
      | cons c cs =>
        unfold putAll at h
        rcases List.mem_cons.mp hj with rfl | hj
        · exact h.1.1
        · have := ih h.2 j hj
          rwa [List.length_set] at this
  have ap : ∀ {js : List Nat} {cs : List Cl} {env : En} {P : En → Prop} {c : Option Cl}, putAll js cs env P → putAll js cs (env ++ [c]) fun e => ∃ e', e = e' ++ [c] ∧ P e' := fun {js} => by
    induction js with
    | nil =>
      intro cs env P c h
      cases cs with
      | nil => exact ⟨env, rfl, h⟩
      | cons => unfold putAll at h; exact h.elim
    | cons i is ih =>
      intro cs env P c h
      cases cs with
      | nil => unfold putAll at h; exact h.elim
      | cons c1 cs =>
        unfold putAll at h ⊢
        refine ⟨⟨by rw [List.length_append]; have := h.1.1; omega, fun o e => ?_⟩, ?_⟩
        · rw [List.getElem?_append_left h.1.1] at e
          exact h.1.2 o e
        · rw [set_append_left h.1.1]
          exact ih h.2
  have sp : ∀ {js : List Nat} {zs : List V} {σ : L2.St}, (∀ j ∈ js, j < σ.length) → setAll js zs (σ ++ [some v]) = setAll js zs σ ++ [some v] := fun {js} => by
    induction js with
    | nil => intro zs σ _; cases zs <;> rfl
    | cons j js ih =>
      intro zs σ hj
      cases zs with
      | nil => rfl
      | cons z zs =>
        have h1 := hj j List.mem_cons_self
        show setAll js zs ((σ ++ [some v]).set j (some z)) = setAll js zs (σ.set j (some z)) ++ [some v]
        rw [set_append_left h1]
        exact ih fun i hi => by rw [List.length_set]; exact hj i (List.mem_cons_of_mem _ hi)
  have hj : ∀ j ∈ js, j < σ.length := fun j hj => by rw [← hl]; exact ltj p j hj
  refine ⟨setAll js zs σ, set_gst hg, ?_⟩
  refine putAll_ok (is := js) (cs := ns.map Cl.ow) (vs := zs) (Q := fun _ H1 => t (setAll js zs σ) H1 fun vs H2 => Q (v :: vs) H2) R2 (fun j q h => by have := R.ioLt j q h; simp; omega) (by simp [hl]) (by omega) (ap p) fun e ⟨e', ee, q⟩ R3 => ?_
  subst ee
  rw [sp hj] at R3
  have g1 : Gst X σ (setAll js zs σ) := set_gst hg
  have hl3 : e'.length = (setAll js zs σ).length := R3.len1
  have nio : ∀ p, ¬ B.io (setAll js zs σ).length p := fun p => by rw [g1.1]; exact R.nio p
  have R4 := R3.pop nio
  have x4 : XOk X.K X.mg (B.at (setAll js zs σ) H1 F1 e') W Y := x.back R4
  refine h2 R4.rebase q x4 fun cs env' vs σ' H' F' g2 q hl R5 s2 => ?_
  have R6 := R3.carry nio R5
  refine k (c :: cs) env' (v :: vs) σ' H' F' (g1.trans g2) q (by rw [List.length_cons, List.length_cons, hl]) ?_ (s.trans s2)
  rw [List.map_cons, List.map_cons, List.reverse_cons, List.reverse_cons, ← List.append_assoc, ← List.append_assoc]
  exact R6
end
end Sw

/-! a, b[i] = x, y; several stored at once, new objects among them -/
namespace Sw
open PySem PySem.Spec PyProof.Rows L2
section
variable {X : Cx} {W : WX} {B : Bd} {σ σ' : L2.St} {H F H' F' : Hp} {env : En} {Y : XP}
/-- x, y[a] = two whole numbers, x at i, y at j -/
@[simp ↓] def sParIx (i j : Nat) (a f g : WE) : WS := fun env S => evM [f, g] env (fun cs env2 => ∃ k1 k2 : Int, cs = [.fz (.int k1), .fz (.int k2)] ∧ canSet env2 i ∧ (∃ o, lend (env2.set i (some (.fz (.int k1)))) j o) ∧ a (env2.set i (some (.fz (.int k1)))) (fun c3 env3 => ∃ k xs l, c3 = .fz (.int k) ∧ lend env3 j (.lst xs) ∧ ixN xs.length k = some l ∧ S.nx (setO env3 j (.lst (xs.set l (.int k2))))) S.xc) S.xc
def gPx (X : Cx) (W : WX) (i j : Nat) (a : WE) : TG := gTup X.K 2 (gCons (gName i) (gCons (L2.gSub (tVar j) (semE X W a) rSetL) gNil))
theorem parIx_imp {i j : Nat} {a f g : WE} : ∀ D σ H, semS X W (sParIx i j a f g) D σ H → tAsg (tTup (tEs X W [f, g])) (gPx X W i j a) D σ H := fun D σ H ⟨B, F, env, S, R, h, ok, x⟩ => by
  show tEs X W [f, g] σ H fun vs H1 => vs.length ≤ sizeLine ∧ ∀ T, H1 T = none → gPx X W i j a (.ref T) σ (upd H1 T (.tup vs)) D.nx
  refine evM_ok (fs := [f, g]) R h x fun cs env2 vs H1 F1 ⟨k1, k2, e, cs1, ⟨o, l0⟩, q⟩ hv R' s => ?_
  subst e
  match vs, hv with
  | [v, w], _ =>
    have R' : Rl X.K B (σ ++ [some w] ++ [some v]) H1 F1 (env2 ++ [some (.fz (.int k2))] ++ [some (.fz (.int k1))]) := by simpa using R'
    have ev := topInt R'
    subst ev
    have n1 : ∀ p, ¬ B.io (σ ++ [some w]).length p := fun p z => by have := R.ioLt _ _ z; simp at this; omega
    have R1 := R'.pop n1
    have ew := topInt R1
    subst ew
    have R2 := R1.pop R.nio
    refine ⟨by rw [sizeLine_eq]; simp, fun T hT => ?_⟩
    have s2 : Same F1 (upd F1 T (.tup [V.int k1, V.int k2])) := same_new (R2.nF hT)
    have R3 := ((R2.grow (p := T) (u := .tup [V.int k1, V.int k2]) hT).push (.int k1)).setTop R.nio cs1
    obtain ⟨w, ew⟩ := l0.val R3
    refine ⟨T, [V.int k1, V.int k2], rfl, SqT.of upd_same, rfl, V.int k1, [V.int k2], rfl, V.int k2, [], rfl, w, ew, B, _, _, _, S.xc, R3, q, fun c3 env3 u H4 F4 ⟨k, xs, l, e3, ll, hl, p⟩ R4 s4 => ?_, x⟩
    subst e3
    have eu := topInt R4
    have R5 := R4.pop (by rw [List.length_set]; exact R.nio)
    obtain ⟨p', vs', rfl, n, h1, h2⟩ := ll.lst R5 ew
    exact ⟨p', vs', k, l, rfl, eu, h1, by rw [h2.length]; exact hl, rfl, ok.nx _ _ _ _ p (R5.mutL ll ew n (RepL.set (.int k2) l h2)) ((s.trans s2).trans s4)⟩
theorem s_parIx {i j : Nat} {x : Str} {a f g : WE} {ea eb o ix : Expr} {pos px p1 pt pt2 : Pos} {kt k2 : Nat} (hc : X.calm = true) (hN : X.N.Nodup) (hi : X.N[i]? = some x) (hx : Loc X.env.scope x) (ho : PE X o (tVar j)) (hix : PE X ix (semE X W a)) (h1 : PE X ea (semE X W f)) (h2 : PE X eb (semE X W g))
    (hs : swapsWithSole [.Tuple [.Name x px, .Subscript o ix p1] kt pt] (.Tuple [ea, eb] k2 pt2) pos.line X.env = pure false := by rfl) (hw : swappedStores [.Tuple [.Name x px, .Subscript o ix p1] kt pt] (.Tuple [ea, eb] k2 pt2) X.env = pure none := by rfl) (h0 : (assignEach [.Tuple [.Name x px, .Subscript o ix p1] kt pt] X.env).map (·.2) = [assign (.Tuple [.Name x px, .Subscript o ix p1] kt pt) X.env] := by rfl)
    (s1 : starEach [ea, eb] X.env = (false, eval ea X.env) :: starEach [eb] X.env := by rfl) (s2 : starEach [eb] X.env = (false, eval eb X.env) :: starEach [] X.env := by rfl)
    (hf : X.fn x = true ∨ X.env.scope.names.lookup x = some .local := by first | exact .inl rfl | exact .inr rfl)
    (a1 : (assignEach [.Name x px, .Subscript o ix p1] X.env).map (·.2) = assign (.Name x px) X.env :: (assignEach [.Subscript o ix p1] X.env).map (·.2) := by rfl) (a2 : (assignEach [.Subscript o ix p1] X.env).map (·.2) = assign (.Subscript o ix p1) X.env :: (assignEach [] X.env).map (·.2) := by rfl)
    (hn : (assignEach [.Name x px, .Subscript o ix p1] X.env).length = 2 := by rfl) (hst : (assignEach [.Name x px, .Subscript o ix p1] X.env).findIdx? (·.1) = none := by rfl)
    (ha : ∀ v, assign (.Subscript o ix p1) X.env v = (do
      let ov ← holding [v] (eval o X.env)
      let iv ← holding [v, ov] (eval ix X.env)
      standAt p1
      holding [v, ov, iv] (setItem ov iv v)
      release [v, ov, iv] []) := by intro _; rfl) : PS X (.Assign [.Tuple [.Name x px, .Subscript o ix p1] kt pt] (.Tuple [ea, eb] k2 pt2) pos) (semS X W (sParIx i j a f g)) :=
  psOf (ps_asg (pe_tup (pa_cons h1 (pa_cons h2 pa_nil s2) s1)) (pg_tup hc (pgs_cons (pg_name hN hi hx hf) (pgs_cons (pg_sub ho hix set_list ha) pgs_nil a2) a1) hn hst) hs hw h0) parIx_imp
/-! ### several, new objects among them, stored -/
@[simp ↓] def sParN (is : List Nat) (l : List (List Nat × WN)) : WS := fun env S => evN l env (fun cs env' => is.length = l.length ∧ putAll is cs env' S.nx) S.xc
theorem putAll_len {is : List Nat} : ∀ {cs : List Cl} {env : En} {P : En → Prop}, putAll is cs env P → is.length = cs.length := by
  induction is with
  | nil => intro cs env P h; cases cs with
    | nil => rfl
    | cons c cs => unfold putAll at h; exact h.elim
  | cons i is ih => intro cs env P h; cases cs with
    | nil => unfold putAll at h; exact h.elim
    | cons c cs => unfold putAll at h; exact congrArg (· + 1) (ih h.2)
theorem setAll_cong : ∀ {is : List Nat} {vs : List V} {σ σ' : L2.St}, Gst X σ σ' → Gst X (setAll is vs σ) (setAll is vs σ')
  | [], vs, _, _, g => by cases vs <;> exact g
  | i :: is, [], _, _, g => g
  | i :: is, v :: vs, σ, σ', g => setAll_cong (is := is) (vs := vs) ⟨by rw [List.length_set, List.length_set]; exact g.1, fun k x hN hv => by
      by_cases e : i = k
      · subst e
        by_cases hk : i < σ.length
        · rw [List.getElem?_set_self (by rw [g.1]; exact hk), List.getElem?_set_self hk]
        · rw [List.getElem?_eq_none (by rw [List.length_set, g.1]; omega), List.getElem?_eq_none (by rw [List.length_set]; omega)]
      · rw [List.getElem?_set_ne e, List.getElem?_set_ne e]
        exact g.2 k x hN hv⟩
theorem parN_core {is : List Nat} {l : List (List Nat × WN)} {t : TA} {D : Ends} {Q : List V → Hp → Prop} (h : semS X W (sParN is l) D σ H) (ns : NS X W l t) (kq : ∀ vs H1, vs.length = is.length → (∃ σ'', Gst X (setAll is vs σ) σ'' ∧ D.nx σ'' H1) → (∀ T, H1 T = none → ∃ σ'', Gst X (setAll is vs σ) σ'' ∧ D.nx σ'' (upd H1 T (.tup vs))) → Q vs H1) : t σ H Q := by
  obtain ⟨B, F, env, S, R, h, ok, x⟩ := h
  refine ns R h x fun cs env' vs σ' H' F' g ⟨hl, p⟩ hv R' s => ?_
  have hlen : env'.length = σ'.length := lenPre R' (by rw [List.length_reverse, List.length_reverse, List.length_map, List.length_map, ← putAll_len p, hv, hl])
  have io' : ∀ j q, B.io j q → j < σ'.length := fun j q z => by rw [g.1]; exact R.ioLt j q z
  refine kq vs H' (hv.trans hl.symm) ⟨_, setAll_cong g, putAll_ok (Q := D.nx) R' io' hlen (hv.trans hl.symm) p fun e q R2 => ok.nx _ _ _ _ q R2 s⟩ fun T hT => ⟨_, setAll_cong g, ?_⟩
  have Rg : Rl X.K B (σ' ++ (vs.map some).reverse) (upd H' T (.tup vs)) F' (env' ++ (cs.map some).reverse) := by
    refine ⟨R'.len, ⟨R'.sub.trans (same_new hT), R'.subn.2⟩, R'.ext, R'.new, ⟨fun q o h1 h2 h3 => same_new hT q o (R'.kept.keep q o h1 h2 h3), R'.kept.nt, tabs_new R'.kept.tabs hT⟩, fun i c e => ?_, R'.own, R'.ion, R'.ioc, R'.dist⟩
    obtain ⟨w, ew, r⟩ := R'.cell i c e
    refine ⟨w, ew, r.keep (Same.refl F') fun q u _ _ hu hn => ⟨hn, ?_⟩⟩
    rw [upd_ne (ne_of_none hu hT)]
    exact hu
  exact putAll_ok (Q := D.nx) Rg io' hlen (hv.trans hl.symm) p fun e q R2 => ok.nx _ _ _ _ q R2 s
theorem parTN_imp {is : List Nat} {l : List (List Nat × WN)} {t : TA} {G : TG} (ns : NS X W l t) (hG : ∀ (vs : List V) (T : Addr) (σ : L2.St) (H : Hp) (Q : L2.St → Hp → Prop), vs.length = is.length → SqT X.K H T vs → Q (setAll is vs σ) H → G (.ref T) σ H Q) (hz : is.length ≤ 100) : ∀ D σ H, semS X W (sParN is l) D σ H → tAsg (tTup t) G { D with nx := fun σ' H' => ∃ σ'', Gst X σ' σ'' ∧ D.nx σ'' H' } σ H := fun D σ H h =>
  parN_core h ns fun vs H1 hl _ qT => ⟨by rw [hl, sizeLine_eq]; omega, fun T hT => hG vs T σ _ _ hl (SqT.of upd_same) (qT T hT)⟩
variable {pos : Pos} {ea eb ec : Expr} {f g : WN} {i j l : Nat} {tg : Expr} {k2 : Nat} {pt2 : Pos} {t : TA} {ls : List (List Nat × WN)}
theorem s_parNT2 (hg : PG X tg (gT X.K (.tp (.cons (.nm i) (.cons (.nm j) .nil))))) (ha : PA X [ea, eb] t) (ns : NS X W ls t)
    (hs : swapsWithSole [tg] (.Tuple [ea, eb] k2 pt2) pos.line X.env = pure false := by rfl) (hw : swappedStores [tg] (.Tuple [ea, eb] k2 pt2) X.env = pure none := by rfl) (h0 : (assignEach [tg] X.env).map (·.2) = [assign tg X.env] := by rfl) : PS X (.Assign [tg] (.Tuple [ea, eb] k2 pt2) pos) (semS X W (sParN [i, j] ls)) :=
  psOf (ps_ghost (ps_asg (pe_tup ha) hg hs hw h0)) (parTN_imp ns (two_names i j X.K) (by simp))
theorem s_parNT3 (hg : PG X tg (gT X.K (.tp (.cons (.nm i) (.cons (.nm j) (.cons (.nm l) .nil)))))) (ha : PA X [ea, eb, ec] t) (ns : NS X W ls t)
    (hs : swapsWithSole [tg] (.Tuple [ea, eb, ec] k2 pt2) pos.line X.env = pure false := by rfl) (hw : swappedStores [tg] (.Tuple [ea, eb, ec] k2 pt2) X.env = pure none := by rfl) (h0 : (assignEach [tg] X.env).map (·.2) = [assign tg X.env] := by rfl) : PS X (.Assign [tg] (.Tuple [ea, eb, ec] k2 pt2) pos) (semS X W (sParN [i, j, l] ls)) :=
  psOf (ps_ghost (ps_asg (pe_tup ha) hg hs hw h0)) (parTN_imp ns (three_names i j l X.K) (by simp))
theorem s_parN2 {x y : Str} {px py pt : Pos} {kt : Nat} (hc : X.calm = true) (hN : X.N.Nodup) (hi : X.N[i]? = some x) (hj : X.N[j]? = some y) (hij : i ≠ j) (hx : X.env.scope.names.lookup x = some .local) (hy : X.env.scope.names.lookup y = some .local) (ha : PA X [ea, eb] t) (ns : NS X W ls t)
    (hw : swappedStores [.Tuple [.Name x px, .Name y py] kt pt] (.Tuple [ea, eb] k2 pt2) X.env = pure (some [x, y]) := by rfl) (hs : swapsWithSole [.Tuple [.Name x px, .Name y py] kt pt] (.Tuple [ea, eb] k2 pt2) pos.line X.env = pure false := by rfl) :
    PS X (.Assign [.Tuple [.Name x px, .Name y py] kt pt] (.Tuple [ea, eb] k2 pt2) pos) (semS X W (sParN [i, j] ls)) :=
  psOf (ps_ghost (ps_par hc hN hi hj hij hx hy ha hw hs)) fun D σ H h => by
    exact parN_core h ns fun vs H1 hl q _ => by
      match vs, hl with
      | [v, w], _ => exact ⟨v, w, rfl, q⟩
/-! ### data among them; a new object; a method that gives one -/
@[simp ↓] def nE (f : WE) : WN := fun env P Y => f env (fun c env' => P c [] env') Y
theorem ne_E {e : Expr} {f : WE} (h : PE X e (semE X W f)) : NE X W e (nE f) (semE X W f) := ⟨h, fun σ H Q Q' ⟨B, F, env, P, Y, R, q, ok, x⟩ hq => ⟨B, F, env, _, Y, R, q, fun c env' v H' F' p R' s => hq v [] H' (ok c [] env' v [] H' F' p rfl (by simpa using R') s), x⟩⟩
@[simp ↓] def nMake (c : Str) (C : Ct) (as : List Arg) : WN := fun env P Y => evA as env (fun cs env2 => C (.io (.ob c []) :: cs) (fun r os => ∃ o1 rest, os = o1 :: rest ∧ r = .fz .none ∧ P (.ow o1) (rest.drop (lentOf as).length) (putO as (rest.take (lentOf as).length) env2)) Y) Y
/-- the last one told behind those above -/
theorem Rl.rotB {K : PySem.W.Frag} {T : L2.St} {C : En} {v : Option V} {c : Option Cl} (R : Rl K B (σ ++ [v] ++ T) H F (env ++ [c] ++ C)) (hl : env.length = σ.length) (hT : C.length = T.length) (nT : ∀ j p, B.io j p → j < σ.length) : Rl K B (σ ++ T ++ [v]) H F (env ++ C ++ [c]) := by
  let f : Nat → Nat := fun j => if j < σ.length then j else if j = σ.length + T.length then σ.length else j + 1
  have hn : (env ++ C ++ [c]).length = σ.length + 1 + T.length := by simp [hl, hT]; omega
  have g : ∀ {α : Type} (s t : List α) (x : α), s.length = σ.length → t.length = T.length → ∀ j, j < σ.length + 1 + T.length → (s ++ t ++ [x])[j]? = (s ++ [x] ++ t)[f j]? := fun s t x h1 h2 j hj => by
    simp only [f]
    by_cases a : j < σ.length
    · rw [if_pos a, List.append_assoc, List.append_assoc, List.getElem?_append_left (l₂ := [x] ++ t) (by omega), List.getElem?_append_left (l₂ := t ++ [x]) (by omega)]
    · rw [if_neg a]
      by_cases b : j = σ.length + T.length
      · rw [if_pos b, List.append_assoc (cs := t), List.getElem?_append_right (l₂ := [x] ++ t) (by omega), List.getElem?_append_right (l₂ := [x]) (by simp; omega)]
        rw [show j - (s ++ t).length = 0 by simp; omega, show σ.length - s.length = 0 by omega]
        rfl
      · rw [if_neg b, List.getElem?_append_right (l₂ := t) (by simp; omega), List.getElem?_append_left (l₂ := [x]) (by simp; omega), List.getElem?_append_right (l₂ := t) (by omega)]
        congr 1
        simp
        try omega
  refine R.reidx (by simp [hl, hT]) f (fun i j hi hj e => ?_) (fun j c' h => ?_) (fun j p h => ?_) fun j o h => ?_
  · rw [hn] at hi hj
    simp only [f] at e
    split at e <;> split at e <;> (try split at e) <;> (try split at e) <;> omega
  · have hj := (List.getElem?_eq_some_iff.mp h).1
    rw [hn] at hj
    rw [g env C c hl hT j hj] at h
    exact ⟨h, g σ T v rfl rfl j hj⟩
  · have hj := nT j p h
    rw [List.append_assoc, List.getElem?_append_left (by omega), List.append_assoc, List.getElem?_append_left (by omega), List.append_assoc, List.getElem?_append_left hj, List.append_assoc, List.getElem?_append_left hj]
    exact ⟨rfl, rfl⟩
  · have hj := (List.getElem?_eq_some_iff.mp h).1
    rw [hn] at hj
    rw [g env C c hl hT j hj] at h
    have eq : ∃ p, (σ ++ [v] ++ T)[f j]? = some (some (.ref p)) := by
      obtain ⟨v', e', r⟩ := R.cell _ _ h
      obtain ⟨p, rfl, _⟩ := r
      exact ⟨p, e'⟩
    obtain ⟨p, ep⟩ := eq
    have := nT _ p (R.ion _ o p h ep)
    simp only [f] at this ⊢
    split at this
    · rename_i a; rw [if_pos a]
    · split at this <;> omega
theorem nMake_imp {c : Str} {C : Addr} {Ct : Ct} {as : List Arg} {n r : Nat} (hC : clsN X.K c C) (hn : as.length + 1 = n) (nd : (lentOf as).Nodup) : ∀ σ H Q (Q' : VK), semN X W (nMake c Ct as) σ H Q → (∀ v zs H', Q v zs H' → Q' v H') → tMakeG C (spN X.K X.mg n 0 r Ct) (L2.WE W) (tArgs X W as) σ H Q' := fun σ H Q Q' ⟨B, F, env, P, Y, R, h, ok, xo⟩ hq =>
  evA_ok R h xo fun cs env' vs H1 F1 hc R1 s l x dx hx hdx hne => by
    have R2 := R1.grow (p := dx) (u := .own x) hdx
    have hx2 : (upd H1 dx (.own x)) x = none := by rw [upd_ne (Ne.symm hne)]; exact hx
    have s2 : Same F1 (upd F1 dx (.own x)) := same_new (R1.nF hdx)
    have R3 := R2.fresh (p := x) (u := .ins C dx []) (o := .ob c []) hx2 ⟨C, dx, [], hC, upd_same, upd_same, .nil⟩
    have l2 : AA X.K (σ ++ [some (.ref x)]) (upd (upd H1 dx (.own x)) x (.ins C dx [])) (upd F1 dx (.own x)) (env' ++ [some (.ow (.ob c []))]) as vs cs := l.lift s2
    have l3 : AA X.K (σ ++ [some (.ref x)]) (upd (upd H1 dx (.own x)) x (.ins C dx [])) (upd F1 dx (.own x)) (env' ++ [some (.ow (.ob c []))]) (.r σ.length :: as) (.ref x :: vs) (.io (.ob c []) :: cs) :=
      ⟨.ref x, vs, .ob c [], cs, rfl, rfl, get_last, .inl (by rw [← R1.len]; exact get_last), l2⟩
    have nd3 : (lentOf (.r σ.length :: as)).Nodup := List.nodup_cons.mpr ⟨fun z => by have := l.lt _ z; have := R1.len; omega, nd⟩
    refine ⟨[], upd F1 dx (.own x), .io (.ob c []) :: cs, _, Y, by simp [l.len.1, hn], rfl, by rw [List.append_nil]; exact l3.entry R3 nd3, hc, fun c' os ns zs v H' F' nl p q nw => ?_, fun e cls d H' y k kk => ?_⟩
    · rw [List.append_nil] at q
      have ol : os.length = (lentOf as).length + 1 := (outs_len q.outs).trans l3.ioN
      obtain ⟨o1, rest, e1, rfl, p⟩ := p
      cases os with
      | nil => simp at ol
      | cons o os =>
        have e1 : o :: (os ++ ns) = o1 :: rest := e1
        injection e1 with e1 e2
        subst e1 e2
        have ol' : os.length = (lentOf as).length := by simpa using ol
        rw [← ol', List.drop_left, List.take_left] at p
        have hv : v = .non := by
          have := q.res
          cases this
          rfl
        subst hv
        refine ⟨rfl, ?_⟩
        have RA := after_news R3 l3 nd3 q nw
        simp only [List.map_cons, List.reverse_cons, ← List.append_assoc] at RA
        have hel : env'.length = σ.length := R1.len
        have RB := RA.pop fun p hp => by
          obtain ⟨e, _⟩ := R3.ioc _ p hp
          have := (List.getElem?_eq_some_iff.mp e).1
          simp at this
        have ep : putO (.r σ.length :: as) (o :: os) (env' ++ [some (.ow (.ob c []))]) = putO as os env' ++ [some (.ow o)] := by
          show putO as os (setO (env' ++ [some (.ow (.ob c []))]) σ.length o) = _
          have : setO (env' ++ [some (.ow (.ob c []))]) σ.length o = env' ++ [some (.ow o)] := by
            unfold setO
            rw [← hel, get_last, List.set_append_right _ _ (Nat.le_refl _), Nat.sub_self]
            rfl
          rw [this, putO_pre l.lt]
        rw [ep] at RB
        have RC := Rl.rotB RB (by rw [putO_len]; exact hel) (by simp; exact nw.len.symm) R.ioLt
        refine hq _ zs _ (ok _ _ _ _ zs _ _ p nw.len ?_ ((s.trans s2).trans q.s1))
        simpa [List.append_assoc] using RC
    · rw [List.append_nil] at kk
      exact xo e σ H' cls d y k (kept_call R3 l3 kk)
theorem ne_make {k k' n r : Nat} {fa C : Addr} {fd : FuncData} {ps : List Str} {c : Str} {es : List Expr} {e : Expr} {p1 p2 : Pos} {Ct : Ct} {as : List Arg} (hC : clsN X.K c C) (M : Mk X.K C fa) (FO : FnG X.prog X.w X.K X.mg X.base k fa fd ps (spN X.K X.mg n 0 r Ct)) (gd : X.A.guards = some []) (hr : Room k' X.A) (hk : k + 1 ≤ k') (hgl : Gl X c) (hm : X.mg c = some (.ref C)) (hbn : Binds X.K fd ps []) (tk : Takes X W)
    (hA : PA X (e :: es) (tArgs X W as)) (hn : as.length + 1 = n := by rfl) (nd : (lentOf as).Nodup := by decide) (hdb : (c == ("__debug__" : Str)) = false := by decide) (s1 : starEach (e :: es) X.env = (false, eval e X.env) :: starEach es X.env := by rfl) (s2 : (backTo p2 (starEach es X.env)).any (·.1) = false := by rfl) :
    NE X W (.Call (.Name c p1) (e :: es) [] p2) (nMake c Ct as) (tMakeG C (spN X.K X.mg n 0 r Ct) (L2.WE W) (tArgs X W as)) :=
  ⟨pe_makeG M FO gd (hr.mono hk) hgl hm hbn (passAt tk) hA hdb s1 s2, nMake_imp hC hn nd⟩
theorem ne_meth0 {k k' g r : Nat} {fa C : Addr} {fd : FuncData} {ps : List Str} {c m : Str} {o : Expr} {apos p2 : Pos} {Ct : Ct} {gl : List Nat} {i : Nat} (pl : Sem Bool) (hO : PE X o (tVar i)) (hC : clsN X.K c C) (cl : Cls X.K C) (hm : Meth X.K C m fa) (FO : FnG X.prog X.w X.K X.mg X.base k fa fd ps (spN X.K X.mg 1 g r Ct)) (gd : X.A.guards = some []) (hr : Room k' X.A) (hk : k ≤ k') (hbn : Binds X.K fd ps []) (tk : Takes X W)
    (hg : gl.length = g := by rfl) (nd : (lentOf (.r i :: ([] ++ gl.map Arg.r))).Nodup := by decide)
    (s3 : eval (.Call (.Attribute o m apos) [] [] p2) X.env = (do
      let recv ← eval o X.env
      standAt apos.atName
      let (g, hd) ← holding [recv] (getMethod recv m pl)
      callWith p2 g hd (backTo p2 (starEach [] X.env)) (backToKw p2 (keywordEach [] X.env))) := by rfl) : NE X W (.Call (.Attribute o m apos) [] [] p2) (nMeth c m i Ct ([] ++ gl.map Arg.r)) (tMethG C m (spN X.K X.mg 1 g r Ct) (L2.WE W) (tVar i) (tArgs X W [])) :=
  ⟨pe_methG0 (pl := pl) hO cl hm FO gd (hr.mono hk) hbn (passAt tk) s3, nMeth_imp (as := []) (n := 1) hC rfl hg nd⟩
/-- x = what makes new things, these at js -/
theorem s_setNE {js : List Nat} {te : TE} {x : Str} {e : Expr} {p1 : Pos} (hN : X.N.Nodup) (hi : X.N[i]? = some x) (hx : Loc X.env.scope x) (h : NE X W e f te) (hg : ∀ j ∈ js, ∀ x, X.N[j]? = some x → ¬ Vis X.env.scope x)
    (hs : swapsWith e (some (.Name x p1)) pos.line X.env = pure false := by rfl) (hf : X.fn x = true ∨ X.env.scope.names.lookup x = some .local := by first | exact .inl rfl | exact .inr rfl) : PS X (.Assign [.Name x p1] e pos) (semS X W (sSetN i js f)) := s_setN hN hi hx h.pe h.im hg hs hf
/-- a def that is lent objects, called -/
theorem g_callN {k k' n g : Nat} {fa : Addr} {fd : FuncData} {ps : List Str} {y : Str} {es : List Expr} {e : Expr} {p1 p2 : Pos} {Ct : Ct} {as : List Arg} {gl : List Nat} (FO : FnG X.prog X.w X.K X.mg X.base k fa fd ps (spN X.K X.mg n g 0 Ct)) (gd : X.A.guards = some []) (hr : Room k' X.A) (hk : k ≤ k') (hm : X.mg y = some (.ref fa)) (kp : PySem.W.keepIn X.K (.ref fa) = true) (hbn : Binds X.K fd ps []) (tk : Takes X W) (hgl : Gl X y) (hA : PA X (e :: es) (tArgs X W as))
    (hn : as.length = n := by rfl) (hg : gl.length = g := by rfl) (nd : (lentOf (as ++ gl.map Arg.r)).Nodup := by decide) (hdb : (y == ("__debug__" : Str)) = false := by decide) (he : starEach (e :: es) X.env = (false, eval e X.env) :: starEach es X.env := by rfl) (hpl : (backTo p2 (starEach es X.env)).any (·.1) = false := by rfl) : PE X (.Call (.Name y p1) (e :: es) [] p2) (semE X W (eCall Ct (as ++ gl.map Arg.r))) :=
  peOf (pe_callG FO gd (hr.mono hk) hm kp hbn (passAt tk) hgl hA hdb he hpl) (callN_imp hn hg nd)
end
end Sw

/-! a def that hands its lambda on to the def that catches -/
namespace Sw
open PySem PySem.Spec PyProof.Rows L2
theorem un_deeper {fs fs2 : List Addr} {H H1 H2 : Hp} {h h1 h2 : Heap} (u : Un fs [] H H1 h h1) (w : Un fs2 [] H1 H2 h1 h2) (hf : ∀ q ∈ fs2, q ∈ fs ∨ h.get? q = none) : Un fs [] H H2 h h2 := by
  constructor
  · intro c o q n hc hx
    refine w.keep c o (u.keep c o q n hc hx) (u.free c o q n hx) (fun z => ?_) hx
    rcases hf c z with y | y
    · exact hc y
    · rw [y] at q; cases q
  · intro c o q n hc hx
    obtain ⟨s1, e1⟩ := u.slot c o q n hc hx
    obtain ⟨s2, e2⟩ := w.any e1 (u.free c o q n hx) hx
    exact ⟨s2, e2⟩
  · intro c o q n hx
    obtain ⟨o1, e1⟩ := u.there c o q hx
    exact w.free c o1 e1 (u.free c o q n hx) hx
  · intro c o q hx
    obtain ⟨o1, e1⟩ := u.there c o q hx
    exact w.there c o1 e1 hx
  · intro c xs e; exact w.tups c xs (u.tups c xs e)
  · intro c o y e; exact w.frzs c o y (u.frzs c o y e)
  · intro c ps e
    obtain ⟨m1, e1⟩ := u.tbls c ps e
    obtain ⟨m2, e2⟩ := w.tbls c _ e1
    exact ⟨m1 ++ m2, by rw [e2, Array.append_assoc]⟩
section
variable {X : Cx} {pins : List (Addr × Obj)} {σ : L2.St} {H : Hp} {s : Shared}
/-- x() in a def however deep -/
theorem pe_actZ {CXg : CXT} {Eg : XK} {Ng : List Str} {qg : Str} {sg : Scope} {g f c' : Addr} {cdg pm ctv : Value} {params : Arguments} {body : Expr} {scope : Scope} {k i : Nat} {a : Str} {pn : List (Addr × Obj)} {xe : Value → Shared → Prop} {W : WX} {E : XK} {tb : TE} {p1 p2 : Pos} {As : Around} {Ss : List Env} {sB : Shared} {HB : Hp} {ql : Str}
    (I : Inv X pins σ H s) (L : LamX.LamS X.env.scope scope) (eql : X.env.qual ++ "<lambda>" = ql) (hf : s.heap.get? f = some (PySem.W.kla_obj "<lambda>" (X.env.qual ++ "<lambda>") params body scope (cloFrom X.env.cells scope.names []) pm c' ctv)) (hfn : H f = none) (hfr : f ∉ frs X.stack)
    (hbind : bindArgs (PySem.W.kla_fn "<lambda>" (X.env.qual ++ "<lambda>") params body scope (cloFrom X.env.cells scope.names []) pm (.ref c') ctv) ⟨[], []⟩ = pure [])
    (hun : ∀ pz σz Hz sz, Inv ((cxOf CXg X.prog X.w X.K X.mg X.base Ng qg sg g cdg As Ss sB HB Eg).tr pn xe) pz σz Hz sz → Un (frs X.stack) [] H Hz s.heap sz.heap)
    (tk : Takes ((cxOf CXg X.prog X.w X.K X.mg X.base Ng qg sg g cdg As Ss sB HB Eg).tr pn xe) W) (hW : ∀ cls d σ' H', E cls d H' → W cls d σ' H') (hr : Room (k + 1) (As.deeper (envOfC qg sg sB.heap.objs.size g cdg)))
    (hbody : ∀ (A : Around) (outer : List Env) (s : Shared) (H : Hp), A.guards = As.guards → Room k (A.deeper (LamX.lamEnv X scope s.heap.objs.size f c')) → PE (LamX.lamCx X A outer s H E scope f c') body tb)
    (hN : Ng[i]? = some a) (hv : Vis sg a) (hd : (a == ("__debug__" : Str)) = false := by decide) (hcd : (a == ("__classdict__" : Str)) = false := by decide) :
    PE ((cxOf CXg X.prog X.w X.K X.mg X.base Ng qg sg g cdg As Ss sB HB Eg).tr pn xe) (.Call (.Name a p1) [] [] p2)
      (fun σZ HZ Q => σZ[i]? = some (some (.ref f)) ∧ HZ c' = some (LamX.CodeO c' ql) ∧ tb σ HZ Q) := by
  subst eql
  constructor
  rintro pz sz σz Hz Q Iz ⟨h1, h2, h3⟩
  apply wpAny_Call_Name_kw
  refine thn ((pe_var (pos := p1) (i := i) hN hv hd hcd).run pz sz σz Hz (fun v H1 => v = .ref f ∧ H1 = Hz) Iz ⟨.ref f, h1, rfl, rfl⟩) ?_
  rintro u s1 ⟨v, H1, I1, r1, rfl, rfl⟩
  have eu : u = Value.ref f := r1
  subst eu
  have un := hun _ _ _ _ I1
  have of1 := un.keep f _ hf hfn hfr (fun z => by cases z)
  refine PySem.W.callWith_F0 ⟨_, _, _, _, of1⟩ ?_
  obtain ⟨⟨oc, vs, t, y1, y2, y3⟩, _, _⟩ := I1.hok c' _ h2
  have rc : codeAny (model X.prog X.w) (As.deeper (envOfC qg sg sB.heap.objs.size g cdg)) (.call (.ref f) ⟨[], []⟩) (CR (L2.CX X.prog X.w) (envOfC qg sg sB.heap.objs.size g cdg :: Ss) X.prog X.w H1 s1 Q E) s1 := by
    apply PySem.W.kla_callFunE hr.depth of1 rfl L.co L.gen rfl ⟨c', oc, vs, t, rfl, y1, y2, y3⟩
    rw [hbind]
    apply wpAny_pure
    refine wpAny_newFunctionEnv (fun y hy => (L.own y hy).2) (fun y hy => by cases hy) (fun h₁ hns hsb => ⟨I1.nolimit.fresh _ hsb, ?_⟩) L.kind
    have J : Inv (LamX.lamCx X (As.deeper (envOfC qg sg sB.heap.objs.size g cdg)) (envOfC qg sg sB.heap.objs.size g cdg :: Ss) s1 H1 E scope f c') [] σ H1 { s1 with heap := h₁, toks := s1.toks + ([] : List (Str × Value)).length } :=
      LamX.lam_start2 I L I1.env0 hr.hd un hns fun b o e => hsb.extBut b o (Nat.ne_of_lt (Heap.lt_size e)) (Heap.get?_push_of_some _ e)
    apply PySem.W.kla_codeExpr
    refine wpAny_mono ((hbody (As.deeper (envOfC qg sg sB.heap.objs.size g cdg)) _ s1 H1 (by rfl) (hr.deeper _)).run [] _ _ H1 Q J h3) ?_ fun e s' hq => hq
    rintro v s' ⟨w', H', J', rv, q⟩
    exact ⟨w', H', J'.os, J'.bare, J'.base, J'.hok, rv, q⟩
  have hx : Passes (L2.CX X.prog X.w) ((cxOf CXg X.prog X.w X.K X.mg X.base Ng qg sg g cdg As Ss sB HB Eg).tr pn xe) E := passes_call tk hW
  refine wpAny_call (codeAny_mono rc fun r s' hq => ?_)
  match r, hq with
  | .error e, hq => exact hx pz σz H1 s1 e s' I1 hq
  | .ok (.ret u), hq => exact I1.after hq
/-- what the outer def makes of what the inner one tells: a text stays, a list is "told" -/
def wkQ (Q : VK) : VK := fun v H => (∃ t, v = .str t ∧ Q v H) ∨ ∃ p xs, v = .ref p ∧ H p = some (.lst xs) ∧ Q (.str "told") H
abbrev bodyW (y x2 a : Str) (j : Nat) (p1 p2 p3 p4 p5 p6 p7 p8 p9 p10 p11 p12 p13 : Pos) : List Stmt :=
  [.Assign [.Name y p1] (.Call (.Name x2 p2) [.Name a p3] [] p4) p5,
   .Return (some (.IfExp (.Call (.Name "isinstance" p6) [.Name y p7, .Name "str" p8] [] p9) (.Name y p10) (.Constant (.str "told") j p11) p12)) p13]
/-- what of the call's value the outer def hands on -/
theorem pss_bodyW {t : TE} {y x2 a : Str} {j : Nat} {p1 p2 p3 p4 p5 p6 p7 p8 p9 p10 p11 p12 p13 : Pos} (hc : PE X (.Call (.Name x2 p2) [.Name a p3] [] p4) t) (hN : X.N.Nodup) (hy : X.N[1]? = some y) (hl2 : X.N.length = 2) (hly : X.env.scope.names.lookup y = some .local)
    (g1 : Gl X "isinstance") (m1 : X.mg "isinstance" = none) (g2 : Gl X "str") (m2 : X.mg "str" = none)
    (hs : swapsWith (.Call (.Name x2 p2) [.Name a p3] [] p4) (some (.Name y p1)) p5.line X.env = pure false) (hdy : (y == ("__debug__" : Str)) = false) (hcy : (y == ("__classdict__" : Str)) = false) :
    ∃ u : TS, PSs X (bodyW y x2 a j p1 p2 p3 p4 p5 p6 p7 p8 p9 p10 p11 p12 p13) u ∧ ∀ (D : Ends) σ H, σ.length = 2 → (∀ Q : VK, (∀ v H', wkQ D.rt v H' → Q v H') → t σ H Q) → u D σ H := by
  have hv : Vis X.env.scope y := .inl hly
  have h1 := ps_set (pos := p5) (pos' := p1) hN hy (.inl hly) hc hs (.inr hly)
  have h2 := ps_ret (pos := p13) (pe_ifExp (pos := p12) (pt_val (pe_callB (pos := p9) (p := p6) call_isi g1 m1 (by rfl) (pa_cons (pe_var (pos := p7) hy hv hdy hcy) (pa_cons (pe_bltn (pos := p8) (v := .ty "str") g2 m2 (by rfl) rfl (by decide) (by decide)) pa_nil rfl) rfl))) (pe_var (pos := p10) hy hv hdy hcy) (pe_str (x := "told") (j := j) (pos := p11)))
  refine ⟨_, pss_cons h1 (pss_one h2), fun D σ H hl ht => ?_⟩
  have e1 : ∀ v : V, (σ.set 1 (some v))[1]? = some (some v) := fun v => List.getElem?_set_self (by rw [hl]; decide)
  refine ht _ fun v H' w => ?_
  rcases w with ⟨z, rfl, q⟩ | ⟨p, xs, rfl, hp, q⟩
  · exact ⟨_, e1 _, _, _, _, _, true, rfl, .ty "str", .base (.str z), kit_ty (kit_isD .str (.str z)), true, rfl, _, e1 _, q⟩
  · exact ⟨_, e1 _, _, _, _, _, false, rfl, .ty "str", .base (.lst hp), kit_ty (kit_isD .str (.list [])), false, rfl, q⟩
/-- x(lambda: body), the outer def handing its lambda on -/
theorem pe_lamcallW {T : List (Addr × Str)} {TT : (XK → Hp → VK → Prop) → Hp → VK → Prop} {x y a x2 a2 : Str} {g g2 c P : Addr} {k j : Nat} {pg pg2 : Arguments} {bg2 : List Stmt} {sg sg2 : Scope} {dV kV doc pm cdv ct oc : Value} {an od : Option Addr} {osl : Array (Option Value)} {Ng Ng2 : List Str}
    {dV2 kV2 doc2 pm2 cdv2 ct2 oc2 : Value} {an2 od2 : Option Addr} {osl2 : Array (Option Value)} {q1 q2 q3 q4 q5 q6 q7 q8 q9 q10 q11 q12 q13 : Pos}
    {params : Arguments} {body : Expr} {scope : Scope} {t : XK → TE} {p lpos pos : Pos} (hg : Gl X x) (hm : X.mg x = some (.ref g)) (hk : PySem.W.keepIn X.K (.ref g) = true)
    (lk : X.K.lookup g = some ⟨oc, od, .func (PySem.W.fnOf x x pg (bodyW y x2 a j q1 q2 q3 q4 q5 q6 q7 q8 q9 q10 q11 q12 q13) sg dV kV doc pm an cdv ct), osl⟩) (hcg : PySem.W.codeIn X.K cdv x = true) (hb : L2.Binds X.K (PySem.W.fnOf x x pg (bodyW y x2 a j q1 q2 q3 q4 q5 q6 q7 q8 q9 q10 q11 q12 q13) sg dV kV doc pm an cdv ct) [a] []) (Sg : FnScope Ng [a] sg) (hNg : Ng[0]? = some a) (hva : Vis sg a)
    (hm2 : X.mg x2 = some (.ref g2)) (hk2 : PySem.W.keepIn X.K (.ref g2) = true) (lk2 : X.K.lookup g2 = some ⟨oc2, od2, .func (PySem.W.fnOf x2 x2 pg2 bg2 sg2 dV2 kV2 doc2 pm2 an2 cdv2 ct2), osl2⟩) (hcg2 : PySem.W.codeIn X.K cdv2 x2 = true) (hb2 : L2.Binds X.K (PySem.W.fnOf x2 x2 pg2 bg2 sg2 dV2 kV2 doc2 pm2 an2 cdv2 ct2) [a2] []) (Sg2 : FnScope Ng2 [a2] sg2) (hNg2 : Ng2[0]? = some a2) (hva2 : Vis sg2 a2)
    (hG : ∀ (s : Shared) (H : Hp), Room (k + 2) (X.A.deeper (envOfC x sg s.heap.objs.size g cdv)) → LamX.GivesTo (cxOf C8.CX0 X.prog X.w X.K X.mg X.base Ng x sg g cdv X.A X.stack s H C8.E0).nox Ng2 x2 sg2 g2 cdv2 bg2 a2 (X.env.qual ++ "<lambda>") TT)
    (hgl2 : sg.names.lookup x2 = some .globalImplicit) (hdb2 : (x2 == ("__debug__" : Str)) = false) (hNn : Ng.Nodup) (hNy : Ng[1]? = some y) (hNl : Ng.length = 2) (hly : sg.names.lookup y = some .local) (hgi : sg.names.lookup ("isinstance" : Str) = some .globalImplicit) (hgs : sg.names.lookup ("str" : Str) = some .globalImplicit) (hmi : X.mg "isinstance" = none) (hms : X.mg "str" = none)
    (hs : ∀ X' : Cx, X'.env.scope = sg → swapsWith (.Call (.Name x2 q2) [.Name a q3] [] q4) (some (.Name y q1)) q5.line X'.env = pure false) (hdy : (y == ("__debug__" : Str)) = false) (hcy : (y == ("__classdict__" : Str)) = false) (hl0 : ∀ f : Addr, (L2.start Ng [V.ref f])[0]? = some (some (V.ref f)) ∧ (L2.start Ng [V.ref f]).length = 2)
    (TB : LamX.TabB X.base X.mg c P) (hcode : X.env.code = .ref c) (hmT : (P, X.env.qual ++ "<lambda>") ∈ T) (hu : ∀ p ∈ T, p.1 = P → p.2 = X.env.qual ++ "<lambda>") (hr : Room (k + 3) X.A) (L : LamX.LamS X.env.scope scope) (hdef : defaultsOf params X.env = ([], []))
    (hbind : ∀ (q : Str) (cl : List (Str × Addr)) (pm cv ctv : Value), bindArgs (PySem.W.kla_fn "<lambda>" q params body scope cl pm cv ctv) ⟨[], []⟩ = pure [])
    (hbody : ∀ (A : Around) (outer : List Env) (s : Shared) (H : Hp) (E : XK) (f c' : Addr), A.guards = X.A.guards → Room k (A.deeper (LamX.lamEnv X scope s.heap.objs.size f c')) → PE (LamX.lamCx X A outer s H E scope f c') body (t E))
    (hdb : (x == ("__debug__" : Str)) = false) (hd : (a == ("__debug__" : Str)) = false) (hcd : (a == ("__classdict__" : Str)) = false) (hd2 : (a2 == ("__debug__" : Str)) = false) (hcd2 : (a2 == ("__classdict__" : Str)) = false) :
    PE X (.Call (.Name x p) [.Lambda params body scope lpos] [] pos) (LamX.tLam T (fun tl H Q => ∀ Q' : VK, (∀ v H', wkQ Q v H' → Q' v H') → TT tl H Q') t) := by
  constructor
  rintro pins s σ H Q I ⟨hT, h⟩
  apply wpAny_Call_Name_kw
  apply ld_glob I hg hm _ hdb
  apply PySem.W.callWith_K (h₀ := X.base) I.ok.mod.kin hk _ (by rfl) (by rfl)
  show wpAny _ _ (spliced ((false, eval (.Lambda params body scope lpos) X.env) :: backTo pos (starEach [] X.env))) _ _ s
  apply Calls.spliced_cons
  refine LamX.lam_make2 I TB hcode hmT hu hT hdef (L.has I.ok) ?_
  intro f c' pm' ctv H1 s' I1 eN T1 hf hfn hfr hco
  refine Calls.spliced_nil ⟨I1.kIn, ?_⟩
  have rc : codeAny (model X.prog X.w) X.A (.call (.ref g) ⟨[.ref f], []⟩) (CR C8.CX0 X.stack X.prog X.w H1 s' Q C8.E0) s' := by
    refine LamX.run_ofS (N := Ng) (ps := [a]) (us := [.ref f]) (vs := [.ref f]) lk hcg Sg hr I1.env0 (hb s' [.ref f] I1.kIn rfl) (.cons rfl .nil) rfl fun hr1 => ?_
    have hcall : PE (cxOf C8.CX0 X.prog X.w X.K X.mg X.base Ng x sg g cdv X.A X.stack s' H1 C8.E0).nox (.Call (.Name x2 q2) [.Name a q3] [] q4) (fun σ1 H2 Q1 => σ1[0]? = some (some (.ref f)) ∧ H2 c' = some (LamX.CodeO c' (X.env.qual ++ "<lambda>")) ∧ TT (fun E H' Q' => t E σ H' Q') H2 Q1) := by
      constructor
      rintro pins1 s1 σ1 H2 Q1 I2 ⟨e0, hc2, ht⟩
      have gl2 : Gl (cxOf C8.CX0 X.prog X.w X.K X.mg X.base Ng x sg g cdv X.A X.stack s' H1 C8.E0).nox x2 := hgl2
      apply wpAny_Call_Name_kw
      apply ld_glob I2 gl2 hm2 _ hdb2
      refine PySem.W.callWith_K (h₀ := X.base) I2.ok.mod.kin hk2 ?_ (by rfl) (by rfl)
      refine thn ((pa_cons (pe_var (pos := q3) (i := 0) hNg hva hd hcd) pa_nil rfl).run q4 pins1 s1 σ1 H2 (fun vs H3 => vs = [.ref f] ∧ H3 = H2) I2 ⟨_, e0, rfl, rfl⟩) ?_
      rintro us s2 ⟨vs, H3, I3, r, rfl, rfl⟩
      obtain ⟨u1, rfl, r1⟩ := r.one
      have e1 : u1 = .ref f := r1
      subst e1
      refine ⟨I3.kIn, ?_⟩
      have rc2 : codeAny (model X.prog X.w) (X.A.deeper (envOfC x sg s'.heap.objs.size g cdv)) (.call (.ref g2) ⟨[.ref f], []⟩) (CR C8.CX0 (envOfC x sg s'.heap.objs.size g cdv :: X.stack) X.prog X.w H3 s2 Q1 C8.E0) s2 := by
        refine LamX.run_ofS (N := Ng2) (ps := [a2]) (us := [.ref f]) (vs := [.ref f]) lk2 hcg2 Sg2 hr1 I3.env0 (hb2 s2 [.ref f] I3.kIn rfl) (.cons rfl .nil) rfl fun hr2 => ?_
        have un : ∀ {Hz : Hp} {hz : Heap}, Un (frs (envOfC x sg s'.heap.objs.size g cdv :: X.stack)) [] H3 Hz s2.heap hz → Un (frs X.stack) [] H1 Hz s'.heap hz := fun uz => by
          refine un_deeper (show Un (frs X.stack) [] H1 H3 s'.heap s2.heap from I3.base) uz fun q hq => ?_
          obtain ⟨e, he, ef⟩ := List.mem_filterMap.mp hq
          rcases List.mem_cons.mp he with rfl | he
          · right
            have ef : some s'.heap.objs.size = some q := ef
            cases ef
            cases z : s'.heap.get? s'.heap.objs.size with
            | none => rfl
            | some o => exact absurd (Heap.lt_size z) (Nat.lt_irrefl _)
          · exact .inl (List.mem_filterMap.mpr ⟨e, he, ef⟩)
        have act : ∀ (W : WX) (pn : List (Addr × Obj)) (xe : Value → Shared → Prop) (E : XK) (p1 p2 : Pos), Takes ((cxOf C8.CX0 X.prog X.w X.K X.mg X.base Ng2 x2 sg2 g2 cdv2 (X.A.deeper (envOfC x sg s'.heap.objs.size g cdv)) (envOfC x sg s'.heap.objs.size g cdv :: X.stack) s2 H3 C8.E0).tr pn xe) W → (∀ cls d σ' H', E cls d H' → W cls d σ' H') →
            PE ((cxOf C8.CX0 X.prog X.w X.K X.mg X.base Ng2 x2 sg2 g2 cdv2 (X.A.deeper (envOfC x sg s'.heap.objs.size g cdv)) (envOfC x sg s'.heap.objs.size g cdv :: X.stack) s2 H3 C8.E0).tr pn xe) (.Call (.Name a2 p1) [] [] p2) (fun σZ HZ Q => σZ[0]? = some (some (.ref f)) ∧ HZ c' = some (LamX.CodeO c' (X.env.qual ++ "<lambda>")) ∧ t E σ HZ Q) := by
          intro W pn xe E p1 p2 tk hW
          exact pe_actZ (X := X) (i := 0) I1 L rfl hf hfn hfr (hbind _ _ _ _ _) (fun pz σz Hz sz Iz => un Iz.base) tk hW hr2 (fun A outer s H eg hr3 => hbody A outer s H E f c' eg hr3) hNg2 hva2 hd2 hcd2
        obtain ⟨t', ht', hq'⟩ := hG s' H1 hr1 f c' s2 H3 Q1 (fun E H' Q' => t E σ H' Q') act hc2 ht
        exact ⟨t', ht'.nox, hq'⟩
      refine wpAny_call (codeAny_mono rc2 fun r s3 hq => ?_)
      match r, hq with
      | .error e, hq => exact (show False from hq).elim
      | .ok (.ret u), hq => exact I3.after hq
    obtain ⟨u, hu1, hu2⟩ := pss_bodyW (j := j) (p1 := q1) (p5 := q5) (p6 := q6) (p7 := q7) (p8 := q8) (p9 := q9) (p10 := q10) (p11 := q11) (p12 := q12) (p13 := q13) hcall hNn hNy hNl hly hgi hmi hgs hms (hs _ rfl) hdy hcy
    exact ⟨u, hu1.nox, hu2 _ _ _ (hl0 f).2 fun Q' hQ' => ⟨(hl0 f).1, hco, h H1 eN T1 Q' hQ'⟩⟩
  refine wpAny_call (codeAny_mono rc fun r s2 hq => ?_)
  match r, hq with
  | .error e, hq => exact (show False from hq).elim
  | .ok (.ret u), hq => exact I1.after hq
end
/-! ### the reading -/
def eSaidW (rs : List Str) (C : Str → XA → Ct) (f : WE) : WE := fun env P _ =>
  f (mask env) (fun c _ => c.isSc = false ∧ P (.fz (.str "told")) env) fun x => ∃ c, c ∈ rs ∧ x = (c, none) ∧ ∀ a : Addr, C c a [.xn a] (fun c' _ => c'.isSc = false ∧ ∃ z, c'.toD = .str z ∧ P (.fz (.str z)) env) fun _ => False
section
variable {X : Cx} {W : WX}
theorem saidW_imp {T : Addr} {rs : List Str} {C : Str → XA → Ct} {f : WE} : ∀ σ H Q, semE X W (eSaidW rs C f) σ H Q → LamX.tLam (tabsK X.K) (fun tl H Q => ∀ Q' : VK, (∀ v H', wkQ Q v H' → Q' v H') → TTs X.K X.mg T true true rs C tl H Q') (fun E => semE X (fun cls d _ H => E cls d H) f) σ H Q := by
  rintro σ H Q ⟨B, F, env, P, Y, R, h, ok, xo⟩
  refine ⟨R.kept.tabs, fun H1 eN T1 Q' hQ' => ?_⟩
  have R1 := R.extN eN T1
  refine ⟨_, fun _ _ _ z => z, ?_⟩
  rw [rTold_K]
  refine ⟨bdL H1 F, F, mask env, _, _, R1.mask, h, fun c env' v H' F' ⟨sc, p⟩ R' s => ?_, fun x σ' H' cls d ⟨c, hc, ex, hC⟩ hx k => ?_⟩
  · obtain ⟨F2, s2, R2, r2⟩ := R'.freeze (fun p z => z) sc
    have R3 : Rl X.K B σ H' F2 env := R1.later (bdL_kept R2.kept) R2.kept.tabs (s.trans s2) R2.subn fun q o h => by
      rcases R2.new q o h with z | z | z | z
      · exact .inl z
      · exact .inr (.inl z)
      · exact z.elim
      · exact .inr (.inr z)
    refine ⟨by rw [sizeLine_eq]; simp, fun q hq => hQ' _ _ (.inr ⟨q, [v], rfl, upd_same, ?_⟩)⟩
    have sm : Same F2 (upd F2 q (.lst [v])) := same_new (R3.nF hq)
    exact ok _ _ _ _ _ p ((R3.grow hq).push (.str _)) ((s.trans s2).trans sm)
  · subst ex
    obtain ⟨D0, m1, e1, e2⟩ := hx
    refine ⟨c, D0, none, hc, m1, e1, e2, fun a ha => ?_⟩
    rw [rWord_K]
    have sb : SubN F H' := ⟨fun q o h => bdL_kept k q o (strip_some (R1.sub q o h) fun ps z => R1.subn.2 q ps (by rw [h, z])), R1.subn.2⟩
    have R2 : Rl X.K B σ H' F env := R1.later (bdL_kept k) k.tabs (Same.refl F) sb fun q o h => .inl h
    refine ⟨F, [.xn a], _, _, rfl, rl_xn sb k.tabs, hC a, fun c' os v H2 F2 ⟨sc, z, ez, p⟩ po => hQ' _ _ ?_, fun _ _ _ _ z => z.elim⟩
    have nl : ∀ j q, ¬ lentAt [V.ref a] [Cl.xn a] j q := fun j q ⟨⟨o, z⟩, _⟩ => by
      cases j with
      | zero => cases z
      | succ j => simp at z
    obtain ⟨F3, s3, R3, r3⟩ := post_rep R2 nl po sc
    rw [ez] at r3
    cases r3
    exact .inl ⟨z, rfl, ok _ _ _ _ _ p (R3.push (.str _)) s3⟩
theorem g_saidW {T g g2 : Addr} {rs : List Str} {C : Str → XA → Ct} {f : WE} {x y x2 a a2 lx : Str} {j : Nat} {pg pg2 : Arguments} {bg2 : List Stmt} {sg sg2 : Scope} {dvs dvs2 : List V} {kws kws2 : List (Str × V)} {fd fd2 : FuncData} {Ng Ng2 : List Str} {params : Arguments} {body : Expr} {scope : Scope} {p lpos pos : Pos} {k : Nat}
    {q1 q2 q3 q4 q5 q6 q7 q8 q9 q10 q11 q12 q13 : Pos}
    (FD : FunD X.K x x pg (bodyW y x2 a j q1 q2 q3 q4 q5 q6 q7 q8 q9 q10 q11 q12 q13) sg dvs kws g fd) (hb : Binds X.K fd [a] []) (Sg : FnScope Ng [a] sg) (hNg : Ng[0]? = some a) (hva : Vis sg a) (hg : Gl X x) (hm : X.mg x = some (.ref g))
    (FD2 : FunD X.K x2 x2 pg2 bg2 sg2 dvs2 kws2 g2 fd2) (hb2 : Binds X.K fd2 [a2] []) (Sg2 : FnScope Ng2 [a2] sg2) (hNg2 : Ng2[0]? = some a2) (hva2 : Vis sg2 a2) (hm2 : X.mg x2 = some (.ref g2))
    (hG : ∀ (A' : Around) (S' : List Env) (cdv cdg : Value) (s : Shared) (H : Hp), Room (k + 2) (X.A.deeper (envOfC x sg s.heap.objs.size g cdv)) → LamX.GivesTo (cxOf C8.CX0 X.prog X.w X.K X.mg X.base Ng x sg g cdv X.A X.stack s H C8.E0).nox Ng2 x2 sg2 g2 cdg bg2 a2 (X.env.qual ++ "<lambda>") (TTs X.K X.mg T true true rs C))
    (hgl2 : sg.names.lookup x2 = some .globalImplicit) (hdb2 : (x2 == ("__debug__" : Str)) = false) (hNn : Ng.Nodup) (hNy : Ng[1]? = some y) (hNl : Ng.length = 2) (hly : sg.names.lookup y = some .local) (hgi : sg.names.lookup ("isinstance" : Str) = some .globalImplicit) (hgs : sg.names.lookup ("str" : Str) = some .globalImplicit) (hmi : X.mg "isinstance" = none) (hms : X.mg "str" = none)
    (hs : ∀ X' : Cx, X'.env.scope = sg → swapsWith (.Call (.Name x2 q2) [.Name a q3] [] q4) (some (.Name y q1)) q5.line X'.env = pure false) (hdy : (y == ("__debug__" : Str)) = false) (hcy : (y == ("__classdict__" : Str)) = false) (hl0 : ∀ f : Addr, (L2.start Ng [V.ref f])[0]? = some (some (V.ref f)) ∧ (L2.start Ng [V.ref f]).length = 2)
    (HB : TabsB X.K X.mg X.base) (hx : lx ∈ lamNames) (hcode : ∀ c P, PySem.W.tabIn X.K lx = some (c, P) → X.env.code = .ref c) (hq : X.env.qual = lx ++ ".<locals>.")
    (hr : Room (k + 3) X.A) (L : LamX.LamS X.env.scope scope) (hdef : defaultsOf params X.env = ([], [])) (hbind : ∀ (q : Str) (cl : List (Str × Addr)) (pm cv ctv : Value), bindArgs (PySem.W.kla_fn "<lambda>" q params body scope cl pm cv ctv) ⟨[], []⟩ = pure [])
    (hbody : ∀ (A : Around) (outer : List Env) (s : Shared) (H : Hp) (E : XK) (f' c' : Addr), A.guards = X.A.guards → Room k (A.deeper (LamX.lamEnv X scope s.heap.objs.size f' c')) → PE (LamX.lamCx X A outer s H E scope f' c') body (semE X (fun cls d _ H => E cls d H) f))
    (hdb : (x == ("__debug__" : Str)) = false := by decide) (hd : (a == ("__debug__" : Str)) = false := by decide) (hcd : (a == ("__classdict__" : Str)) = false := by decide) (hd2 : (a2 == ("__debug__" : Str)) = false := by decide) (hcd2 : (a2 == ("__classdict__" : Str)) = false := by decide) :
    PE X (.Call (.Name x p) [.Lambda params body scope lpos] [] pos) (semE X W (eSaidW rs C f)) := by
  obtain ⟨_, _, _, _, _, _, _, cdv, _, _, rfl, lk, code, _, _⟩ := FD.ex
  obtain ⟨_, _, _, _, _, _, _, cdv2, _, _, rfl, lk2, code2, _, _⟩ := FD2.ex
  obtain ⟨c, Pt, ht, _⟩ := HB.tin.at_ lx hx
  have hmT : (Pt, X.env.qual ++ "<lambda>") ∈ tabsK X.K := by
    refine List.mem_filterMap.mpr ⟨lx, hx, ?_⟩
    rw [ht, hq]
    rfl
  exact peOf (pe_lamcallW (T := tabsK X.K) hg hm FD.kp lk code hb Sg hNg hva hm2 FD2.kp lk2 code2 hb2 Sg2 hNg2 hva2 (fun s H hr1 => hG X.A X.stack cdv cdv2 s H hr1) hgl2 hdb2 hNn hNy hNl hly hgi hgs hmi hms hs hdy hcy hl0
    (HB.tb lx hx c Pt ht) (hcode c Pt ht) hmT (fun p hp e => HB.tin.inj p hp _ hmT e) hr L hdef hbind hbody hdb hd hcd hd2 hcd2) saidW_imp
end
end Sw

/-! instances in lambdas: lent, or let be for a while -/
namespace Sw
open PySem PySem.Spec PyProof.Rows L2
/-! ### instances let be -/
def Cl.isFr : Cl → Bool
  | .fo _ _ => true
  | .fl _ _ => true
  | _ => false
@[simp] theorem isFr_fo {c : Str} {fs : List (Str × (D ⊕ Addr))} : (Cl.fo c fs).isFr = true := rfl
@[simp] theorem isFr_fl {a : Addr} {d : D} : (Cl.fl a d).isFr = true := rfl
@[simp] theorem isFr_io {o : OD} : (Cl.io o).isFr = false := rfl
@[simp] theorem isFr_ow {o : OD} : (Cl.ow o).isFr = false := rfl
@[simp] theorem isFr_fz {d : D} : (Cl.fz d).isFr = false := rfl
@[simp] theorem isOb_fo {c : Str} {fs : List (Str × (D ⊕ Addr))} : (Cl.fo c fs).isOb = false := rfl
@[simp] theorem isOb_fl {a : Addr} {d : D} : (Cl.fl a d).isOb = false := rfl
@[simp] theorem frz_fo {c : Str} {fs : List (Str × (D ⊕ Addr))} : (Cl.fo c fs).frz = .fo c fs := rfl
@[simp] theorem frz_fl {a : Addr} {d : D} : (Cl.fl a d).frz = .fl a d := rfl
@[simp] theorem obL_fo {c : Str} {fs : List (Str × (D ⊕ Addr))} : (Cl.fo c fs).obL? = none := rfl
@[simp] theorem obL_fl {a : Addr} {d : D} : (Cl.fl a d).obL? = none := rfl
/-- such a thing handed on -/
@[simp ↓] def eFo (i : Nat) : WE := fun env P _ => ∃ c, env[i]? = some (some c) ∧ c.isFr = true ∧ P c env
@[simp ↓] def unR : Arg → Arg
  | .v f => .v f
  | .r i => .v (eFo i)
section
variable {X : Cx} {W : WX} {B : Bd} {σ σ' : L2.St} {H F H' F' : Hp} {env : En} {Y : XP}
theorem fo_imp {i : Nat} : ∀ σ H Q, semE X W (eFo i) σ H Q → tVar i σ H Q := fun σ H Q ⟨B, F, env, P, Y, R, ⟨c, hc, fr, p⟩, ok, _⟩ => by
  obtain ⟨v, ev, r⟩ := R.cell i c hc
  refine ⟨v, ev, ?_⟩
  cases c with
  | fo _ _ => exact ok _ _ _ _ _ p (R.pushFo r) (Same.refl F)
  | fl _ _ => exact ok _ _ _ _ _ p (R.pushFl r) (Same.refl F)
  | _ => cases fr
theorem tArgs_unR : ∀ {as : List Arg} {σ : L2.St} {H : Hp} {Q : List V → Hp → Prop}, tArgs X W (as.map unR) σ H Q → tArgs X W as σ H Q
  | [], _, _, _, h => h
  | .v g :: as, σ, H, Q, h => by
    obtain ⟨B, F, env, P, Y, R, q, ok, x⟩ := h
    exact ⟨B, F, env, P, Y, R, q, fun c env' v H' F' p R' s => tArgs_unR (ok c env' v H' F' p R' s), x⟩
  | .r i :: as, σ, H, Q, h => by
    obtain ⟨v, e, q⟩ := fo_imp σ H _ h
    exact ⟨v, e, tArgs_unR q⟩
theorem lent_unR : ∀ {as : List Arg}, lentOf (as.map unR) = []
  | [] => rfl
  | .v _ :: r => lent_unR (as := r)
  | .r _ :: r => lent_unR (as := r)
/-- a call, what is lent otherwise let be for its while -/
theorem callF_imp {C : Ct} {as : List Arg} {gl : List Nat} {n g : Nat} (hn : as.length = n) (hg : gl.length = g) : ∀ σ H Q, semE X W (eCall C ((as ++ gl.map Arg.r).map unR)) σ H Q → tCallS (spN X.K X.mg n g 0 C) (L2.WE W) (tArgs X W as) σ H Q := fun σ H Q ⟨B, F, env, P, Y, R, h, ok, x⟩ => by
  have nd : (lentOf ((as ++ gl.map Arg.r).map unR)).Nodup := by rw [lent_unR]; exact List.nodup_nil
  have key : tArgs X W ((as ++ gl.map Arg.r).map unR) σ H fun vs H' => ∃ (F : Hp) (cs : List Cl) (P : Cl → List OD → Prop) (Y : XP), Rl X.K (bdOf H' F vs cs) (vs.map some) H' F (cs.map some) ∧ C cs P Y ∧
      (∀ c os v H2 F2, P c os → PostOk X.K H' F vs cs c os v H2 F2 → Q v H2) ∧ (∀ x cls d H2, Y x → ExnIs X.mg H2 x cls d → Kept X.K (bdOf H' F vs cs) H2 → L2.WE W σ cls d H2) :=
    evA_ok R h x fun cs env' vs H' F' hc R' s l => ⟨F', cs, _, Y, l.entry R' nd, hc, fun c os v H2 F2 p q => ok _ _ _ _ _ p (q.after R' l nd) (s.trans q.s1), fun e cls d H2 y i k => x e σ H2 cls d y i (kept_call R' l k)⟩
  refine tArgs_mono (tArgs_app (tArgs_unR key)) fun vs H1 ⟨hl, q⟩ => ?_
  obtain ⟨zs, zl, F', cs, P', Y', R', hc, k1, k2⟩ := tArgs_r q
  refine ⟨zs, F', cs, P', Y', hl.trans hn, zl.trans hg, R', hc, fun c os ns zs' v H2 F2 h0 p po _ => ?_, k2⟩
  have : ns = [] := List.length_eq_zero_iff.mp h0
  subst this
  rw [List.append_nil] at p
  exact k1 c os v H2 F2 p po
def eMethX (c m : Str) (i : Nat) (C : Ct) (as : List Arg) : WE := fun env P Y => eMeth c m i C as env P Y ∨ ((∃ fs, env[i]? = some (some (.fo c fs)) ∧ noF fs m) ∧ eCall C ((.r i :: as).map unR) env P Y)
@[simp ↓] def eCallY (C : Ct) (as : List Arg) : WE := fun env P Y => eCall C as env P Y ∨ eCall C (as.map unR) env P Y
@[simp ↓] theorem eMethX_eq {c m : Str} {i : Nat} {C : Ct} {as : List Arg} {env : En} {P : EK} {Y : XP} : eMethX c m i C as env P Y = (((∃ cl fs, env[i]? = some (some cl) ∧ cl.obL? = some (c, fs) ∧ noF fs m) ∧ eCall C (.r i :: as) env P Y) ∨ ((∃ fs, env[i]? = some (some (.fo c fs)) ∧ noF fs m) ∧ eCall C ((.r i :: as).map unR) env P Y)) := by
  unfold eMethX
  rw [eMeth_eq]
theorem methX_imp {c m : Str} {C : Addr} {i : Nat} {Ct : Ct} {as : List Arg} {gl : List Nat} {n g : Nat} (hC : clsN X.K c C) (hn : as.length + 1 = n) (hg : gl.length = g) (nd : (lentOf (.r i :: (as ++ gl.map Arg.r))).Nodup) : ∀ σ H Q, semE X W (eMethX c m i Ct (as ++ gl.map Arg.r)) σ H Q → tMethG C m (spN X.K X.mg n g 0 Ct) (L2.WE W) (tVar i) (tArgs X W as) σ H Q := fun σ H Q ⟨B, F, env, P, Y, R, h, ok, x⟩ => by
  rcases h with h | ⟨⟨fs, ho, hl⟩, h⟩
  · exact meth_imp hC hn hg nd σ H Q ⟨B, F, env, P, Y, R, h, ok, x⟩
  · obtain ⟨w, ep, p, C', dx, vs, rfl, hc', h1, h2, fa⟩ := R.cell i _ ho
    have : C' = C := cls_one hC hc'
    subst this
    have z := callF_imp (C := Ct) (as := .r i :: as) (gl := gl) (n := n) (g := g) (by simpa using hn) hg σ H Q ⟨B, F, env, P, Y, R, h, ok, x⟩
    obtain ⟨v, ev, z⟩ := z
    rw [ep] at ev
    cases ev
    exact ⟨_, ep, p, dx, vs, rfl, R.sub _ _ h1, fa.look hl, z⟩
theorem callX_imp {C : Ct} {as : List Arg} {gl : List Nat} {n g : Nat} (hn : as.length = n) (hg : gl.length = g) (nd : (lentOf (as ++ gl.map Arg.r)).Nodup) : ∀ σ H Q, semE X W (eCallY C (as ++ gl.map Arg.r)) σ H Q → tCallS (spN X.K X.mg n g 0 C) (L2.WE W) (tArgs X W as) σ H Q := fun σ H Q ⟨B, F, env, P, Y, R, h, ok, x⟩ => by
  rcases h with h | h
  · exact callN_imp hn hg nd σ H Q ⟨B, F, env, P, Y, R, h, ok, x⟩
  · exact callF_imp hn hg σ H Q ⟨B, F, env, P, Y, R, h, ok, x⟩
end
section
variable {X : Cx} {W : WX} {k k' n g r : Nat} {fa C : Addr} {fd : FuncData} {ps : List Str} {c y m : Str} {es : List Expr} {e o : Expr} {p1 p2 pos apos : Pos} {Ct : Ct} {as : List Arg} {gl : List Nat} {i : Nat}
theorem g_methX (pl : Sem Bool) (hO : PE X o (tVar i)) (hC : clsN X.K c C) (cl : Cls X.K C) (hm : Meth X.K C m fa) (FO : FnG X.prog X.w X.K X.mg X.base k fa fd ps (spN X.K X.mg n g 0 Ct)) (gd : X.A.guards = some []) (hr : Room k' X.A) (hk : k ≤ k') (hbn : Binds X.K fd ps []) (tk : Takes X W) (hA : PA X (e :: es) (tArgs X W as))
    (hn : as.length + 1 = n := by rfl) (hg : gl.length = g := by rfl) (nd : (lentOf (.r i :: (as ++ gl.map Arg.r))).Nodup := by decide) (s1 : starEach (e :: es) X.env = (false, eval e X.env) :: starEach es X.env := by rfl) (s2 : (backTo pos (starEach es X.env)).any (·.1) = false := by rfl)
    (s3 : eval (.Call (.Attribute o m apos) (e :: es) [] pos) X.env = (do
      let recv ← eval o X.env
      standAt apos.atName
      let (g, hd) ← holding [recv] (getMethod recv m pl)
      callWith pos g hd (backTo pos (starEach (e :: es) X.env)) (backToKw pos (keywordEach [] X.env))) := by rfl) : PE X (.Call (.Attribute o m apos) (e :: es) [] pos) (semE X W (eMethX c m i Ct (as ++ gl.map Arg.r))) :=
  peOf (pe_methG (pl := pl) hO cl hm FO gd (hr.mono hk) hbn (passAt tk) hA s1 s2 s3) (methX_imp hC hn hg nd)
theorem g_methX0 (pl : Sem Bool) (hO : PE X o (tVar i)) (hC : clsN X.K c C) (cl : Cls X.K C) (hm : Meth X.K C m fa) (FO : FnG X.prog X.w X.K X.mg X.base k fa fd ps (spN X.K X.mg 1 g 0 Ct)) (gd : X.A.guards = some []) (hr : Room k' X.A) (hk : k ≤ k') (hbn : Binds X.K fd ps []) (tk : Takes X W)
    (hg : gl.length = g := by rfl) (nd : (lentOf (.r i :: ([] ++ gl.map Arg.r))).Nodup := by decide)
    (s3 : eval (.Call (.Attribute o m apos) [] [] pos) X.env = (do
      let recv ← eval o X.env
      standAt apos.atName
      let (g, hd) ← holding [recv] (getMethod recv m pl)
      callWith pos g hd (backTo pos (starEach [] X.env)) (backToKw pos (keywordEach [] X.env))) := by rfl) : PE X (.Call (.Attribute o m apos) [] [] pos) (semE X W (eMethX c m i Ct ([] ++ gl.map Arg.r))) :=
  peOf (pe_methG0 (pl := pl) hO cl hm FO gd (hr.mono hk) hbn (passAt tk) s3) (methX_imp (as := []) (n := 1) hC rfl hg nd)
theorem g_callX2 (FO : FnG X.prog X.w X.K X.mg X.base k fa fd ps (spN X.K X.mg n g 0 Ct)) (gd : X.A.guards = some []) (hr : Room k' X.A) (hk : k ≤ k') (hm : X.mg y = some (.ref fa)) (kp : PySem.W.keepIn X.K (.ref fa) = true) (hbn : Binds X.K fd ps []) (tk : Takes X W) (hgl : Gl X y) (hA : PA X (e :: es) (tArgs X W as))
    (hn : as.length = n := by rfl) (hg : gl.length = g := by rfl) (nd : (lentOf (as ++ gl.map Arg.r)).Nodup := by decide) (hdb : (y == ("__debug__" : Str)) = false := by decide) (he : starEach (e :: es) X.env = (false, eval e X.env) :: starEach es X.env := by rfl) (hpl : (backTo p2 (starEach es X.env)).any (·.1) = false := by rfl) : PE X (.Call (.Name y p1) (e :: es) [] p2) (semE X W (eCallY Ct (as ++ gl.map Arg.r))) :=
  peOf (pe_callG FO gd (hr.mono hk) hm kp hbn (passAt tk) hgl hA hdb he hpl) (callX_imp hn hg nd)
end
/-! ### a lambda that is lent instances -/
def maskD : Option Cl → Option Cl
  | some (.fz d) => some (.fz d)
  | _ => none
def lendC : Option Cl → Option Cl
  | some (.ow o) => some (.io o)
  | some (.io o) => some (.io o)
  | c => maskD c
def frzO : OD → Option Cl
  | .ob c fs => some (.fo c fs)
  | .oba _ c fs => some (.fo c fs)
  | .lsa a xs => some (.fl a (.list xs))
  | .dca a kvs => some (.fl a (.dict kvs))
  | _ => none
def frzC : Option Cl → Option Cl
  | some (.ow o) => frzO o
  | some (.io o) => frzO o
  | c => maskD c
def backC : Option Cl → Option Cl → Option Cl
  | some (.ow _), some (.io o) => some (.ow o)
  | some (.io _), some (.io o) => some (.io o)
  | c, _ => c
/-- what the lambda sees: what stays; at the slots is, things lent -/
def maskI (is : List Nat) : Nat → En → En
  | _, [] => []
  | k, c :: r => (if is.contains k then lendC c else maskD c) :: maskI is (k + 1) r
/-- .. or let be for its while -/
def maskF (is : List Nat) : Nat → En → En
  | _, [] => []
  | k, c :: r => (if is.contains k then frzC c else maskD c) :: maskF is (k + 1) r
/-- .. and how they stand behind it -/
def backI (is : List Nat) : Nat → En → En → En
  | k, c :: r, d :: s => (if is.contains k then backC c d else c) :: backI is (k + 1) r s
  | _, r, _ => r
theorem maskI_len {is : List Nat} : ∀ {env : En} {k : Nat}, (maskI is k env).length = env.length
  | [], _ => rfl
  | _ :: r, k => congrArg (· + 1) (maskI_len (env := r) (k := k + 1))
theorem maskF_len {is : List Nat} : ∀ {env : En} {k : Nat}, (maskF is k env).length = env.length
  | [], _ => rfl
  | _ :: r, k => congrArg (· + 1) (maskF_len (env := r) (k := k + 1))
theorem backI_len {is : List Nat} : ∀ {env e2 : En} {k : Nat}, (backI is k env e2).length = env.length
  | [], [], _ => rfl
  | [], _ :: _, _ => rfl
  | _ :: _, [], _ => rfl
  | _ :: r, _ :: s, k => congrArg (· + 1) (backI_len (env := r) (e2 := s) (k := k + 1))
theorem maskI_get {is : List Nat} : ∀ {env : En} {k i : Nat}, (maskI is k env)[i]? = (env[i]?).map fun c => if is.contains (k + i) then lendC c else maskD c
  | [], _, _ => by simp [maskI]
  | c :: r, k, 0 => by simp [maskI]
  | c :: r, k, i + 1 => by
    unfold maskI
    rw [List.getElem?_cons_succ, List.getElem?_cons_succ, maskI_get, show k + 1 + i = k + (i + 1) by omega]
theorem maskF_get {is : List Nat} : ∀ {env : En} {k i : Nat}, (maskF is k env)[i]? = (env[i]?).map fun c => if is.contains (k + i) then frzC c else maskD c
  | [], _, _ => by simp [maskF]
  | c :: r, k, 0 => by simp [maskF]
  | c :: r, k, i + 1 => by
    unfold maskF
    rw [List.getElem?_cons_succ, List.getElem?_cons_succ, maskF_get, show k + 1 + i = k + (i + 1) by omega]
theorem backI_get {is : List Nat} : ∀ {env e2 : En} {k i : Nat}, env.length = e2.length → (backI is k env e2)[i]? = (env[i]?).map fun c => if is.contains (k + i) then backC c ((e2[i]?).getD none) else c
  | [], [], _, _, _ => by simp [backI]
  | [], _ :: _, _, _, h => by cases h
  | _ :: _, [], _, _, h => by cases h
  | c :: r, d :: s, k, 0, _ => by simp [backI]
  | c :: r, d :: s, k, i + 1, h => by
    unfold backI
    rw [List.getElem?_cons_succ, List.getElem?_cons_succ, List.getElem?_cons_succ, backI_get (by simpa using h), show k + 1 + i = k + (i + 1) by omega]
section
variable {K : PySem.W.Frag} {B : Bd} {σ : L2.St} {H F H' F' : Hp} {env e2 : En} {is : List Nat}
theorem maskD_fz {c : Option Cl} {d : Cl} (h : maskD c = some d) : (∃ x, d = .fz x) ∧ c = some d := by
  cases c with
  | none => cases h
  | some c => cases c <;> first | (cases h; exact ⟨⟨_, rfl⟩, rfl⟩) | cases h
theorem lendC_io {c : Option Cl} {d : Cl} (h : lendC c = some d) : (∃ x, d = .fz x ∧ c = some d) ∨ ∃ o, d = .io o ∧ (c = some (.ow o) ∨ c = some (.io o)) := by
  cases c with
  | none => cases h
  | some c =>
    cases c <;> first
      | (cases h; exact .inl ⟨_, rfl, rfl⟩)
      | (cases h; exact .inr ⟨_, rfl, .inl rfl⟩)
      | (cases h; exact .inr ⟨_, rfl, .inr rfl⟩)
      | cases h
/-- which things are lent to the lambda -/
def bdI (is : List Nat) (σ : L2.St) (H F : Hp) (env : En) : Bd := ⟨strip H, F, fun i p => is.contains i = true ∧ (∃ c : Cl, env[i]? = some (some c) ∧ c.own = true) ∧ σ[i]? = some (some (.ref p)), fun _ => False⟩
theorem maskI_at {i : Nat} {c : Cl} (h : (maskI is 0 env)[i]? = some (some c)) : (∃ d, c = .fz d ∧ env[i]? = some (some c)) ∨ (is.contains i = true ∧ ∃ o, c = .io o ∧ (env[i]? = some (some (.ow o)) ∨ env[i]? = some (some (.io o)))) := by
  rw [maskI_get, Nat.zero_add] at h
  cases e : env[i]? with
  | none => rw [e] at h; cases h
  | some x =>
    rw [e] at h
    have h : (if is.contains i = true then lendC x else maskD x) = some c := by simpa using h
    by_cases hi : is.contains i = true
    · rw [if_pos hi] at h
      rcases lendC_io h with ⟨d, a, b⟩ | ⟨o, a, b | b⟩
      · exact .inl ⟨d, a, by rw [b]⟩
      · exact .inr ⟨hi, o, a, .inl (by rw [b])⟩
      · exact .inr ⟨hi, o, a, .inr (by rw [b])⟩
    · rw [if_neg hi] at h
      obtain ⟨⟨d, a⟩, b⟩ := maskD_fz h
      exact .inl ⟨d, a, by rw [b]⟩
theorem Rl.maskI (R : Rl K B σ H F env) : Rl K (bdI is σ H F env) σ H F (maskI is 0 env) where
  len := by rw [maskI_len]; exact R.len
  subn := R.subn
  ext := Same.refl F
  new := fun _ _ h => .inl h
  kept := ⟨fun _ _ h _ _ => (strip_get h).1, fun q ps h => (strip_get h).2 ps rfl, R.kept.tabs⟩
  cell := fun i c h => by
    rcases maskI_at h with ⟨d, rfl, e⟩ | ⟨_, o, rfl, e | e⟩
    · exact R.cell i _ e
    · exact R.cell i (.ow o) e
    · exact R.cell i (.io o) e
  own := fun i o p h _ => by
    rcases maskI_at h with ⟨d, z, _⟩ | ⟨_, o, z, _⟩ <;> cases z
  ion := fun i o p h es => by
    rcases maskI_at h with ⟨d, z, _⟩ | ⟨hi, o', z, e⟩
    · cases z
    · exact ⟨hi, e.elim (fun e => ⟨_, e, rfl⟩) fun e => ⟨_, e, rfl⟩, es⟩
  ioc := fun i p h => by
    obtain ⟨hi, ⟨c, e, oc⟩, es⟩ := h
    refine ⟨es, ?_⟩
    rw [maskI_get, Nat.zero_add, e]
    simp only [Option.map_some, hi, if_true]
    cases c with
    | ow o => exact ⟨o, rfl⟩
    | io o => exact ⟨o, rfl⟩
    | _ => cases oc
  dist := fun i j c c' p h o e h' o' e' => by
    have real : ∀ {i : Nat} {c : Cl}, (Sw.maskI is 0 env)[i]? = some (some c) → c.own = true → ∃ c0, env[i]? = some (some c0) ∧ c0.own = true := fun {i c} h o => by
      rcases maskI_at h with ⟨d, rfl, _⟩ | ⟨_, u, rfl, e | e⟩
      · cases o
      · exact ⟨_, e, rfl⟩
      · exact ⟨_, e, rfl⟩
    obtain ⟨c1, h1, o1⟩ := real h o
    obtain ⟨c2, h2, o2⟩ := real h' o'
    exact R.dist i j c1 c2 p h1 o1 e h2 o2 e'
theorem backI_at {i : Nat} {c : Cl} (hl : env.length = e2.length) (h : (backI is 0 env e2)[i]? = some (some c)) :
    (env[i]? = some (some c) ∧ (is.contains i = true → c.own = true → ∀ o, e2[i]? ≠ some (some (.io o)))) ∨ (is.contains i = true ∧ ∃ o o0, e2[i]? = some (some (.io o)) ∧ ((c = .ow o ∧ env[i]? = some (some (.ow o0))) ∨ (c = .io o ∧ env[i]? = some (some (.io o0))))) := by
  rw [backI_get hl, Nat.zero_add] at h
  cases e : env[i]? with
  | none => rw [e] at h; cases h
  | some x =>
    rw [e] at h
    have h : (if is.contains i = true then backC x ((e2[i]?).getD none) else x) = some c := by simpa using h
    by_cases hi : is.contains i = true
    · rw [if_pos hi] at h
      cases q : e2[i]? with
      | none =>
        rw [q] at h
        have hx : x = some c := by
          cases x with
          | none => cases h
          | some y => cases y <;> exact h
        exact .inl ⟨by rw [hx], fun _ _ o z => by cases z⟩
      | some y =>
        rw [q] at h
        have h : backC x y = some c := h
        cases x with
        | none => cases h
        | some x =>
          cases y with
          | none =>
            have hx : x = c := by cases x <;> (cases h; rfl)
            exact .inl ⟨by rw [hx], fun _ _ o z => by cases z⟩
          | some y =>
            cases x with
            | ow o0 =>
              cases y with
              | io o => cases h; exact .inr ⟨hi, o, o0, rfl, .inl ⟨rfl, rfl⟩⟩
              | _ => cases h; exact .inl ⟨rfl, fun _ _ o z => by cases z⟩
            | io o0 =>
              cases y with
              | io o => cases h; exact .inr ⟨hi, o, o0, rfl, .inr ⟨rfl, rfl⟩⟩
              | _ => cases h; exact .inl ⟨rfl, fun _ _ o z => by cases z⟩
            | _ => cases h; exact .inl ⟨rfl, fun _ oc => by cases oc⟩
    · rw [if_neg hi] at h
      exact .inl ⟨by rw [h], fun z => absurd z hi⟩
/-- behind the lambda: what was lent is back -/
theorem Rl.backI (R : Rl K B σ H F env) (R2 : Rl K (bdI is σ H F env) σ H' F' e2) : Rl K B σ H' F' (backI is 0 env e2) := by
  have hl : env.length = e2.length := R.len.trans R2.len.symm
  -- what is no lent thing stands yet
  have keep : ∀ q o, strip H q = some o → (∀ (j : Nat) (c : Cl), is.contains j = true → env[j]? = some (some c) → c.own = true → σ[j]? ≠ some (some (.ref q))) → H' q = some o := fun q o h n =>
    R2.kept.keep q o h (fun ⟨j, hj, ⟨c, e, oc⟩, es⟩ => n j c hj e oc es) fun z => z
  -- each slot lent is lent yet
  have lent : ∀ (j : Nat) (c : Cl) (p : Addr), is.contains j = true → env[j]? = some (some c) → c.own = true → σ[j]? = some (some (.ref p)) → ∃ o, e2[j]? = some (some (.io o)) := fun j c p hj e oc es => (R2.ioc j p ⟨hj, ⟨c, e, oc⟩, es⟩).2
  have notlent : ∀ (j : Nat) (c : Cl), env[j]? = some (some c) → c.own = true → is.contains j = true → ∃ p o, σ[j]? = some (some (.ref p)) ∧ e2[j]? = some (some (.io o)) := fun j c e oc hj => by
    obtain ⟨p, es, _⟩ := R.at e oc
    obtain ⟨o, eo⟩ := lent j c p hj e oc es
    exact ⟨p, o, es, eo⟩
  have real : ∀ {i : Nat} {c : Cl}, (Sw.backI is 0 env e2)[i]? = some (some c) → c.own = true → ∃ c0, env[i]? = some (some c0) ∧ c0.own = true := fun {i c} h o => by
    rcases backI_at hl h with ⟨e, _⟩ | ⟨_, o1, o0, _, ⟨rfl, e⟩ | ⟨rfl, e⟩⟩
    · exact ⟨c, e, o⟩
    · exact ⟨_, e, rfl⟩
    · exact ⟨_, e, rfl⟩
  refine ⟨by rw [backI_len]; exact R.len, R2.subn, R.ext.trans R2.ext, fun q o h => ?_, ⟨fun q o h1 h2 h3 => ?_, R.kept.nt, R2.kept.tabs⟩, fun i c h => ?_, fun i o p h e => ?_, fun i o p h e => ?_, fun i p h => ?_, fun i j c c' p h o e h' o' e' => ?_⟩
  · rcases R2.new q o h with z | z | z | z
    · exact R.new q o z
    · exact .inr (up3 (R.freeS z))
    · exact z.elim
    · exact .inr (.inr (.inr z))
  · refine keep q o (strip_some (R.kept.keep q o h1 h2 h3) fun ps z => by rw [z] at h1; exact R.kept.nt q ps h1) fun j c hj e oc es => ?_
    cases c with
    | ow u =>
      rcases R.own j u q e es with z | z
      · rw [h1] at z; cases z
      · exact h3 z
    | io u => exact h2 ⟨j, R.ion j u q e es⟩
    | _ => cases oc
  · rcases backI_at hl h with ⟨e, hno⟩ | ⟨hi, o, o0, eo, alt⟩
    · obtain ⟨v, ev, r⟩ := R.cell i c e
      refine ⟨v, ev, r.keep R2.ext fun p u oc hv hu hn => ?_⟩
      rw [hv] at ev
      obtain ⟨p', e', _, u', hu', hs, _⟩ := R.atS e oc
      rw [ev] at e'
      cases e'
      rw [hu] at hu'
      cases hu'
      have ni : ¬ is.contains i = true := fun hi => by
        obtain ⟨_, o, _, eo⟩ := notlent i c e oc hi
        exact hno hi oc o eo
      have hk : H' p = some u := keep p u hs fun j c' hj ej ocj esj => by
        have := R.dist i j c c' p e oc ev ej ocj esj
        exact ni (by rw [this]; exact hj)
      refine ⟨?_, hk⟩
      cases z : F' p with
      | none => rfl
      | some w =>
        rcases R2.new p w z with y | y | y | y
        · have y : F p = some w := y
          rw [hn] at y; cases y
        · have y : strip H p = none := y
          rw [hs] at y; cases y
        · exact y.elim
        · have e1 := R2.sub p w z
          rw [hk] at e1
          cases e1
          exact (R.ntup e oc ev hu y).elim
    · obtain ⟨v, ev, r⟩ := R2.cell i _ eo
      refine ⟨v, ev, ?_⟩
      rcases alt with ⟨rfl, _⟩ | ⟨rfl, _⟩ <;> exact r
  · rcases backI_at hl h with ⟨e0, _⟩ | ⟨_, o1, o0, _, ⟨z, e0⟩ | ⟨z, e0⟩⟩
    · exact R.own i o p e0 e
    · exact R.own i o0 p e0 e
    · cases z
  · rcases backI_at hl h with ⟨e0, _⟩ | ⟨_, o1, o0, _, ⟨z, e0⟩ | ⟨z, e0⟩⟩
    · exact R.ion i o p e0 e
    · cases z
    · exact R.ion i o0 p e0 e
  · obtain ⟨e1, o, eo⟩ := R.ioc i p h
    refine ⟨e1, ?_⟩
    rw [backI_get hl, Nat.zero_add, eo]
    by_cases hi : is.contains i = true
    · obtain ⟨o', eo'⟩ := lent i _ p hi eo rfl e1
      simp only [Option.map_some, hi, if_true, eo', Option.getD_some]
      exact ⟨o', rfl⟩
    · simp only [Option.map_some, hi]
      exact ⟨o, rfl⟩
  · obtain ⟨c1, h1, o1⟩ := real h o
    obtain ⟨c2, h2, o2⟩ := real h' o'
    exact R.dist i j c1 c2 p h1 o1 e h2 o2 e'
/-- what the lambda sees let be -/
noncomputable def frzF (is : List Nat) (σ : L2.St) (H F : Hp) (env : En) : Hp := fun q => by
  classical
  exact if (∃ (i : Nat) (c : Cl), is.contains i = true ∧ env[i]? = some (some c) ∧ c.own = true ∧ σ[i]? = some (some (.ref q))) then H q else F q
theorem frzF_in {i : Nat} {c : Cl} {q : Addr} (h1 : is.contains i = true) (h2 : env[i]? = some (some c)) (h3 : c.own = true) (h4 : σ[i]? = some (some (.ref q))) : frzF is σ H F env q = H q := by
  unfold frzF
  exact if_pos ⟨i, c, h1, h2, h3, h4⟩
theorem frzF_same (R : Rl K B σ H F env) : Same F (frzF is σ H F env) := fun q o h => by
  unfold frzF
  by_cases e : ∃ (i : Nat) (c : Cl), is.contains i = true ∧ env[i]? = some (some c) ∧ c.own = true ∧ σ[i]? = some (some (.ref q))
  · rw [if_pos e]; exact R.sub q o h
  · rw [if_neg e]; exact h
theorem frzF_sub (R : Rl K B σ H F env) : SubN (frzF is σ H F env) H := by
  refine ⟨fun q o h => ?_, fun q ps h => ?_⟩
  · unfold frzF at h
    by_cases e : ∃ (i : Nat) (c : Cl), is.contains i = true ∧ env[i]? = some (some c) ∧ c.own = true ∧ σ[i]? = some (some (.ref q))
    · rw [if_pos e] at h; exact h
    · rw [if_neg e] at h; exact R.sub q o h
  · unfold frzF at h
    by_cases e : ∃ (i : Nat) (c : Cl), is.contains i = true ∧ env[i]? = some (some c) ∧ c.own = true ∧ σ[i]? = some (some (.ref q))
    · rw [if_pos e] at h
      obtain ⟨i, c, _, ec, oc, es⟩ := e
      obtain ⟨p, e', _, u, hu, _, nt, _⟩ := R.atS ec oc
      rw [es] at e'
      cases e'
      rw [h] at hu
      cases hu
      exact nt ps rfl
    · rw [if_neg e] at h; exact R.subn.2 q ps h
theorem frzC_at {c : Option Cl} {d : Cl} (h : frzC c = some d) : (∃ x, d = .fz x ∧ c = some d) ∨ ∃ o, frzO o = some d ∧ (c = some (.ow o) ∨ c = some (.io o)) := by
  cases c with
  | none => cases h
  | some c =>
    cases c <;> first
      | (cases h; exact .inl ⟨_, rfl, rfl⟩)
      | exact .inr ⟨_, h, .inl rfl⟩
      | exact .inr ⟨_, h, .inr rfl⟩
      | cases h
theorem frzO_own {o : OD} {d : Cl} (h : frzO o = some d) : d.own = false := by
  cases o <;> first | (cases h; rfl) | cases h
theorem frzO_rep {o : OD} {d : Cl} {p : Addr} (h : frzO o = some d) (s : Same F F') (e : ∀ u, H p = some u → F' p = some u) (ho : OwnAt K H F p o) : RepC K H F' (.ref p) d := by
  cases o with
  | ob c fs =>
    cases h
    obtain ⟨C, dx, vs, hc, h1, h2, h3⟩ := ho
    exact ⟨p, C, dx, vs, rfl, hc, e _ h1, s _ _ h2, h3.mono s⟩
  | oba a c fs =>
    cases h
    obtain ⟨_, C, dx, vs, hc, h1, h2, h3⟩ := ho
    exact ⟨p, C, dx, vs, rfl, hc, e _ h1, s _ _ h2, h3.mono s⟩
  | lsa a xs =>
    cases h
    obtain ⟨rfl, vs, h1, h2⟩ := ho
    exact ⟨rfl, .lst (e _ h1) (h2.mono s)⟩
  | dca a kvs =>
    cases h
    obtain ⟨rfl, ho⟩ := ho
    refine ⟨rfl, ?_⟩
    rcases ho with ⟨kv, es, h1, rfl, h2⟩ | ⟨kv, es, h1, rfl, h2⟩
    · exact .dK (e _ h1) (h2.mono s)
    · exact .dT (e _ h1) (h2.mono s)
  | _ => cases h
theorem maskF_at {i : Nat} {c : Cl} (h : (maskF is 0 env)[i]? = some (some c)) : (∃ d, c = .fz d ∧ env[i]? = some (some c)) ∨ (is.contains i = true ∧ ∃ o, frzO o = some c ∧ (env[i]? = some (some (.ow o)) ∨ env[i]? = some (some (.io o)))) := by
  rw [maskF_get, Nat.zero_add] at h
  cases e : env[i]? with
  | none => rw [e] at h; cases h
  | some x =>
    rw [e] at h
    have h : (if is.contains i = true then frzC x else maskD x) = some c := by simpa using h
    by_cases hi : is.contains i = true
    · rw [if_pos hi] at h
      rcases frzC_at h with ⟨d, a, b⟩ | ⟨o, a, b | b⟩
      · exact .inl ⟨d, a, by rw [b]⟩
      · exact .inr ⟨hi, o, a, .inl (by rw [b])⟩
      · exact .inr ⟨hi, o, a, .inr (by rw [b])⟩
    · rw [if_neg hi] at h
      obtain ⟨⟨d, a⟩, b⟩ := maskD_fz h
      exact .inl ⟨d, a, by rw [b]⟩
theorem maskF_own {i : Nat} {c : Cl} (h : (maskF is 0 env)[i]? = some (some c)) : c.own = false := by
  rcases maskF_at h with ⟨d, rfl, _⟩ | ⟨_, o, e, _⟩
  · rfl
  · exact frzO_own e
theorem Rl.maskF (R : Rl K B σ H F env) : Rl K (bdL H (frzF is σ H F env)) σ H (frzF is σ H F env) (maskF is 0 env) where
  len := by rw [maskF_len]; exact R.len
  subn := frzF_sub R
  ext := Same.refl _
  new := fun _ _ h => .inl h
  kept := ⟨fun _ _ h _ _ => (strip_get h).1, fun q ps h => (strip_get h).2 ps rfl, R.kept.tabs⟩
  cell := fun i c h => by
    rcases maskF_at h with ⟨d, rfl, e⟩ | ⟨hi, o, eo, e⟩
    · obtain ⟨v, ev, r⟩ := R.cell i _ e
      exact ⟨v, ev, Rep.mono (frzF_same R) r⟩
    · have main : ∀ cl : Cl, cl.own = true → env[i]? = some (some cl) → (∀ v, RepC K H F v cl → ∃ p, v = .ref p ∧ F p = none ∧ OwnAt K H F p o) → ∃ v, σ[i]? = some (some v) ∧ RepC K H (frzF is σ H F env) v c := fun cl oc e hr => by
        obtain ⟨v, ev, r⟩ := R.cell i _ e
        obtain ⟨p, rfl, n, q⟩ := hr v r
        exact ⟨_, ev, frzO_rep eo (frzF_same R) (fun u hu => by rw [frzF_in hi e oc ev]; exact hu) q⟩
      rcases e with e | e
      · exact main _ rfl e fun v r => r
      · exact main _ rfl e fun v r => r
  own := fun i o p h _ => by have := maskF_own h; cases this
  ion := fun i o p h _ => by have := maskF_own h; cases this
  ioc := fun i p h => h.elim
  dist := fun i j c c' p h o _ h' o' _ => by rw [maskF_own h] at o; cases o
end
/-! ### the def that catches, handed such a lambda -/
def eSaidO (is : List Nat) (b1 b2 : Bool) (rs : List Str) (C : Str → XA → Ct) (f : WE) : WE := fun env P _ =>
  (f (maskI is 0 env) (fun c env2 => c.isSc = false ∧ P (.fz (toldD b1 c.toD)) (backI is 0 env env2)) fun _ => False) ∨
  (f (maskF is 0 env) (fun _ _ => False) fun x => ∃ c, c ∈ rs ∧ x = (c, none) ∧ ∀ a : Addr, C c a [.xn a] (fun c' _ => c'.isSc = false ∧ P (.fz (wordD b2 c'.toD)) env) fun _ => False)
section
variable {X : Cx} {W : WX} {K : PySem.W.Frag} {B : Bd} {σ : L2.St} {H F : Hp} {env : En}
theorem saidO_imp {is : List Nat} {T : Addr} {b1 b2 : Bool} {rs : List Str} {C : Str → XA → Ct} {f : WE} : ∀ σ H Q, semE X W (eSaidO is b1 b2 rs C f) σ H Q → LamX.tLam (tabsK X.K) (TTs X.K X.mg T b1 b2 rs C) (fun E => semE X (fun cls d _ H => E cls d H) f) σ H Q := by
  rintro σ H Q ⟨B, F, env, P, Y, R, h, ok, xo⟩
  refine ⟨R.kept.tabs, fun H1 eN T1 => ?_⟩
  have R1 := R.extN eN T1
  rcases h with h | h
  · refine ⟨fun _ _ _ => False, fun _ _ _ z => z.elim, ?_⟩
    rw [rTold_K]
    refine ⟨bdI is σ H1 F env, F, maskI is 0 env, _, _, R1.maskI, h, fun c env2 v H' F' ⟨sc, p⟩ R' s => ?_, fun x σ' H' cls d z => z.elim⟩
    obtain ⟨F2, s2, R2, r2⟩ := R'.freeze (fun p z => by
      have := (List.getElem?_eq_some_iff.mp z.2.2).1
      exact Nat.lt_irrefl _ this) sc
    exact wrap_told (R1.backI R2) r2 (s.trans s2) p ok
  · refine ⟨_, fun _ _ _ z => z, ?_⟩
    rw [rTold_K]
    refine ⟨bdL H1 (frzF is σ H1 F env), frzF is σ H1 F env, maskF is 0 env, _, _, R1.maskF, h, fun c env2 v H' F' z => z.elim, fun x σ' H' cls d ⟨c, hc, ex, hC⟩ hx k => ?_⟩
    subst ex
    obtain ⟨D0, m1, e1, e2⟩ := hx
    refine ⟨c, D0, none, hc, m1, e1, e2, fun a ha => ?_⟩
    rw [rWord_K]
    have hk := bdL_kept k
    have sb : SubN F H' := ⟨fun q o h => hk q o (strip_some (R1.sub q o h) fun ps z => R1.subn.2 q ps (by rw [h, z])), R1.subn.2⟩
    have R2 : Rl X.K B σ H' F env := R1.later hk k.tabs (Same.refl F) sb fun q o h => .inl h
    refine ⟨F, [.xn a], _, _, rfl, rl_xn sb k.tabs, hC a, fun c' os v H2 F2 ⟨sc, p⟩ po => ?_, fun _ _ _ _ z => z.elim⟩
    have nl : ∀ j q, ¬ lentAt [V.ref a] [Cl.xn a] j q := fun j q ⟨⟨o, z⟩, _⟩ => by
      cases j with
      | zero => cases z
      | succ j => simp at z
    obtain ⟨F3, s3, R3, r3⟩ := post_rep R2 nl po sc
    exact wrap_word R3 r3 s3 p ok
/-- x(lambda: body), told of what guards stand -/
theorem pe_lamcallE {T : List (Addr × Str)} {TT : (XK → Hp → VK → Prop) → Hp → VK → Prop} {x a : Str} {g c P : Addr} {k : Nat} {pg : Arguments} {bg : List Stmt} {sg : Scope} {dV kV doc pm cdv ct oc : Value} {an od : Option Addr} {osl : Array (Option Value)} {Ng : List Str}
    {params : Arguments} {body : Expr} {scope : Scope} {t : XK → TE} {p lpos pos : Pos} (gl : Gl X x) (mg : X.mg x = some (.ref g)) (kp : PySem.W.keepIn X.K (.ref g) = true)
    (lk : X.K.lookup g = some ⟨oc, od, .func (PySem.W.fnOf x x pg bg sg dV kV doc pm an cdv ct), osl⟩) (cd : PySem.W.codeIn X.K cdv x = true) (bn : L2.Binds X.K (PySem.W.fnOf x x pg bg sg dV kV doc pm an cdv ct) [a] []) (Sg : FnScope Ng [a] sg) (hNg : Ng[0]? = some a) (hva : Vis sg a)
    (hG : LamX.GivesTo X Ng x sg g cdv bg a (X.env.qual ++ "<lambda>") TT)
    (TB : LamX.TabB X.base X.mg c P) (hcode : X.env.code = .ref c) (hmT : (P, X.env.qual ++ "<lambda>") ∈ T) (hu : ∀ p ∈ T, p.1 = P → p.2 = X.env.qual ++ "<lambda>") (hr : Room (k + 2) X.A) (L : LamX.LamS X.env.scope scope) (hdef : defaultsOf params X.env = ([], []))
    (bind0 : ∀ (q : Str) (cl : List (Str × Addr)) (pm cv ctv : Value), bindArgs (PySem.W.kla_fn "<lambda>" q params body scope cl pm cv ctv) ⟨[], []⟩ = pure [])
    (hbody : ∀ (A : Around) (outer : List Env) (s : Shared) (H : Hp) (E : XK) (f c' : Addr), A.guards = X.A.guards → Room k (A.deeper (LamX.lamEnv X scope s.heap.objs.size f c')) → PE (LamX.lamCx X A outer s H E scope f c') body (t E))
    (hdb : (x == ("__debug__" : Str)) = false) (hd : (a == ("__debug__" : Str)) = false) (hcd : (a == ("__classdict__" : Str)) = false) :
    PE X (.Call (.Name x p) [.Lambda params body scope lpos] [] pos) (LamX.tLam T TT t) := by
  constructor
  rintro pins s σ H Q I ⟨hT, h⟩
  apply wpAny_Call_Name_kw
  apply ld_glob I gl mg _ hdb
  apply PySem.W.callWith_K (h₀ := X.base) I.ok.mod.kin kp _ (by rfl) (by rfl)
  show wpAny _ _ (spliced ((false, eval (.Lambda params body scope lpos) X.env) :: backTo pos (starEach [] X.env))) _ _ s
  apply Calls.spliced_cons
  refine LamX.lam_make2 I TB hcode hmT hu hT hdef (L.has I.ok) ?_
  intro f c' pm' ctv H1 s' I1 eN T1 hf hfn hfr hco
  refine Calls.spliced_nil ⟨I1.kIn, ?_⟩
  have rc : codeAny (model X.prog X.w) X.A (.call (.ref g) ⟨[.ref f], []⟩) (CR C8.CX0 X.stack X.prog X.w H1 s' Q C8.E0) s' := by
    refine LamX.run_ofS (N := Ng) (ps := [a]) (us := [.ref f]) (vs := [.ref f]) lk cd Sg hr I1.env0 (bn s' [.ref f] I1.kIn rfl) (.cons rfl .nil) rfl fun hr1 => ?_
    obtain ⟨t', ht', hq'⟩ := hG f c' s' H1 Q (fun E H' Q' => t E σ H' Q') (fun W pn xe E p1 p2 tk hW =>
      pe_actZ (X := X) (i := 0) I1 L rfl hf hfn hfr (bind0 _ _ _ _ _) (fun pz σz Hz sz Iz => Iz.base) tk hW hr1 (fun A outer s H eg hr3 => hbody A outer s H E f c' eg hr3) hNg hva hd hcd) hco (h H1 eN T1)
    exact ⟨t', ht'.nox, hq'⟩
  refine wpAny_call (codeAny_mono rc fun r s2 hq => ?_)
  match r, hq with
  | .error e, hq => exact (show False from hq).elim
  | .ok (.ret u), hq => exact I1.after hq
theorem g_saidO {is : List Nat} {T g : Addr} {b1 b2 : Bool} {rs : List Str} {C : Str → XA → Ct} {f : WE} {x a lx : Str} {pg : Arguments} {bg : List Stmt} {sg : Scope} {dvs : List V} {kws : List (Str × V)} {fd : FuncData} {Ng : List Str} {params : Arguments} {body : Expr} {scope : Scope} {p lpos pos : Pos} {k : Nat}
    (FD : FunD X.K x x pg bg sg dvs kws g fd) (hb : Binds X.K fd [a] []) (Sg : FnScope Ng [a] sg) (hNg : Ng[0]? = some a) (hva : Vis sg a) (hg : Gl X x) (hm : X.mg x = some (.ref g))
    (hG : ∀ cdg, LamX.GivesTo X Ng x sg g cdg bg a (X.env.qual ++ "<lambda>") (TTs X.K X.mg T b1 b2 rs C)) (HB : TabsB X.K X.mg X.base) (hx : lx ∈ lamNames) (hcode : ∀ c P, PySem.W.tabIn X.K lx = some (c, P) → X.env.code = .ref c) (hq : X.env.qual = lx ++ ".<locals>.")
    (hr : Room (k + 2) X.A) (L : LamX.LamS X.env.scope scope) (hdef : defaultsOf params X.env = ([], [])) (hbind : ∀ (q : Str) (cl : List (Str × Addr)) (pm cv ctv : Value), bindArgs (PySem.W.kla_fn "<lambda>" q params body scope cl pm cv ctv) ⟨[], []⟩ = pure [])
    (hbody : ∀ (A : Around) (outer : List Env) (s : Shared) (H : Hp) (E : XK) (f' c' : Addr), A.guards = X.A.guards → Room k (A.deeper (LamX.lamEnv X scope s.heap.objs.size f' c')) → PE (LamX.lamCx X A outer s H E scope f' c') body (semE X (fun cls d _ H => E cls d H) f))
    (hdb : (x == ("__debug__" : Str)) = false := by decide) (hd : (a == ("__debug__" : Str)) = false := by decide) (hcd : (a == ("__classdict__" : Str)) = false := by decide) :
    PE X (.Call (.Name x p) [.Lambda params body scope lpos] [] pos) (semE X W (eSaidO is b1 b2 rs C f)) := by
  obtain ⟨_, _, _, _, _, _, _, cdv, _, _, rfl, lk, code, _, _⟩ := FD.ex
  obtain ⟨c, Pt, ht, _⟩ := HB.tin.at_ lx hx
  have hmT : (Pt, X.env.qual ++ "<lambda>") ∈ tabsK X.K := by
    refine List.mem_filterMap.mpr ⟨lx, hx, ?_⟩
    rw [ht, hq]
    rfl
  exact peOf (pe_lamcallE (T := tabsK X.K) hg hm FD.kp lk code hb Sg hNg hva (hG cdv) (HB.tb lx hx c Pt ht) (hcode c Pt ht) hmT (fun p hp e => HB.tin.inj p hp _ hmT e) hr L hdef hbind hbody hdb hd hcd) saidO_imp
end
end Sw

/-! len and repr of an instance; f-strings; str of a whole number; a list handed out, appended to -/
namespace Sw
open PySem PySem.Spec PyProof.Rows L2
section
variable {X : Cx} {W : WX} {B : Bd} {σ : L2.St} {H F : Hp} {env : En} {Y : XP}
/-! ### len(o), repr(o) -/
def rOwn (C : Addr) (sp : Sp) (G : V → Hp → VK → Prop) : List V → Hp → VK → Prop := fun xs H Q => ∃ a dx fs, xs = [.ref a] ∧ H a = some (.ins C dx fs) ∧ sp [.ref a] H (fun v H2 => G v H2 Q) fun _ _ _ => False
def lenG : V → Hp → VK → Prop := fun v H Q => ∃ n : Int, v = .int n ∧ 0 ≤ n ∧ n < 2 ^ 63 ∧ Q (.int n) H
def strG : V → Hp → VK → Prop := fun v H Q => ∃ t : Str, v = .str t ∧ Q (.str t) H
section
variable {k : Nat} {fa C : Addr} {fd : FuncData} {ps : List Str} {sp : Sp} {m : Str} {pins : List (Addr × Obj)} {s : Shared} {a dx : Addr} {fs : List (Str × V)} {G : V → Hp → VK → Prop}
theorem own_run (hm : Meth X.K C m fa) (FO : FnG X.prog X.w X.K X.mg X.base k fa fd ps sp) (gd : X.A.guards = some []) (hr : Room (k + 1) X.A) (hbn : Binds X.K fd ps []) (I : Inv X pins σ H s) {Q : VK} {E : Value → Shared → Prop} (q : sp [.ref a] H Q fun _ _ _ => False) :
    wpAny (model X.prog X.w) X.A.in1 (call (.ref fa) [.ref a]) (EP X pins σ Q) E s := by
  have e := I.env0
  have e0 : Env0 X.prog X.w X.K X.mg X.base X.A.in1 X.stack s H := ⟨e.frames, e.mod, e.bs, e.bsz, e.funs, e.frf, e.hok, e.bare⟩
  refine wpAny_call (codeAny_mono (run_G FO (by exact gd) hr.in1 hbn e0 I.kIn (us := [.ref a]) (vs := [.ref a]) (.cons rfl .nil) q) ?_)
  intro res s' z
  match res, z with
  | .error u, z => exact (cx_any z).elim
  | .ok (.ret u), z => exact I.after z
theorem call_lenOwn (hm : Meth X.K C "__len__" fa) (FO : FnG X.prog X.w X.K X.mg X.base k fa fd ps sp) (gd : X.A.guards = some []) (hr : Room (k + 1) X.A) (hbn : Binds X.K fd ps []) : CallR X (.builtin "len") (rOwn C sp lenG) := by
  rintro pins s σ H xs us Q I r ⟨a, dx, fs, rfl, ha, q⟩
  obtain ⟨u, rfl, r1⟩ := vals1 r
  have r1 : u = .ref a := r1
  subst r1
  obtain ⟨mA, J, _⟩ := ins_get I.hok ha
  obtain ⟨od, J, _⟩ := J.look
  obtain ⟨_, hF⟩ := I.fr
  refine PySem.W.len_K hF I.ok.mod.kin J hm.at_ hm.fn (wpAny_mono (own_run hm FO gd hr hbn I q) ?_ fun _ _ z => z)
  rintro v s' ⟨w, H', I', rv, n, rfl, h0, h1, hq⟩
  obtain ⟨t, rfl⟩ := rv
  exact ⟨⟨h0, h1⟩, .int n, H', I'.tok _, ⟨_, rfl⟩, hq⟩
theorem call_reprOwn (hm : Meth X.K C "__repr__" fa) (FO : FnG X.prog X.w X.K X.mg X.base k fa fd ps sp) (gd : X.A.guards = some []) (hr : Room (k + 1) X.A) (hbn : Binds X.K fd ps []) : CallR X (.builtin "repr") (rOwn C sp strG) := by
  rintro pins s σ H xs us Q I r ⟨a, dx, fs, rfl, ha, q⟩
  obtain ⟨u, rfl, r1⟩ := vals1 r
  have r1 : u = .ref a := r1
  subst r1
  obtain ⟨mA, J, _⟩ := ins_get I.hok ha
  obtain ⟨od, J, _⟩ := J.look
  obtain ⟨_, hF⟩ := I.fr
  refine PySem.W.repr_K (hr.in1.units0) hF I.ok.mod.kin J hm.at_ hm.fn (wpAny_mono (own_run hm FO gd hr hbn I q) ?_ fun _ _ z => z)
  rintro v s' ⟨w, H', I', rv, t, rfl, hq⟩
  obtain ⟨tk, rfl⟩ := rv
  exact ⟨.str t, H', I', ⟨_, rfl⟩, hq⟩
end
def eLenO (c : Str) (i : Nat) (C : Ct) (gl : List Nat) : WE := fun env P Y => (∃ fs, obAt env i c fs) ∧ eCall C (.r i :: gl.map Arg.r) env (fun cl env' => ∃ n : Int, cl = .fz (.int n) ∧ 0 ≤ n ∧ n < 2 ^ 63 ∧ P (.fz (.int n)) env') fun _ => False
def eReprO (c : Str) (i : Nat) (C : Ct) (gl : List Nat) : WE := fun env P Y => (∃ fs, obAt env i c fs) ∧ eCall C (.r i :: gl.map Arg.r) env (fun cl env' => ∃ t : Str, cl = .fz (.str t) ∧ P (.fz (.str t)) env') fun _ => False
@[simp ↓] theorem eLenO_eq {c : Str} {i : Nat} {C : Ct} {gl : List Nat} {env : En} {P : EK} {Y : XP} : eLenO c i C gl env P Y = ((∃ cl fs, env[i]? = some (some cl) ∧ cl.obL? = some (c, fs)) ∧ eCall C (.r i :: gl.map Arg.r) env (fun cl env' => ∃ n : Int, cl = .fz (.int n) ∧ 0 ≤ n ∧ n < 2 ^ 63 ∧ P (.fz (.int n)) env') fun _ => False) := by
  unfold eLenO
  congr 1
  apply propext
  constructor
  · rintro ⟨fs, h⟩
    obtain ⟨cl, h1, h2⟩ := obAt_iff.mp h
    exact ⟨cl, fs, h1, h2⟩
  · rintro ⟨cl, fs, h1, h2⟩
    exact ⟨fs, obAt_iff.mpr ⟨cl, h1, h2⟩⟩
@[simp ↓] theorem eReprO_eq {c : Str} {i : Nat} {C : Ct} {gl : List Nat} {env : En} {P : EK} {Y : XP} : eReprO c i C gl env P Y = ((∃ cl fs, env[i]? = some (some cl) ∧ cl.obL? = some (c, fs)) ∧ eCall C (.r i :: gl.map Arg.r) env (fun cl env' => ∃ t : Str, cl = .fz (.str t) ∧ P (.fz (.str t)) env') fun _ => False) := by
  unfold eReprO
  congr 1
  apply propext
  constructor
  · rintro ⟨fs, h⟩
    obtain ⟨cl, h1, h2⟩ := obAt_iff.mp h
    exact ⟨cl, fs, h1, h2⟩
  · rintro ⟨cl, fs, h1, h2⟩
    exact ⟨fs, obAt_iff.mpr ⟨cl, h1, h2⟩⟩
theorem topStr {K : PySem.W.Frag} {v : V} {t : Str} (R : Rl K B (σ ++ [some v]) H F (env ++ [some (.fz (.str t))])) : v = .str t := by
  have q : Rep K F v (.str t) := R.top R.len1
  cases q
  rfl
theorem lenO_imp {c : Str} {C : Addr} {i : Nat} {Ct : Ct} {gl : List Nat} {g : Nat} (hC : clsN X.K c C) (hg : gl.length = g) (nd : (lentOf (.r i :: gl.map Arg.r)).Nodup) : ∀ σ H Q, semE X W (eLenO c i Ct gl) σ H Q → tCB (rOwn C (spN X.K X.mg 1 g 0 Ct) lenG) (tCons (tVar i) tNil) σ H Q := fun σ H Q ⟨B, F, env, P, Y, R, ⟨⟨fs, ho⟩, h⟩, ok, x⟩ => by
  obtain ⟨p, ep, np, C', dx, vs, hc', h1, _, fa⟩ := obAt.at R ho
  have : C' = C := cls_one hC hc'
  subst this
  have z := callN_imp (W := W0) (C := Ct) (as := [.r i]) (gl := gl) (n := 1) (g := g) rfl hg (by simpa using nd) σ H (fun v H2 => lenG v H2 Q) ⟨B, F, env, _, (fun _ => False), R, h, fun cl env' v H' F' ⟨n, e, h0, h1, p⟩ R' s => by
    subst e
    have ev := topInt R'
    subst ev
    exact ⟨n, rfl, h0, h1, ok _ _ _ _ _ p R' s⟩, xok0⟩
  obtain ⟨v, ev, z⟩ := z
  rw [ep] at ev
  cases ev
  exact ⟨_, ep, p, dx, vs, rfl, h1, z⟩
theorem reprO_imp {c : Str} {C : Addr} {i : Nat} {Ct : Ct} {gl : List Nat} {g : Nat} (hC : clsN X.K c C) (hg : gl.length = g) (nd : (lentOf (.r i :: gl.map Arg.r)).Nodup) : ∀ σ H Q, semE X W (eReprO c i Ct gl) σ H Q → tCB (rOwn C (spN X.K X.mg 1 g 0 Ct) strG) (tCons (tVar i) tNil) σ H Q := fun σ H Q ⟨B, F, env, P, Y, R, ⟨⟨fs, ho⟩, h⟩, ok, x⟩ => by
  obtain ⟨p, ep, np, C', dx, vs, hc', h1, _, fa⟩ := obAt.at R ho
  have : C' = C := cls_one hC hc'
  subst this
  have z := callN_imp (W := W0) (C := Ct) (as := [.r i]) (gl := gl) (n := 1) (g := g) rfl hg (by simpa using nd) σ H (fun v H2 => strG v H2 Q) ⟨B, F, env, _, (fun _ => False), R, h, fun cl env' v H' F' ⟨n, e, p⟩ R' s => by
    subst e
    have ev := topStr R'
    subst ev
    exact ⟨n, rfl, ok _ _ _ _ _ p R' s⟩, xok0⟩
  obtain ⟨v, ev, z⟩ := z
  rw [ep] at ev
  cases ev
  exact ⟨_, ep, p, dx, vs, rfl, h1, z⟩
section
variable {k k' g : Nat} {fa C : Addr} {fd : FuncData} {ps : List Str} {c : Str} {o : Expr} {p1 pos : Pos} {Ct : Ct} {gl : List Nat} {i : Nat}
theorem g_lenO (hO : PE X o (tVar i)) (hC : clsN X.K c C) (hm : Meth X.K C "__len__" fa) (FO : FnG X.prog X.w X.K X.mg X.base k fa fd ps (spN X.K X.mg 1 g 0 Ct)) (gd : X.A.guards = some []) (hr : Room k' X.A) (hk : k + 1 ≤ k') (hbn : Binds X.K fd ps []) (hg1 : Gl X "len") (m1 : X.mg "len" = none)
    (hg : gl.length = g := by rfl) (nd : (lentOf (.r i :: gl.map Arg.r)).Nodup := by decide) (he : starEach [o] X.env = (false, eval o X.env) :: starEach [] X.env := by rfl) (hpl : (backTo pos (starEach [] X.env)).any (·.1) = false := by rfl) : PE X (.Call (.Name "len" p1) [o] [] pos) (semE X W (eLenO c i Ct gl)) :=
  peOf (pe_callB (call_lenOwn hm FO gd (hr.mono hk) hbn) hg1 m1 (by rfl) (pa_cons hO pa_nil he) (by decide) (by decide) he hpl) (lenO_imp hC hg nd)
theorem g_reprO (hO : PE X o (tVar i)) (hC : clsN X.K c C) (hm : Meth X.K C "__repr__" fa) (FO : FnG X.prog X.w X.K X.mg X.base k fa fd ps (spN X.K X.mg 1 g 0 Ct)) (gd : X.A.guards = some []) (hr : Room k' X.A) (hk : k + 1 ≤ k') (hbn : Binds X.K fd ps []) (hg1 : Gl X "repr") (m1 : X.mg "repr" = none)
    (hg : gl.length = g := by rfl) (nd : (lentOf (.r i :: gl.map Arg.r)).Nodup := by decide) (he : starEach [o] X.env = (false, eval o X.env) :: starEach [] X.env := by rfl) (hpl : (backTo pos (starEach [] X.env)).any (·.1) = false := by rfl) : PE X (.Call (.Name "repr" p1) [o] [] pos) (semE X W (eReprO c i Ct gl)) :=
  peOf (pe_callB (call_reprOwn hm FO gd (hr.mono hk) hbn) hg1 m1 (by rfl) (pa_cons hO pa_nil he) (by decide) (by decide) he hpl) (reprO_imp hC hg nd)
end
/-! ### f-strings -/
/-- a whole number's text -/
def txI (i : Int) : Str := toString i
/-- {e}: of a whole number, of a text -/
@[simp ↓] def eFmt (f : WE) : WE := fun env P Y => f env (fun c env' => (∃ n : Int, c = .fz (.int n) ∧ n.natAbs.log2 < 1920 ∧ P (.fz (.str (txI n))) env') ∨ ∃ t : Str, c = .fz (.str t) ∧ t.length ≤ sizeLine ∧ P (.fz (.str t)) env') Y
theorem fmt_imp {f : WE} : ∀ σ H Q, semE X W (eFmt f) σ H Q → tFmt (semE X W f) σ H Q := fun σ H Q ⟨B, F, env, P, Y, R, h, ok, x⟩ =>
  ⟨B, F, env, _, Y, R, h, fun c env' v H' F' p R' s => by
    rcases p with ⟨n, rfl, hz, p⟩ | ⟨t, rfl, hz, p⟩
    · exact .inr ⟨n, topInt R', hz, ok _ _ _ _ _ p ((R'.pop R.nio).push (.str _)) s⟩
    · exact .inl ⟨t, topStr R', hz, ok _ _ _ _ _ p ((R'.pop R.nio).push (.str _)) s⟩, x⟩
theorem g_fmt {f : WE} {e : Expr} {pos : Pos} (h : PE X e (semE X W f)) : PE X (.FormattedValue e (-1) none pos) (semE X W (eFmt f)) := peOf (pe_fmt h) fmt_imp
/-- f'..': texts, one behind the other -/
@[simp ↓] def eJs : List WE → Str → WE
  | [], acc => fun env P _ => P (.fz (.str acc)) env
  | f :: fs, acc => fun env P Y => f env (fun c env' => ∃ t : Str, c = .fz (.str t) ∧ (acc ++ t).length ≤ sizeLine ∧ eJs fs (acc ++ t) env' P Y) Y
theorem js_imp : ∀ {fs : List WE} {acc : Str} σ H (Q : VK), semE X W (eJs fs acc) σ H Q → tJs (fs.map fun f => semE X W f) acc σ H fun out H1 => Q (.str out) H1
  | [], acc, σ, H, Q, ⟨B, F, env, P, Y, R, h, ok, x⟩ => ok _ _ _ _ _ h (R.push (.str acc)) (Same.refl F)
  | f :: fs, acc, σ, H, Q, ⟨B, F, env, P, Y, R, h, ok, x⟩ => ⟨B, F, env, _, Y, R, h, fun c env' v H' F' ⟨t, e, hz, p⟩ R' s => by
    subst e
    exact ⟨t, topStr R', hz, js_imp σ H' Q ⟨B, F', env', P, Y, R'.pop R.nio, p, fun c e2 v2 H2 F2 p2 R2 s2 => ok _ _ _ _ _ p2 R2 (s.trans s2), x⟩⟩, x⟩
theorem g_js {fs : List WE} {v1 v2 : Expr} {rest : List Expr} {pos : Pos} (h : PJ X (v1 :: v2 :: rest) (fs.map fun f => semE X W f)) : PE X (.JoinedStr (v1 :: v2 :: rest) pos) (semE X W (eJs fs Str.empty)) := peOf (pe_joined h) js_imp
theorem j_nil : PJ X [] (([] : List WE).map fun f => semE X W f) := .nil
theorem j_cons {f : WE} {fs : List WE} {e : Expr} {es : List Expr} (h : PE X e (semE X W f)) (r : PJ X es (fs.map fun f => semE X W f)) : PJ X (e :: es) ((f :: fs).map fun f => semE X W f) := .cons h r
/-- str(n) -/
@[simp ↓] def gStrI : D → (Cl → Prop) → Prop
  | .int n, P => n.natAbs.log2 < 1920 ∧ P (.fz (.str (txI n)))
  | _, _ => False
theorem strI_imp {a : Opd} : ∀ σ H Q, semE X W (eOp1 gStrI a) σ H Q → tCB (fun xs H Q => ∃ i : Int, xs = [.int i] ∧ i.natAbs.log2 < 1920 ∧ Q (.str (toString i)) H) (tCons (tO X W a) tNil) σ H Q := fun σ H Q ⟨B, F, env, P, Y, R, h, ok, x⟩ =>
  ev1_ok R h x fun d env' v H' F' g R' s r => by
    cases d with
    | int i => exact ⟨i, by rw [r.int], g.1, ok _ _ _ _ _ g.2 (R'.push (.str _)) s⟩
    | _ => exact g.elim
theorem g_strI {a : Opd} {e : Expr} {p pos : Pos} (hg : Gl X "str") (m : X.mg "str" = none) (h : PE X e (tO X W a)) (he : starEach [e] X.env = (false, eval e X.env) :: starEach [] X.env := by rfl) (hpl : (backTo pos (starEach [] X.env)).any (·.1) = false := by rfl) : PE X (.Call (.Name "str" p) [e] [] pos) (semE X W (eOp1 gStrI a)) :=
  peOf (pe_callTy call_str_int hg m (by rfl) (pa_cons h pa_nil he) (by decide) (by decide) he hpl) strI_imp
/-! ### f().append(n) -/
@[simp ↓] def eAppI (f : WE) (n : Int) : WE := fun env P Y => f env (fun c env' => ∃ xs, c = .ow (.lst xs) ∧ xs.length < sizeLine ∧ P (.fz .none) env') Y
theorem appI_imp {f : WE} {n : Int} : ∀ σ H Q, semE X W (eAppI f n) σ H Q → tBM X.K "list" rAppend (semE X W f) (tCons (tC (.int n)) tNil) σ H Q := fun σ H Q ⟨B, F, env, P, Y, R, h, ok, x⟩ =>
  ⟨B, F, env, _, Y, R, h, fun c env' v H' F' ⟨xs, e, hz, p⟩ R' s => by
    subst e
    obtain ⟨q, hv, nq, ws, h1, h2⟩ := R'.top R'.len1
    subst hv
    refine ⟨.inl ⟨rfl, _, SqL.of h1⟩, q, ws, .int n, rfl, rfl, h1, by rw [h2.length]; exact hz, ?_⟩
    have hl4 : env'.length = σ.length := R'.len1
    have R8 := R'.mutL (i := σ.length) (o := .lst xs) (ys := xs ++ [.int n]) (.inl (by rw [← hl4]; exact get_last)) get_last nq (h2.snoc (.int n))
    have es : setO (env' ++ [some (.ow (.lst xs))]) σ.length (.lst (xs ++ [.int n])) = env' ++ [some (.ow (.lst (xs ++ [.int n])))] := by
      unfold setO
      rw [← hl4, get_last]
      simp
    rw [es] at R8
    exact ok _ _ _ _ _ p ((R8.pop R.nio).push .non) s, x⟩
theorem g_appI {f : WE} {n : Int} {o : Expr} {k : Nat} {p0 apos cpos : Pos} (ho : PE X o (semE X W f)) (hbase : attributeBase o "append" X.env (eval o X.env) = eval o X.env := by rfl)
    (hfew : ((backTo cpos (starEach [.Constant (.int n) k p0] X.env)).all (fun x => !x.1) && (backToKw cpos (keywordEach [] X.env)).all (fun x => x.1.isSome)
      && decide (([.Constant (.int n) k p0] : List Expr).length + ([] : List Keyword).length + (if ([] : List Keyword).isEmpty then 0 else 1) < 30)) = true := by rfl)
    (hline : (apos.endLine == cpos.line) = true := by rfl) (hs : starEach [.Constant (.int n) k p0] X.env = (false, eval (.Constant (.int n) k p0) X.env) :: starEach [] X.env := by rfl) (hp : (backTo cpos (starEach [] X.env)).any (·.1) = false := by rfl) :
    PE X (.Call (.Attribute o "append" apos) [.Constant (.int n) k p0] [] cpos) (semE X W (eAppI f n)) :=
  peOf (pe_bm PySem.F.plainAttrs_list PySem.F.slot_list_append PySem.F.type_list_append mt_append ho (pa_cons pe_int pa_nil hs) hbase hfew hline hs hp) appI_imp
end
end Sw

/-! a != b of two instances of a class with its own == -/
namespace Sw
open PySem PySem.Spec PyProof.Rows L2
section
variable {prog : Program} {w : World} {A : Around} {E : Value → Shared → Prop} {s : Shared} {K : PySem.W.Frag} {x y C f L : Addr} {h₀ : Heap} {m : Str → Option Value} {ox oy : Obj} {od oe : Option Obj}
theorem ifBoundB_K {M : PySem.Model} {args : List Value} {name : Str} {id : String} {Q : Option Value → Shared → Prop} (X : K.In s.heap) (I : PySem.W.InstAt s.heap x ox C od) (hs : PySem.W.findIn K (.ref C) name = some (some (.builtin id))) (S : Slot "object" name id)
    (h : wpAny M A (call (.builtin id) (.ref x :: args)) (fun v => Q (some v)) E s) : wpAny M A (callSpecialIfBound? (.ref x) name args) Q E s := by
  simp only [callSpecialIfBound?, bindSpecialIfBound?]
  refine wpAny_holding (wpAny_bind (wpAny_bind (wpAny_bind (I.type.here ((PySem.W.looks_findIn X hs).here ?_)))))
  simp only [S.bind]
  refine wpAny_bind (wpAny_askSetting (wpAny_ite ?_))
  have fin : wpAny M A (call (.builtin id) ([.ref x] ++ args) >>= fun v => pure (some v)) Q E s := wpAny_bind (wpAny_mono h (fun v s' h' => wpAny_pure h') fun _ _ h' => h')
  split
  · exact wpAny_bind (wpAny_pure (wpAny_pure fin))
  · exact wpAny_tryCatch (wpAny_bind (wpAny_pure (wpAny_pure fin)))
theorem objNe_K (X : K.In s.heap) (I : PySem.W.InstAt s.heap x ox C od) (hs : PySem.W.findIn K (.ref C) "__eq__" = some (some (.ref f))) (hf : PySem.W.isFn K (.ref f) = true) (hu : A.units < cLine) {Q : Fin → Shared → Prop}
    (hcall : wpAny (model prog w) A (call (.ref f) [.ref x, .ref y]) (fun v s' => ∃ b, v = .bool b ∧ Q (.done (.ret (.bool (!b)))) s') E s) :
    wpAny (model prog w) A (Builtin.«object.__ne__» ⟨[.ref x, .ref y], []⟩) Q E s := by
  unfold Builtin.«object.__ne__»
  repeat (first
    | with_reducible refine wpAny_cRoomFor hu ?_
    | (refine wpAny_bind (m := callSpecialIfBound? (.ref x) (Str.ofString "__eq__") [.ref y])
        (PySem.W.ifBound_K X I hs hf (wpAny_mono hcall (fun r s' hr => by
          obtain ⟨b, rfl, hq⟩ := hr
          repeat (first | exact hq | exact wpAny_pure hq | exact wpAny_truthy_bool hq | (refine wpAny_bind (m := truthy (.bool _)) (wpAny_truthy_bool ?_)) | wp_step)) fun _ _ e => e)))
    | wp_step)
theorem ne_K (hu : A.units + 1 < cLine) (X : K.In s.heap) (I : PySem.W.InstAt s.heap x ox C od) (J : PySem.W.InstAt s.heap y oy C oe) (hne : PySem.W.findIn K (.ref C) "__ne__" = some (some (.builtin "object.__ne__"))) (hm : PySem.W.subIn K (.ref C) (.type "object") = some true)
    (hs : PySem.W.findIn K (.ref C) "__eq__" = some (some (.ref f))) (hf : PySem.W.isFn K (.ref f) = true) {Q : Value → Shared → Prop}
    (hcall : wpAny (model prog w) A.in1 (call (.ref f) [.ref x, .ref y]) (fun v s' => ∃ b, v = .bool b ∧ Q (.bool (!b)) s') E s) :
    wpAny (model prog w) A (compareOp .NotEq (.ref x) (.ref y)) Q E s := by
  have FB := PySem.F.cmp_object
  have one : wpAny (model prog w) A (tryCompare (.ref x) "__ne__" (.ref y)) (fun r s' => ∃ b, r = some (.bool b) ∧ Q (.bool b) s') E s := by
    unfold tryCompare
    refine wpAny_bind (ifBoundB_K X I hne FB.ne (wpAny_call (codeAny_call_builtin FB.ne.plain PySem.F.cmpEntry_ne
      (PySem.W.check_slot PySem.F.cmpKind_ne PySem.F.cmpSplit_ne (I.type.andThen (PySem.W.looks_subIn X hm)) (PySem.F.cmpArgs_ne _ _)
        (objNe_K X I hs hf (A := A.in1) (by exact hu) (wpAny_mono hcall (fun v s' hv => ?_) fun _ _ e => e))))))
    obtain ⟨b, rfl, hq⟩ := hv
    first | exact ⟨b, rfl, wpAny_pure ⟨_, rfl, hq⟩⟩ | exact wpAny_pure ⟨_, rfl, hq⟩ | exact Nat.zero
  unfold compareOp richCompare
  simp only [oneThing_ref]
  refine wpAny_holding (wpAny_bind (wpAny_cRoomFor (Nat.lt_of_succ_lt hu) ?_))
  refine wpAny_bind (I.type.here (wpAny_bind (J.type.here ?_)))
  rw [show (Value.ref C != Value.ref C) = false from by simp]
  simp only [Bool.false_eq_true, if_false]
  refine wpAny_bind (wpAny_pure ?_)
  simp only [Bool.false_eq_true, if_false]
  refine wpAny_bind (wpAny_mono one (fun r s' z => ?_) fun _ _ e => e)
  obtain ⟨b, rfl, hq⟩ := z
  exact wpAny_pure hq
end
section
variable {X : Cx} {W : WX} {B : Bd} {σ : L2.St} {H F : Hp} {env : En} {Y : XP}
theorem RepR.rep {K : PySem.W.Frag} {v : V} {d : D} (s : Same F H) (r : RepR K H F v d) : Rep K H v d := by
  rcases r with r | ⟨p, ds, rfl, rfl, vs, h1, h2⟩ | ⟨p, ds, rfl, rfl, h⟩
  · exact r.mono s
  · exact .lst h1 (h2.mono s)
  · rcases h with ⟨kv, es, h1, rfl, h2⟩ | ⟨kv, es, h1, rfl, h2⟩
    · exact .dK h1 (h2.mono s)
    · exact .dT h1 (h2.mono s)
/-! ### (o.x, o.y) == (p.x, p.y) -/
def fldP (env : En) (c : Str) (i : Nat) (x y : Str) (d : D) (a : Addr) : Prop := ∃ cl fs, env[i]? = some (some cl) ∧ cl.ob? = some (c, fs) ∧ fs.lookup x = some (.inl d) ∧ fs.lookup y = some (.inr a)
def atP (env : En) (k : Nat) (a : Addr) (u : D) : Prop := ∃ cl, env[k]? = some (some cl) ∧ cl.at? = some (a, u)
def eEqF (c x y : Str) (i ki j kj : Nat) : WE := fun env P _ => ∃ d e a b u v, fldP env c i x y d a ∧ fldP env c j x y e b ∧ atP env ki a u ∧ atP env kj b v ∧ CEq (.tuple [d, u]) (.tuple [e, v]) ∧ P (.fz (.bool (PyData.eqv (.tuple [d, u]) (.tuple [e, v])))) env
theorem fldP.at {c x y : Str} {i k : Nat} {d u : D} {a : Addr} (R : Rl X.K B σ H F env) (h : fldP env c i x y d a) (hk : atP env k a u) : ∃ p C dx vs w, σ[i]? = some (some (.ref p)) ∧ clsN X.K c C ∧ H p = some (.ins C dx vs) ∧ vs.lookup x = some w ∧ vs.lookup y = some (.ref a) ∧ Rep X.K H w d ∧ Rep X.K H (.ref a) u := by
  obtain ⟨cl, fs, e1, e2, e3, e4⟩ := h
  obtain ⟨ck, k1, k2⟩ := hk
  obtain ⟨v, ev, r⟩ := R.cell i cl e1
  obtain ⟨p, rfl, C, dx, vs, hc, h1, _, fa⟩ := r.ob R.sub e2
  obtain ⟨w, hw, rw_⟩ := fa.fzL e3
  obtain ⟨vk, _, rk⟩ := R.cell k ck k1
  obtain ⟨rfl, q⟩ := rk.at k2
  exact ⟨p, C, dx, vs, w, ev, hc, h1, hw, fa.adL e4, rw_.mono R.sub, q.rep R.sub⟩
def tPair (K : PySem.W.Frag) (c x y : Str) (i : Nat) : TE := tTup (tCons (tFldN K c i x) (tCons (tFldN K c i y) tNil))
theorem eqF_imp {c x y : Str} {i ki j kj : Nat} : ∀ σ H Q, semE X W (eEqF c x y i ki j kj) σ H Q → tOp (rDat X.K CEq PyData.eqv) (tPair X.K c x y i) (tPair X.K c x y j) σ H Q := fun σ H Q ⟨B, F, env, P, Y, R, ⟨d, e, a, b, u, v, hi, hj, ki, kj, ce, q⟩, ok, _⟩ => by
  obtain ⟨p, C, dx, vs, w, ep, hc, hp, hx, hy, rw_, ra⟩ := hi.at R ki
  obtain ⟨p2, C2, dx2, vs2, w2, ep2, hc2, hp2, hx2, hy2, rw2, rb⟩ := hj.at R kj
  refine ⟨p, C, dx, vs, w, ep, hc, hp, hx, p, C, dx, vs, .ref a, ep, hc, hp, hy, (by rw [sizeLine_eq]; decide : (2 : Nat) ≤ sizeLine), fun q1 n1 => ?_⟩
  have s1 : Same H (upd H q1 (.tup [w, .ref a])) := same_new n1
  have u1 : ∀ z o, H z = some o → upd H q1 (.tup [w, .ref a]) z = some o := fun z o hz => by
    have : z ≠ q1 := fun e => by rw [e, n1] at hz; cases hz
    rw [upd_ne this]; exact hz
  refine ⟨p2, C2, dx2, vs2, w2, ep2, hc2, u1 _ _ hp2, hx2, p2, C2, dx2, vs2, .ref b, ep2, hc2, u1 _ _ hp2, hy2, (by rw [sizeLine_eq]; decide : (2 : Nat) ≤ sizeLine), fun q2 n2 => ?_⟩
  have s2 : Same (upd H q1 (.tup [w, .ref a])) (upd (upd H q1 (.tup [w, .ref a])) q2 (.tup [w2, .ref b])) := same_new n2
  have n12 : q1 ≠ q2 := fun e => by rw [← e, upd_same] at n2; cases n2
  have sF : Same F (upd (upd H q1 (.tup [w, .ref a])) q2 (.tup [w2, .ref b])) := (R.sub.trans s1).trans s2
  refine ⟨_, .tuple [d, u], .tuple [e, v], Same.refl _, .inl (.tup (SqT.of (by rw [upd_ne n12]; exact upd_same)) (.cons ((rw_.mono s1).mono s2) (.cons ((ra.mono s1).mono s2) .nil))), .inl (.tup (SqT.of upd_same) (.cons ((rw2.mono s1).mono s2) (.cons ((rb.mono s1).mono s2) .nil))), ce, ?_⟩
  have R1 := R.grow (u := .tup [w, .ref a]) n1
  have R2 := R1.grow (u := .tup [w2, .ref b]) n2
  exact ok _ _ _ _ _ q (R2.push (.bl _)) (fun z o h => sm_up (R1.nF n2) _ _ _ (sm_up (R.nF n1) _ _ _ h))
/-! ### isinstance(o, C) -/
def eIsO (c : Str) (i : Nat) : WE := fun env P _ => (∃ cl fs, env[i]? = some (some cl) ∧ cl.ob? = some (c, fs)) ∧ P (.fz (.bool true)) env
theorem isO_imp {c : Str} {C : Addr} {i : Nat} (hC : clsN X.K c C) (cl : Cls X.K C) (ha : PySem.W.findIn X.K (.ref C) "__class__" = some (some (.builtin "object.__class__")))
    (hn : PySem.W.specialIn X.K (.builtin "object.__class__") "__get__" = some (some (.builtin "getset_descriptor.__get__"))) (htk : PySem.W.takesIn X.K (.builtin "object.__class__") = some true) (hm : PySem.W.mroIn X.K C (.type "object") = some true) (hk : PySem.W.kitOne X.K (.ref C) (.ref C) = some true) :
    ∀ σ H Q, semE X W (eIsO c i) σ H Q → tCB (rIsi X.K) (tCons (tVar i) (tCons (tC (.ref C)) tNil)) σ H Q := fun σ H Q ⟨B, F, env, P, Y, R, ⟨⟨ce, fs, e1, e2⟩, q⟩, ok, _⟩ => by
  obtain ⟨v, ev, r⟩ := R.cell i ce e1
  obtain ⟨p, rfl, C', dx, vs, hc, h1, _, _⟩ := r.ob R.sub e2
  have : C' = C := cls_one hC hc
  subst this
  exact ⟨_, ev, .ref p, .ref C', _, _, true, rfl, .own C', .base (.ins h1 cl ha hn htk hm), hk, ok _ _ _ _ _ q (R.push (.bl _)) (Same.refl F)⟩
/-! ### o != p -/
def rNeO (C : Addr) (sp : Sp) : R2 := fun x y H Q => ∃ a b dx dy fs gs, x = .ref a ∧ y = .ref b ∧ H a = some (.ins C dx fs) ∧ H b = some (.ins C dy gs) ∧ sp [.ref a, .ref b] H (fun v H2 => ∃ r, v = .bl r ∧ Q (.bl (!r)) H2) fun _ _ _ => False
theorem own_run2 {k : Nat} {fa : Addr} {fd : FuncData} {ps : List Str} {sp : Sp} {pins : List (Addr × PySem.Obj)} {s : Shared} {x y : V} {u v : Value} (FO : FnG X.prog X.w X.K X.mg X.base k fa fd ps sp) (gd : X.A.guards = some []) (hr : Room (k + 1) X.A) (hbn : Binds X.K fd ps []) (I : Inv X pins σ H s) (r1 : RelV x u) (r2 : RelV y v) {Q : VK} {E : Value → Shared → Prop} (q : sp [x, y] H Q fun _ _ _ => False) :
    wpAny (model X.prog X.w) X.A.in1 (call (.ref fa) [u, v]) (EP X pins σ Q) E s := by
  have e := I.env0
  have e0 : Env0 X.prog X.w X.K X.mg X.base X.A.in1 X.stack s H := ⟨e.frames, e.mod, e.bs, e.bsz, e.funs, e.frf, e.hok, e.bare⟩
  refine wpAny_call (codeAny_mono (run_G FO (by exact gd) hr.in1 hbn e0 I.kIn (us := [u, v]) (vs := [x, y]) (.cons r1 (.cons r2 .nil)) q) ?_)
  intro res s' z
  match res, z with
  | .error u, z => exact (cx_any z).elim
  | .ok (.ret u), z => exact I.after z
theorem op_neO {k : Nat} {fa C : Addr} {fd : FuncData} {ps : List Str} {sp : Sp} (hm : Meth X.K C "__eq__" fa) (FO : FnG X.prog X.w X.K X.mg X.base k fa fd ps sp) (gd : X.A.guards = some []) (hr : Room (k + 1) X.A) (hbn : Binds X.K fd ps [])
    (hne : PySem.W.findIn X.K (.ref C) "__ne__" = some (some (.builtin "object.__ne__"))) (hob : PySem.W.subIn X.K (.ref C) (.type "object") = some true) : OpR X (compareOp .NotEq) (rNeO C sp) := by
  rintro pins s σ H x y v u Q I rx ry ⟨a, b, dx, dy, fs, gs, rfl, rfl, ha, hb, q⟩
  have rx : v = .ref a := rx
  have ry : u = .ref b := ry
  subst rx ry
  obtain ⟨mA, J, _⟩ := ins_get I.hok ha
  obtain ⟨od, J, _⟩ := J.look
  obtain ⟨mB, J2, _⟩ := ins_get I.hok hb
  obtain ⟨oe, J2, _⟩ := J2.look
  have hu := hr.units
  refine ne_K (by omega) I.kIn J J2 hne hob hm.at_ hm.fn (wpAny_mono (own_run2 (x := .ref a) (y := .ref b) (u := .ref a) (v := .ref b) FO gd hr hbn I (show L2.RelV (.ref a) (Value.ref a) from rfl) (show L2.RelV (.ref b) (Value.ref b) from rfl) q) ?_ fun _ _ z => z)
  rintro v s' ⟨w, H', I', rv, r, rfl, hq⟩
  have rv : v = .bool r := rv
  exact ⟨r, rv, .bl (!r), H', I', rfl, hq⟩
def eNeO (c : Str) (i j : Nat) (C : Ct) (gl : List Nat) : WE := fun env P Y => (∃ fs gs, obAt env i c fs ∧ obAt env j c gs) ∧ eCall C (.r i :: .r j :: gl.map Arg.r) env (fun cl env' => ∃ b : Bool, cl = .fz (.bool b) ∧ P (.fz (.bool (!b))) env') fun _ => False
theorem neO_imp {c : Str} {C : Addr} {i j : Nat} {Ct : Ct} {gl : List Nat} {g : Nat} (hC : clsN X.K c C) (hg : gl.length = g) (nd : (lentOf (.r i :: .r j :: gl.map Arg.r)).Nodup) : ∀ σ H Q, semE X W (eNeO c i j Ct gl) σ H Q → tOp (rNeO C (spN X.K X.mg 2 g 0 Ct)) (tVar i) (tVar j) σ H Q := fun σ H Q ⟨B, F, env, P, Y, R, ⟨⟨fs, gs, ho, hp⟩, h⟩, ok, x⟩ => by
  obtain ⟨p, ep, np, C', dx, vs, hc', h1, _, fa⟩ := obAt.at R ho
  have : C' = C := cls_one hC hc'
  subst this
  obtain ⟨p2, ep2, np2, C2, dx2, vs2, hc2, h2, _, fa2⟩ := obAt.at R hp
  have : C2 = C' := cls_one hC hc2
  subst this
  have z := callN_imp (W := W0) (C := Ct) (as := [.r i, .r j]) (gl := gl) (n := 2) (g := g) rfl hg (by simpa using nd) σ H (fun v H2 => ∃ r, v = .bl r ∧ Q (.bl (!r)) H2) ⟨B, F, env, _, (fun _ => False), R, h, fun cl env' v H' F' ⟨b, e, p⟩ R' s => by
    subst e
    have ev := topBool R'
    subst ev
    exact ⟨b, rfl, ok _ _ _ _ _ p ((R'.pop R.nio).push (.bl _)) s⟩, xok0⟩
  obtain ⟨v, ev, w, ew, z⟩ := z
  rw [ep] at ev
  cases ev
  rw [ep2] at ew
  cases ew
  exact ⟨_, ep, _, ep2, p, p2, dx, dx2, vs, vs2, rfl, rfl, h1, h2, z⟩
end
section
variable {X : Cx} {W : WX} {k k' g : Nat} {fa C : Addr} {fd : FuncData} {ps : List Str} {c x y : Str} {o q : Expr} {p1 p2 pos a1 a2 a3 a4 t1 t2 : Pos} {Ct : Ct} {gl : List Nat} {i j ki kj : Nat} {x1 : Nat}
theorem g_isO (hO : PE X o (tVar i)) (hC : clsN X.K c C) (cl : Cls X.K C) (hg1 : Gl X "isinstance") (m1 : X.mg "isinstance" = none) (hg2 : Gl X c) (m2 : X.mg c = some (.ref C)) (ha : PySem.W.findIn X.K (.ref C) "__class__" = some (some (.builtin "object.__class__")))
    (hn : PySem.W.specialIn X.K (.builtin "object.__class__") "__get__" = some (some (.builtin "getset_descriptor.__get__"))) (htk : PySem.W.takesIn X.K (.builtin "object.__class__") = some true) (hm : PySem.W.mroIn X.K C (.type "object") = some true) (hk : PySem.W.kitOne X.K (.ref C) (.ref C) = some true) (hd : (c == ("__debug__" : Str)) = false := by decide)
    (s1 : starEach [o, .Name c p2] X.env = (false, eval o X.env) :: starEach [.Name c p2] X.env := by rfl) (s2 : starEach [.Name c p2] X.env = (false, eval (.Name c p2) X.env) :: starEach [] X.env := by rfl) (pl : (backTo pos (starEach [.Name c p2] X.env)).any (·.1) = false := by rfl) : PE X (.Call (.Name "isinstance" p1) [o, .Name c p2] [] pos) (semE X W (eIsO c i)) :=
  peOf (pe_callB call_isi hg1 m1 (by rfl) (pa_cons hO (pa_cons (pe_glob (v := .ref C) hg2 m2 rfl hd) pa_nil s2) s1) (he := s1) (hpl := pl)) (isO_imp hC cl ha hn htk hm hk)
theorem p_pair {o' : Expr} (hO : PE X o (tVar i)) (hO' : PE X o' (tVar i)) (hC : clsN X.K c C) (cl : Cls X.K C) (na : NoAttr X.K C x) (nb : NoAttr X.K C y) (h1 : attributeBase o x X.env (eval o X.env) = eval o X.env := by rfl) (h2 : attributeBase o' y X.env (eval o' X.env) = eval o' X.env := by rfl)
    (s1 : starEach [.Attribute o x a1, .Attribute o' y a2] X.env = (false, eval (.Attribute o x a1) X.env) :: starEach [.Attribute o' y a2] X.env := by rfl) (s2 : starEach [.Attribute o' y a2] X.env = (false, eval (.Attribute o' y a2) X.env) :: starEach [] X.env := by rfl) : PE X (.Tuple [.Attribute o x a1, .Attribute o' y a2] x1 pos) (tPair X.K c x y i) :=
  pe_tup (pa_cons (pe_fldN (W := W0) (j := 0) hO hC cl na h1) (pa_cons (pe_fldN (W := W0) (j := 0) hO' hC cl nb h2) pa_nil s2) s1)
theorem g_eqF (hu : X.A.units + 64 < cLine) (h1 : PE X o (tPair X.K c x y i)) (h2 : PE X q (tPair X.K c x y j)) : PE X (.Compare o [.Eq] [q] pos) (semE X W (eEqF c x y i ki j kj)) :=
  peOf (pe_cmpR (op_eqDat hu) h1 h2 (nomark _)) eqF_imp
theorem g_neO (hO : PE X o (tVar i)) (hQ : PE X q (tVar j)) (hC : clsN X.K c C) (hm : Meth X.K C "__eq__" fa) (FO : FnG X.prog X.w X.K X.mg X.base k fa fd ps (spN X.K X.mg 2 g 0 Ct)) (gd : X.A.guards = some []) (hr : Room k' X.A) (hk : k + 1 ≤ k') (hbn : Binds X.K fd ps [])
    (hne : PySem.W.findIn X.K (.ref C) "__ne__" = some (some (.builtin "object.__ne__"))) (hob : PySem.W.subIn X.K (.ref C) (.type "object") = some true)
    (hg : gl.length = g := by rfl) (nd : (lentOf (.r i :: .r j :: gl.map Arg.r)).Nodup := by decide) : PE X (.Compare o [.NotEq] [q] pos) (semE X W (eNeO c i j Ct gl)) :=
  peOf (pe_cmpR (op_neO hm FO gd (hr.mono hk) hbn hne hob) hO hQ (nomark _)) (neO_imp hC hg nd)
end
end Sw

/-! a new instance that never comes; o != a new instance; what a class must tell -/
namespace Sw
open PySem PySem.Spec PyProof.Rows L2
theorem eqCls_of {K : PySem.W.Frag} {C : Addr} (h : eqClsB K C = true) : PySem.W.findIn K (.ref C) "__ne__" = some (some (.builtin "object.__ne__")) ∧ PySem.W.subIn K (.ref C) (.type "object") = some true ∧ PySem.W.findIn K (.ref C) "__class__" = some (some (.builtin "object.__class__")) ∧
    PySem.W.specialIn K (.builtin "object.__class__") "__get__" = some (some (.builtin "getset_descriptor.__get__")) ∧ PySem.W.takesIn K (.builtin "object.__class__") = some true ∧ PySem.W.mroIn K C (.type "object") = some true ∧ PySem.W.kitOne K (.ref C) (.ref C) = some true := by
  unfold eqClsB at h
  simp only [Bool.and_eq_true, beq_iff_eq] at h
  obtain ⟨⟨⟨⟨⟨⟨h1, h2⟩, h3⟩, h4⟩, h5⟩, h6⟩, h7⟩ := h
  exact ⟨h1, h2, h3, h4, h5, h6, h7⟩
/-- a new thing that never comes: its making raises -/
@[simp ↓] def eNr (f : WN) : WE := fun env _ Y => f env (fun _ _ _ => False) Y
section
variable {X : Cx} {W : WX} {B : Bd} {σ : L2.St} {H F : Hp} {env : En} {Y : XP}
theorem g_nr {e : Expr} {f : WN} {te : TE} (h : NE X W e f te) : PE X e (semE X W (eNr f)) :=
  peOf h.1 fun σ H Q ⟨B, F, env, P, Y, R, p, ok, x⟩ => h.2 σ H (fun _ _ _ => False) Q ⟨B, F, env, _, Y, R, p, fun _ _ _ _ _ _ _ z => z.elim, x⟩ fun _ _ _ z => z.elim
/-! ### o != C(..) -/
def eNeN (c : Str) (i g1 g2 : Nat) (C : Ct) (f : WN) : WE := fun env P Y => (∃ fs, obAt env i c fs) ∧ f env (fun cl ns env' => ∃ o1 o2, ns = [o1, o2] ∧ ((i < env'.length ∧ g1 < env'.length ∧ g2 < env'.length) ∧ (∃ fs, obAt env' i c fs) ∧ ∃ gs, cl.obL? = some (c, gs)) ∧
  eCall C [.r i, .r (env'.length + 2), .r g1, .r g2, .r (env'.length + 1), .r env'.length] (env' ++ [some (.ow o2), some (.ow o1), some cl]) (fun cb e2 => ∃ b : Bool, cb = .fz (.bool b) ∧ P (.fz (.bool (!b))) (e2.take env'.length)) fun _ => False) Y
theorem Rl.cutE {K : PySem.W.Frag} {w : Option V} (R0 : ∀ i p, B.io i p → i < σ.length) (R : Rl K B (σ ++ [w]) H F env) : ∃ e c, env = e ++ [c] ∧ Rl K B σ H F e := by
  have hl : env.length = σ.length + 1 := by rw [R.len]; simp
  have hne : env ≠ [] := by intro z; rw [z] at hl; cases hl
  refine ⟨env.dropLast, env.getLast hne, (List.dropLast_concat_getLast hne).symm, ?_⟩
  rw [← List.dropLast_concat_getLast hne] at R
  exact R.pop fun p z => Nat.lt_irrefl _ (R0 _ _ z)
theorem neN_imp {c : Str} {C : Addr} {i g1 g2 : Nat} {Ct : Ct} {e : Expr} {f : WN} {te : TE} (hC : clsN X.K c C) (hf : NE X W e f te) (nd : [i, g1, g2].Nodup) : ∀ σ H Q, semE X W (eNeN c i g1 g2 Ct f) σ H Q → tOp (rNeO C (spN X.K X.mg 2 4 0 Ct)) (tVar i) te σ H Q := fun σ H Q ⟨B, F, env, P, Y, R, h, ok, x⟩ => by
  obtain ⟨⟨fs0, ho0⟩, h⟩ := h
  obtain ⟨p, ep, _⟩ := obAt.at R ho0
  refine ⟨.ref p, ep, hf.2 σ H (fun v zs H' => rNeO C (spN X.K X.mg 2 4 0 Ct) (.ref p) v H' Q) _ ⟨B, F, env, _, Y, R, h, fun cl ns env' v zs H' F' hh zl R' s => ?_, x⟩ fun v zs H' q => q⟩
  obtain ⟨o1, o2, rfl, ⟨⟨il, l1, l2⟩, ⟨fs, ho⟩, gs, hgs⟩, hc⟩ := hh
  obtain ⟨z1, z2, rfl⟩ : ∃ z1 z2, zs = [z1, z2] := by
    match zs, zl with
    | [a, b], _ => exact ⟨a, b, rfl⟩
  have R' : Rl X.K B (σ ++ [some z2, some z1, some v]) H' F' (env' ++ [some (.ow o2), some (.ow o1), some cl]) := R'
  have hle : env'.length = σ.length := by
    have := R'.len
    simp at this
    omega
  have a1 : obAt (env' ++ [some (.ow o2), some (.ow o1), some cl]) i c fs := by
    obtain ⟨k, e1, e2⟩ := obAt_iff.mp ho
    exact obAt_iff.mpr ⟨k, by rw [List.getElem?_append_left il]; exact e1, e2⟩
  have a2 : obAt (env' ++ [some (.ow o2), some (.ow o1), some cl]) (env'.length + 2) c gs := obAt_iff.mpr ⟨cl, by rw [List.getElem?_append_right (by omega)]; simp, hgs⟩
  have nd2 : (lentOf (.r i :: .r (env'.length + 2) :: [g1, g2, env'.length + 1, env'.length].map Arg.r)).Nodup := by
    simp only [List.nodup_cons, List.mem_cons, List.not_mem_nil, or_false, not_or, List.nodup_nil, not_false_eq_true, and_true] at nd
    obtain ⟨⟨n1, n2⟩, n3⟩ := nd
    have e0 : lentOf (.r i :: .r (env'.length + 2) :: [g1, g2, env'.length + 1, env'.length].map Arg.r) = [i, env'.length + 2, g1, g2, env'.length + 1, env'.length] := rfl
    rw [e0]
    simp only [List.nodup_cons, List.mem_cons, List.not_mem_nil, or_false, not_or, List.nodup_nil, not_false_eq_true, and_true]
    omega
  have z := neO_imp (W := W0) (X := X) (Ct := Ct) (g := 4) hC (gl := [g1, g2, env'.length + 1, env'.length]) rfl nd2 (σ ++ [some z2, some z1, some v]) H' Q ⟨B, F', _, (fun c' e2 => ∃ b : Bool, c' = .fz (.bool b) ∧ P c' (e2.take env'.length)), (fun _ => False), R', ⟨⟨fs, gs, a1, a2⟩, ?_⟩, fun c' e2 v' H2 F2 hp R2 s2 => ?_, xok0⟩
  · obtain ⟨w1, e1, w2, e2, z⟩ := z
    have e1 : (σ ++ [some z2, some z1, some v])[i]? = some (some w1) := e1
    have e2 : (σ ++ [some z2, some z1, some v])[env'.length + 2]? = some (some w2) := e2
    rw [List.getElem?_append_left (by omega), ep] at e1
    cases e1
    rw [List.getElem?_append_right (by omega)] at e2
    simp [hle] at e2
    subst e2
    exact z
  · have eb : (fun (cl : Cl) (e3 : En) => ∃ b : Bool, cl = .fz (.bool b) ∧ ∃ b' : Bool, (Cl.fz (.bool (!b)) : Cl) = .fz (.bool b') ∧ P (.fz (.bool (!b))) (e3.take env'.length)) = fun cl e3 => ∃ b : Bool, cl = .fz (.bool b) ∧ P (.fz (.bool (!b))) (e3.take env'.length) := by
      funext cl e3
      apply propext
      constructor
      · rintro ⟨b, e, b', _, q⟩
        exact ⟨b, e, q⟩
      · rintro ⟨b, e, q⟩
        exact ⟨b, e, _, rfl, q⟩
    show eCall Ct _ _ (fun (cl : Cl) (e3 : En) => ∃ b : Bool, cl = .fz (.bool b) ∧ ∃ b' : Bool, (Cl.fz (.bool (!b)) : Cl) = .fz (.bool b') ∧ P (.fz (.bool (!b))) (e3.take env'.length)) _
    rw [eb]
    exact hc
  · obtain ⟨b, rfl, q⟩ := hp
    have ev := topBool R2
    subst ev
    have R3 := R2.pop R'.nio
    have R3 : Rl X.K B (σ ++ [some z2] ++ [some z1] ++ [some v]) H2 F2 e2 := by
      rw [show σ ++ [some z2] ++ [some z1] ++ [some v] = σ ++ [some z2, some z1, some v] by simp]
      exact R3
    have lt : ∀ i p, B.io i p → i < σ.length := R.ioLt
    obtain ⟨e3, c3, rfl, R4⟩ := Rl.cutE (fun i p h => by have := lt i p h; simp; omega) R3
    obtain ⟨e4, c4, rfl, R5⟩ := Rl.cutE (fun i p h => by have := lt i p h; simp; omega) R4
    obtain ⟨e5, c5, rfl, R6⟩ := Rl.cutE lt R5
    have e6 : (e5 ++ [c5] ++ [c4] ++ [c3]).take env'.length = e5 := by
      rw [hle, ← R6.len]
      simp
    rw [e6] at q
    exact ok _ _ _ _ _ q (R6.push (.bl b)) (s.trans s2)
end
theorem test_of {X : Cx} {W : WX} {f : WE} {te : TE} (h : ∀ σ H Q, semE X W f σ H Q → te σ H Q) : ∀ σ H Q, semT X W (tVal f) σ H Q → tTest te σ H Q := fun σ H Q ⟨B, F, env, P, Y, R, p, ok, x⟩ =>
  h σ H _ ⟨B, F, env, _, Y, R, p, fun c env' v H' F' ⟨k, e, p⟩ R' s => by
    subst e
    exact ⟨k, topBool R', ok _ _ _ _ p (R'.pop R.nio) s⟩, x⟩
section
variable {X : Cx} {W : WX} {k k' : Nat} {fa C : Addr} {fd : FuncData} {ps : List Str} {c : Str} {o e : Expr} {f : WN} {te : TE} {pos : Pos} {Ct : Ct} {i g1 g2 : Nat}
theorem g_neN (hO : PE X o (tVar i)) (hf : NE X W e f te) (hC : clsN X.K c C) (hm : Meth X.K C "__eq__" fa) (FO : FnG X.prog X.w X.K X.mg X.base k fa fd ps (spN X.K X.mg 2 4 0 Ct)) (gd : X.A.guards = some []) (hr : Room k' X.A) (hk : k + 1 ≤ k') (hbn : Binds X.K fd ps []) (hb : eqClsB X.K C = true)
    (nd : [i, g1, g2].Nodup := by decide) : PE X (.Compare o [.NotEq] [e] pos) (semE X W (eNeN c i g1 g2 Ct f)) :=
  peOf (pe_cmpR (op_neO hm FO gd (hr.mono hk) hbn (eqCls_of hb).1 (eqCls_of hb).2.1) hO hf.1 (nomark _)) (neN_imp hC hf nd)
theorem h_neN (hO : PE X o (tVar i)) (hf : NE X W e f te) (hC : clsN X.K c C) (hm : Meth X.K C "__eq__" fa) (FO : FnG X.prog X.w X.K X.mg X.base k fa fd ps (spN X.K X.mg 2 4 0 Ct)) (gd : X.A.guards = some []) (hr : Room k' X.A) (hk : k + 1 ≤ k') (hbn : Binds X.K fd ps []) (hb : eqClsB X.K C = true)
    (nd : [i, g1, g2].Nodup := by decide) : PT X (.Compare o [.NotEq] [e] pos) (semT X W (tVal (eNeN c i g1 g2 Ct f))) :=
  ptOf (pt_cmpR (op_neO hm FO gd (hr.mono hk) hbn (eqCls_of hb).1 (eqCls_of hb).2.1) hO hf.1 (nomark _)) (test_of (neN_imp hC hf nd))
theorem h_neO {q : Expr} {g j : Nat} {gl : List Nat} (hO : PE X o (tVar i)) (hQ : PE X q (tVar j)) (hC : clsN X.K c C) (hm : Meth X.K C "__eq__" fa) (FO : FnG X.prog X.w X.K X.mg X.base k fa fd ps (spN X.K X.mg 2 g 0 Ct)) (gd : X.A.guards = some []) (hr : Room k' X.A) (hk : k + 1 ≤ k') (hbn : Binds X.K fd ps [])
    (hne : PySem.W.findIn X.K (.ref C) "__ne__" = some (some (.builtin "object.__ne__"))) (hob : PySem.W.subIn X.K (.ref C) (.type "object") = some true)
    (hg : gl.length = g := by rfl) (nd : (lentOf (.r i :: .r j :: gl.map Arg.r)).Nodup := by decide) : PT X (.Compare o [.NotEq] [q] pos) (semT X W (tVal (eNeO c i j Ct gl))) :=
  ptOf (pt_cmpR (op_neO hm FO gd (hr.mono hk) hbn hne hob) hO hQ (nomark _)) (test_of (neO_imp hC hg nd))
end
end Sw

/-! keywords: of defs that ask for guards, of methods, of classes -/
namespace Sw
open PySem PySem.Spec PyProof.Rows L2
section
variable {X : Cx} {W : WX} {k k' n : Nat} {f fa C : Addr} {fd : FuncData} {ps ks : List Str} {sp : Sp} {x m : Str} {p p1 p2 pos apos kpos : Pos} {e o : Expr} {es : List Expr} {kws : List Keyword} {t tk ta : TA} {g : List Value → List Value → List Value} {gV : List V → List V → List V} {te : TE}
theorem k_v {nm : Option Str} {f : WE} {as : List Arg} (h1 : PE X e (semE X W f)) (h2 : PK X kws (tArgs X W as)) : PK X (⟨nm, e, kpos⟩ :: kws) (tArgs X W (.v f :: as)) := pk_cons h1 h2
theorem k_n : PK X [] (tArgs X W []) := pk_nil
theorem run_GK {pins : List (Addr × PySem.Obj)} {σ : L2.St} {H : Hp} {s : Shared} {Q : VK} {us ws : List Value} {vs zs : List V} {E : XK} (F : FnG X.prog X.w X.K X.mg X.base k f fd ps sp) (gd : X.A.guards = some []) (hr : Room k X.A) (hb : KBn X.K fd ps n ks g gV) (hx : PassesAt (L2.CX X.prog X.w) X σ E)
    (I : Inv X pins σ H s) (r : Vals vs us) (rz : Vals zs ws) (l1 : vs.length = n) (l2 : zs.length = ks.length) (h : sp (gV vs zs) H Q E) : wpAny (model X.prog X.w) X.A (call (.ref f) us (ks.zip ws)) (EP X pins σ Q) X.xe s := by
  have r2 := hb.rel r rz
  refine wpAny_call (codeAny_mono (F.run X.A X.stack s H ⟨us, ks.zip ws⟩ (g us ws) (gV vs zs) Q E gd hr I.env0 (hb.to s us ws I.kIn (r.length.symm.trans l1) (rz.length.symm.trans l2)) r2 h) fun res s' hq => ?_)
  match res, hq with
  | .error u, hq => exact hx pins H s u s' I hq
  | .ok (.ret u), hq => exact I.after hq
theorem pe_callGK0 {E : L2.St → XK} (F : FnG X.prog X.w X.K X.mg X.base k f fd ps sp) (gd : X.A.guards = some []) (hr : Room k X.A) (hg : Gl X x) (hm : X.mg x = some (.ref f)) (hk : PySem.W.keepIn X.K (.ref f) = true) (hb : KBn X.K fd ps n ks g gV) (hx : ∀ σ, PassesAt (L2.CX X.prog X.w) X σ (E σ))
    (hkw : PK X kws tk) (hall : (backToKw pos (keywordEach kws X.env)).all (·.1.isSome) = true := by rfl) (hks : (backToKw pos (keywordEach kws X.env)).filterMap (·.1) = ks := by rfl)
    (hdb : (x == ("__debug__" : Str)) = false := by decide)
    (hpl : ((backTo pos (starEach [] X.env)).any (·.1) || (backToKw pos (keywordEach kws X.env)).any (·.1.isNone)) = false := by rfl) :
    PE X (.Call (.Name x p) [] kws pos) (tCallNS n ks.length sp gV E tNil tk) := by
  refine ⟨fun pins s σ H Q I h => ?_⟩
  refine wpAny_Call_Name_kw (ld_glob I hg hm ?_ hdb)
  refine PySem.W.callWith_KW0 (h₀ := X.base) I.ok.mod.kin hk hall (thn (hkw.run pos pins s σ H _ I h) fun ws s2 ⟨zs, H2, I2, rz, l1, l2, q2⟩ => ⟨I2.kIn, ?_⟩) hpl
  rw [hks]
  exact run_GK (us := []) (vs := []) F gd hr hb (hx σ) I2 .nil rz l1 l2 q2
theorem g_callKG0 {C : Ct} {is : List Nat} {dfl : List D} {fs : List WE} {dv : List V} {k' : Nat} (FO : FnG X.prog X.w X.K X.mg X.base k f fd ps (spOf X.K X.mg ps.length C)) (gd : X.A.guards = some []) (hr : Room k' X.A) (hk : k ≤ k') (hm : X.mg x = some (.ref f)) (kp : PySem.W.keepIn X.K (.ref f) = true) (hb : KBn X.K fd ps 0 ks g (fun vs zs => pickL is (vs ++ zs ++ dv)))
    (tk : Takes X W) (hg : Gl X x) (hd : ∀ F, RepL X.K F dv dfl) (hkw : PK X kws (tEs X W fs)) (hf : fs.length = ks.length := by rfl) (hl : ∀ ds : List D, ds.length = 0 + fs.length → (pickL is (ds ++ dfl)).length = ps.length := by first | (exact fun ds h => match ds, h with | [_], _ => rfl) | (exact fun ds h => match ds, h with | [_, _], _ => rfl) | (exact fun ds h => match ds, h with | [_, _, _], _ => rfl) | (exact fun ds h => match ds, h with | [_, _, _, _], _ => rfl))
    (hall : (backToKw pos (keywordEach kws X.env)).all (·.1.isSome) = true := by rfl) (hks : (backToKw pos (keywordEach kws X.env)).filterMap (·.1) = ks := by rfl)
    (hdb : (x == ("__debug__" : Str)) = false := by decide)
    (hpl : ((backTo pos (starEach [] X.env)).any (·.1) || (backToKw pos (keywordEach kws X.env)).any (·.1.isNone)) = false := by rfl) :
    PE X (.Call (.Name x p) [] kws pos) (semE X W (eCallK is dfl C fs)) :=
  peOf (pe_callGK0 FO gd (hr.mono hk) hg hm kp hb (passAt tk) hkw hall hks hdb hpl) fun σ H Q h => by
    rw [← hf]
    exact callK_imp (gs := []) hd hl σ H Q h
/-! ### a method's keyword -/
theorem pe_methGK {E : L2.St → XK} {to : TE} {pl : Sem Bool} (hO : PE X o to) (cl : Cls X.K C) (hm : Meth X.K C m fa) (FO : FnG X.prog X.w X.K X.mg X.base k fa fd ps sp) (gd : X.A.guards = some []) (hr : Room k X.A) (hb : KBn X.K fd ps 1 ks g gV) (hx : ∀ σ, PassesAt (L2.CX X.prog X.w) X σ (E σ)) (hkw : PK X kws tk) (hk1 : ks.length = 1) (hgV : ∀ a z, gV [a] [z] = [a, z])
    (hl : ∀ σ H Q, tk σ H Q → tk σ H fun zs H2 => (∃ z, zs = [z]) ∧ Q zs H2)
    (hall : (backToKw pos (keywordEach kws X.env)).all (·.1.isSome) = true := by rfl) (hks : (backToKw pos (keywordEach kws X.env)).filterMap (·.1) = ks := by rfl)
    (hpl : ((backTo pos (starEach [] X.env)).any (·.1) || (backToKw pos (keywordEach kws X.env)).any (·.1.isNone)) = false := by rfl)
    (s3 : eval (.Call (.Attribute o m apos) [] kws pos) X.env = (do
      let recv ← eval o X.env
      standAt apos.atName
      let (g, hd) ← holding [recv] (getMethod recv m pl)
      callWith pos g hd (backTo pos (starEach [] X.env)) (backToKw pos (keywordEach kws X.env))) := by rfl) : PE X (.Call (.Attribute o m apos) [] kws pos) (tMethG C m sp E to tk) := by
  constructor
  intro pins s σ H Q I h
  apply PySem.W.methodCall_KW (pl := pl) _ s3
  refine thn (hO.run pins s σ H _ I h) ?_
  rintro u s1' ⟨y, H1, I1, ry, a, dx, fs, rfl, ea, ln, q⟩
  cases ry
  apply getmeth_ok I1 ea cl hm ln
  refine PySem.W.callWith_KW0 (first := [Value.ref a]) (h₀ := X.base) I.ok.mod.kin hm.kp hall (thn (hkw.run pos pins s1' σ H1 _ I1 (hl _ _ _ q)) fun ws s2 ⟨zs, H2, I2, rz, ⟨z, ez⟩, q2⟩ => ⟨I2.kIn, ?_⟩) hpl
  rw [hks]
  subst ez
  exact run_GK (us := [.ref a]) (vs := [.ref a]) FO gd hr hb (hx σ) I2 (.cons rfl .nil) rz rfl hk1.symm (by rw [hgV]; exact q2)
theorem arg1 {f : WE} : ∀ σ H Q, tArgs X W [.v f] σ H Q → tArgs X W [.v f] σ H fun zs H2 => (∃ z, zs = [z]) ∧ Q zs H2 := fun σ H Q ⟨B, F, env, P, Y, R, h, ok, x⟩ =>
  ⟨B, F, env, P, Y, R, h, fun c env' v H' F' p R' s => ⟨⟨v, rfl⟩, ok c env' v H' F' p R' s⟩, x⟩
theorem g_methK {c : Str} {i : Nat} {Ct : Ct} {f' : WE} {gl : List Nat} {gn : Nat} (pl : Sem Bool) (hO : PE X o (tVar i)) (hC : clsN X.K c C) (cl : Cls X.K C) (hm : Meth X.K C m fa) (FO : FnG X.prog X.w X.K X.mg X.base k fa fd ps (spN X.K X.mg 2 gn 0 Ct)) (gd : X.A.guards = some []) (hr : Room k' X.A) (hk : k ≤ k') (hb : KBn X.K fd ps 1 ks g gV) (tk : Takes X W) (hkw : PK X kws (tArgs X W [.v f']))
    (hk1 : ks.length = 1 := by rfl) (hgV : ∀ a z, gV [a] [z] = [a, z] := by intro a z; rfl) (hg : gl.length = gn := by rfl) (nd : (lentOf (.r i :: ([.v f'] ++ gl.map Arg.r))).Nodup := by decide)
    (hall : (backToKw pos (keywordEach kws X.env)).all (·.1.isSome) = true := by rfl) (hks : (backToKw pos (keywordEach kws X.env)).filterMap (·.1) = ks := by rfl)
    (hpl : ((backTo pos (starEach [] X.env)).any (·.1) || (backToKw pos (keywordEach kws X.env)).any (·.1.isNone)) = false := by rfl)
    (s3 : eval (.Call (.Attribute o m apos) [] kws pos) X.env = (do
      let recv ← eval o X.env
      standAt apos.atName
      let (g, hd) ← holding [recv] (getMethod recv m pl)
      callWith pos g hd (backTo pos (starEach [] X.env)) (backToKw pos (keywordEach kws X.env))) := by rfl) : PE X (.Call (.Attribute o m apos) [] kws pos) (semE X W (eMeth c m i Ct ([.v f'] ++ gl.map Arg.r))) :=
  peOf (pe_methGK (pl := pl) hO cl hm FO gd (hr.mono hk) hb (passAt tk) hkw hk1 hgV arg1 hall hks hpl s3) (meth_imp (as := [.v f']) (n := 2) hC rfl hg nd)
/-! ### a class's keyword -/
theorem pe_makeGK {E : L2.St → XK} (M : Mk X.K C fa) (F : FnG X.prog X.w X.K X.mg X.base k fa fd ps sp) (gd : X.A.guards = some []) (hr : Room (k + 1) X.A) (hg : Gl X x) (hm : X.mg x = some (.ref C)) (hb : KBn X.K fd ps 1 ks g gV) (hx : ∀ σ, PassesAt (L2.CX X.prog X.w) X σ (E σ)) (hkw : PK X kws tk) (hk1 : ks.length = 1) (hgV : ∀ a z, gV [a] [z] = [a, z])
    (hl : ∀ σ H Q, tk σ H Q → tk σ H fun zs H2 => (∃ z, zs = [z]) ∧ Q zs H2)
    (hall : (backToKw pos (keywordEach kws X.env)).all (·.1.isSome) = true := by rfl) (hks : (backToKw pos (keywordEach kws X.env)).filterMap (·.1) = ks := by rfl)
    (hdb : (x == ("__debug__" : Str)) = false := by decide)
    (hpl : ((backTo pos (starEach [] X.env)).any (·.1) || (backToKw pos (keywordEach kws X.env)).any (·.1.isNone)) = false := by rfl) : PE X (.Call (.Name x p) [] kws pos) (tMakeG C sp E tk) := by
  refine ⟨fun pins s σ H Q I h => ?_⟩
  refine wpAny_Call_Name_kw (ld_glob I hg hm ?_ hdb)
  refine PySem.W.callWith_KW0 (h₀ := X.base) I.ok.mod.kin M.kp hall (thn (hkw.run pos pins s σ H _ I (hl _ _ _ h)) fun ws s2 ⟨zs, H2, I2, rz, ⟨z, ez⟩, q2⟩ => ⟨I2.kIn, ?_⟩) hpl
  rw [hks]
  subst ez
  have hq := q2 (s2.heap.objs.size + 1) s2.heap.objs.size (I2.hok.fresh (Nat.le_succ _)) (I2.hok.fresh (Nat.le_refl _)) (Nat.ne_of_lt (Nat.lt_succ_self _))
  have I3 := Inv.made (C := C) I2
  have r1 : Vals [V.ref (s2.heap.objs.size + 1)] [Value.ref (s2.heap.objs.size + 1)] := .cons rfl .nil
  have r2 := hb.rel r1 rz
  rw [hgV] at r2
  have e2 : ws.length = ks.length := rz.length.symm.trans hk1.symm
  refine wpAny_call (make_map (f := fa) I2.kIn M.makes M.init (beq_iff_eq.mp M.fn) (codeAny_mono (F.run _ X.stack _ _ ⟨[Value.ref (s2.heap.objs.size + 1)], ks.zip ws⟩ (g [Value.ref (s2.heap.objs.size + 1)] ws) _ _ (E σ) (by first | exact gd | simpa [Around.under] using gd) (hr.make C [] (ks.zip ws))
    (I3.env0.make C [] (ks.zip ws)) (hb.to _ [Value.ref (s2.heap.objs.size + 1)] ws I3.kIn rfl e2) r2 hq) fun r s' hq' => ?_))
  match r, hq' with
  | .error e, hq' => exact hx σ pins _ _ e s' I3 hq'
  | .ok (.ret u), hq' =>
    obtain ⟨v, H', I4, rv, ev, q3⟩ := I3.after hq'
    subst ev
    exact ⟨rv, ⟨V.ref (s2.heap.objs.size + 1), H', I4, rfl, q3⟩⟩
theorem ne_makeK {r : Nat} {c : Str} {Ct : Ct} {f' : WE} (hC : clsN X.K c C) (M : Mk X.K C fa) (FO : FnG X.prog X.w X.K X.mg X.base k fa fd ps (spN X.K X.mg 2 0 r Ct)) (gd : X.A.guards = some []) (hr : Room k' X.A) (hk : k + 1 ≤ k') (hgl : Gl X c) (hm : X.mg c = some (.ref C)) (hb : KBn X.K fd ps 1 ks g gV) (tk : Takes X W) (hkw : PK X kws (tArgs X W [.v f']))
    (hk1 : ks.length = 1 := by rfl) (hgV : ∀ a z, gV [a] [z] = [a, z] := by intro a z; rfl) (hall : (backToKw pos (keywordEach kws X.env)).all (·.1.isSome) = true := by rfl) (hks : (backToKw pos (keywordEach kws X.env)).filterMap (·.1) = ks := by rfl)
    (hdb : (c == ("__debug__" : Str)) = false := by decide)
    (hpl : ((backTo pos (starEach [] X.env)).any (·.1) || (backToKw pos (keywordEach kws X.env)).any (·.1.isNone)) = false := by rfl) :
    NE X W (.Call (.Name c p1) [] kws pos) (nMake c Ct [.v f']) (tMakeG C (spN X.K X.mg 2 0 r Ct) (L2.WE W) (tArgs X W [.v f'])) :=
  ⟨pe_makeGK M FO gd (hr.mono hk) hgl hm hb (passAt tk) hkw hk1 hgV arg1 hall hks hdb hpl, nMake_imp (as := [.v f']) hC rfl List.nodup_nil⟩
end
end Sw

/-! the large head: in SwHd -/

/-! texts: joined, split, parted, walked, signs in texts, int(text), text * n; enumerate(x, start=k); *a, b = t -/
namespace Sw
open PySem PySem.Spec PyProof.Rows L2
section
variable {X : Cx} {W : WX} {B : Bd} {σ : L2.St} {H F : Hp} {env : En} {Y : XP} {K : PySem.W.Frag}
theorem RepL.strs : ∀ {vs : List V} {ys : List Str}, RepL K F vs (ys.map PyData.str) → vs = ys.map V.str
  | _, [], h => by cases h; rfl
  | _, y :: ys, h => by
    cases h with
    | cons r t => cases r; rw [RepL.strs t]; rfl
theorem RepL.of_strs : ∀ (ys : List Str), RepL K F (ys.map V.str) (ys.map PyData.str)
  | [] => .nil
  | y :: ys => .cons (.str y) (RepL.of_strs ys)
section
variable {ea eb : Expr} {a b : Opd} {p1 pos : Pos}
/-! ### sep.join(list of texts) -/
def gJoin : D → D → (Cl → Prop) → Prop
  | .str a, .list ds, P => ∃ ys : List Str, ds = ys.map PyData.str ∧ (ys.map (·.length)).sum + ys.length * a.length ≤ 16777216 ∧ P (.fz (.str (Txt.join a ys)))
  | _, _, _ => False
theorem mg_join : MtG X (fun x xs H Q => ∃ a p, ∃ ys : List Str, x = .str a ∧ xs = [.ref p] ∧ (SqL X.K H p (ys.map V.str) ∨ SqT X.K H p (ys.map V.str)) ∧ (ys.map (·.length)).sum + ys.length * a.length ≤ 16777216 ∧ Q (.str (Txt.join a ys)) H) gJoin := fun B σ H F env x y d1 d2 P Q R r1 r2 g k => by
  cases d1 with
  | str a =>
    cases d2 with
    | list ds =>
      obtain ⟨ys, rfl, hz, p⟩ := g
      obtain ⟨q, vs, rfl, h, l⟩ := r2.lst R.sub
      have := l.strs
      subst this
      exact ⟨a, q, ys, r1.str, rfl, .inl (SqL.of h), hz, k _ _ _ _ p (R.push (.str _)) (Same.refl F)⟩
    | _ => exact g.elim
  | _ => exact g.elim
theorem g_join (ha : PE X ea (tO X W a)) (hb : PE X eb (tO X W b)) (hbase : attributeBase ea "join" X.env (eval ea X.env) = eval ea X.env := by rfl)
    (hfew : ((backTo pos (starEach [eb] X.env)).all (fun x => !x.1) && (backToKw pos (keywordEach [] X.env)).all (fun x => x.1.isSome) && decide ([eb].length + ([] : List Keyword).length + (if ([] : List Keyword).isEmpty then 0 else 1) < 30)) = true := by rfl)
    (hline : (p1.endLine == pos.line) = true := by rfl) (hs : starEach [eb] X.env = (false, eval eb X.env) :: starEach [] X.env := by rfl) (hp : (backTo pos (starEach [] X.env)).any (·.1) = false := by rfl) : PE X (.Call (.Attribute ea "join" p1) [eb] [] pos) (semE X W (eMt2 "str" gJoin a b)) :=
  peOf (pe_bm PySem.F.plainAttrs_str PySem.F.slot_str_join PySem.F.type_str_join mt_join ha (pa_cons hb pa_nil hs) hbase hfew hline hs hp) (mt2_imp (.inr rfl) mg_join)
/-! ### x.split(sep) -/
def gSplit : D → D → (Cl → Prop) → Prop
  | .str a, .str b, P => (b.length == 0) = false ∧ a.length + 2 ≤ sizeLine ∧ P (.ow (.lst ((Txt.split a b).map PyData.str)))
  | _, _, _ => False
theorem mg_split : MtG X (fun x xs H Q => ∃ a b, x = .str a ∧ xs = [.str b] ∧ (b.length == 0) = false ∧ a.length + 2 ≤ sizeLine ∧ rNewStrs (Txt.split a b) H Q) gSplit := fun B σ H F env x y d1 d2 P Q R r1 r2 g k => by
  cases d1 with
  | str a =>
    cases d2 with
    | str b =>
      refine ⟨a, b, r1.str, by rw [r2.str], g.1, g.2.1, fun q hq => ?_⟩
      exact k _ _ _ _ g.2.2 (R.fresh hq ⟨_, upd_same, RepL.of_strs _⟩) (Same.refl F)
    | _ => exact g.elim
  | _ => exact g.elim
theorem g_split (ha : PE X ea (tO X W a)) (hb : PE X eb (tO X W b)) (hbase : attributeBase ea "split" X.env (eval ea X.env) = eval ea X.env := by rfl)
    (hfew : ((backTo pos (starEach [eb] X.env)).all (fun x => !x.1) && (backToKw pos (keywordEach [] X.env)).all (fun x => x.1.isSome) && decide ([eb].length + ([] : List Keyword).length + (if ([] : List Keyword).isEmpty then 0 else 1) < 30)) = true := by rfl)
    (hline : (p1.endLine == pos.line) = true := by rfl) (hs : starEach [eb] X.env = (false, eval eb X.env) :: starEach [] X.env := by rfl) (hp : (backTo pos (starEach [] X.env)).any (·.1) = false := by rfl) : PE X (.Call (.Attribute ea "split" p1) [eb] [] pos) (semE X W (eMt2 "str" gSplit a b)) :=
  peOf (pe_bm PySem.F.plainAttrs_str PySem.F.slot_str_split PySem.F.type_str_split mt_split ha (pa_cons hb pa_nil hs) hbase hfew hline hs hp) (mt2_imp (.inr rfl) mg_split)
/-! ### x.partition(sep) -/
def gPart : D → D → (Cl → Prop) → Prop
  | .str a, .str b, P => (b.length == 0) = false ∧ a.length ≤ sizeLine ∧ P (.fz (.tuple [.str (Txt.partition a b).1, .str (Txt.partition a b).2.1, .str (Txt.partition a b).2.2]))
  | _, _, _ => False
theorem mg_part : MtG X (fun x xs H Q => ∃ a b, x = .str a ∧ xs = [.str b] ∧ (b.length == 0) = false ∧ a.length ≤ sizeLine ∧ ∀ p, H p = none → Q (.ref p) (upd H p (.tup [.str (Txt.partition a b).1, .str (Txt.partition a b).2.1, .str (Txt.partition a b).2.2]))) gPart := fun B σ H F env x y d1 d2 P Q R r1 r2 g k => by
  cases d1 with
  | str a =>
    cases d2 with
    | str b =>
      refine ⟨a, b, r1.str, by rw [r2.str], g.1, g.2.1, fun q hq => ?_⟩
      have sm : Same F (upd F q (.tup [.str (Txt.partition a b).1, .str (Txt.partition a b).2.1, .str (Txt.partition a b).2.2])) := same_new (R.nF hq)
      exact k _ _ _ _ g.2.2 ((R.grow hq).push (.tup (SqT.of upd_same) (.cons (.str _) (.cons (.str _) (.cons (.str _) .nil))))) sm
    | _ => exact g.elim
  | _ => exact g.elim
theorem g_part (ha : PE X ea (tO X W a)) (hb : PE X eb (tO X W b)) (hbase : attributeBase ea "partition" X.env (eval ea X.env) = eval ea X.env := by rfl)
    (hfew : ((backTo pos (starEach [eb] X.env)).all (fun x => !x.1) && (backToKw pos (keywordEach [] X.env)).all (fun x => x.1.isSome) && decide ([eb].length + ([] : List Keyword).length + (if ([] : List Keyword).isEmpty then 0 else 1) < 30)) = true := by rfl)
    (hline : (p1.endLine == pos.line) = true := by rfl) (hs : starEach [eb] X.env = (false, eval eb X.env) :: starEach [] X.env := by rfl) (hp : (backTo pos (starEach [] X.env)).any (·.1) = false := by rfl) : PE X (.Call (.Attribute ea "partition" p1) [eb] [] pos) (semE X W (eMt2 "str" gPart a b)) :=
  peOf (pe_bm PySem.F.plainAttrs_str PySem.F.slot_str_partition PySem.F.type_str_partition mt_partition ha (pa_cons hb pa_nil hs) hbase hfew hline hs hp) (mt2_imp (.inr rfl) mg_part)
/-! ### one sign in a text -/
def gInS (f : Bool → Bool) : D → D → (Cl → Prop) → Prop
  | .str a, .str z, P => ∃ c : Nat, a = ⟨#[c]⟩ ∧ P (.fz (.bool (f (decide (c ∈ z.cps.toList)))))
  | _, _, _ => False
theorem og_inS {f : Bool → Bool} : OpG X (fun x y H Q => ∃ (c : Nat) (z : Str), x = .str ⟨#[c]⟩ ∧ y = .str z ∧ Q (.bl (f (decide (c ∈ z.cps.toList)))) H) (gInS f) := fun B σ H F env x y d1 d2 P Q R r1 r2 g k => by
  cases d1 with
  | str a =>
    cases d2 with
    | str z =>
      obtain ⟨c, e, p⟩ := g
      exact ⟨c, z, by rw [r1.str, e], r2.str, k _ _ _ _ p (R.push (.bl _)) (Same.refl F)⟩
    | _ => exact g.elim
  | _ => exact g.elim
theorem g_inS (ha : PE X ea (tO X W a)) (hb : PE X eb (tO X W b)) (hm : behindInMarks .In eb = false := by rfl) : PE X (.Compare ea [.In] [eb] pos) (semE X W (eOp2 (gInS id) a b)) := pe_cmp2 (op := .In) op_in_sign (og_inS (f := id)) ha hb hm
theorem h_inS (ha : PE X ea (tO X W a)) (hb : PE X eb (tO X W b)) (hm : behindInMarks .In eb = false := by rfl) : PT X (.Compare ea [.In] [eb] pos) (semT X W (tOp2 (gInS id) a b)) := pt_cmp2 (op := .In) op_in_sign (og_inS (f := id)) ha hb hm
theorem g_ninS (ha : PE X ea (tO X W a)) (hb : PE X eb (tO X W b)) (hm : behindInMarks .NotIn eb = false := by rfl) : PE X (.Compare ea [.NotIn] [eb] pos) (semE X W (eOp2 (gInS Bool.not) a b)) := pe_cmp2 (op := .NotIn) op_notIn_sign (og_inS (f := Bool.not)) ha hb hm
theorem h_ninS (ha : PE X ea (tO X W a)) (hb : PE X eb (tO X W b)) (hm : behindInMarks .NotIn eb = false := by rfl) : PT X (.Compare ea [.NotIn] [eb] pos) (semT X W (tOp2 (gInS Bool.not) a b)) := pt_cmp2 (op := .NotIn) op_notIn_sign (og_inS (f := Bool.not)) ha hb hm
/-! ### int(text) -/
def gIntS : D → (Cl → Prop) → Prop
  | .str a, P => ∃ n, PySem.intText? a = some n ∧ a.length ≤ 640 ∧ P (.fz (.int n))
  | _, _ => False
theorem og_intS : OneG X (fun xs H Q => ∃ a n, xs = [.str a] ∧ PySem.intText? a = some n ∧ a.length ≤ 640 ∧ Q (.int n) H) gIntS := fun B σ H F env x d P Q R r g k => by
  cases d with
  | str a =>
    obtain ⟨n, e, hz, p⟩ := g
    exact ⟨a, n, by rw [r.str], e, hz, k _ _ _ _ p (R.push (.int _)) (Same.refl F)⟩
  | _ => exact g.elim
theorem g_intS (hm : X.mg "int" = none) (hg : Gl X "int") (ha : PE X ea (tO X W a)) (s1 : starEach [ea] X.env = (false, eval ea X.env) :: starEach [] X.env := by rfl) (pl : (backTo pos (starEach [] X.env)).any (·.1) = false := by rfl) : PE X (.Call (.Name "int" p1) [ea] [] pos) (semE X W (eOp1 gIntS a)) := g_1T call_int_str og_intS (by rfl) hm hg ha (s1 := s1) (pl := pl)
/-! ### text * n -/
def repS (a : Str) (n : Nat) : Str := ⟨((List.replicate n a.cps.toList).flatten).toArray⟩
theorem rep_fold (a : Array Nat) : ∀ (n : Nat) (acc : Array Nat), (List.replicate n a).foldl (· ++ ·) acc = acc ++ ((List.replicate n a.toList).flatten).toArray
  | 0, acc => by simp
  | n + 1, acc => by
    rw [List.replicate_succ, List.foldl_cons, rep_fold a n, List.replicate_succ, List.flatten_cons]
    apply Array.toList_inj.mp
    simp
def gMulS : D → D → (Cl → Prop) → Prop
  | .str a, .int k, P => 0 ≤ k ∧ k ≤ 1000 ∧ a.length ≤ 1000 ∧ P (.fz (.str (repS a k.toNat)))
  | _, _, _ => False
def rMulS : R2 := fun x y H Q => ∃ (a : Str) (k : Int), x = .str a ∧ y = .int k ∧ 0 ≤ k ∧ k ≤ 1000 ∧ a.length ≤ 1000 ∧ Q (.str (repS a k.toNat)) H
theorem op_mulS : OpR X (binaryOp .Mult) rMulS := by
  intro pins s σ H x y v u Q I rx ry h
  obtain ⟨a, k, rfl, rfl, h0, h1, hz, q⟩ := h
  obtain ⟨t, rfl⟩ := rx
  obtain ⟨t', rfl⟩ := ry
  have hlen : a.length * k.toNat ≤ 1000000 := by
    have : k.toNat ≤ 1000 := by omega
    exact Nat.mul_le_mul hz this
  refine PySem.P.mul_str (by rw [decide_eq_false (by omega), decide_eq_false (by omega)]; rfl) (fun hk _ => ?_) (fun _ _ => ?_) ?_
  · have h3 : (2 ^ 63 - 1 : Int) / k ≥ 9223372036854775807 / 1000 := by
      have hk0 : 0 < k := by omega
      have : (9223372036854775807 / 1000 : Int) * k ≤ 2 ^ 63 - 1 := by omega
      exact (Int.le_ediv_iff_mul_le hk0).mpr this
    omega
  · unfold PySem.Builtin.Str.tooLong
    have : a.length * k.toNat ≤ 16777216 := by omega
    first
      | exact decide_eq_false (by omega)
      | simp [szl]; omega
  · have fin : ∀ (t2 : Tok) (k2 : Nat), EP X pins σ Q (.str (repS a k.toNat) t2) { s with toks := k2 } := fun t2 k2 => ⟨.str _, H, I.tok k2, ⟨t2, rfl⟩, q⟩
    by_cases e0 : k < 1
    · rw [if_pos e0]
      have ek : k = 0 := by omega
      subst ek
      exact ⟨by decide, fin _ _⟩
    · rw [if_neg e0]
      by_cases e1 : (k == 1 || a.length == 0) = true
      · rw [if_pos e1]
        have ea : repS a k.toNat = a := by
          unfold repS
          apply PySem.Str.ext'
          apply Array.toList_inj.mp
          rcases Bool.or_eq_true_iff.mp e1 with z | z
          · have : k = 1 := by simpa using z
            subst this
            simp
          · have z : a.cps.size = 0 := by simpa [Str.length] using z
            have : a.cps = #[] := Array.eq_empty_of_size_eq_zero z
            rw [this]
            simp
        have := fin t s.toks
        rw [ea] at this
        exact this
      · rw [if_neg e1]
        have ea : (⟨(List.replicate k.toNat a.cps).foldl (· ++ ·) #[]⟩ : Str) = repS a k.toNat := by
          unfold repS
          rw [rep_fold]
          simp
        rw [ea]
        refine ⟨?_, fin _ _⟩
        have : (repS a k.toNat).length = k.toNat * a.length := by
          unfold repS
          simp [Str.length]
        rw [this, sizeLine_eq, Nat.mul_comm]
        omega
theorem og_mulS : OpG X rMulS gMulS := fun B σ H F env x y d1 d2 P Q R r1 r2 g k => by
  cases d1 with
  | str a =>
    cases d2 with
    | int j => exact ⟨a, j, r1.str, r2.int, g.1, g.2.1, g.2.2.1, k _ _ _ _ g.2.2.2 (R.push (.str _)) (Same.refl F)⟩
    | _ => exact g.elim
  | _ => exact g.elim
theorem g_mulS (ha : PE X ea (tO X W a)) (hb : PE X eb (tO X W b)) : PE X (.BinOp ea .Mult eb pos) (semE X W (eOp2 gMulS a b)) := pe_op2 op_mulS og_mulS ha hb
end
/-! ### the signs of a text, walked -/
def txtD (z : Str) : List D := z.cps.toList.map fun c => .str ⟨#[c]⟩
@[simp ↓] def iTxt (f : WE) : WI := fun env g Y => f env (fun c env' => ∃ z : Str, c = .fz (.str z) ∧ g (txtD z) env') Y
theorem walks_txt {z : Str} : Walks K (Its z) F (txtD z) where
  stop := fun i H F' s1 s2 hi => by
    have : z.cps.size ≤ i := by simpa [txtD] using hi
    exact this
  go := fun i H F' s1 s2 hi => by
    have : i < z.cps.size := by simpa [txtD] using hi
    exact this
  yld := fun i H F' x H' d s1 s2 hd ⟨e, c, hc, hx⟩ => by
    have : d = .str ⟨#[c]⟩ := by
      unfold txtD at hd
      rw [List.getElem?_map, Array.getElem?_toList, hc] at hd
      cases hd
      rfl
    subst this hx
    exact .inl ⟨e, .str _⟩
theorem pi_iTxt {tg e : Expr} {f : WE} (h : PE X e (semE X W f)) : PI X tg e (semI X W (iTxt f)) :=
  piOf (pi_str h) fun σ H Q ⟨B, F, env, g, Y, R, hf, ok, x⟩ => ⟨B, F, env, _, Y, R, hf, fun c env' v H' F' ⟨z, e, p⟩ R' s => by
    subst e
    have := topStr R'
    subst this
    exact ⟨z, rfl, ok _ _ _ _ _ p (R'.pop R.nio) s walks_txt⟩, x⟩
/-! ### what is never reached -/
def sNo : WS := fun _ _ => False
theorem s_no {st : Stmt} : PS X st (semS X W sNo) := ⟨fun _ _ _ _ _ _ ⟨_, _, _, _, _, h, _⟩ => h.elim⟩
@[simp] theorem sNo_eq {env : En} {S : SK} : sNo env S = False := rfl
end
end Sw

/-! enumerate(x, start=k) of a list; *a, b = a tuple -/
namespace Sw
open PySem PySem.Spec PyProof.Rows L2
def enumS (k0 : Int) (xs : List D) : List D := xs.zipIdx.map fun p => .tuple [.int (k0 + (p.2 : Nat)), p.1]
def IteL (K : PySem.W.Frag) (k0 : Int) (a : Addr) : It :=
  ⟨fun i H => ∃ (xs : List V) (x : V), SqL K H a xs ∧ xs[i]? = some x, fun i H v H' => ∃ T x, v = .ref T ∧ H T = none ∧ H' = upd H T (.tup [.int (k0 + (i : Nat)), x]) ∧ ∀ xs, SqL K H a xs → xs[i]? = some x, fun i H => ∃ xs : List V, SqL K H a xs ∧ xs.length ≤ i⟩
theorem turn_enumLs {P : Program} {w : World} {K : PySem.W.Frag} {elts : List Expr} {kk : Nat} {tpos : Pos} (k0 : Int) (a e it : Addr) :
    Turn P w K (.Tuple elts kk tpos) (IteL K k0 a) [e, it] e (fun i h => (∃ old, IsEnum h e it (k0 + ((i : Nat) : Int)) old) ∧ h.IsListIter it a i ∧ e ≠ it ∧ a ≠ e ∧ a ≠ it) where
  mem := by simp
  obj := fun i h st b hb => by
    obtain ⟨⟨old, he⟩, ⟨o, ho, hc, hd⟩, _⟩ := st
    have e' : b = e ∨ b = it := by simpa using hb
    rcases e' with z | z
    · rw [z]; exact ⟨_, he, fun v q => nomatch q⟩
    · rw [z]; exact ⟨o, ho, fun v q => by rw [hd] at q; cases q⟩
  keep := fun i h h' st k => let ⟨⟨old, he⟩, hi, hne⟩ := st; ⟨⟨old, k e (by simp) _ he⟩, hi.at fun o q => k it (by simp) o q, hne⟩
  item := by
    intro X hP hw hK hc i pins s σ H E I hf st hg
    subst hP hw hK
    obtain ⟨⟨old, he⟩, hit, hne, hae, hai⟩ := st
    obtain ⟨xs, x, hq, hx⟩ := hg
    obtain ⟨its, rv, p, hz⟩ := I.list hq
    obtain ⟨u, hu, ru⟩ := rv.get hx
    have hel : e < s.heap.objs.size := Heap.lt_size he
    have hil : it < s.heap.objs.size := by obtain ⟨_, q, _⟩ := hit; exact Heap.lt_size q
    have hlt : i < its.toArray.size := by
      have := (List.getElem?_eq_some_iff.mp hu).1
      simpa using this
    refine wpAny_pyNext_enum_itemC (Draws.list (A := X.A.in1) (show X.A.in1.handled = none from I.ok.hd hc) it a hai its.toArray) he ⟨hit, p.isList⟩ hlt hne (by simp; exact ⟨hne, Ne.symm hae⟩) fun x' h' tk hx' ho hs' hT hsz hk => ?_
    have ex : x' = u := by
      have h1 : its[i]? = some x' := by simpa using hx'
      rw [hu] at h1
      cases h1
      rfl
    subst ex
    refine ⟨_, rfl, wpAny_letOwnedTupleGo_enum (s := { s with heap := h', toks := tk + 1 }) ho fun h'' he' sb => ?_⟩
    have hT2 : h''.get? s.heap.objs.size = some { cls := .type "tuple", data := .seq #[.int (k0 + (i : Int)) tk, x'] } := (sb.2 _ (Nat.ne_of_gt hel)).trans hT
    have new : ObjOk X.prog X.w (upd H s.heap.objs.size (.tup [.int (k0 + (i : Nat)), x])) h'' s.heap.objs.size (.tup [.int (k0 + (i : Nat)), x]) :=
      ⟨by show 2 ≤ sizeLine; decide, [.int (k0 + (i : Int)) tk, x'], .cons ⟨_, rfl⟩ (.cons ru .nil), ⟨_, hT2, rfl, _, rfl⟩⟩
    have I1 : Inv X pins σ (upd H s.heap.objs.size (.tup [.int (k0 + (i : Nat)), x])) { s with heap := h'', toks := tk + 1 } :=
      I.turnedNew (t' := tk + 1) (ch := [e, it]) (fun b ob hb q => (sb.2 b (fun z => hb (by simp [z]))).trans (hk b ob (fun z => hb (by simp [z])) (fun z => hb (by simp [z])) q)) hf (Nat.le_refl _) new
    refine ⟨.ref s.heap.objs.size, _, I1, rfl, ⟨_, x, rfl, I.hok.fresh (Nat.le_refl _), rfl, fun ys hy => by rw [I.list_inj hy hq]; exact hx⟩, ⟨⟨x', ?_⟩, hs'.1.at fun o q => (sb.2 it (Ne.symm hne)).trans q, hne, hae, hai⟩, fun b hb => ?_⟩
    · have e1 : k0 + ((i + 1 : Nat) : Int) = k0 + (i : Int) + 1 := by omega
      rw [e1]; exact he'
    · have hb' : b < s.heap.objs.size := by
        have e' : b = e ∨ b = it := by simpa using hb
        rcases e' with z | z
        · rw [z]; exact hel
        · rw [z]; exact hil
      rw [upd_ne (Nat.ne_of_lt hb')]
      exact (hf b hb).1
  done := by
    intro X hP hw hK hc i pins s σ H E I hf st hg
    subst hP hw hK
    obtain ⟨⟨old, he⟩, hit, hne, hae, hai⟩ := st
    obtain ⟨xs, hq, hx⟩ := hg
    obtain ⟨its, rv, p, hz⟩ := I.list hq
    obtain ⟨f0, f1, f2, f3, f4, f5⟩ := hf it (by simp)
    have hl := rv.length
    have D : Draws X.prog X.w X.A.in1 it [it, a] i (fun _ _ => False) (fun j h => j = i ∧ h.IsListIter it a i ∧ h.IsList a its.toArray) :=
      { live := fun _ _ st => let ⟨o, ho, _⟩ := st.2.1; ⟨o, ho⟩
        frame := fun _ _ _ st hk => ⟨st.1, st.2.1.at fun o e => hk it (by simp) o e, st.2.2.at fun o e => hk a (by simp) o e⟩
        item := fun j s Q E hi st hQ => by have := st.1; omega
        done := fun s Q E st hE => wpAny_nextOf_list_end (show X.A.in1.handled = none from I.ok.hd hc) st.2.1 st.2.2 (by simp; omega) hE }
    exact wpAny_pyNext_enum_endD D he ⟨rfl, hit, p.isList⟩ fun h' eb => ⟨rfl, I.turned (t' := s.toks) (fun b o hb q => eb b o hb q) f0 f1 f3 f4 f5⟩
  self := fun A i s Q E st h => let ⟨⟨_, he⟩, _⟩ := st; wpAny_pyIter_enum he h
/-- a built-in type called with keywords -/
theorem type_kwCall {M : Model} {A : Around} {E : Value → Shared → Prop} {s : Shared} {env : Env} {pos : Pos} {T : String} {e : Expr} {rest : List Expr} {kws : List Keyword} {Q : Value → Shared → Prop}
    (h : wpAny M A (spliced (backTo pos (starEach (e :: rest) env))) (fun vs s1 => wpAny M A (evalAll ((backToKw pos (keywordEach kws env)).map (·.2))) (fun ks s2 => wpAny M A (call (.type T) vs (((backToKw pos (keywordEach kws env)).filterMap (·.1)).zip ks)) Q E s2) E s1) E s)
    (he : backTo pos (starEach (e :: rest) env) = (false, eval e env) :: backTo pos (starEach rest env)) (hp : (backTo pos (starEach (e :: rest) env)).any (·.1) = false)
    (ha : (backToKw pos (keywordEach kws env)).all (·.1.isSome) = true) (hk : (backToKw pos (keywordEach kws env)).any (·.1.isNone) = false) :
    wpAny M A (callWith pos (.type T) [] (backTo pos (starEach (e :: rest) env)) (backToKw pos (keywordEach kws env))) Q E s := by
  have ev : wpAny M A (evalArgs (.type T) true (backTo pos (starEach (e :: rest) env)) (backToKw pos (keywordEach kws env))) (fun a s1 => wpAny M A (call (.type T) ([] ++ a.pos) a.kw) Q E s1) E s := by
    rw [he] at h ⊢
    exact evalArgs_kwB ha h
  unfold callWith
  refine wpAny_bind (wpAny_holding (wpAny_mono ev (fun a s1 h1 => wpAny_bind (wpAny_standAt ?_)) fun _ _ z => z))
  simp only [hk, hp, Bool.or_false]
  exact wpAny_bind (wpAny_pure (wpAny_bind (wpAny_mono h1 (fun r s2 hr => wpAny_bind (wpAny_holding (wpAny_point (wpAny_pure hr)))) fun _ _ z => z)))
section
variable {X : Cx} {W : WX} {B : Bd} {σ : L2.St} {H F : Hp} {env : En} {Y : XP} {K : PySem.W.Frag}
def iEnSA (K : PySem.W.Frag) (ta tk : TA) : TI := fun σ H R => ta σ H fun vs H1 => tk σ H1 fun zs H2 => ∃ a xs k0, vs = [.ref a] ∧ zs = [.int k0] ∧ 0 ≤ k0 ∧ k0 < 2 ^ 62 ∧ SqL K H2 a xs ∧ R (IteL K k0 a) H2
theorem pi_enSA {e ek : Expr} {ta tk : TA} {p kp pos tpos : Pos} {elts : List Expr} {kk : Nat} (hg : Gl X "enumerate") (hm : X.mg "enumerate" = none) (ha : PA X [e] ta) (hk : PK X [⟨some "start", ek, kp⟩] tk)
    (he : backTo pos (starEach [e] X.env) = (false, eval e X.env) :: backTo pos (starEach [] X.env) := by rfl) (hp : (backTo pos (starEach [e] X.env)).any (·.1) = false := by rfl)
    (hall : (backToKw pos (keywordEach [⟨some "start", ek, kp⟩] X.env)).all (·.1.isSome) = true := by rfl) (hn : (backToKw pos (keywordEach [⟨some "start", ek, kp⟩] X.env)).any (·.1.isNone) = false := by rfl) (hks : (backToKw pos (keywordEach [⟨some "start", ek, kp⟩] X.env)).filterMap (·.1) = [("start" : Str)] := by rfl) :
    PI X (.Tuple elts kk tpos) (.Call (.Name "enumerate" p) [e] [⟨some "start", ek, kp⟩] pos) (iEnSA X.K ta tk) := by
  refine ⟨fun pins s σ H R I h => ?_⟩
  refine wpAny_Call_Name_kw (ld_blt I hg hm boot_enumerate (type_kwCall (thn (ha.run pos pins s σ H _ I h) fun us s1 ⟨vs, H1, I1, r1, q1⟩ => thn (hk.run pos pins s1 σ H1 _ I1 q1) fun ws s2 ⟨zs, H2, I2, r2, a, xs, k0, ev, ez, b1, b2, hq, q⟩ => ?_) he hp hall hn) (by decide) (by decide))
  rw [hks]
  subst ev ez
  obtain ⟨u, rfl, ra⟩ := r1.one
  obtain ⟨z, rfl, rb⟩ := r2.one
  cases ra
  obtain ⟨t2, rfl⟩ := (show ∃ t2, z = Value.int k0 t2 from rb)
  have fresh2 : ∀ b, b ∈ [s2.heap.objs.size + 1, s2.heap.objs.size] → FpOk X pins H2 b := fun b hb => by
    have e' : b = s2.heap.objs.size + 1 ∨ b = s2.heap.objs.size := by simpa using hb
    have hle : s2.heap.objs.size ≤ b := by
      rcases e' with z | z
      · rw [z]; exact Nat.le_add_right _ _
      · rw [z]; exact Nat.le_refl _
    exact I2.fpOk hle (I2.hok.fresh hle)
  obtain ⟨its, rv, p', hz⟩ := I2.list hq
  have hal : a < s2.heap.objs.size := by obtain ⟨_, _, y, _⟩ := p'; exact Heap.lt_size y
  show wpAny _ _ (call (.type "enumerate") [.ref a] [(Str.ofString "start", .int k0 t2)]) _ _ _
  refine enum_begins_start (k := k0) (begins_list a its.toArray) p'.isList (by omega) (by omega) fun h' he hit hsz hk => wpAny_pyIter_enum he ?_
  have I3 : Inv X pins σ H2 { s2 with heap := h' } := I2.kept (t' := s2.toks) hk
  exact ⟨s2.heap.objs.size + 1, [s2.heap.objs.size + 1, s2.heap.objs.size], _, _, H2, rfl, I3, turn_enumLs k0 a (s2.heap.objs.size + 1) s2.heap.objs.size, ⟨⟨.none, by simpa using he⟩, ⟨_, hit, rfl, rfl⟩, Nat.succ_ne_self _, Nat.ne_of_lt (Nat.lt_succ_of_lt hal), Nat.ne_of_lt hal⟩, fresh2, q⟩
theorem walks_enumS {a : Addr} {vs : List V} {xs : List D} {k0 : Int} (h1 : SqL K F a vs) (r1 : RepL K F vs xs) : Walks K (IteL K k0 a) F (enumS k0 xs) where
  stop := fun i H F' s1 s2 hi => by
    have hi : xs.length ≤ i := by simpa [enumS] using hi
    exact ⟨vs, (s1.trans s2).seq h1, by rw [r1.length]; exact hi⟩
  go := fun i H F' s1 s2 hi => by
    have hi : i < xs.length := by simpa [enumS] using hi
    have l1 : i < vs.length := by rw [r1.length]; exact hi
    exact ⟨vs, vs[i], (s1.trans s2).seq h1, List.getElem?_eq_getElem l1⟩
  yld := fun i H F' v H' d s1 s2 hd ⟨T, x, e, hT, eH, f1⟩ => by
    have hx : ∃ dx, xs[i]? = some dx ∧ d = .tuple [.int (k0 + (i : Nat)), dx] := by
      unfold enumS at hd
      rw [List.getElem?_map, List.getElem?_zipIdx] at hd
      cases z : xs[i]? with
      | none => rw [z] at hd; cases hd
      | some p =>
        rw [z] at hd
        cases hd
        exact ⟨p, rfl, by simp⟩
    obtain ⟨dx, gx, rfl⟩ := hx
    obtain ⟨vx, hx, rx⟩ := r1.get gx
    have e1 := f1 vs ((s1.trans s2).seq h1)
    rw [hx] at e1
    cases e1
    subst e eH
    exact .inr ⟨T, _, hT, rfl, pair_rep (none_sub s2 hT) (.int _) (rx.mono s1)⟩
/-- enumerate(list, start=k) -/
@[simp ↓] def iEnS (a b : WE) : WI := fun env g Y => evL [a, b] env (fun ds env' => ∃ xs k0, ds = [.list xs, .int k0] ∧ 0 ≤ k0 ∧ k0 < 2 ^ 62 ∧ g (enumS k0 xs) env') Y
theorem pi_iEnS {ea ek : Expr} {f g : WE} {p kp pos tpos : Pos} {elts : List Expr} {kk : Nat} (hg : Gl X "enumerate") (hm : X.mg "enumerate" = none) (ha : PE X ea (semE X W f)) (hb : PE X ek (semE X W g)) (hs : starEach [ea] X.env = (false, eval ea X.env) :: starEach [] X.env := by rfl)
    (he : backTo pos (starEach [ea] X.env) = (false, eval ea X.env) :: backTo pos (starEach [] X.env) := by rfl) (hp : (backTo pos (starEach [ea] X.env)).any (·.1) = false := by rfl) :
    PI X (.Tuple elts kk tpos) (.Call (.Name "enumerate" p) [ea] [⟨some "start", ek, kp⟩] pos) (semI X W (iEnS f g)) :=
  piOf (pi_enSA hg hm (pa_cons ha pa_nil hs) (pk_cons hb pk_nil) he hp) fun σ H Q ⟨B, F, env, G, Y, R, h, ok, x⟩ => by
    have z := evL_ok (X := X) (W := W) (fs := [f, g]) (σ := σ) (Q := fun vs H2 => ∃ a xs k0, vs = [V.ref a, V.int k0] ∧ 0 ≤ k0 ∧ k0 < 2 ^ 62 ∧ SqL X.K H2 a xs ∧ Q (IteL X.K k0 a) H2) R h x fun ds env' vs H' F' ⟨xs, k0, e, b1, b2, q⟩ R' s r => by
      subst e
      cases r with
      | cons r1 r2 =>
        cases r2 with
        | cons r2 r3 =>
          cases r3
          cases r2
          cases r1 with
          | lst a1 b1' => exact ⟨_, _, k0, rfl, b1, b2, SqL.of (R'.sub _ _ a1), ok _ _ _ _ _ q R' s (walks_enumS (SqL.of a1) b1')⟩
    obtain ⟨B1, F1, env1, P1, Y1, R1, h1, ok1, x1⟩ := z
    refine ⟨B1, F1, env1, P1, Y1, R1, h1, fun c e2 v H2 F2 p R2 s2 => ?_, x1⟩
    obtain ⟨B3, F3, env3, P3, Y3, R3, h3, ok3, x3⟩ := ok1 c e2 v H2 F2 p R2 s2
    refine ⟨B3, F3, env3, P3, Y3, R3, h3, fun c4 e4 v4 H4 F4 p4 R4 s4 => ?_, x3⟩
    obtain ⟨a, xs, k0, ev, rest⟩ := ok3 c4 e4 v4 H4 F4 p4 R4 s4
    injection ev with e1 ev
    injection ev with e2 _
    subst e1 e2
    exact ⟨a, xs, k0, rfl, rfl, rest⟩
/-! ### *a, b = a tuple -/
theorem unp_star {prog : Program} {w : World} {A : Around} {E : Value → Shared → Prop} {s : Shared} {l : Addr} {items : Array Value} {xs : List Value} {y : Value} {Q : List Value → Shared → Prop} (hl : IsTup s.heap l items) (hh : A.handled = none) (hi : items.toList = xs ++ [y]) (hz : items.size ≤ 16384)
    (h : ∀ (h' : Heap) (tk : Nat), (∀ b o, s.heap.get? b = some o → h'.get? b = some o) → Q [.ref h'.objs.size, y] { s with heap := h'.push { cls := .type "list", data := .seq xs.toArray }, toks := tk }) : wpAny (model prog w) A (unpackItems (.ref l) 2 (some 0)) Q E s := by
  have hn : items.size = xs.length + 1 := by
    have := congrArg List.length hi
    simpa using this
  have ne : l ≠ s.heap.objs.size := by obtain ⟨o, ho, _⟩ := hl; exact Nat.ne_of_lt (Heap.lt_size ho)
  unfold unpackItems
  refine wpAny_bind ?_
  unfold notIterableAtAll
  refine wpAny_bind (wpAny_specialOf hl.typeIs slot_tuple_iter.lookup (wpAny_pure ?_))
  rw [if_neg Bool.false_ne_true]
  refine wpAny_bind (wpAny_holding (iter_tuple hl ?_))
  refine wpAny_bind (wpAny_holding (draw_tuple ne 0 0 _ _ ⟨_, Heap.get?_push_size _ rfl, rfl, rfl⟩ (hl.push _) (by omega) fun h1 hit hs => ?_))
  have hl1 : IsTup h1 l items := (hl.push _).extBut hs.extBut ne
  obtain ⟨oi, hoi, _⟩ := id hit
  obtain ⟨ol, hol, _⟩ := id hl1
  refine wpAny_bind (wpAny_holding (PySem.W.kun_collect (s := { s with heap := h1 }) (T := "tuple_iterator") (.inr (.inr (.inr rfl))) (Walks.tuple (A := A.in1) hh s.heap.objs.size l ne items) (fun j u st => st.1.typeIs) (k := 0) (Nat.zero_le _) ⟨hit, hl1⟩ (Heap.lt_size hoi) (Heap.lt_size hol) (fun h2 tk hk => ?_) (by rw [sizeLine_eq]; omega)))
  have hd : items.toList.drop 0 = xs ++ [y] := by rw [List.drop_zero, hi]
  have keep : ∀ b o, s.heap.get? b = some o → h2.get? b = some o := fun b o e => by
    have nb : b ≠ s.heap.objs.size := Nat.ne_of_lt (Heap.lt_size e)
    exact hk b o nb (hs.extBut b o nb (Heap.get?_push_of_some _ e))
  rw [hd]
  show wpAny _ _ (if (xs ++ [y]).length < 1 then _ else _) _ _ _
  rw [if_neg (by simp)]
  show wpAny _ _ (newList ((xs ++ [y]).take ((xs ++ [y]).length - 1)) >>= fun d => pure (List.take 0 (items.toList.drop 0) ++ [d] ++ (xs ++ [y]).drop ((xs ++ [y]).length - 1))) _ _ _
  have e1 : (xs ++ [y]).take ((xs ++ [y]).length - 1) = xs := by simp
  have e2 : (xs ++ [y]).drop ((xs ++ [y]).length - 1) = [y] := by simp
  rw [e1, e2, List.take_zero]
  exact wpAny_bind (wpAny_newList (wpAny_pure (h h2 tk keep)) (by rw [sizeLine_eq]; omega))
def gStar (t : TGs) (K : PySem.W.Frag) : TG := fun v σ H Q => ∃ a xs y, v = .ref a ∧ SqT K H a (xs ++ [y]) ∧ xs.length ≤ 1000 ∧ ∀ p, H p = none → t [.ref p, y] σ (upd H p (.lst xs)) Q
theorem pg_star {e1 e2 : Expr} {p1 pos : Pos} {k : Nat} {t : TGs} (hc : X.calm = true) (h : PGs X [e1, e2] t) (hm : (assignEach [.Starred e1 p1, e2] X.env).map (·.2) = (assignEach [e1, e2] X.env).map (·.2) := by rfl)
    (hn : (assignEach [.Starred e1 p1, e2] X.env).length = 2 := by rfl) (hst : (assignEach [.Starred e1 p1, e2] X.env).findIdx? (·.1) = some 0 := by rfl) : PG X (.Tuple [.Starred e1 p1, e2] k pos) (gStar t X.K) := by
  refine ⟨fun pins s σ H v u Q I r hw => ?_⟩
  obtain ⟨a, xs, y, rfl, hq, hl, q⟩ := hw
  cases r
  obtain ⟨its, rv, ht, hz⟩ := I.tuple hq
  obtain ⟨us, w, rfl, r1, r2⟩ : ∃ us w, its = us ++ [w] ∧ Vals xs us ∧ RelV y w := by
    have key : ∀ {xs : List V} {its : List Value}, Vals (xs ++ [y]) its → ∃ us w, its = us ++ [w] ∧ Vals xs us ∧ RelV y w := fun {xs} => by
      induction xs with
      | nil =>
        intro its r
        obtain ⟨w, rfl, rw'⟩ := Vals.one r
        exact ⟨[], w, rfl, .nil, rw'⟩
      | cons x xs ih =>
        intro its r
        cases r with
        | cons r1 r2 =>
          obtain ⟨us, w, rfl, ra, rb⟩ := ih r2
          exact ⟨_ :: us, w, rfl, .cons r1 ra, rb⟩
    exact key rv
  rw [assign_Tuple]
  refine wpAny_bind (wpAny_standAt ?_)
  unfold unpack
  rw [hn, hst]
  refine wpAny_bind (wpAny_holding (unp_star (xs := us) (y := w) ht (I.ok.hd hc) (by simp) (by have := r1.length; simp; omega) fun h' tk keep => ?_))
  have I1 : Inv X pins σ H { s with heap := h', toks := tk } := I.kept (t' := tk) keep
  have hf : H h'.objs.size = none := I1.hok.fresh (Nat.le_refl _)
  have I2 : Inv X pins σ (upd H h'.objs.size (.lst xs)) { s with heap := h'.push { cls := .type "list", data := .seq us.toArray }, toks := tk } :=
    I1.laid (t' := tk) (fun b u e => Heap.get?_push_of_some _ e) (Nat.le_refl _) ⟨by rw [sizeLine_eq]; omega, us, 0, r1, Heap.get?_push_size _ rfl⟩
  rw [hm]
  exact h.run pins _ σ _ [.ref h'.objs.size, y] [.ref h'.objs.size, w] Q I2 (.cons rfl (.cons r2 .nil)) (q _ hf)
@[simp ↓] def sStar (i j : Nat) (f : WE) : WS := fun env S => f env (fun c env' => ∃ ds d, c = .fz (.tuple (ds ++ [d])) ∧ ds.length ≤ 1000 ∧ i ≠ j ∧ canSet env' i ∧ canSet env' j ∧ S.nx ((env'.set i (some (.ow (.lst ds)))).set j (some (.fz d)))) S.xc
theorem star_imp {i j : Nat} {f : WE} : ∀ D σ H, semS X W (sStar i j f) D σ H → tAsg (semE X W f) (gStar (gCons (gName i) (gCons (gName j) gNil)) X.K) D σ H := fun D σ H ⟨B, F, env, S, R, h, ok, x⟩ =>
  ⟨B, F, env, _, S.xc, R, h, fun c env' v H' F' ⟨ds, d, e, hl, ne, n1, n2, p⟩ R' s => by
    subst e
    have r : Rep X.K F' v (.tuple (ds ++ [d])) := R'.top R'.len1
    have Rp := R'.pop R.nio
    cases r with
    | @tup a vs _ h1 h2 =>
      obtain ⟨xs, y, rfl, l1, l2⟩ : ∃ xs y, vs = xs ++ [y] ∧ RepL X.K F' xs ds ∧ Rep X.K F' y d := by
        have key : ∀ {ds : List Sw.D} {vs : List V}, RepL X.K F' vs (ds ++ [d]) → ∃ xs y, vs = xs ++ [y] ∧ RepL X.K F' xs ds ∧ Rep X.K F' y d := fun {ds} => by
          induction ds with
          | nil =>
            intro vs r
            cases r with
            | cons r t => cases t; exact ⟨[], _, rfl, .nil, r⟩
          | cons x ds ih =>
            intro vs r
            cases r with
            | cons r t =>
              obtain ⟨xs, y, rfl, a, b⟩ := ih t
              exact ⟨_ :: xs, y, rfl, .cons r a, b⟩
        exact key h2
      refine ⟨a, xs, y, rfl, same_seqT Rp.sub h1, by rw [l1.length]; exact hl, fun q hq => ?_⟩
      have R1 : Rl X.K B (σ ++ [some (.ref q)]) (upd H' q (.lst xs)) F' (env' ++ [some (.ow (.lst ds))]) := Rp.fresh hq ⟨_, upd_same, l1⟩
      have R2 := R1.setTop R.nio n1
      have R3 := (R2.push l2).setTop R2.nio (by
        refine ⟨by rw [List.length_set]; exact n2.1, fun o e => ?_⟩
        rw [List.getElem?_set_ne ne] at e
        exact n2.2 o e)
      exact ⟨_, _, rfl, _, _, rfl, rfl, ok.nx _ _ _ _ p R3 s⟩, x⟩
theorem s_star {x y : Str} {i j k : Nat} {e : Expr} {f : WE} {p1 p2 p3 p4 pos : Pos} (he : PE X e (semE X W f)) (hc : X.calm = true) (hN : X.N.Nodup) (hi : X.N[i]? = some x) (hj : X.N[j]? = some y) (hx : Loc X.env.scope x) (hy : Loc X.env.scope y)
    (fx : X.fn x = true ∨ X.env.scope.names.lookup x = some .local := by first | exact .inl rfl | exact .inr rfl) (fy : X.fn y = true ∨ X.env.scope.names.lookup y = some .local := by first | exact .inl rfl | exact .inr rfl)
    (hs : swapsWithSole [.Tuple [.Starred (.Name x p1) p2, .Name y p3] k p4] e pos.line X.env = pure false := by rfl) (hw : swappedStores [.Tuple [.Starred (.Name x p1) p2, .Name y p3] k p4] e X.env = pure none := by rfl) (h1 : (assignEach [.Tuple [.Starred (.Name x p1) p2, .Name y p3] k p4] X.env).map (·.2) = [assign (.Tuple [.Starred (.Name x p1) p2, .Name y p3] k p4) X.env] := by rfl) :
    PS X (.Assign [.Tuple [.Starred (.Name x p1) p2, .Name y p3] k p4] e pos) (semS X W (sStar i j f)) :=
  psOf (ps_asg he (pg_star hc (pgs_cons (pg_name hN hi hx fx) (pgs_cons (pg_name hN hj hy fy) pgs_nil))) hs hw h1) star_imp
end
end Sw

/-! a list written out of a list of one's own that stays one's own -/
namespace Sw
open PySem PySem.Spec PyProof.Rows L2
def compR (k : Nat) (ds0 : List D) (t : Tg) (el : WE) (vs : List Nat) (g : List D → En → Prop) : List D → List D → En → Prop
  | [], acc => fun e => lend e k (.lst ds0) ∧ g acc e
  | d :: ds, acc => fun e => lend e k (.lst ds0) ∧ asg t d e fun e2 => el e2 (fun c e4 => c.isSc = false ∧ acc.length < sizeLine ∧ compR k ds0 t el vs g ds (acc ++ [c.toD]) (wipeE e4 vs)) (fun _ => False)
@[simp ↓] def eCompR (k : Nat) (t : Tg) (el : WE) (vs : List Nat) : WE := fun env P Y => ∃ ds, lend env k (.lst ds) ∧ okV env vs ∧ compR k ds t el vs (fun acc e => P (.ow (.lst acc)) (restE e env vs)) ds [] (wipeE env vs)
theorem compR_lend {k : Nat} {ds0 : List D} {t : Tg} {el : WE} {vs : List Nat} {g : List D → En → Prop} {ds acc : List D} {e : En} (h : compR k ds0 t el vs g ds acc e) : lend e k (.lst ds0) := by
  cases ds <;> exact h.1
section
variable {X : Cx} {W : WX} {B : Bd} {σ : L2.St} {H F : Hp} {env : En} {Y : XP} {K : PySem.W.Frag}
theorem compR_imp {k : Nat} {t : Tg} {el : WE} {vs : List Nat} (ht : ∀ j ∈ t.slots, j ∈ vs) (hk : k ∉ vs) : ∀ σ H Q, semE X W (eCompR k t el vs) σ H Q → tLc (iList X.K (tVar k)) (gT X.K t) tYes (semE X W0 el) vs σ H Q := fun σ H Q ⟨B, F, env, P, Y, R1, ⟨ds, hl, okv, q⟩, ok, x⟩ => by
  obtain ⟨a, ea, na, va, ha, la⟩ := hl.cell R1
  have hks : k < σ.length := (List.getElem?_eq_some_iff.mp ea).1
  refine ⟨_, ea, a, rfl, ⟨va, SqL.of ha⟩, fun L hL => ?_⟩
  have nv : ∀ j ∈ vs, ∀ p, ¬ B.io j p := fun j hj p hb => by
    obtain ⟨_, o, e⟩ := R1.ioc j p hb
    have := okv j hj _ e
    cases this
  have hlw : (wipe σ vs).length = σ.length := wipe_length σ vs
  have eaw : (wipe σ vs)[k]? = some (some (.ref a)) := by rw [wipe_get, if_neg hk]; exact ea
  -- what stands at the walked place
  have look : ∀ {H2 F2 : Hp} {env2 : En} {C : List (Option Cl)} {T : List (Option V)}, Rl X.K B (wipe σ vs ++ T) H2 F2 (env2 ++ C) → env2.length = (wipe σ vs).length → lend env2 k (.lst ds) → ∃ ws, H2 a = some (.lst ws) ∧ RepL X.K F2 ws ds := fun {H2 F2 env2 C T} R2 _ h2 => by
    have h2' : lend (env2 ++ C) k (.lst ds) := by
      rcases h2 with z | z
      · exact .inl (get_pre z)
      · exact .inr (get_pre z)
    obtain ⟨p, ep, np, ws, e1, e2⟩ := h2'.cell R2
    have ep' := get_pre (r := T) eaw
    rw [ep'] at ep
    cases ep
    exact ⟨ws, e1, e2⟩
  refine ⟨fun i m H => m = ds.length - i ∧ i ≤ ds.length ∧ ∃ F' env' acc, Rl X.K B (wipe σ vs ++ [some (.ref L)]) H F' (env' ++ [some (.ow (.lst acc))]) ∧ Same F F' ∧ compR k ds t el vs (fun acc e => P (.ow (.lst acc)) (restE e env vs)) (ds.drop i) acc env', ⟨_, rfl, Nat.zero_le _, F, _, [], (R1.wipe0 nv).fresh hL (show OwnAt X.K (upd H L (.lst [])) F L (.lst []) from ⟨[], upd_same, .nil⟩), Same.refl F, q⟩, ?_⟩
  rintro i m H2 ⟨rfl, hi, F2, env2, acc, R2, s2, q2⟩
  have nio2 : ∀ p, ¬ B.io (wipe σ vs).length p := fun p hp => by
    have := R1.ioLt _ _ hp
    omega
  have hl2 : env2.length = (wipe σ vs).length := R2.len1
  obtain ⟨ws, hws, lws⟩ := look R2 hl2 (compR_lend q2)
  by_cases hlt : i < ds.length
  · have hd : ds[i]? = some ds[i] := List.getElem?_eq_getElem hlt
    rw [List.drop_eq_getElem_cons hlt] at q2
    unfold compR at q2
    obtain ⟨_, q2⟩ := q2
    have hlw2 : i < ws.length := by rw [lws.length]; exact hlt
    refine .inr ⟨⟨ws, ws[i], SqL.of hws, List.getElem?_eq_getElem hlw2⟩, fun H' => ∃ F' env' acc, Rl X.K B (wipe σ vs ++ [some (.ref L)]) H' F' (env' ++ [some (.ow (.lst acc))]) ∧ Same F F' ∧ compR k ds t el vs (fun acc e => P (.ow (.lst acc)) (restE e env vs)) (ds.drop (i + 1)) acc env', fun H' hN => ⟨_, by omega, rfl, hlt, hN⟩, fun y H' ⟨eH, hy⟩ => ?_⟩
    subst eH
    obtain ⟨y', hy', r3⟩ := lws.get hd
    have hy := hy ws (SqL.of hws)
    rw [hy'] at hy
    cases hy
    have Rp := R2.pop nio2
    refine asg_ok t Rp.rebase r3 q2 fun e σ' p R' b => ?_
    have hw := wipe_eq b ht
    refine ⟨hw, ?_⟩
    have hl' : σ'.length = σ.length := by rw [b.1, hlw]
    unfold tYes
    dsimp only
    rw [if_pos rfl]
    refine ⟨_, F2, e, _, _, R', p, fun c e4 v H5 F5 ⟨sc, z, p5⟩ R5 s5 => ?_, xok0⟩
    have nioB : ∀ p, ¬ (B.at (wipe σ vs) H' F2 env2).io σ'.length p := fun p hp => by
      have := R1.ioLt _ _ hp
      omega
    obtain ⟨F6, s6, R6, r6⟩ := R5.freeze nioB sc
    have R7 := R2.carry nio2 R6
    obtain ⟨p', hp', n', ws7, h1, h2⟩ := R7.top R7.len1
    cases hp'
    refine ⟨ws7, h1, by rw [h2.length]; exact z, F6, wipeE e4 vs, acc ++ [c.toD], ?_, (s2.trans s5).trans s6, p5⟩
    have hl4 : e4.length = σ'.length := R7.len1
    have R8 := R7.mutL (i := σ'.length) (o := .lst acc) (ys := acc ++ [c.toD]) (.inl (by rw [← hl4]; exact get_last)) get_last n' (h2.snoc r6)
    have es : setO (e4 ++ [some (.ow (.lst acc))]) σ'.length (.lst (acc ++ [c.toD])) = e4 ++ [some (.ow (.lst (acc ++ [c.toD])))] := by
      unfold setO
      rw [← hl4, get_last]
      simp
    rw [es] at R8
    have R9 := R8.wipeT (vs := vs) hl4 nv (fun j p h => by have := R1.ioLt _ _ h; omega)
    rw [hw] at R9
    exact R9
  · have e : i = ds.length := by omega
    subst e
    rw [List.drop_length] at q2
    unfold compR at q2
    exact .inl ⟨⟨ws, SqL.of hws, by rw [lws.length]; exact Nat.le_refl _⟩, ok _ _ _ _ _ q2.2 (Rl.unwipe R1 okv R2 s2) s2⟩
variable {elt tg : Expr} {x : Str} {px pos : Pos} {scope : Scope} {own : List (Str × Nat)} {vs : List Nat} {ts : Tg} {el : WE} {k : Nat}
theorem g_compR (hc : X.calm = true) (hN : X.N.Nodup) (ho : BlkOk X.N X.env.scope scope own) (hv : own.map (·.2) = vs) (hi : PE X (.Name x px) (tVar k)) (hg : ∀ s H C cl fp, PG (blkOf X scope s H C cl fp) tg (gT X.K ts)) (he : ∀ s H C cl fp, PE (blkOf X scope s H C cl fp) elt (semE (blkOf X scope s H C cl fp) W0 el))
    (hsl : ∀ j ∈ ts.slots, j ∈ vs := by decide) (hk : k ∉ vs := by decide) (hs : ∀ y, foldedSetIterable (.Name x px) X.env y = pure y := by intro _; rfl) : PE X (.ListComp elt [⟨tg, .Name x px, [], 0⟩] scope pos) (semE X W (eCompR k ts el vs)) := by
  subst hv
  exact peOf (pe_lc hc hN (pi_list hi) ho hg (tt := tYes) (fun _ _ _ _ _ => pts_nil) he hs) (compR_imp hsl hk)
end
/-- written out item by item, the state as ever -/
theorem compR_map {α : Type} {en h : α → D} {k : Nat} {ds0 : List D} {t : Tg} {el : WE} {vs : List Nat} {g : List D → En → Prop} {xs : List α} {e : En} (hk : lend e k (.lst ds0)) (hl : xs.length ≤ sizeLine)
    (hs : ∀ x ∈ xs, ∀ N : D → En → Prop, N (h x) e → asg t (en x) e fun e2 => el e2 (fun c e4 => c.isSc = false ∧ N c.toD (wipeE e4 vs)) (fun _ => False))
    (hd : g (xs.map h) e) : compR k ds0 t el vs g (xs.map en) [] e := by
  have main : ∀ (ys : List α) (acc : List α), acc ++ ys = xs → compR k ds0 t el vs g (ys.map en) (acc.map h) e := fun ys => by
    induction ys with
    | nil => intro acc hx; rw [List.append_nil] at hx; subst hx; exact ⟨hk, hd⟩
    | cons y ys ih =>
      intro acc hx
      have hlt : (acc.map h).length < sizeLine := by
        rw [← hx] at hl
        simp at hl ⊢
        omega
      rw [List.map_cons]
      unfold compR
      refine ⟨hk, ?_⟩
      have q := hs y (by rw [← hx]; simp) (fun d e' => (acc.map h).length < sizeLine ∧ compR k ds0 t el vs g (ys.map en) (acc.map h ++ [d]) e') ⟨hlt, ?_⟩
      · exact q
      · have := ih (acc ++ [y]) (by rw [← hx]; simp)
        simpa using this
  exact main xs [] rfl
end Sw

/-! an exception whose own __init__ keeps a field: made, raised, caught, read -/
namespace Sw
open PySem PySem.Spec PyProof.Rows L2
/-! ### what the head says of the class -/
/-- C: the class, its base's name and place, its __init__ -/
structure AtX (K : PySem.W.Frag) (mg : Str → Option Value) (base : Str) (C fI : Addr) : Prop where
  oex : OexC K C
  ini : PySem.W.findIn K (.ref C) "__init__" = some (some (.ref fI))
  fn : PySem.W.typeIn K (.ref fI) = some (.type "function")
  no : PySem.W.findIn K (.ref C) "at" = some none
  bas : ∃ N, mg base = some (.ref N) ∧ PySem.W.specialIn K (.ref N) "__getattribute__" = some (some (.builtin "type.__getattribute__")) ∧ PySem.W.typeIn K (.ref N) = some (.type "type") ∧ PySem.W.readsIn K N (.type "type") = true ∧ PySem.W.findCls K (.ref N) (.type "type") "__init__" = some (.val (.builtin "ValueError.__init__"))
theorem oex_of {K : PySem.W.Frag} {C : Addr} (h : oexB K C = true) : OexC K C := by
  unfold oexB at h
  simp only [Bool.and_eq_true, beq_iff_eq] at h
  obtain ⟨⟨⟨⟨q, h1⟩, h2⟩, h3⟩, h4⟩ := h
  refine ⟨?_, h1, h2, h3, h4⟩
  split at q
  · rename_i dd cd sl ho
    split at q
    · rename_i C' bm k0 k1 k2 k3 n k5 hm hs
      simp only [Bool.and_eq_true, beq_iff_eq, Bool.not_eq_true'] at q
      obtain ⟨⟨⟨⟨rfl, rfl⟩, hdel⟩, hdd⟩, ht⟩ := q
      obtain ⟨nm, bs, mro, ns, qn, hd, sn, sub, ab, col, del⟩ := cd
      dsimp only at hm hdel hdd
      subst hm hdel hdd
      have hsl : sl = #[k0, k1, k2, k3, some (.builtin "ValueError.__new__"), k5] := by
        obtain ⟨l⟩ := sl
        simp only at hs
        rw [hs]
      subst hsl
      exact ⟨nm, qn, ns, bs, bm, sn, sub, ab, col, dd, k0, k1, k2, k3, k5, ho, ht⟩
    · cases q
  · cases q
theorem atx_of {K : PySem.W.Frag} {h : Heap} {mg : Str → Option Value} {c base : Str} {C : Addr} (X : K.In h) (G : h.Ns mainGlobals mg) (hc : mg c = some (.ref C)) (e : atxB c base K = true) : AtX K mg base C (He.ma K C "__init__") := by
  unfold atxB at e
  split at e
  · rename_i C' N e1 e2
    have := clsB_mg X G e1
    rw [hc] at this
    cases this
    simp only [Bool.and_eq_true, beq_iff_eq] at e
    obtain ⟨⟨⟨⟨⟨⟨⟨q1, q2⟩, q3⟩, q4⟩, q5⟩, q6⟩, q7⟩, q8⟩ := e
    refine ⟨oex_of q1, q2, q3, q4, N, clsB_mg X G e2, q5, q6, q7, ?_⟩
    split at q8
    · rename_i n z
      rw [z, eq_of_beq q8]
    · cases q8
  · cases e
/-- none of the exceptions' classes has the name -/
def XNo (K : PySem.W.Frag) (mg : Str → Option Value) (rs : List Str) : Prop := ∀ c ∈ rs, ∃ C, mg c = some (.ref C) ∧ PySem.W.findIn K (.ref C) "at" = some none
theorem xno_of {K : PySem.W.Frag} {h : Heap} {mg : Str → Option Value} {rs : List Str} (X : K.In h) (G : h.Ns mainGlobals mg) (e : xnoB rs K = true) : XNo K mg rs := fun c hc => by
  have q := List.all_eq_true.mp e c hc
  split at q
  · rename_i C e1
    exact ⟨C, clsB_mg X G e1, by simpa using q⟩
  · cases q
/-! ### the __init__: B.__init__(self, 'm'); self.at = at -/
/-- what it keeps -/
def spIni : Sp := fun vs H Q _ => ∃ (a C : Addr) (K : PySem.W.Frag) (n : Int), vs = [.ref a, .int n] ∧ H a = some (exo a C none) ∧ ∀ dx, H dx = none → dx ≠ a → Q .non (upd (upd H dx (exd dx [(("at" : Str), .int n)])) a (exo a C (some dx)))
def spIn (K : PySem.W.Frag) (C : Addr) : Sp := fun vs H Q _ => ∃ (a : Addr) (n : Int), vs = [.ref a, .int n] ∧ H a = some (exo a C none) ∧ ∀ dx, H dx = none → dx ≠ a → Q .non (upd (upd H dx (exd dx [(("at" : Str), .int n)])) a (exo a C (some dx)))
section
variable {X : Cx} {e : Expr} {es : List Expr} {ta : TA} {p1 p2 p3 p4 pos : Pos} {base : Str} {C fI : Addr}
theorem pe_ownInit {pl : Sem Bool} (T : AtX X.K X.mg base C fI) (hg : Gl X base) (ha : PA X (e :: es) ta)
    (hc : eval (.Call (.Attribute (.Name base p1) "__init__" p2) (e :: es) [] pos) X.env = (do
      let ov ← eval (.Name base p1) X.env
      standAt p2.atName
      let (f, first) ← holding [ov] (getMethod ov "__init__" pl)
      callWith pos f first (backTo pos (starEach (e :: es) X.env)) (backToKw pos (keywordEach [] X.env))) := by rfl)
    (he : starEach (e :: es) X.env = (false, eval e X.env) :: starEach es X.env := by rfl) (hpl : (backTo pos (starEach es X.env)).any (·.1) = false := by rfl) (hdb : (base == ("__debug__" : Str)) = false := by decide) :
    PE X (.Call (.Attribute (.Name base p1) "__init__" p2) (e :: es) [] pos) (tVeI X.K ta) := by
  refine ⟨fun pins s σ H Q I h => ?_⟩
  obtain ⟨N, hN, h1, h2, h3, h4⟩ := T.bas
  refine PySem.W.methodCall_KW (ld_glob I hg hN ?_ hdb) hc
  obtain ⟨m, fr⟩ := I.fr
  refine PySem.W.method_of_cls fr I.ok.mod.kin h1 (PySem.W.cls_val fr I.ok.mod.kin h2 h3 h4 (by decide +kernel) ?_)
  show wpAny _ _ (callWith pos (Value.builtin "ValueError.__init__") [] (backTo pos (starEach (e :: es) X.env)) []) _ _ _
  refine PyProof.Rows.callWith_method1 (thn (ha.run pos pins _ σ H _ (I.tok _) h) fun us s1 ⟨vs, H1, I1, r1, a, C, ws, ev, hl, T, ea, q⟩ => ?_) he hpl
  subst ev
  cases r1 with
  | @cons _ u0 _ ur ra rw' =>
    obtain rfl : u0 = Value.ref a := ra
    have hlen : ur.length ≤ sizeLine := by
      rw [← Paired.length rw', sizeLine_eq]
      omega
    exact oinit_ok T I1 ea hlen fun s' J => ⟨.non, H1, J, rfl, q⟩
theorem ini_ok {P : Program} {w : World} {K : PySem.W.Frag} {mg : Str → Option Value} {hb0 : Heap} {qual m f : Str} {params : Arguments} {scope : Scope} {kws : List (Str × V)} {dvs : List V} {fd : FuncData} {j : Nat} {q1 q2 q3 q4 q5 q6 q7 q8 q9 : Pos}
    (T : AtX K mg "NoThing" C fI) (hf : f = "at") (FD : FunD K "__init__" qual params [.Expr (.Call (.Attribute (.Name "NoThing" q1) "__init__" q2) [.Name "self" q3, .Constant (.str m) j q4] [] q5) q6, .Assign [.Attribute (.Name "self" q7) f q8] (.Name "at" q9) pos] scope dvs kws fI fd)
    (S : FnScope ["self", "at"] ["self", "at"] scope) (hgb : scope.names.lookup ("NoThing" : Str) = some .globalImplicit) (h0 : scope.names.lookup ("self" : Str) = some .local) (h1 : scope.names.lookup ("at" : Str) = some .local)
    {pl : Env → Sem Bool} (hc : ∀ env : Env, eval (.Call (.Attribute (.Name "NoThing" q1) "__init__" q2) [.Name "self" q3, .Constant (.str m) j q4] [] q5) env = (do
      let ov ← eval (.Name "NoThing" q1) env
      standAt q2.atName
      let (f, first) ← holding [ov] (getMethod ov "__init__" (pl env))
      callWith q5 f first (backTo q5 (starEach [.Name "self" q3, .Constant (.str m) j q4] env)) (backToKw q5 (keywordEach [] env)))) : FnOk P w K mg hb0 (L2.CX P w) 1 fI fd ["self", "at"] (spIn K C) := by
  subst hf
  refine FD.ok S (fun vs H Q E ⟨a, n, h, _⟩ => by rw [h]; rfl) fun cdv A outer s H vs Q E hr h => ?_
  obtain ⟨a, n, rfl, ha, hq⟩ := h
  refine ⟨_, pss_cons (ps_expr (pe_ownInit (X := cxOf (L2.CX P w) P w K mg hb0 _ _ scope fI cdv A outer s H E) T hgb (pa_cons (pe_var (i := 0) rfl (.inl h0)) (pa_cons pe_str pa_nil)) (hc _))) (pss_one (ps_ost (pe_var (i := 0) rfl (.inl h0)) (pe_var (i := 1) rfl (.inl h1)))), ?_⟩
  refine ⟨_, rfl, a, C, [.str m], rfl, (show 1 ≤ 1000 by decide), T.oex, ha, _, rfl, _, rfl, a, C, rfl, T.oex, T.no, .inl ⟨ha, fun dx n1 n2 => hq dx n1 n2⟩⟩
end
/-! ### raise X(e) -/
@[simp ↓] def sRaiseAt (x : Str) (f : WE) : WS := fun env S => f env (fun c _ => ∃ n, c = .fz (.int n) ∧ S.xc (x, some n)) S.xc
section
variable {X : Cx} {W : WX} {e : Expr} {f : WE} {p pos pos2 : Pos} {base x : Str} {C fI : Addr} {fd : FuncData}
theorem s_raiseAt (hc : X.calm = true) (tk : Takes X W) (T : AtX X.K X.mg base C fI) (F1 : FnOk X.prog X.w X.K X.mg X.base (L2.CX X.prog X.w) 1 fI fd ["self", "at"] (spIn X.K C)) (hr : Room 2 X.A) (hb : Binds X.K fd ["self", "at"] []) (hg : Gl X x) (hm : X.mg x = some (.ref C)) (he : PE X e (semE X W f))
    (hdb : (x == ("__debug__" : Str)) = false := by decide) (he2 : starEach [e] X.env = (false, eval e X.env) :: starEach [] X.env := by rfl) (hpl : (backTo pos (starEach [] X.env)).any (·.1) = false := by rfl) :
    PS X (.Raise (some (.Call (.Name x p) [e] [] pos)) none pos2) (semS X W (sRaiseAt x f)) :=
  psOf (ps_raise hc tk (pmk_oex T.oex T.ini T.fn F1 hr hb .nil (passes_call tk fun _ _ _ _ z => z.elim) hg hm (pa_cons he pa_nil he2) (hdb := hdb) (he := he2) (hpl := hpl))) fun D σ H ⟨B, F, env, S, R, h, ok, xo⟩ => by
    refine ⟨B, F, env, _, S.xc, R, h, fun c env' v H' F' ⟨n, e, q⟩ R' s => ?_, xo⟩
    subst e
    have ev := topInt R'
    subst ev
    refine ⟨show 1 ≤ 1000 by decide, fun a ha => ⟨a, n, rfl, upd_same, fun dx n1 n2 => ?_⟩⟩
    have nd : H' dx = none := by rw [upd_ne n2] at n1; exact n1
    refine ⟨rfl, dx, [(("at" : Str), .int n)], upd_same, by rw [upd_ne n2, upd_same], nd, ?_⟩
    have eu : upd (del (upd (upd (upd H' a (exo a C none)) dx (exd dx [(("at" : Str), .int n)])) a (exo a C (some dx))) a) dx (.xd [(("at" : Str), .int n)]) = upd H' dx (.xd [(("at" : Str), .int n)]) := by
      funext b
      by_cases h1 : b = dx
      · rw [h1, upd_same, upd_same]
      · rw [upd_ne h1, upd_ne h1]
        by_cases h2 : b = a
        · rw [h2, del_same, ha]
        · rw [del_ne h2, upd_ne h2, upd_ne h1, upd_ne h2]
    rw [eu]
    exact xo _ _ _ _ _ q ⟨C, hm, rfl, dx, rfl, upd_same⟩ ((R'.pop R.nio).grow nd).kept
end
/-! ### the field, read in the def that names the exception -/
def eXat (i : Nat) (b : XA) : WE := fun env P _ => env[i]? = some (some (.xn b)) ∧ ∃ q, b.f = some q ∧ P (.fz (.int q.2)) env
@[simp ↓] theorem eXat_eq {i : Nat} {b : XA} {env : En} {P : EK} {Y : XP} : eXat i b env P Y = (env[i]? = some (some (.xn b)) ∧ ∃ q, b.f = some q ∧ P (.fz (.int q.2)) env) := rfl
section
variable {X : Cx} {W : WX} {pos p2 : Pos} {x c top : Str} {i : Nat} {rs ns : List Str} {p : Addr × Obj} {b : XA} {D : Addr} {ex : Str → Str → Bool}
theorem g_xat (hp : p ∈ X.pn) (XF : XFact X.K X.mg ex rs ns top) (XN : XNo X.K X.mg rs) (hc : c ∈ rs) (hmc : X.mg c = some (.ref D)) (hz : XHas D b p) (hf : ∃ vs, p.2.data = .fields vs) (hN : X.N[i]? = some x) (hv : Vis X.env.scope x)
    (hd : (x == ("__debug__" : Str)) = false := by decide) (hcd : (x == ("__classdict__" : Str)) = false := by decide) (hba : attributeBase (.Name x p2) "at" X.env (eval (.Name x p2) X.env) = eval (.Name x p2) X.env := by rfl) :
    PE X (.Attribute (.Name x p2) "at" pos) (semE X W (eXat i b)) := by
  constructor
  rintro pins s σ H Q I ⟨B, F, env, P, Y, R, ⟨h1, q, hb, h⟩, ok, xo⟩
  obtain ⟨u, eu, rx⟩ := R.cell i _ h1
  obtain ⟨r, rf⟩ := rx.1 hz.2.2
  subst r
  obtain ⟨C', m1, h2, h3, _, h5⟩ := XF.cls c hc
  rw [hmc] at m1
  cases m1
  obtain ⟨C2, m2, hno⟩ := XN c hc
  rw [hmc] at m2
  cases m2
  refine attr_of hba (thn ((pe_var (pos := p2) hN hv hd hcd).run pins s σ H (fun v H1 => v = .ref b.a ∧ H1 = H) I ⟨_, eu, rfl, rfl⟩) ?_)
  rintro u s1 ⟨v, H1, I1, r1, rfl, rfl⟩
  have e1 : u = .ref b.a := r1
  subst e1
  rcases inst_X hp hz hf I1 (fun q' e => R.sub _ _ (rf q' e)) with ⟨z, _⟩ | ⟨q', od, u, e, J, ru, hl⟩
  · rw [hb] at z; cases z
  · rw [hb] at e
    cases e
    exact HandSPX.exc_get I1.kIn J h2.hg h2.hk h2.hs (PySem.W.findObj_own h2.hd hno rfl hl) (handed_of ru) ⟨.int q.2, H1, I1.tok _, ru, ok _ _ _ _ _ h (R.push (.int _)) (Same.refl F)⟩
end
/-! ### the def that catches, handed a lambda that may raise such a one -/
def eSaidT (b1 b2 : Bool) (rs : List Str) (C : Str → XA → Ct) (f : WE) : WE := fun env P _ =>
  f (mask env) (fun c _ => c.isSc = false ∧ P (.fz (toldD b1 c.toD)) env) fun x => x.1 ∈ rs ∧ ∀ b : XA, b.g = none → b.f.map (fun p => p.2) = x.2 → C x.1 b [.xn b] (fun c' _ => c'.isSc = false ∧ P (.fz (wordD b2 c'.toD)) env) fun _ => False
section
variable {X : Cx} {W : WX} {K : PySem.W.Frag} {B : Bd} {σ : L2.St} {H F : Hp} {env : En}
theorem Rl.growX {b : Addr} {vs : List (Str × V)} (R : Rl K B σ H F env) (h : H b = some (.xd vs)) : ∃ F', Same F F' ∧ F' b = some (.xd vs) ∧ Rl K B σ H F' env := by
  have sm : Same F (upd F b (.xd vs)) := fun q o e => by
    by_cases z : q = b
    · subst z
      have := R.sub q o e
      rw [h] at this
      rw [upd_same, this]
    · rw [upd_ne z]; exact e
  refine ⟨_, sm, upd_same, ⟨R.len, ⟨fun q o e => ?_, fun q ps e => ?_⟩, R.ext.trans sm, fun q o e => ?_, R.kept, fun i c e => ?_, R.own, R.ion, R.ioc, R.dist⟩⟩
  · by_cases z : q = b
    · subst z; rw [upd_same] at e; rw [← e]; exact h
    · rw [upd_ne z] at e; exact R.sub q o e
  · by_cases z : q = b
    · subst z; rw [upd_same] at e; cases e
    · rw [upd_ne z] at e; exact R.subn.2 q ps e
  · by_cases z : q = b
    · subst z; rw [upd_same] at e; cases e; exact .inr (.inr (.inr (.inr ⟨_, rfl⟩)))
    · rw [upd_ne z] at e; exact R.new q o e
  · obtain ⟨v, ev, r⟩ := R.cell i c e
    refine ⟨v, ev, r.keep sm fun p u o hv hu hn => ⟨?_, hu⟩⟩
    by_cases z : p = b
    · subst z
      have := R.ntup e o (by rw [ev, hv]) hu
      rw [h] at hu
      cases hu
      exact (this (.inr ⟨_, rfl⟩)).elim
    · rw [upd_ne z]; exact hn
theorem rl_xnF {a : XA} (hag : a.g = none) (sb : SubN F H) (tb : LamX.Tabs (tabsK K) H) (hf : ∀ p, a.f = some p → F p.1 = some (.xd [(("at" : Str), .int p.2)])) : Rl K (bdOf H F [.ref a.a] [.xn a]) [some (.ref a.a)] H F [some (.xn a)] := by
  refine ⟨rfl, sb, Same.refl F, fun _ _ h => .inl h, ⟨fun _ _ h _ _ => (strip_get h).1, fun q ps h => (strip_get h).2 ps rfl, tb⟩, fun i c h => ?_, fun i o p h e => ?_, fun i o p h e => ?_, fun i p h => ?_, fun i j c c' p h o e h' o' e' => ?_⟩
  · cases i with
    | zero => cases h; exact ⟨_, rfl, fun _ => ⟨rfl, hf⟩, fun n e => by rw [hag] at e; cases e⟩
    | succ i => simp at h
  · cases i with
    | zero => cases h
    | succ i => simp at h
  · cases i with
    | zero => cases h
    | succ i => simp at h
  · obtain ⟨⟨o, h⟩, _⟩ := h
    cases i with
    | zero => cases h
    | succ i => simp at h
  · cases i with
    | zero => cases h; cases o
    | succ i => simp at h
theorem saidT_imp {T : Addr} {b1 b2 : Bool} {rs : List Str} {C : Str → XA → Ct} {f : WE} : ∀ σ H Q, semE X W (eSaidT b1 b2 rs C f) σ H Q → LamX.tLam (tabsK X.K) (TTs X.K X.mg T b1 b2 rs C) (fun E => semE X (fun cls d _ H => E cls d H) f) σ H Q := by
  rintro σ H Q ⟨B, F, env, P, Y, R, h, ok, xo⟩
  refine ⟨R.kept.tabs, fun H1 eN T1 => ?_⟩
  have R1 := R.extN eN T1
  refine ⟨_, fun _ _ _ z => z, ?_⟩
  rw [rTold_K]
  refine ⟨bdL H1 F, F, mask env, _, _, R1.mask, h, fun c env' v H' F' ⟨sc, p⟩ R' s => ?_, fun x σ' H' cls d ⟨hc, hC⟩ hx k => ?_⟩
  · obtain ⟨F2, s2, R2, r2⟩ := R'.freeze (fun p z => z) sc
    have R3 : Rl X.K B σ H' F2 env := R1.later (bdL_kept R2.kept) R2.kept.tabs (s.trans s2) R2.subn fun q o h => by
      rcases R2.new q o h with z | z | z | z
      · exact .inl z
      · exact .inr (.inl z)
      · exact z.elim
      · exact .inr (.inr z)
    exact wrap_told R3 r2 (s.trans s2) p ok
  · obtain ⟨c, xv⟩ := x
    obtain ⟨D0, m1, e1, e2⟩ := hx
    dsimp only at m1 e2 hC hc
    have sb : SubN F H' := ⟨fun q o h => bdL_kept k q o (strip_some (R1.sub q o h) fun ps z => R1.subn.2 q ps (by rw [h, z])), R1.subn.2⟩
    have R2 : Rl X.K B σ H' F env := R1.later (bdL_kept k) k.tabs (Same.refl F) sb fun q o h => .inl h
    have fin : ∀ (fo : Option (Addr × Int)) (F2 : Hp), Same F F2 → Rl X.K B σ H' F2 env → (∀ p, fo = some p → F2 p.1 = some (.xd [(("at" : Str), .int p.2)])) → fo.map (fun p => p.2) = xv → ∀ a : Addr, rWord b2 (fun _ H2 Q2 => spOf X.K X.mg 1 (C c ⟨a, fo, none⟩) [.ref a] H2 Q2 fun _ _ _ => False) [] H' Q := fun fo F2 s2 R3 hf hx a => by
      rw [rWord_K]
      refine ⟨F2, [.xn ⟨a, fo, none⟩], _, _, rfl, rl_xnF rfl R3.subn k.tabs hf, hC ⟨a, fo, none⟩ rfl hx, fun c' os v H2 F3 ⟨sc, p⟩ po => ?_, fun _ _ _ _ z => z.elim⟩
      have nl : ∀ j q, ¬ lentAt [V.ref a] [Cl.xn ⟨a, fo, none⟩] j q := fun j q ⟨⟨o, z⟩, _⟩ => by
        cases j with
        | zero => cases z
        | succ j => simp at z
      obtain ⟨F4, s3, R4, r4⟩ := post_rep R3 nl po sc
      exact wrap_word R4 r4 (s2.trans s3) p ok
    cases xv with
    | none =>
      exact ⟨c, D0, none, hc, m1, e1, e2, fun a ha => fin none F (Same.refl F) R2 (fun p z => by cases z) rfl a⟩
    | some n =>
      obtain ⟨dd, e2, e3⟩ := e2
      obtain ⟨F2, s2, f2, R3⟩ := R2.growX e3
      exact ⟨c, D0, some (dd, n), hc, m1, e1, e2, fun a ha => fin (some (dd, n)) F2 s2 R3 (fun p z => by cases z; exact f2) rfl a⟩
theorem g_saidT {T g : Addr} {b1 b2 : Bool} {rs : List Str} {C : Str → XA → Ct} {f : WE} {x a lx : Str} {pg : Arguments} {bg : List Stmt} {sg : Scope} {dvs : List V} {kws : List (Str × V)} {fd : FuncData} {Ng : List Str} {params : Arguments} {body : Expr} {scope : Scope} {p lpos pos : Pos} {k : Nat}
    (FD : FunD X.K x x pg bg sg dvs kws g fd) (hb : Binds X.K fd [a] []) (Sg : FnScope Ng [a] sg) (hNg : Ng[0]? = some a) (hva : Vis sg a) (hg : Gl X x) (hm : X.mg x = some (.ref g))
    (hG : ∀ cdg, LamX.GivesTo X Ng x sg g cdg bg a (X.env.qual ++ "<lambda>") (TTs X.K X.mg T b1 b2 rs C)) (HB : TabsB X.K X.mg X.base) (hx : lx ∈ lamNames) (hcode : ∀ c P, PySem.W.tabIn X.K lx = some (c, P) → X.env.code = .ref c) (hq : X.env.qual = lx ++ ".<locals>.")
    (hr : Room (k + 2) X.A) (L : LamX.LamS X.env.scope scope) (hdef : defaultsOf params X.env = ([], [])) (hbind : ∀ (q : Str) (cl : List (Str × Addr)) (pm cv ctv : Value), bindArgs (PySem.W.kla_fn "<lambda>" q params body scope cl pm cv ctv) ⟨[], []⟩ = pure [])
    (hbody : ∀ (A : Around) (outer : List Env) (s : Shared) (H : Hp) (E : XK) (f' c' : Addr), Room k (A.deeper (LamX.lamEnv X scope s.heap.objs.size f' c')) → PE (LamX.lamCx X A outer s H E scope f' c') body (semE X (fun cls d _ H => E cls d H) f))
    (hdb : (x == ("__debug__" : Str)) = false := by decide) (hd : (a == ("__debug__" : Str)) = false := by decide) (hcd : (a == ("__classdict__" : Str)) = false := by decide) :
    PE X (.Call (.Name x p) [.Lambda params body scope lpos] [] pos) (semE X W (eSaidT b1 b2 rs C f)) := by
  obtain ⟨_, _, _, _, _, _, _, cdv, _, _, rfl, lk, code, _, _⟩ := FD.ex
  obtain ⟨c, Pt, ht, _⟩ := HB.tin.at_ lx hx
  have hmT : (Pt, X.env.qual ++ "<lambda>") ∈ tabsK X.K := by
    refine List.mem_filterMap.mpr ⟨lx, hx, ?_⟩
    rw [ht, hq]
    rfl
  exact peOf (LamX.pe_lamcall (T := tabsK X.K) hg hm FD.kp lk code hb Sg hNg hva (hG cdv) (HB.tb lx hx c Pt ht) (hcode c Pt ht) hmT (fun p hp e => HB.tin.inj p hp _ hmT e) hr L hdef hbind hbody hdb hd hcd) saidT_imp
end
end Sw

/-! lists of defs, walked; a def called through a name -/
namespace Sw
open PySem PySem.Spec PyProof.Rows L2
section
variable {X : Cx} {W : WX} {B : Bd} {σ : L2.St} {H F : Hp} {env : En} {Y : XP} {K : PySem.W.Frag}
/-- the names' defs stand there -/
inductive GlsAt (K : PySem.W.Frag) : List Addr → List Str → Prop
  | nil : GlsAt K [] []
  | cons {a : Addr} {as : List Addr} {n : Str} {ns : List Str} : PySem.W.nsIn K mainGlobals n = some (some (.ref a)) → GlsAt K as ns → GlsAt K (a :: as) (n :: ns)
theorem GlsAt.len {as : List Addr} {ns : List Str} (h : GlsAt K as ns) : as.length = ns.length := by
  induction h with
  | nil => rfl
  | cons _ _ ih => simp [ih]
theorem GlsAt.get {as : List Addr} {ns : List Str} (h : GlsAt K as ns) : ∀ {i : Nat} {n : Str}, ns[i]? = some n → ∃ a, as[i]? = some a ∧ PySem.W.nsIn K mainGlobals n = some (some (.ref a)) := by
  induction h with
  | nil => intro i n e; simp at e
  | cons h _ ih =>
    intro i n e
    cases i with
    | zero => simp at e; subst e; exact ⟨_, rfl, h⟩
    | succ i => simpa using ih (by simpa using e)
def tCs : List Addr → TA
  | [] => tNil
  | a :: as => tCons (tC (.ref a)) (tCs as)
theorem tCs_ok : ∀ {as : List Addr} {σ : L2.St} {H : Hp} {Q : List V → Hp → Prop}, Q (as.map V.ref) H → tCs as σ H Q
  | [], _, _, _, h => h
  | a :: as, σ, H, Q, h => tCs_ok (as := as) h
abbrev glX (n : Str) : Cl := .xn ⟨0, none, some n⟩
/-! ### [.. for x in [f, g, ..]] -/
def compG (k : Nat) (el : WE) (vs : List Nat) (g : List D → En → Prop) : List Str → List D → En → Prop
  | [], acc => fun e => g acc e
  | n :: ns, acc => fun e => canSet e k ∧ el (e.set k (some (glX n))) (fun c e4 => c.isSc = false ∧ acc.length < sizeLine ∧ compG k el vs g ns (acc ++ [c.toD]) (wipeE e4 vs)) (fun _ => False)
@[simp ↓] def eCompG (ns : List Str) (k : Nat) (el : WE) (vs : List Nat) : WE := fun env P _ => ns.length ≤ 1000 ∧ okV env vs ∧ compG k el vs (fun acc e => P (.ow (.lst acc)) (restE e env vs)) ns [] (wipeE env vs)
theorem wipe_set {σ : L2.St} {i : Nat} {v : Option V} {vs : List Nat} (hi : i ∈ vs) : wipe ((wipe σ vs).set i v) vs = wipe σ vs := by
  apply List.ext_getElem?
  intro j
  rw [wipe_get, List.length_set, wipe_length, wipe_get]
  by_cases e : j ∈ vs
  · rw [if_pos e, if_pos e]
  · rw [if_neg e, if_neg e, List.getElem?_set_ne (fun z => e (by rw [← z]; exact hi)), wipe_get, if_neg e]
theorem glRep {H F : Hp} {n : Str} {a : Addr} (h : PySem.W.nsIn K mainGlobals n = some (some (.ref a))) : RepC K H F (.ref a) (glX n) := ⟨fun e => (by cases e), fun m e => (by cases e; exact ⟨a, rfl, h⟩)⟩
theorem compG_imp {ns : List Str} {as : List Addr} {k : Nat} {el : WE} {vs : List Nat} (hk : k ∈ vs) (ha : GlsAt X.K as ns) : ∀ σ H Q, semE X W (eCompG ns k el vs) σ H Q → tLc (iList X.K (tLst (tCs as))) (gName k) tYes (semE X W0 el) vs σ H Q := fun σ H Q ⟨B, F, env, P, Y, R0, ⟨hz, okv, q⟩, ok, x⟩ => by
  refine tCs_ok ⟨by rw [List.length_map, ha.len, sizeLine_eq]; omega, fun a0 ha0 => ?_⟩
  have R1 := R0.grow (p := a0) (u := .lst (as.map V.ref)) ha0
  have s0 : Same F (upd F a0 (.lst (as.map V.ref))) := same_new (R0.nF ha0)
  have hF0 : (upd F a0 (.lst (as.map V.ref))) a0 = some (.lst (as.map V.ref)) := upd_same
  generalize upd F a0 (.lst (as.map V.ref)) = F1 at R1 s0 hF0
  have hH0 : (upd H a0 (.lst (as.map V.ref))) a0 = some (.lst (as.map V.ref)) := upd_same
  generalize upd H a0 (.lst (as.map V.ref)) = H1 at R1 hH0 ⊢
  refine ⟨a0, rfl, ⟨_, SqL.of hH0⟩, fun L hL => ?_⟩
  have nv : ∀ j ∈ vs, ∀ p, ¬ B.io j p := fun j hj p hb => by
    obtain ⟨_, o, e⟩ := R1.ioc j p hb
    have := okv j hj _ e
    cases this
  have hlw : (wipe σ vs).length = σ.length := wipe_length σ vs
  refine ⟨fun i m H => m = ns.length - i ∧ i ≤ ns.length ∧ ∃ F' env' acc, Rl X.K B (wipe σ vs ++ [some (.ref L)]) H F' (env' ++ [some (.ow (.lst acc))]) ∧ Same F1 F' ∧ compG k el vs (fun acc e => P (.ow (.lst acc)) (restE e env vs)) (ns.drop i) acc env', ⟨_, rfl, Nat.zero_le _, F1, _, [], (R1.wipe0 nv).fresh hL (show OwnAt X.K (upd H1 L (.lst [])) F1 L (.lst []) from ⟨[], upd_same, .nil⟩), Same.refl F1, q⟩, ?_⟩
  rintro i m H2 ⟨rfl, hi, F2, env2, acc, R2, s2, q2⟩
  have nio2 : ∀ p, ¬ B.io (wipe σ vs).length p := fun p hp => by
    have := R1.ioLt _ _ hp
    omega
  have hls : H2 a0 = some (.lst (as.map V.ref)) := R2.sub _ _ (s2 _ _ hF0)
  by_cases hlt : i < ns.length
  · obtain ⟨a, ea, hn⟩ := ha.get (List.getElem?_eq_getElem hlt)
    rw [List.drop_eq_getElem_cons hlt] at q2
    unfold compG at q2
    obtain ⟨cs, q2⟩ := q2
    have eav : (as.map V.ref)[i]? = some (.ref a) := by rw [List.getElem?_map, ea]; rfl
    refine .inr ⟨⟨_, _, SqL.of hls, eav⟩, fun H' => ∃ F' env' acc, Rl X.K B (wipe σ vs ++ [some (.ref L)]) H' F' (env' ++ [some (.ow (.lst acc))]) ∧ Same F1 F' ∧ compG k el vs (fun acc e => P (.ow (.lst acc)) (restE e env vs)) (ns.drop (i + 1)) acc env', fun H' hN => ⟨_, by omega, rfl, hlt, hN⟩, fun y H' ⟨eH, hy⟩ => ?_⟩
    subst eH
    have hy := hy _ (SqL.of hls)
    rw [eav] at hy
    cases hy
    have Rp := R2.pop nio2
    have R' := ((Rp.rebase).pushXn (glRep (H := H') (F := F2) hn)).setTop Rp.rebase.nio cs
    refine ⟨wipe_set hk, ?_⟩
    unfold tYes
    dsimp only
    rw [if_pos rfl]
    refine ⟨_, F2, _, _, _, R', q2, fun c e4 v H5 F5 ⟨sc, z, p5⟩ R5 s5 => ?_, xok0⟩
    have nioB : ∀ p, ¬ (B.at (wipe σ vs) H' F2 env2).io ((wipe σ vs).set k (some (.ref a))).length p := fun p hp => by
      have := R1.ioLt _ _ hp
      rw [List.length_set] at this
      omega
    obtain ⟨F6, s6, R6, r6⟩ := R5.freeze nioB sc
    have R7 := R2.carry nio2 R6
    obtain ⟨p', hp', n', ws7, h1, h2⟩ := R7.top R7.len1
    cases hp'
    refine ⟨ws7, h1, by rw [h2.length]; exact z, F6, wipeE e4 vs, acc ++ [c.toD], ?_, (s2.trans s5).trans s6, p5⟩
    have hl4 : e4.length = ((wipe σ vs).set k (some (.ref a))).length := R7.len1
    have R8 := R7.mutL (i := ((wipe σ vs).set k (some (.ref a))).length) (o := .lst acc) (ys := acc ++ [c.toD]) (.inl (by rw [← hl4]; exact get_last)) get_last n' (h2.snoc r6)
    have es : setO (e4 ++ [some (.ow (.lst acc))]) ((wipe σ vs).set k (some (.ref a))).length (.lst (acc ++ [c.toD])) = e4 ++ [some (.ow (.lst (acc ++ [c.toD])))] := by
      unfold setO
      rw [← hl4, get_last]
      simp
    rw [es] at R8
    have R9 := R8.wipeT (vs := vs) hl4 nv (fun j p h => by have := R1.ioLt _ _ h; rw [List.length_set]; omega)
    rw [wipe_set hk] at R9
    exact R9
  · have e : i = ns.length := by omega
    subst e
    rw [List.drop_length] at q2
    unfold compG at q2
    exact .inl ⟨⟨_, SqL.of hls, by rw [List.length_map, ha.len]; exact Nat.le_refl _⟩, ok _ _ _ _ _ q2 (Rl.unwipe R1 okv R2 s2) (s0.trans s2)⟩
/-! ### for x in [f, g, ..] -/
def forG (k : Nat) (vs : List Nat) (b : WS) (fin : En → Prop) : List Str → En → Prop
  | [] => fun e => fin e
  | n :: ns => fun e => canSet e k ∧ b (e.set k (some (glX n))) ⟨fun e3 => nioE e3 vs ∧ forG k vs b fin ns (dropE e3 vs), fun _ _ => False, fun _ => False, fun e3 => nioE e3 vs ∧ forG k vs b fin ns (dropE e3 vs), fun _ => False⟩
@[simp ↓] def sForG (ns : List Str) (k : Nat) (vs : List Nat) (b : WS) : WS := fun env S => ns.length ≤ 1000 ∧ nioE env vs ∧ forG k vs b S.nx ns (dropE env vs)
theorem forG_imp {ns : List Str} {as : List Addr} {k : Nat} {vs : List Nat} {b : WS} (ha : GlsAt X.K as ns) : ∀ D σ H, semS X W (sForG ns k vs b) D σ H → tFor (iList X.K (tLst (tCs as))) (gName k) (semS X W b) D σ H := fun D σ H ⟨B, F, env, S, R0, ⟨hz, nio, q⟩, ok, x⟩ => by
  refine tCs_ok ⟨by rw [List.length_map, ha.len, sizeLine_eq]; omega, fun a0 ha0 => ?_⟩
  have R1 := R0.grow (p := a0) (u := .lst (as.map V.ref)) ha0
  have s1 : Same F (upd F a0 (.lst (as.map V.ref))) := same_new (R0.nF ha0)
  have hF0 : (upd F a0 (.lst (as.map V.ref))) a0 = some (.lst (as.map V.ref)) := upd_same
  generalize upd F a0 (.lst (as.map V.ref)) = F1 at R1 s1 hF0
  have hH0 : (upd H a0 (.lst (as.map V.ref))) a0 = some (.lst (as.map V.ref)) := upd_same
  generalize upd H a0 (.lst (as.map V.ref)) = H1 at R1 hH0 ⊢
  refine ⟨a0, rfl, ⟨_, SqL.of hH0⟩, ?_⟩
  have nv := nio.nv R1
  refine ⟨fun t n σ H => n = ns.length - t ∧ t ≤ ns.length ∧ ∃ F' env', Rl X.K B σ H F' env' ∧ Same F1 F' ∧ forG k vs b S.nx (ns.drop t) env', ⟨_, rfl, Nat.zero_le _, F1, _, R1.drop nv, Same.refl F1, q⟩, ?_⟩
  rintro t n σ2 H2 ⟨rfl, ht, F2, env2, R2, s2, q2⟩
  have hls : H2 a0 = some (.lst (as.map V.ref)) := R2.sub _ _ (s2 _ _ hF0)
  by_cases hlt : t < ns.length
  · obtain ⟨a, ea, hn⟩ := ha.get (List.getElem?_eq_getElem hlt)
    rw [List.drop_eq_getElem_cons hlt] at q2
    have eav : (as.map V.ref)[t]? = some (.ref a) := by rw [List.getElem?_map, ea]; rfl
    refine .inr ⟨⟨_, _, SqL.of hls, eav⟩, fun σ' H' => ∃ F' env', Rl X.K B σ' H' F' env' ∧ Same F1 F' ∧ forG k vs b S.nx (ns.drop (t + 1)) env', fun σ' H' hN => ⟨_, by omega, rfl, hlt, hN⟩, fun y H' ⟨eH, hy⟩ => ?_⟩
    subst eH
    have hy := hy _ (SqL.of hls)
    rw [eav] at hy
    cases hy
    have R4 := (R2.pushXn (glRep (H := H') (F := F2) hn)).setTop R2.nio q2.1
    exact ⟨B, F2, _, _, R4, q2.2, ⟨fun e2 σ3 H3 F4 p3 R5 s4 => ⟨F4, _, R5.drop (p3.1.nv R5), s2.trans s4, p3.2⟩, fun c e2 σ3 v H3 F4 p3 R4 n s4 => p3.elim, fun e2 σ3 H3 F4 p3 R4 s4 => p3.elim, fun e2 σ3 H3 F4 p3 R5 s4 => ⟨F4, _, R5.drop (p3.1.nv R5), s2.trans s4, p3.2⟩⟩, xok0⟩
  · have e : t = ns.length := by omega
    subst e
    rw [List.drop_length] at q2
    exact .inl ⟨⟨_, SqL.of hls, by rw [List.length_map, ha.len]; exact Nat.le_refl _⟩, ok.nx _ _ _ _ q2 R2 (s1.trans s2)⟩
end
/-! ### the rules -/
section
variable {X : Cx} {W : WX} {pos p1 p2 : Pos} {x y : Str} {k i n : Nat} {ns : List Str} {as0 : List Addr} {elt e : Expr} {es : List Expr} {scope : Scope} {own : List (Str × Nat)} {vs : List Nat} {el : WE} {b : WS} {sts : List Stmt}
/-- [f, g, ..] -/
structure GlsE (X : Cx) (es : List Expr) (as0 : List Addr) (ns : List Str) : Prop where
  pa : PA X es (tCs as0)
  at_ : GlsAt X.K as0 ns
theorem gls_nil : GlsE X [] [] [] := ⟨pa_nil, .nil⟩
theorem gls_cons {f : Str} {a : Addr} {p : Pos} (hg : Gl X f) (hm : X.mg f = some (.ref a)) (hk : PySem.W.nsIn X.K mainGlobals f = some (some (.ref a))) (h : GlsE X es as0 ns) (hdb : (f == ("__debug__" : Str)) = false := by decide)
    (s1 : starEach (.Name f p :: es) X.env = (false, eval (.Name f p) X.env) :: starEach es X.env := by rfl) : GlsE X (.Name f p :: es) (a :: as0) (f :: ns) := ⟨pa_cons (pe_glob (v := .ref a) hg hm rfl hdb) h.pa s1, .cons hk h.at_⟩
theorem g_compG (G : GlsE X es as0 ns) (hc : X.calm = true) (hN : X.N.Nodup) (ho : BlkOk X.N X.env.scope scope own) (hv : own.map (·.2) = vs) (hg : ∀ s H C cl fp, PG (blkOf X scope s H C cl fp) (.Name x p1) (gName k)) (he : ∀ s H C cl fp, PE (blkOf X scope s H C cl fp) elt (semE (blkOf X scope s H C cl fp) W0 el))
    (hk : k ∈ vs := by decide) (hs : ∀ z, foldedSetIterable (.List es p2) X.env z = pure z := by intro _; rfl) : PE X (.ListComp elt [⟨.Name x p1, .List es p2, [], 0⟩] scope pos) (semE X W (eCompG ns k el vs)) := by
  subst hv
  exact peOf (pe_lc hc hN (pi_list (pe_lst G.pa)) ho hg (tt := tYes) (fun _ _ _ _ _ => pts_nil) he hs) (compG_imp hk G.at_)
theorem s_setLcG {z : Str} {py spos : Pos} {j : Nat} (G : GlsE X es as0 ns) (hc : X.calm = true) (hN : X.N.Nodup) (hy : X.N[j]? = some z) (hyl : X.env.scope.names.lookup z = some .local) (ho : BlkOk X.N X.env.scope scope own) (hv : own.map (·.2) = vs) (hg : ∀ s H C cl fp, PG (blkOf X scope s H C cl fp) (.Name x p1) (gName k)) (he : ∀ s H C cl fp, PE (blkOf X scope s H C cl fp) elt (semE (blkOf X scope s H C cl fp) W0 el))
    (hk : k ∈ vs := by decide) (hsw : swapsWith (.ListComp elt [⟨.Name x p1, .List es p2, [], 0⟩] scope pos) (some (.Name z py)) spos.line X.env = pure true := by rfl) (hs : ∀ z, foldedSetIterable (.List es p2) X.env z = pure z := by intro _; rfl) : PS X (.Assign [.Name z py] (.ListComp elt [⟨.Name x p1, .List es p2, [], 0⟩] scope pos) spos) (semS X W (sSet j (eCompG ns k el vs))) := by
  subst hv
  exact psOf (psOf (ps_setLc hc hN hy hyl hsw (pi_list (pe_lst G.pa)) ho hg (tt := tYes) (te := semE X W0 el) (fun _ _ _ _ _ => pts_nil) he hs) fun D σ H h => compG_imp (X := X) (W := W) hk G.at_ σ H _ h) set_imp
theorem s_forG (G : GlsE X es as0 ns) (hp : PassesOwn (model X.prog X.w) X.A X.env X.xe) (hc : X.calm = true) (hN : X.N.Nodup) (hi : X.N[k]? = some x) (hx : Loc X.env.scope x) (hb : PSs X sts (semS X W b)) (hf : X.fn x = true ∨ X.env.scope.names.lookup x = some .local := by first | exact .inl rfl | exact .inr rfl) (hs : ∀ z, foldedSetIterable (.List es p2) X.env z = pure z := by intro _; rfl) :
    PS X (.For (.Name x p1) (.List es p2) sts [] pos) (semS X W (sForG ns k vs b)) := psOf (ps_for hp hc (pi_list (pe_lst G.pa)) (pg_name hN hi hx hf) hb hs) (forG_imp G.at_)
end
/-! ### x(..), x holding a def -/
/-- the defs that may be meant -/
def GFn (X : Cx) (k n : Nat) (nm : Str) (C : Ct) : Prop := ∃ (fa : Addr) (fd : FuncData) (ps : List Str), PySem.W.nsIn X.K mainGlobals nm = some (some (.ref fa)) ∧ PySem.W.keepIn X.K (.ref fa) = true ∧ FnOk X.prog X.w X.K X.mg X.base (L2.CX X.prog X.w) k fa fd ps (spOf X.K X.mg n C) ∧ Binds X.K fd ps []
def GFk (X : Cx) (k n m : Nat) (ks : List Str) (is : List Nat) (nm : Str) (C : Ct) : Prop := ∃ (fa : Addr) (fd : FuncData) (ps : List Str) (g : List Value → List Value → List Value), PySem.W.nsIn X.K mainGlobals nm = some (some (.ref fa)) ∧ PySem.W.keepIn X.K (.ref fa) = true ∧ ps.length = m ∧
  FnOk X.prog X.w X.K X.mg X.base (L2.CX X.prog X.w) k fa fd ps (spOf X.K X.mg ps.length C) ∧ KBn X.K fd ps n ks g (fun vs zs => pickL is (vs ++ zs ++ []))
@[simp ↓] def eCallG (i : Nat) (tbl : List (Str × Ct)) (as : List Arg) : WE := fun env P Y => ∃ n C, env[i]? = some (some (glX n)) ∧ tbl.lookup n = some C ∧ eCall C as env P Y
@[simp ↓] def eCallGK (i : Nat) (tbl : List (Str × Ct)) (is : List Nat) (fs : List WE) : WE := fun env P Y => ∃ n C, env[i]? = some (some (glX n)) ∧ tbl.lookup n = some C ∧ eCallK is [] C fs env P Y
section
variable {X : Cx} {W : WX} {pos p1 : Pos} {y : Str} {k k' i n m : Nat} {e : Expr} {es : List Expr} {as : List Arg} {tbl : List (Str × Ct)}
theorem g_callV (T : ∀ nm C, tbl.lookup nm = some C → GFn X k n nm C) (hr : Room k' X.A) (hk : k ≤ k') (tk : Takes X W) (hN : X.N[i]? = some y) (hv : Vis X.env.scope y) (hA : PA X (e :: es) (tArgs X W as)) (hn : as.length = n := by rfl) (nd : (lentOf as).Nodup := by decide)
    (hd : (y == ("__debug__" : Str)) = false := by decide) (hcd : (y == ("__classdict__" : Str)) = false := by decide) (he : starEach (e :: es) X.env = (false, eval e X.env) :: starEach es X.env := by rfl) (hpl : (backTo pos (starEach es X.env)).any (·.1) = false := by rfl) :
    PE X (.Call (.Name y p1) (e :: es) [] pos) (semE X W (eCallG i tbl as)) := by
  constructor
  rintro pins s σ H Q I ⟨B, F, env, P, Y, R, ⟨nm, C, hnm, hl, hc⟩, ok, xo⟩
  obtain ⟨v, ev, rx⟩ := R.cell i _ hnm
  obtain ⟨a, rfl, hns⟩ := rx.2 _ rfl
  obtain ⟨fa, fd, ps, hns', kp, FO, hb⟩ := T _ _ hl
  have : a = fa := by rw [hns] at hns'; cases hns'; rfl
  subst this
  apply wpAny_Call_Name_kw
  refine thn ((pe_var (pos := p1) hN hv hd hcd).run pins s σ H (fun v H1 => v = .ref a ∧ H1 = H) I ⟨.ref a, ev, rfl, rfl⟩) ?_
  rintro u s1 ⟨v, H1, I1, r1, rfl, rfl⟩
  have e1 : u = .ref a := r1
  subst e1
  refine PySem.W.callWith_K (h₀ := X.base) I1.ok.mod.kin kp (thn (hA.run pos pins s1 σ H1 _ I1 (call_imp hn nd σ H1 Q ⟨B, F, env, P, Y, R, hc, ok, xo⟩)) ?_) he hpl
  rintro us s2 ⟨vs, H2, I2, r, q⟩
  refine ⟨I2.kIn, ?_⟩
  have n1 : us.length = ps.length := r.length.symm.trans (FO.len _ _ _ _ q)
  have b := hb s2 us I2.kIn (by simpa using n1)
  rw [List.append_nil] at b
  apply wpAny_call
  refine codeAny_mono (FO.run X.A X.stack s2 H2 ⟨us, []⟩ us vs Q (L2.WE W σ) (hr.mono hk) I2.env0 b r q) ?_
  intro res s' z
  match res, z with
  | .error u, z => exact passAt tk σ pins H2 s2 u s' I2 z
  | .ok (.ret u), z => exact I2.after z
theorem g_callVK {kws : List Keyword} {ks : List Str} {is : List Nat} {gs fs : List WE} (T : ∀ nm C, tbl.lookup nm = some C → GFk X k gs.length m ks is nm C) (hr : Room k' X.A) (hk : k ≤ k') (tk : Takes X W) (hN : X.N[i]? = some y) (hv : Vis X.env.scope y) (ha : PA X (e :: es) (tEs X W gs)) (hkw : PK X kws (tEs X W fs)) (hf : fs.length = ks.length := by rfl)
    (hl : ∀ ds : List D, ds.length = gs.length + fs.length → (pickL is (ds ++ ([] : List D))).length = m) (hall : (backToKw pos (keywordEach kws X.env)).all (·.1.isSome) = true := by rfl) (hks : (backToKw pos (keywordEach kws X.env)).filterMap (·.1) = ks := by rfl)
    (hd : (y == ("__debug__" : Str)) = false := by decide) (hcd : (y == ("__classdict__" : Str)) = false := by decide) (he : starEach (e :: es) X.env = (false, eval e X.env) :: starEach es X.env := by rfl)
    (hpl : ((backTo pos (starEach (e :: es) X.env)).any (·.1) || (backToKw pos (keywordEach kws X.env)).any (·.1.isNone)) = false := by rfl) :
    PE X (.Call (.Name y p1) (e :: es) kws pos) (semE X W (eCallGK i tbl is (gs ++ fs))) := by
  constructor
  rintro pins s σ H Q I ⟨B, F, env, P, Y, R, ⟨nm, C, hnm, hlk, hc⟩, ok, xo⟩
  obtain ⟨v, ev, rx⟩ := R.cell i _ hnm
  obtain ⟨a, rfl, hns⟩ := rx.2 _ rfl
  obtain ⟨fa, fd, ps, g, hns', kp, hm, FO, hb⟩ := T _ _ hlk
  have : a = fa := by rw [hns] at hns'; cases hns'; rfl
  subst this
  apply wpAny_Call_Name_kw
  refine thn ((pe_var (pos := p1) hN hv hd hcd).run pins s σ H (fun v H1 => v = .ref a ∧ H1 = H) I ⟨.ref a, ev, rfl, rfl⟩) ?_
  rintro u s1 ⟨v, H1, I1, r1, rfl, rfl⟩
  have e1 : u = .ref a := r1
  subst e1
  have q0 : tCallNS gs.length ks.length (spOf X.K X.mg ps.length C) (fun vs zs => pickL is (vs ++ zs ++ [])) (L2.WE W) (tEs X W gs) (tEs X W fs) σ H1 Q := by
    rw [← hf]
    exact callK_imp (dv := []) (fun F => .nil) (fun ds hd => (hl ds hd).trans hm.symm) σ H1 Q ⟨B, F, env, P, Y, R, hc, ok, xo⟩
  refine PySem.W.callWith_KW (h₀ := X.base) I1.ok.mod.kin kp hall (thn (ha.run pos pins s1 σ H1 _ I1 q0) fun us s2 ⟨vs, H2, I2, r, q⟩ => ?_) hpl he
  refine thn (hkw.run pos pins s2 σ H2 _ I2 q) fun ws s3 ⟨zs, H3, I3, rz, l1, l2, q2⟩ => ⟨I3.kIn, ?_⟩
  rw [hks]
  exact run_fnNS FO (hr.mono hk) hb (passAt tk σ) I3 r rz l1 l2 q2
end
/-- all that is never reached -/
theorem s_nos {X : Cx} {W : WX} {sts : List Stmt} : PSs X sts (semS X W sNo) := ⟨fun _ _ _ _ _ _ ⟨_, _, _, _, _, h, _⟩ => h.elim⟩
theorem lk_nil {p : Str → Ct → Prop} : ∀ nm C, ([] : List (Str × Ct)).lookup nm = some C → p nm C := fun _ _ h => by cases h
theorem lk_cons {p : Str → Ct → Prop} {a : Str} {c : Ct} {tbl : List (Str × Ct)} (h0 : p a c) (h : ∀ nm C, tbl.lookup nm = some C → p nm C) : ∀ nm C, ((a, c) :: tbl).lookup nm = some C → p nm C := fun nm C e => by
  rw [List.lookup_cons] at e
  by_cases z : nm = a
  · subst z
    simp at e
    subst e
    exact h0
  · rw [beq_eq_false_iff_ne.mpr z] at e
    exact h nm C e
end Sw

namespace Sw
open PySem PySem.Spec PyProof.Rows L2
section
variable {P : Sw.Cl → List OD → Prop} {Y : XP}
/-! ### the numbers drawn: a box of two -/
def Bx (a b : Int) : Prop := 0 ≤ b ∧ b < 2147483647
abbrev bxo (a b : Int) : OD := .lst [.int a, .int b]
/-! ### a sale drawn -/
/-- a class of fares: fare, share, size -/
structure Cla where
  f : Nat
  s : Nat
  z : Nat
def Cla.d (c : Cla) : D := .tuple [.int (c.f : Int), .int (c.s : Int), .int (c.z : Int)]
structure Sal where
  n : Nat
  t : Nat
  m : Nat
  cs : List Cla
def Sal.d (S : Sal) : D := .tuple [.int (S.n : Int), .int (S.t : Int), .int (S.m : Int), .tuple (S.cs.map Cla.d)]
def shares (cs : List Cla) : Nat := (cs.map Cla.s).sum
/-- what is_sale asks -/
structure Cla.Ok (c : Cla) : Prop where
  f1 : 1 ≤ c.f
  f2 : c.f ≤ 99
  s1 : 1 ≤ c.s
  s2 : c.s ≤ 24
  z1 : 1 ≤ c.z
  z2 : c.z ≤ 4
structure Sal.Ok (S : Sal) : Prop where
  n : S.n ≤ 12
  t : S.t ≤ 12
  m1 : 1 ≤ S.m
  m2 : S.m ≤ 24
  c1 : 1 ≤ S.cs.length
  c2 : S.cs.length ≤ 4
  cs : ∀ c ∈ S.cs, c.Ok
  sh : shares S.cs ≤ S.m
theorem shares_int (cs : List Cla) : (cs.map fun c => (c.s : Int)).sum = (shares cs : Nat) := by
  induction cs with
  | nil => rfl
  | cons c cs ih =>
    unfold shares at ih ⊢
    simp [ih]
theorem nat_of {x : Int} (h : 0 ≤ x) : ∃ n : Nat, x = n := ⟨x.toNat, by omega⟩
def kept (S : Sal) : Nat := S.m - shares S.cs
/-- a row of whole numbers -/
def rowL (n : Nat) (r : Nat → Nat) : List D := (List.range (n + 1)).map fun l => .int (r l : Int)
theorem row_at {n l : Nat} {r : Nat → Nat} (h : l ≤ n) : L2.atI (rowL n r) (l : Int) = some (.int (r l : Int)) := by
  have hl : l < (rowL n r).length := by unfold rowL; simp; omega
  have e : ixN (rowL n r).length (l : Int) = some l := by
    unfold ixN
    rw [if_pos (by omega), if_pos (by omega)]
    simp
  unfold L2.atI
  rw [e]
  have h3 : l < n + 1 := by omega
  simp [rowL, List.getElem?_range h3]
@[simp ↓] theorem atI_3 {α : Type} {x y z w : α} {xs : List α} : L2.atI (x :: y :: z :: w :: xs) 3 = some w := by
  have e : ixN (x :: y :: z :: w :: xs).length 3 = some 3 := by unfold ixN; rw [if_pos (by omega), if_pos (by simp only [List.length_cons]; omega)]; rfl
  unfold L2.atI; rw [e]; rfl
@[simp ↓] theorem gIdx_S0 {S : Sal} {P : Sw.Cl → Prop} : gIdx S.d (.int 0) P = P (.fz (.int S.n)) := by simp [Sal.d]
@[simp ↓] theorem gIdx_S1 {S : Sal} {P : Sw.Cl → Prop} : gIdx S.d (.int 1) P = P (.fz (.int S.t)) := by simp [Sal.d]
@[simp ↓] theorem gIdx_S2 {S : Sal} {P : Sw.Cl → Prop} : gIdx S.d (.int 2) P = P (.fz (.int S.m)) := by simp [Sal.d]
@[simp ↓] theorem gIdx_S3 {S : Sal} {P : Sw.Cl → Prop} : gIdx S.d (.int 3) P = P (.fz (.tuple (S.cs.map Cla.d))) := by simp [Sal.d]
@[simp ↓] theorem gIdx_C0 {c : Cla} {P : Sw.Cl → Prop} : gIdx c.d (.int 0) P = P (.fz (.int c.f)) := by simp [Cla.d]
@[simp ↓] theorem gIdx_C1 {c : Cla} {P : Sw.Cl → Prop} : gIdx c.d (.int 1) P = P (.fz (.int c.s)) := by simp [Cla.d]
@[simp ↓] theorem gIdx_C2 {c : Cla} {P : Sw.Cl → Prop} : gIdx c.d (.int 2) P = P (.fz (.int c.z)) := by simp [Cla.d]
def best (r : Nat → Nat) (sc l : Nat) (c : Cla) : Nat := if c.z ≤ l then max (r l) (c.f * sc + r (l - c.z)) else r l
def nxt (S : Sal) (sc : Nat) (r : Nat → Nat) (l : Nat) : Nat := kept S * r l + (S.cs.map fun c => c.s * best r sc l c).sum
theorem Sm.nat {k n : Nat} (h : n < 2 ^ k) : Sm k (n : Int) := by
  unfold Sm
  simpa using h
/-- the rows: what is still to come, times the scale -/
def R (S : Sal) : Nat → Nat → Nat
  | 0 => fun _ => 0
  | t + 1 => nxt S (S.m ^ t) (R S t)
theorem best_le {r : Nat → Nat} {sc l B : Nat} {c : Cla} (h : ∀ l, r l ≤ B) (hf : c.f ≤ 99) : best r sc l c ≤ 99 * sc + B := by
  have h1 := h l
  have h2 := h (l - c.z)
  have h3 : c.f * sc ≤ 99 * sc := Nat.mul_le_mul_right _ hf
  unfold best
  split
  · exact Nat.max_le.mpr ⟨by omega, by omega⟩
  · omega
theorem nxt_le {S : Sal} (ok : S.Ok) {r : Nat → Nat} {sc B : Nat} (h : ∀ l, r l ≤ B) (l : Nat) : nxt S sc r l ≤ S.m * (99 * sc + B) := by
  have hs : ∀ cs : List Cla, (∀ c ∈ cs, c.f ≤ 99) → (cs.map fun c => c.s * best r sc l c).sum ≤ shares cs * (99 * sc + B) := fun cs => by
    induction cs with
    | nil => intro _; simp [shares]
    | cons c cs ih =>
      intro hc
      have := ih fun d hd => hc d (List.mem_cons_of_mem _ hd)
      have hb := Nat.mul_le_mul_left c.s (best_le (sc := sc) (l := l) h (hc c List.mem_cons_self))
      unfold shares at this ⊢
      simp only [List.map_cons, List.sum_cons, Nat.add_mul]
      omega
  have h1 := hs S.cs fun c hc => (ok.cs c hc).f2
  have h2 : kept S * r l ≤ kept S * (99 * sc + B) := Nat.mul_le_mul_left _ (by have := h l; omega)
  have h3 : S.m = kept S + shares S.cs := by
    have := ok.sh
    unfold kept
    omega
  rw [h3, Nat.add_mul]
  unfold nxt
  omega
theorem R_le {S : Sal} (ok : S.Ok) : ∀ (t l : Nat), R S t l ≤ 99 * t * S.m ^ t
  | 0, l => by simp [R]
  | t + 1, l => by
    have h := nxt_le ok (sc := S.m ^ t) (R_le ok t) l
    have e : S.m * (99 * S.m ^ t + 99 * t * S.m ^ t) = 99 * (t + 1) * S.m ^ (t + 1) := by
      rw [Nat.pow_succ]
      grind
    rw [← e]
    exact h
theorem pow_small {S : Sal} (ok : S.Ok) {t : Nat} (ht : t ≤ 12) : S.m ^ t < 2 ^ 60 := by
  have h1 : S.m ^ t ≤ 24 ^ t := Nat.pow_le_pow_left ok.m2 t
  have h2 : 24 ^ t ≤ 24 ^ 12 := Nat.pow_le_pow_right (by decide) ht
  have h3 : 24 ^ 12 < 2 ^ 60 := by decide
  omega
theorem sc_small {S : Sal} (ok : S.Ok) {t : Nat} (ht : t ≤ 12) : Sm 100 ((S.m ^ t : Nat) : Int) := Sm.nat (Nat.lt_trans (pow_small ok ht) (by decide))
theorem R_small {S : Sal} (ok : S.Ok) {t : Nat} (ht : t ≤ 12) (l : Nat) : Sm 100 (R S t l : Int) := by
  apply Sm.nat
  have h1 := R_le ok t l
  have h2 := pow_small ok ht
  have h3 : 99 * t * S.m ^ t ≤ 99 * 12 * S.m ^ t := Nat.mul_le_mul_right _ (by omega)
  have h4 : (2 : Nat) ^ 60 * 1188 < 2 ^ 100 := by decide
  omega
def rowD (S : Sal) (t : Nat) : D := .tuple [.list (rowL S.n (R S t)), .int ((S.m ^ t : Nat) : Int)]
def rowsL (S : Sal) (t : Nat) : List D := (List.range (t + 1)).map (rowD S)
theorem rowsL_last (S : Sal) (t : Nat) : L2.atI (rowsL S t) (-1) = some (rowD S t) := by
  have e : rowsL S t = (List.range t).map (rowD S) ++ [rowD S t] := by
    unfold rowsL
    rw [List.range_succ, List.map_append]
    rfl
  rw [e]
  exact L2.atI_last _ _
theorem rowsL_succ (S : Sal) (t : Nat) : rowsL S t ++ [rowD S (t + 1)] = rowsL S (t + 1) := by
  unfold rowsL
  rw [List.range_succ (n := t + 1), List.map_append]
  rfl
theorem rowsL_at {S : Sal} {t T : Nat} (h : t ≤ T) : L2.atI (rowsL S T) (t : Int) = some (rowD S t) := by
  have hl : t < (rowsL S T).length := by unfold rowsL; simp; omega
  have e : ixN (rowsL S T).length (t : Int) = some t := by
    unfold ixN
    rw [if_pos (by omega), if_pos (by omega)]
    simp
  have h3 : t < T + 1 := by omega
  unfold L2.atI
  rw [e]
  simp [rowsL, List.getElem?_range h3]
theorem zeros (n : Nat) (r : Nat → Nat) (hr : ∀ l, r l = 0) : List.replicate (n + 1) (PyData.int 0) = rowL n r := by
  unfold rowL
  simp only [hr]
  rw [List.map_const', List.length_range]
  rfl
theorem sc_pos {S : Sal} (ok : S.Ok) (t : Nat) : S.m ^ t ≠ 0 := Nat.ne_of_gt (Nat.pow_pos ok.m1)
@[simp ↓] theorem asg_S {S : Sal} {ts : Tgs} {env : En} {Q : En → Prop} : asg (.tp ts) S.d env Q = asgs ts [.int S.n, .int S.t, .int S.m, .tuple (S.cs.map Cla.d)] env Q := by
  unfold Sal.d
  rw [asg]
@[simp ↓] theorem asg_C {c : Cla} {ts : Tgs} {env : En} {Q : En → Prop} : asg (.tp ts) c.d env Q = asgs ts [.int c.f, .int c.s, .int c.z] env Q := by
  unfold Cla.d
  rw [asg]
theorem cut_to {xs : List D} {k : Nat} : cutD xs none (some (k : Int)) = xs.take k := by
  unfold cutD
  rw [HT.sIx_none, HT.sIx_nat, List.drop_zero, Nat.sub_zero, List.take_eq_take_iff]
  omega
theorem cut_from {xs : List D} {k : Nat} : cutD xs (some (k : Int)) none = xs.drop k := by
  unfold cutD
  rw [HT.sIx_none, HT.sIx_nat]
  by_cases h : k ≤ xs.length
  · rw [Nat.min_eq_left h]
    exact List.take_of_length_le (by simp)
  · rw [Nat.min_eq_right (by omega), List.drop_length, List.drop_eq_nil_of_le (by omega)]
    simp
theorem at_map {α : Type} {xs : List α} {f : α → D} {k : Nat} (h : k < xs.length) : L2.atI (xs.map f) (k : Int) = some (f xs[k]) := by
  have e : ixN (xs.map f).length (k : Int) = some k := by
    unfold ixN
    rw [if_pos (by omega), if_pos (by simp; omega)]
    simp
  unfold L2.atI
  rw [e]
  simp [h]
end
end Sw

namespace SwLaw
open PySem PySem.Spec PyProof.Rows L2 Sw
/-! ### the text -/
/-! ### what the defs do -/
/-! ### is_whole: 0 thing -/
def w_is_whole : WS :=
  sRet (eAndV (eIsi .int (.r 0)) (eNotV (eIsi .bool (.r 0))))
def C_is_whole : Ct := ctOf w_is_whole 0
/-! ### _law_cell_at: 0 _law_script, 1 _law_k -/
def w_law_cell_at : WS :=
  sSeq (sIf (tOp2 gLt (.r 1) (.v (eLenV 0))) (sRet (eIdxV 0 (.r 1))) (sNext)) (
  sRet (eD (.int 0)))
def C_law_cell_at : Ct := ctOf w_law_cell_at 0
/-! ### _law_take: 0 _law_state_here, 1 _law_bound, 2 _law_stirred, 3 _law_found -/
def w_law_take : WS :=
  sSeq (sIf (tOp2 gGt (.v (eOp2 gIdx (.r 0) (.v (eD (.int 0))))) (.v (eD (.int 0)))) (sSeq (sSet 3 (eOp2 gMod (.v (eOp2 gIdx (.r 0) (.v (eD (.int 0))))) (.r 1))) (
  sSeq (sSetIx 0 (eD (.int 0)) (eOp2 gDiv (.v (eOp2 gIdx (.r 0) (.v (eD (.int 0))))) (.r 1))) (
  sRet (eMove 3)))) (sNext)) (
  sSeq (sSetIx 0 (eD (.int 1)) (eOp2 gMod (.v (eOp2 gAdd (.v (eOp2 gMul (.v (eOp2 gIdx (.r 0) (.v (eD (.int 1))))) (.v (eD (.int 48271))))) (.v (eD (.int 29))))) (.v (eD (.int 2147483647))))) (
  sSeq (sSet 2 (eOp2 gMod (.v (eOp2 gAdd (.v (eOp2 gAdd (.v (eOp2 gMul (.v (eOp2 gIdx (.r 0) (.v (eD (.int 1))))) (.v (eOp2 gIdx (.r 0) (.v (eD (.int 1))))))) (.v (eOp2 gMul (.v (eD (.int 39373))) (.v (eOp2 gIdx (.r 0) (.v (eD (.int 1))))))))) (.v (eD (.int 7))))) (.v (eD (.int 2147483629))))) (
  sSeq (sSet 2 (eOp2 gMod (.v (eOp2 gAdd (.v (eOp2 gMul (.r 2) (.r 2))) (.v (eOp2 gMul (.v (eD (.int 16807))) (.r 2))))) (.v (eD (.int 2147483587))))) (
  sRet (eOp2 gMod (.v (eOp2 gDiv (.r 2) (.v (eD (.int 8))))) (.r 1))))))
def C_law_take : Ct := ctOf w_law_take 2
/-! ### _law_marks: 0 _law_e, 1 _law_marks_here -/
def w_law_marks (c : Str) (b : XA) : WS :=
  sSeq (sSet 1 (eLst [eIsx 0 b (exB c "NoNumber"), eIsx 0 b (exB c "NoSale"), eIsx 0 b (exB c "NoNet"), eIsx 0 b (exB c "NoClass")])) (
  sSeq (sSet 1 (eOp2 gAdd (.r 1) (.v (eLst [eIsx 0 b (exB c "NoTime"), eIsx 0 b (exB c "NoLeft"), eIsx 0 b (exB c "NoSingle"), eIsx 0 b (exB c "NoPlan")])))) (
  sSeq (sSet 1 (eOp2 gAdd (.r 1) (.v (eLst [eIsx 0 b (exB c "NoRun"), eIsx 0 b (exB c "NoLimit"), eIsx 0 b (exB c "NoShow"), eIsx 0 b (exB c "NoAmends")])))) (
  sSeq (sSet 1 (eOp2 gAdd (.r 1) (.v (eLst [eIsx 0 b (exB c "NoPrices"), eIsx 0 b (exB c "NoLine"), eIsx 0 b (exB c "NoText"), eIsx 0 b (exB c "Over")])))) (
  sRet (eOp2 gAdd (.r 1) (.v (eLst [eIsx 0 b (exB c "Nothing")])))))))
def C_law_marks (c : Str) (b : XA) : Ct := ctOf (w_law_marks c b) 1
/-! ### _law_number: 0 _law_what, 1 _law_least, 2 _law_most -/
def w_law_number : WS :=
  sRet (eAndV (eIsi .int (.r 0)) (eAndV (eNotV (eIsi .bool (.r 0))) (eChain pLe pLe (.r 1) (.r 0) (.r 2))))
def C_law_number : Ct := ctOf w_law_number 0
/-! ### is_from: 0 thing, 1 least -/
def w_is_from : WS :=
  sRet (eAndV (eCall C_is_whole [.v (eVar 0)]) (eOp2 gGe (.r 0) (.r 1)))
def C_is_from : Ct := ctOf w_is_from 0
/-! ### is_among: 0 thing, 1 least, 2 most -/
def w_is_among : WS :=
  sRet (eAndV (eCall C_is_whole [.v (eVar 0)]) (eChain pLe pLe (.r 1) (.r 0) (.r 2)))
def C_is_among : Ct := ctOf w_is_among 0
/-! ### _law_state: 0 _law_script, 1 _law_k, 2 _law_cell -/
def w_law_state : WS :=
  sSeq (sSet 2 (eCall C_law_cell_at [.v (eVar 0), .v (eVar 1)])) (
  sRet (eLst [eOp2 gMax (.v (eD (.int 0))) (.v (eOp2 gSub (.r 2) (.v (eOp2 gPow (.v (eD (.int 10))) (.v (eD (.int 18))))))), eOp2 gMod (.r 2) (.v (eD (.int 2147483647)))]))
def C_law_state : Ct := ctOf w_law_state 1
/-! ### _law_word: 0 _law_e, 1 _law_marks_here, 2 _law_at, 3 _law_words_here, 4 _law_word_here -/
def w_law_word (c : Str) (b : XA) : WS :=
  sSeq (sSet 1 (eCallX (C_law_marks c b) 0 b)) (
  sSeq (sIf (tOrS (tOp2 gNe (.v (eMt2 "list" gCount (.r 1) (.v (eD (.bool true))))) (.v (eD (.int 1)))) (tNotS (tVal (eIsx 0 b true)))) (sRet (eTup [eD (.str "other")])) (sNext)) (
  sSeq (sSet 2 (eMt2 "list" gIxB (.r 1) (.v (eD (.bool true))))) (
  sSeq (sIf (tOp2 gNe (.v (eLst [eIsx 0 b (exB c "NoThing"), eIsx 0 b (exB c "NotNow")])) (.v (eLst [eOp2 gLt (.r 2) (.v (eD (.int 15))), eOp2 gGt (.r 2) (.v (eD (.int 14)))]))) (sRet (eTup [eD (.str "other")])) (sNext)) (
  sSeq (sSet 3 (eLst [eD (.str "number"), eD (.str "sale"), eD (.str "net"), eD (.str "class"), eD (.str "time"), eD (.str "left"), eD (.str "single"), eD (.str "plan"), eD (.str "run"), eD (.str "limit"), eD (.str "show"), eD (.str "amends")])) (
  sSeq (sSet 4 (eOp2 gIdx (.v (eOp2 gAdd (.r 3) (.v (eLst [eD (.str "prices"), eD (.str "line"), eD (.str "text"), eD (.str "over"), eD (.str "nothing")])))) (.r 2))) (
  sRet (eIf (tOp2 gEq (.r 4) (.v (eD (.str "text")))) (eTup [eVar 4, eNo]) (eTup [eVar 4]))))))))
def C_law_word (c : Str) (b : XA) : Ct := ctOf (w_law_word c b) 4
/-! ### _law_odd: 0 _law_state_here, 1 _law_some -/
def w_law_odd : WS :=
  sSeq (sSet 1 (eLst [eD .none, eD (.bool true), eD (.bool false), eNeg (.v (eD (.int 1))), eD (.int 13), eD (.int 25), eD (.int 100), eOp2 gPow (.v (eD (.int 10))) (.v (eD (.int 29))), eD (.str ""), eD (.str "1"), eD (.str "1/2"), eTup [], eLst [], eDct0, eTup [eD (.int 1)], eTup [eD (.int 0), eD (.int 1)], eLst [eD (.int 0), eD (.int 1)], eDct1 0 1])) (
  sSeq (sSet 1 (eOp2 gAdd (.r 1) (.v (eLst [eTup [eD (.int 1), eD (.int 2), eD (.int 3)], eTup [eTup [eD (.int 1), eD (.int 1), eD (.int 1)]], eTup [eD (.int 1), eTup [eD (.int 1), eD (.int 1)]], eD (.str "nothing"), eTup [eD (.bool true), eD (.int 1)], eTup [eNeg (.v (eD (.int 1))), eD (.int 2)]])))) (
  sRet (eOp2 gIdx (.r 1) (.v (eCall C_law_take [.r 0, .v (eD (.int 24))])))))
def C_law_odd : Ct := ctOf w_law_odd 1
/-! ### _law_sale: 0 _law_state_here, 1 _law_far, 2 _law_long, 3 _law_sizes, 4 _law_room, 5 _law_turn, 6 _law_seats, 7 _law_periods, 8 _law_cases, 9 _law_offers, 10 _law_share -/
def w_law_sale : WS :=
  sSeq (sPar [6, 7] [eCall C_law_take [.r 0, .v (eOp2 gAdd (.r 1) (.v (eD (.int 1))))], eOp2 gIdx (.v (eLst [eVar 2, eCall C_law_take [.r 0, .v (eOp2 gAdd (.r 2) (.v (eD (.int 1))))]])) (.v (eCall C_law_take [.r 0, .v (eD (.int 2))]))]) (
  sSeq (sPar [8, 9] [eOp2 gIdx (.v (eLst [eOp2 gAdd (.v (eD (.int 1))) (.v (eCall C_law_take [.r 0, .v (eD (.int 24))])), eD (.int 24), eOp2 gAdd (.v (eD (.int 4))) (.v (eCall C_law_take [.r 0, .v (eD (.int 5))]))])) (.v (eCall C_law_take [.r 0, .v (eD (.int 3))])), eLst []]) (
  sSeq (sSet 4 (eVar 8)) (
  sSeq (sFor [5, 10] (iRng1 (eOp2 gAdd (.v (eD (.int 1))) (.v (eCall C_law_take [.r 0, .v (eD (.int 4))])))) (.nm 5) (sIf (tOp2 gGt (.r 4) (.v (eD (.int 0)))) (sSeq (sSet 10 (eOp2 gIdx (.v (eLst [eD (.int 1), eOp2 gAdd (.v (eD (.int 1))) (.v (eCall C_law_take [.r 0, .v (eVar 4)])), eVar 4])) (.v (eCall C_law_take [.r 0, .v (eD (.int 3))])))) (
  sSeq (sExpr (eApp 9 (eTup [eOp2 gAdd (.v (eD (.int 1))) (.v (eCall C_law_take [.r 0, .v (eOp2 gIdx (.v (eLst [eD (.int 3), eD (.int 99)])) (.v (eCall C_law_take [.r 0, .v (eD (.int 2))])))])), eVar 10, eOp2 gAdd (.v (eD (.int 1))) (.v (eCall C_law_take [.r 0, .v (eVar 3)]))]))) (
  sSet 4 (eOp2 gSub (.r 4) (.r 10))))) (sNext))) (
  sRet (eTup [eVar 6, eVar 7, eVar 8, eOp1 gTupO (.r 9)])))))
def C_law_sale : Ct := ctOf w_law_sale 7
/-! ### _law_is_offer: 0 _law_what -/
def w_law_is_offer : WS :=
  sSeq (sIf (tOrS (tNotS (tVal (eIsi .tuple (.r 0)))) (tOp2 gNe (.v (eLen (.r 0))) (.v (eD (.int 3))))) (sRet (eD (.bool false))) (sNext)) (
  sRet (eAndV (eCall C_law_number [.v (eOp2 gIdx (.r 0) (.v (eD (.int 0)))), .v (eD (.int 1)), .v (eD (.int 99))]) (eAndV (eCall C_law_number [.v (eOp2 gIdx (.r 0) (.v (eD (.int 1)))), .v (eD (.int 1)), .v (eOp2 gPow (.v (eD (.int 10))) (.v (eD (.int 30))))]) (eCall C_law_number [.v (eOp2 gIdx (.r 0) (.v (eD (.int 2)))), .v (eD (.int 1)), .v (eD (.int 4))]))))
def C_law_is_offer : Ct := ctOf w_law_is_offer 0
/-! ### is_offer: 0 thing, 1 fare, 2 share, 3 size -/
def w_is_offer : WS :=
  sSeq (sIf (tOrS (tNotS (tVal (eIsi .tuple (.r 0)))) (tOp2 gNe (.v (eLen (.r 0))) (.v (eD (.int 3))))) (sRet (eD (.bool false))) (sNext)) (
  sSeq (sUnp (.tp (.cons (.nm 1) (.cons (.nm 2) (.cons (.nm 3) (.nil))))) (eVar 0)) (
  sRet (eAndV (eCall C_is_among [.v (eVar 1), .v (eD (.int 1)), .v (eD (.int 99))]) (eAndV (eCall C_is_from [.v (eVar 2), .v (eD (.int 1))]) (eCall C_is_among [.v (eVar 3), .v (eD (.int 1)), .v (eD (.int 4))])))))
def C_is_offer : Ct := ctOf w_is_offer 3
/-! ### _law_said: catches; its reading is eSaid -/
/-! ### _law_is_sale: 0 _law_what, 1 _law_offer -/
def w_law_is_sale : WS :=
  sSeq (sIf (tOrS (tNotS (tVal (eIsi .tuple (.r 0)))) (tOp2 gNe (.v (eLen (.r 0))) (.v (eD (.int 4))))) (sRet (eD (.bool false))) (sNext)) (
  sSeq (sIf (tOrS (tNotS (tVal (eCall C_law_number [.v (eOp2 gIdx (.r 0) (.v (eD (.int 0)))), .v (eD (.int 0)), .v (eD (.int 12))]))) (tOrS (tNotS (tVal (eCall C_law_number [.v (eOp2 gIdx (.r 0) (.v (eD (.int 1)))), .v (eD (.int 0)), .v (eD (.int 12))]))) (tNotS (tVal (eCall C_law_number [.v (eOp2 gIdx (.r 0) (.v (eD (.int 2)))), .v (eD (.int 1)), .v (eD (.int 24))]))))) (sRet (eD (.bool false))) (sNext)) (
  sSeq (sIf (tOrS (tNotS (tVal (eIsi .tuple (.v (eOp2 gIdx (.r 0) (.v (eD (.int 3)))))))) (tNotS (tChainS pLe pLe (.v (eD (.int 1))) (.v (eLen (.v (eOp2 gIdx (.r 0) (.v (eD (.int 3))))))) (.v (eD (.int 4)))))) (sRet (eD (.bool false))) (sNext)) (
  sRet (eAndV (eOp1 gAll (.v (eComp (iSeq (eOp2 gIdx (.r 0) (.v (eD (.int 3))))) (.nm 1) none (eCall C_law_is_offer [.v (eVar 1)]) [1]))) (eOp2 gLe (.v (eOp1 gSum (.v (eComp (iSeq (eOp2 gIdx (.r 0) (.v (eD (.int 3))))) (.nm 1) none (eOp2 gIdx (.r 1) (.v (eD (.int 1)))) [1])))) (.v (eOp2 gIdx (.r 0) (.v (eD (.int 2))))))))))
def C_law_is_sale : Ct := ctOf w_law_is_sale 1
/-! ### is_sale: 0 thing, 1 seats, 2 periods, 3 cases, 4 offers, 5 offer -/
def w_is_sale : WS :=
  sSeq (sIf (tOrS (tNotS (tVal (eIsi .tuple (.r 0)))) (tOp2 gNe (.v (eLen (.r 0))) (.v (eD (.int 4))))) (sRet (eD (.bool false))) (sNext)) (
  sSeq (sUnp (.tp (.cons (.nm 1) (.cons (.nm 2) (.cons (.nm 3) (.cons (.nm 4) (.nil)))))) (eVar 0)) (
  sSeq (sIf (tOrS (tNotS (tVal (eCall C_is_among [.v (eVar 1), .v (eD (.int 0)), .v (eD (.int 12))]))) (tNotS (tVal (eCall C_is_among [.v (eVar 2), .v (eD (.int 0)), .v (eD (.int 12))])))) (sRet (eD (.bool false))) (sNext)) (
  sSeq (sIf (tOrS (tNotS (tVal (eCall C_is_among [.v (eVar 3), .v (eD (.int 1)), .v (eD (.int 24))]))) (tOrS (tNotS (tVal (eIsi .tuple (.r 4)))) (tNotS (tChainS pLe pLe (.v (eD (.int 1))) (.v (eLen (.r 4))) (.v (eD (.int 4))))))) (sRet (eD (.bool false))) (sNext)) (
  sRet (eAndV (eOp1 gAll (.v (eComp (iSeq (eVar 4)) (.nm 5) none (eCall C_is_offer [.v (eVar 5)]) [5]))) (eOp2 gLe (.v (eOp1 gSum (.v (eComp (iSeq (eVar 4)) (.nm 5) none (eOp2 gIdx (.r 5) (.v (eD (.int 1)))) [5])))) (.r 3)))))))
def C_is_sale : Ct := ctOf w_is_sale 5
/-! ### need_sale: 0 thing -/
def w_need_sale : WS :=
  sIf (tNotS (tVal (eCall C_is_sale [.v (eVar 0)]))) (sRaise ("NoSale", none)) (sNext)
def C_need_sale : Ct := ctOf w_need_sale 0
/-! ### worth: 0 sale, 1 time, 2 left -/
def w_worth : WS :=
  sSeq (sExpr (eCall C_need_sale [.v (eVar 0)])) (
  sNo)
def C_worth : Ct := ctOf w_worth 0
/-! ### worths: 0 sale -/
def w_worths : WS :=
  sSeq (sExpr (eCall C_need_sale [.v (eVar 0)])) (
  sNo)
def C_worths : Ct := ctOf w_worths 0
/-! ### opened: 0 sale, 1 number, 2 time -/
def w_opened : WS :=
  sSeq (sExpr (eCall C_need_sale [.v (eVar 0)])) (
  sNo)
def C_opened : Ct := ctOf w_opened 0
/-! ### seat_worth: 0 sale, 1 time, 2 left -/
def w_seat_worth : WS :=
  sSeq (sExpr (eCall C_need_sale [.v (eVar 0)])) (
  sNo)
def C_seat_worth : Ct := ctOf w_seat_worth 0
/-! ### mark: 0 sale, 1 number, 2 time -/
def w_mark : WS :=
  sSeq (sExpr (eCall C_need_sale [.v (eVar 0)])) (
  sNo)
def C_mark : Ct := ctOf w_mark 0
/-! ### amends_mean: 0 sale, 1 sold, 2 show, 3 amends -/
def w_amends_mean : WS :=
  sSeq (sExpr (eCall C_need_sale [.v (eVar 0)])) (
  sNo)
def C_amends_mean : Ct := ctOf w_amends_mean 0
/-! ### worth_oversold: 0 sale, 1 limit, 2 show, 3 amends -/
def w_worth_oversold : WS :=
  sSeq (sExpr (eCall C_need_sale [.v (eVar 0)])) (
  sNo)
def C_worth_oversold : Ct := ctOf w_worth_oversold 0
/-! ### least_limit: 0 sale, 1 show, 2 amends -/
def w_least_limit : WS :=
  sSeq (sExpr (eCall C_need_sale [.v (eVar 0)])) (
  sNo)
def C_least_limit : Ct := ctOf w_least_limit 0
/-! ### is_plan: 0 sale, 1 thing -/
def w_is_plan : WS :=
  sSeq (sExpr (eCall C_need_sale [.v (eVar 0)])) (
  sNo)
def C_is_plan : Ct := ctOf w_is_plan 0
/-! ### plan_worth: 0 sale, 1 plan -/
def w_plan_worth : WS :=
  sSeq (sExpr (eCall C_need_sale [.v (eVar 0)])) (
  sNo)
def C_plan_worth : Ct := ctOf w_plan_worth 0
/-! ### best_plan: 0 sale -/
def w_best_plan : WS :=
  sSeq (sExpr (eCall C_need_sale [.v (eVar 0)])) (
  sNo)
def C_best_plan : Ct := ctOf w_best_plan 0
/-! ### is_run: 0 sale, 1 thing -/
def w_is_run : WS :=
  sSeq (sExpr (eCall C_need_sale [.v (eVar 0)])) (
  sNo)
def C_is_run : Ct := ctOf w_is_run 0
/-! ### run_cases: 0 sale, 1 run -/
def w_run_cases : WS :=
  sSeq (sExpr (eCall C_need_sale [.v (eVar 0)])) (
  sNo)
def C_run_cases : Ct := ctOf w_run_cases 0
/-! ### money: 0 sale, 1 plan, 2 run -/
def w_money : WS :=
  sSeq (sExpr (eCall C_need_sale [.v (eVar 0)])) (
  sNo)
def C_money : Ct := ctOf w_money 0
/-! ### shortfall: 0 sale, 1 plan, 2 other -/
def w_shortfall : WS :=
  sSeq (sExpr (eCall C_need_sale [.v (eVar 0)])) (
  sNo)
def C_shortfall : Ct := ctOf w_shortfall 0
/-! ### over_bound: 0 sale, 1 thing -/
def w_over_bound : WS :=
  sSeq (sExpr (eCall C_need_sale [.v (eVar 0)])) (
  sNo)
def C_over_bound : Ct := ctOf w_over_bound 0
/-! ### under_bound: 0 sale, 1 thing -/
def w_under_bound : WS :=
  sSeq (sExpr (eCall C_need_sale [.v (eVar 0)])) (
  sNo)
def C_under_bound : Ct := ctOf w_under_bound 0
/-! ### sale_text: 0 sale -/
def w_sale_text : WS :=
  sSeq (sExpr (eCall C_need_sale [.v (eVar 0)])) (
  sNo)
def C_sale_text : Ct := ctOf w_sale_text 0
/-! ### Counter.__init__: 0 self, 1 sale, 2 self.own_came, 3 self.stood -/
def w_Counter___init__ : WS :=
  sSeq (sExpr (eCall C_need_sale [.v (eVar 1)])) (
  sNo)
def C_Counter___init__ : Ct := ctN w_Counter___init__ 2 [2, 3]
/-! ### _law_words: 0 _law_bad, 1 _law_found, 2 _law_call -/
def w_law_words : WS :=
  sSeq (sSet 1 (eCompG ["worths", "best_plan", "sale_text"] 2 (eSaid false true rsL C_law_word (eCallG 2 [("worths", C_worths), ("best_plan", C_best_plan), ("sale_text", C_sale_text)] [.v (eVar 0)])) [2])) (
  sSeq (sExpr (eApp 1 (eSaidO [] false true rsL C_law_word (eNr (nMake "Counter" C_Counter___init__ [.v (eVar 0)]))))) (
  sSeq (sForG ["over_bound", "under_bound", "is_plan", "plan_worth", "is_run", "run_cases"] 2 [2] (sExpr (eApp 1 (eSaid false true rsL C_law_word (eCallG 2 [("over_bound", C_over_bound), ("under_bound", C_under_bound), ("is_plan", C_is_plan), ("plan_worth", C_plan_worth), ("is_run", C_is_run), ("run_cases", C_run_cases)] [.v (eVar 0), .v (eD .none)]))))) (
  sSeq (sForG ["worth", "opened", "seat_worth", "mark", "money", "shortfall"] 2 [2] (sExpr (eApp 1 (eSaid false true rsL C_law_word (eCallG 2 [("worth", C_worth), ("opened", C_opened), ("seat_worth", C_seat_worth), ("mark", C_mark), ("money", C_money), ("shortfall", C_shortfall)] [.v (eVar 0), .v (eD .none), .v (eD .none)]))))) (
  sSeq (sForG ["amends_mean", "worth_oversold"] 2 [2] (sExpr (eApp 1 (eSaid false true rsL C_law_word (eCallGK 2 [("amends_mean", C_amends_mean), ("worth_oversold", C_worth_oversold)] [0, 1, 2, 3] ([eVar 0, eD .none] ++ [eD .none, eD .none])))))) (
  sSeq (sExpr (eApp 1 (eSaid false true rsL C_law_word (eCallK [0, 1, 2] [] C_least_limit ([eVar 0] ++ [eD .none, eD .none]))))) (
  sRet (eMove 1)))))))
def C_law_words : Ct := ctOf w_law_words 2
/-! ### _law_spoilt: 0 _law_state_here, 1 _law_what, 2 _law_at, 3 _law_how -/
def w_law_spoilt (C_law_spoilt : Ct) : WS :=
  sSeq (sIf (tAndS (tVal (eIsi .int (.r 1))) (tAndS (tNotS (tVal (eIsi .bool (.r 1)))) (tOp2 gGt (.v (eCall C_law_take [.r 0, .v (eD (.int 3))])) (.v (eD (.int 0)))))) (sRet (eOp2 gIdx (.v (eLst [eOp2 gAdd (.r 1) (.v (eD (.int 1))), eOp2 gSub (.r 1) (.v (eD (.int 1))), eOp2 gSub (.v (eD (.int 0))) (.r 1), eOp2 gAdd (.r 1) (.v (eD (.int 12))), eOp2 gPow (.v (eD (.int 10))) (.v (eD (.int 29)))])) (.v (eCall C_law_take [.r 0, .v (eD (.int 5))])))) (sNext)) (
  sSeq (sIf (tOrS (tNotS (tVal (eIsi .tuple (.r 1)))) (tOp2 gEq (.r 1) (.v (eTup [])))) (sRet (eCall C_law_odd [.r 0])) (sNext)) (
  sSeq (sPar [2, 3] [eCall C_law_take [.r 0, .v (eLen (.r 1))], eCall C_law_take [.r 0, .v (eD (.int 8))]]) (
  sSeq (sIf (tOp2 gGt (.r 3) (.v (eD (.int 3)))) (sRet (eOp2 gAdd (.v (eOp2 gAdd (.v (eSl (.r 1) none (some (eVar 2)))) (.v (eTup [eCall C_law_spoilt [.r 0, .v (eOp2 gIdx (.r 1) (.r 2))]])))) (.v (eSl (.r 1) (some (eOp2 gAdd (.r 2) (.v (eD (.int 1))))) none)))) (sNext)) (
  sSeq (sIf (tOp2 gEq (.r 3) (.v (eD (.int 0)))) (sRet (eOp2 gIdx (.v (eLst [eOp1 gLstO (.r 1), eOp1 gRev (.r 1), eTup [eVar 1]])) (.v (eCall C_law_take [.r 0, .v (eD (.int 3))])))) (sNext)) (
  sRet (eOp2 gAdd (.v (eOp2 gAdd (.v (eSl (.r 1) none (some (eVar 2)))) (.v (eOp2 gIdx (.v (eLst [eTup [], eTup [eCall C_law_odd [.r 0]], eTup [eOp2 gIdx (.r 1) (.r 2), eOp2 gIdx (.r 1) (.r 2)]])) (.v (eOp2 gSub (.r 3) (.v (eD (.int 1))))))))) (.v (eSl (.r 1) (some (eOp2 gAdd (.r 2) (.v (eD (.int 1))))) none))))))))
def C_law_spoilt : Nat → Ct
  | 0 => cNo
  | f + 1 => ctOf (w_law_spoilt (C_law_spoilt f)) 2
/-! ### law: 0 _law_script, 1 _law_k, 2 _law_state_here, 3 _law_deal, 4 _law_things, 5 _law_what, 6 _law_kept, 7 _law_turn -/
def w_law : WS :=
  sSeq (sFor [1, 2, 3, 4, 5, 6] (iRng1 (eOp2 gMax (.v (eD (.int 1))) (.v (eOp2 gMin (.v (eLenV 0)) (.v (eD (.int 4))))))) (.nm 1) (sSeq (sSet 2 (eCall C_law_state [.v (eVar 0), .v (eVar 1)])) (
  sSeq (sSet 3 (eCall C_law_sale [.r 2, .v (eD (.int 12)), .v (eD (.int 12)), .v (eD (.int 4))])) (
  sSeq (sFz 4 (sSet 4 (eLst [eD .none, eOp1 gLstO (.r 3), eSl (.r 3) none (some (eD (.int 3))), eOp2 gAdd (.r 3) (.v (eTup [eD (.int 1)])), eOp2 gAdd (.v (eTup [eD (.int 13)])) (.v (eSl (.r 3) (some (eD (.int 1))) none)), eTup [], eD (.str "1 1 1 1/1/1"), eOp2 gAdd (.v (eTup [eD (.bool true)])) (.v (eSl (.r 3) (some (eD (.int 1))) none))]))) (
  sSeq (sFz 4 (sSet 4 (eOp2 gAdd (.r 4) (.v (eLst [eOp2 gAdd (.v (eSl (.r 3) none (some (eD (.int 3))))) (.v (eTup [eTup []])), eOp2 gAdd (.v (eSl (.r 3) none (some (eD (.int 3))))) (.v (eTup [eOp2 gMul (.v (eOp2 gIdx (.r 3) (.v (eD (.int 3))))) (.v (eD (.int 5)))])), eCall C_law_odd [.r 2]]))))) (
  sFor [5, 6] (iSeq (eOp2 gAdd (.r 4) (.v (eComp (iRng1 (eD (.int 10))) (.nm 7) none (eCall (C_law_spoilt 12) [.r 2, .v (eVar 3)]) [7])))) (.nm 5) (sSeq (sSet 6 (eOp1 gReprN (.r 5))) (
  sIf (tAndS (tNotS (tVal (eCall C_law_is_sale [.v (eVar 5)]))) (tOrS (tOp2 gNe (.v (eCall C_law_words [.v (eVar 5)])) (.v (eOp2 gMul (.v (eLst [eTup [eD (.str "sale")]])) (.v (eD (.int 19)))))) (tOp2 gNe (.v (eOp1 gReprN (.r 5))) (.r 6)))) (sRet (eD (.bool false))) (sNext))))))))) (
  sRet (eD (.bool true)))
def C_law : Ct := ctOf w_law 7
end SwLaw

namespace SwLaw
open PySem PySem.Spec PyProof.Rows L2 Sw
section
variable {P : Sw.Cl → List OD → Prop} {Y : XP}
@[simp] theorem sp_whole_i {a : Int} : C_is_whole [.fz (.int a)] P Y = P (.fz (.bool true)) [] := by simp [C_is_whole, w_is_whole]
end
end SwLaw

namespace Sw
open PySem PySem.Spec PyProof.Rows L2
section
variable {P : Sw.Cl → List OD → Prop} {Y : XP}
/-- is it a whole number from l to m, asked of a thing of any kind -/
def amongD (l m : Int) : D → Bool
  | .int i => decide (l ≤ i) && decide (i ≤ m)
  | _ => false
def wholeD : D → Bool
  | .int _ => true
  | _ => false
def fromD (l : Int) : D → Bool
  | .int i => decide (l ≤ i)
  | _ => false
end
end Sw

namespace SwLaw
open PySem PySem.Spec PyProof.Rows L2 Sw
section
variable {P : Sw.Cl → List OD → Prop} {Y : XP}
theorem sp_whole_D {d : D} (h : P (.fz (.bool (wholeD d))) []) : C_is_whole [.fz d] P Y := by
  cases d <;> simpa [C_is_whole, w_is_whole, wholeD, isD] using h
end
end SwLaw

namespace SwLaw
open PySem PySem.Spec PyProof.Rows L2 Sw
section
variable {P : Sw.Cl → List OD → Prop} {Y : XP}
theorem sp_among_D {d : D} {l m : Int} (h : P (.fz (.bool (amongD l m d))) []) : C_is_among [.fz d, .fz (.int l), .fz (.int m)] P Y := by
  simp only [C_is_among, w_is_among]
  cases d with
  | int i =>
    try simp
    by_cases h1 : l ≤ i
    · by_cases h2 : i ≤ m
      · simp [h1, h2]
        simpa [amongD, h1, h2] using h
      · simp [h1, h2]
        simpa [amongD, h1, h2] using h
    · simp [h1]
      simpa [amongD, h1] using h
  | _ =>
    try simp
    apply sp_whole_D
    simp [wholeD]
    simpa [amongD] using h
end
end SwLaw

namespace SwLaw
open PySem PySem.Spec PyProof.Rows L2 Sw
section
variable {P : Sw.Cl → List OD → Prop} {Y : XP}
theorem sp_from_D {d : D} {l : Int} (h : P (.fz (.bool (fromD l d))) []) : C_is_from [.fz d, .fz (.int l)] P Y := by
  simp only [C_is_from, w_is_from]
  cases d with
  | int i =>
    try simp
    simpa [fromD] using h
  | _ =>
    try simp
    apply sp_whole_D
    simp [wholeD]
    simpa [fromD] using h
end
end SwLaw

namespace SwLaw
open PySem PySem.Spec PyProof.Rows L2 Sw
section
variable {P : Sw.Cl → List OD → Prop} {Y : XP}
def shareD : D → Int
  | .tuple [_, .int s, _] => s
  | _ => 0
def isOfferD : D → Bool
  | .tuple [f, s, z] => amongD 1 99 f && (fromD 1 s && amongD 1 4 z)
  | _ => false
theorem offerD_not {d : D} (ht : ¬ ∃ f s z, d = .tuple [f, s, z]) : isOfferD d = false := by
  cases d with
  | tuple xs =>
    match xs with
    | [f, s, z] => exact absurd ⟨f, s, z, rfl⟩ ht
    | [] => rfl
    | [_] => rfl
    | [_, _] => rfl
    | _ :: _ :: _ :: _ :: _ => rfl
  | _ => rfl
theorem len3 {xs : List D} (h : (xs.length : Int) = 3) : ∃ f s z, xs = [f, s, z] := by
  match xs, h with
  | [f, s, z], _ => exact ⟨f, s, z, rfl⟩
  | [], h => simp at h
  | [_], h => simp at h
  | [_, _], h => simp at h
  | _ :: _ :: _ :: _ :: _, h => simp at h; omega
theorem sp_offer_D {d : D} (h : P (.fz (.bool (isOfferD d))) []) : C_is_offer [.fz d] P Y := by
  apply ct_in
  apply seq_hide; intro N_a h_a
  by_cases ht : ∃ f s z, d = .tuple [f, s, z]
  · obtain ⟨f, s, z, rfl⟩ := ht
    try simp
    apply h_a
    apply seq_hide; intro N_b h_b
    try simp
    apply h_b
    try simp
    apply sp_among_D
    have h : P (.fz (.bool (amongD 1 99 f && (fromD 1 s && amongD 1 4 z)))) [] := h
    cases hf : amongD 1 99 f with
    | false =>
      rw [hf] at h
      try simp
      exact h
    | true =>
      rw [hf, Bool.true_and] at h
      try simp
      apply sp_from_D
      cases hs : fromD 1 s with
      | false =>
        rw [hs] at h
        try simp
        exact h
      | true =>
        rw [hs, Bool.true_and] at h
        try simp
        apply sp_among_D
        exact h
  · rw [offerD_not ht] at h
    cases d with
    | tuple xs =>
      have hl : ¬ (xs.length : Int) = 3 := fun hz => by
        obtain ⟨f, s, z, rfl⟩ := len3 hz
        exact ht ⟨f, s, z, rfl⟩
      simp [hl]
      exact h
    | _ =>
      try simp
      exact h
end
end SwLaw

namespace SwLaw
open PySem PySem.Spec PyProof.Rows L2 Sw
section
variable {P : Sw.Cl → List OD → Prop} {Y : XP}
def intD : D → Int
  | .int i => i
  | _ => 0
def isSaleD : D → Bool
  | .tuple [a, b, c, .tuple os] => amongD 0 12 a && (amongD 0 12 b && (amongD 1 24 c && (decide (1 ≤ (os.length : Int) ∧ (os.length : Int) ≤ 4) && (os.all isOfferD && decide ((os.map shareD).sum ≤ intD c)))))
  | _ => false
theorem len4 {xs : List D} (h : (xs.length : Int) = 4) : ∃ a b c o, xs = [a, b, c, o] := by
  match xs, h with
  | [a, b, c, o], _ => exact ⟨a, b, c, o, rfl⟩
  | [], h => simp at h
  | [_], h => simp at h
  | [_, _], h => simp at h
  | [_, _, _], h => simp at h
  | _ :: _ :: _ :: _ :: _ :: _, h => simp at h; omega
theorem saleD_not {d : D} (ht : ¬ ∃ a b c os, d = .tuple [a, b, c, .tuple os]) : isSaleD d = false := by
  unfold isSaleD
  split
  · rename_i a b c os
    exact absurd ⟨a, b, c, os, rfl⟩ ht
  · rfl
theorem offerD_share {d : D} (h : isOfferD d = true) : ∃ f s z, d = .tuple [f, .int s, z] ∧ shareD d = s := by
  unfold isOfferD at h
  split at h
  · rename_i f s z
    simp only [Bool.and_eq_true] at h
    cases s with
    | int s => exact ⟨f, s, z, rfl, rfl⟩
    | _ => exact absurd h.2.1 (by simp [fromD])
  · cases h
theorem sp_is_sale_D {d : D} (h : P (.fz (.bool (isSaleD d))) []) : C_is_sale [.fz d] P Y := by
  apply ct_in
  apply seq_hide; intro N_a h_a
  by_cases ht : ∃ a b c o, d = .tuple [a, b, c, o]
  · obtain ⟨a, b, c, o, rfl⟩ := ht
    try simp
    apply h_a
    apply seq_hide; intro N_b h_b
    try simp
    apply h_b
    apply seq_hide; intro N_c h_c
    try simp
    by_cases ho : ∃ os, o = .tuple os
    case neg =>
      have e : isSaleD (.tuple [a, b, c, o]) = false := saleD_not fun ⟨_, _, _, os, z⟩ => ho ⟨os, by simp at z; exact z.2.2.2⟩
      rw [e] at h
      apply sp_among_D
      cases amongD 0 12 a with
      | false =>
        try simp
        exact h
      | true =>
        try simp
        apply sp_among_D
        cases amongD 0 12 b with
        | false =>
          try simp
          exact h
        | true =>
          try simp
          apply h_c
          apply seq_hide; intro N_e h_e
          try simp
          apply sp_among_D
          cases amongD 1 24 c with
          | false =>
            try simp
            exact h
          | true =>
            cases o with
            | tuple os => exact absurd ⟨os, rfl⟩ ho
            | _ =>
              try simp
              exact h
    obtain ⟨os, rfl⟩ := ho
    have e : isSaleD (.tuple [a, b, c, .tuple os]) = (amongD 0 12 a && (amongD 0 12 b && (amongD 1 24 c && (decide (1 ≤ (os.length : Int) ∧ (os.length : Int) ≤ 4) && (os.all isOfferD && decide ((os.map shareD).sum ≤ intD c)))))) := rfl
    rw [e] at h
    clear e
    apply sp_among_D
    cases ha : amongD 0 12 a with
    | false =>
      rw [ha] at h
      try simp
      exact h
    | true =>
      rw [ha, Bool.true_and] at h
      try simp
      apply sp_among_D
      cases hb : amongD 0 12 b with
      | false =>
        rw [hb] at h
        try simp
        exact h
      | true =>
        rw [hb, Bool.true_and] at h
        try simp
        apply h_c
        apply seq_hide; intro N_e h_e
        try simp
        apply sp_among_D
        cases hc : amongD 1 24 c with
        | false =>
          rw [hc] at h
          try simp
          exact h
        | true =>
          rw [hc, Bool.true_and] at h
          try simp
          by_cases hl : 1 ≤ (os.length : Int) ∧ (os.length : Int) ≤ 4
          · rw [decide_eq_true hl, Bool.true_and] at h
            have h4 : ¬ 4 < (os.length : Int) := by omega
            simp [hl.1, h4]
            apply h_e
            try simp
            have em : os = os.map id := by simp
            have hz : os.length ≤ sizeLine := by rw [sizeLine_eq]; omega
            conv => arg 6; rw [em]
            refine compL_map (h := fun d => .bool (isOfferD d)) hz (fun x hx N hN => ?_) ?_
            · simp only [asg_nm]; refine ⟨by simp, ?_⟩
              try simp
              apply sp_offer_D
              try simp
              exact hN
            · refine ⟨os.map isOfferD, by simp, ?_⟩
              have ea : ((os.map isOfferD).all id) = os.all isOfferD := by simp
              rw [ea]
              cases hall : os.all isOfferD with
              | false =>
                rw [hall] at h
                try simp
                exact h
              | true =>
                rw [hall, Bool.true_and] at h
                try simp
                conv => arg 6; rw [em]
                have hsh : ∀ x ∈ os, isOfferD x = true := List.all_eq_true.mp hall
                refine compL_map (h := fun d => .int (shareD d)) hz (fun x hx N hN => ?_) ?_
                · obtain ⟨f, s, z, rfl, e1⟩ := offerD_share (hsh x hx)
                  rw [e1] at hN
                  simp only [asg_nm]; refine ⟨by simp, ?_⟩
                  try simp
                  exact hN
                · obtain ⟨m, rfl⟩ : ∃ m, c = .int m := by
                    cases c with
                    | int m => exact ⟨m, rfl⟩
                    | _ => cases hc
                  refine ⟨os.map shareD, by simp, ?_⟩
                  try simp
                  exact h
          · rw [decide_eq_false hl] at h
            by_cases h1 : 1 ≤ (os.length : Int)
            · have h4 : 4 < (os.length : Int) := by omega
              simp [h1, h4]
              exact h
            · simp [h1]
              exact h
  · have e : isSaleD d = false := saleD_not fun ⟨a, b, c, os, z⟩ => ht ⟨a, b, c, _, z⟩
    rw [e] at h
    cases d with
    | tuple xs =>
      have hl : ¬ (xs.length : Int) = 4 := fun hz => by
        obtain ⟨a, b, c, o, rfl⟩ := len4 hz
        exact ht ⟨a, b, c, o, rfl⟩
      simp [hl]
      exact h
    | _ =>
      try simp
      exact h
end
end SwLaw

namespace SwLaw
open PySem PySem.Spec PyProof.Rows L2 Sw
section
variable {P : Sw.Cl → List OD → Prop} {Y : XP}
theorem sp_need_sale_D {d : D} (h1 : isSaleD d = true → P (.fz .none) []) (h2 : isSaleD d = false → Y ("NoSale", none)) : C_need_sale [.fz d] P Y := by
  simp [C_need_sale, w_need_sale]
  apply sp_is_sale_D
  cases hd : isSaleD d with
  | true =>
    try simp
    exact h1 hd
  | false =>
    try simp
    exact h2 hd
end
end SwLaw

namespace SwLaw
open PySem PySem.Spec PyProof.Rows L2 Sw
section
variable {P : Sw.Cl → List OD → Prop} {Y : XP}
/-- the word of a refusal -/
def wordS (c : Str) : Str := ((([("NoNumber", "number"), ("NoSale", "sale"), ("NoNet", "net"), ("NoClass", "class"), ("NoTime", "time"), ("NoLeft", "left"), ("NoSingle", "single"), ("NoPlan", "plan"), ("NoRun", "run"), ("NoLimit", "limit"), ("NoShow", "show"), ("NoAmends", "amends"), ("NoPrices", "prices"), ("NoLine", "line"), ("NoText", "text"), ("Over", "over"), ("Nothing", "nothing")] : List (Str × Str)).lookup c).getD "other")
theorem sp_marks {c : Str} {a : XA} (h : P (.ow (.lst ([exB c "NoNumber", exB c "NoSale", exB c "NoNet", exB c "NoClass", exB c "NoTime", exB c "NoLeft", exB c "NoSingle", exB c "NoPlan", exB c "NoRun", exB c "NoLimit", exB c "NoShow", exB c "NoAmends", exB c "NoPrices", exB c "NoLine", exB c "NoText", exB c "Over", exB c "Nothing"].map PyData.bool))) []) : C_law_marks c a [.xn a] P Y := by
  apply ct_in
  apply seq_hide; intro N_a h_a
  try simp
  apply h_a
  apply seq_hide; intro N_b h_b
  try simp
  apply h_b
  apply seq_hide; intro N_c h_c
  try simp
  apply h_c
  apply seq_hide; intro N_d h_d
  try simp
  apply h_d
  try simp
  simp at h
  exact h
theorem word_k {c : Str} {a : XA} {bs : List Bool} {w : Str} (hbs : [exB c "NoNumber", exB c "NoSale", exB c "NoNet", exB c "NoClass", exB c "NoTime", exB c "NoLeft", exB c "NoSingle", exB c "NoPlan", exB c "NoRun", exB c "NoLimit", exB c "NoShow", exB c "NoAmends", exB c "NoPrices", exB c "NoLine", exB c "NoText", exB c "Over", exB c "Nothing"] = bs) (e1 : exB c "NoThing" = true) (e2 : exB c "NotNow" = false)
    (hn : (bs.map PyData.bool).countP (fun y => PyData.eqv y (.bool true)) = 1) (hlt : bs.idxOf true < 15) (hmem : true ∈ bs) (hbd : boolsD (bs.map PyData.bool) = some bs) (hpl : PyData.plainAll (bs.map PyData.bool) = true) (hdp : PyData.depthAll (bs.map PyData.bool) = 0) (hw : L2.atI ([.str "number", .str "sale", .str "net", .str "class", .str "time", .str "left", .str "single", .str "plan", .str "run", .str "limit", .str "show", .str "amends", .str "prices", .str "line", .str "text", .str "over", .str "nothing"] : List D) ((bs.idxOf true : Nat) : Int) = some (.str w)) (hnt : PyData.eqv (.str w) (.str "text") = false)
    (h : P (.fz (.tuple [.str w])) []) : C_law_word c a [.xn a] P Y := by
  apply ct_in
  apply seq_hide; intro N_a h_a
  try simp
  refine ⟨rfl, ?_⟩
  apply sp_marks
  rw [hbs]
  try simp
  apply h_a
  apply seq_hide; intro N_b h_b
  simp [hpl, hdp, hn]
  apply h_b
  apply seq_hide; intro N_d h_d
  try simp
  refine ⟨bs, hbd, hmem, ?_⟩
  generalize bs.idxOf true = k at *
  have k15 : (k : Int) < 15 := by omega
  have k14 : ¬ 14 < (k : Int) := by omega
  apply h_d
  apply seq_hide; intro N_e h_e
  simp [e1, e2, k15, k14]
  apply h_e
  apply seq_hide; intro N_f h_f
  try simp
  apply h_f
  apply seq_hide; intro N_g h_g
  simp [hw]
  apply h_g
  try simp
  simp at hnt
  simp [hnt]
  exact h
end
end SwLaw

namespace SwLaw
open PySem PySem.Spec PyProof.Rows L2 Sw
section
variable {P : Sw.Cl → List OD → Prop} {Y : XP}
/-- of these the law asks -/
theorem sp_word {c : Str} {a : XA} (hc : c ∈ rsL) (h : P (.fz (.tuple [.str (wordS c)])) []) : C_law_word c a [.xn a] P Y := by
  simp only [rsL, List.mem_cons, List.not_mem_nil, or_false] at hc
  repeat
    rcases hc with hc' | hc
    · subst hc'
      exact word_k rfl (by decide +kernel) (by decide +kernel) (by decide +kernel) (by decide +kernel) (by decide +kernel) rfl (by decide +kernel) (by decide +kernel) (by rfl) (by decide +kernel) h
  subst hc
  exact word_k rfl (by decide +kernel) (by decide +kernel) (by decide +kernel) (by decide +kernel) (by decide +kernel) rfl (by decide +kernel) (by decide +kernel) (by rfl) (by decide +kernel) h
end
end SwLaw

namespace SwLaw
open PySem PySem.Spec PyProof.Rows L2 Sw
section
variable {P : Sw.Cl → List OD → Prop} {Y : XP}
@[simp ↓] theorem compG_n {k : Nat} {el : WE} {vs : List Nat} {g : List D → En → Prop} {acc : List D} {e : En} : compG k el vs g [] acc e = g acc e := rfl
@[simp ↓] theorem compG_c {k : Nat} {el : WE} {vs : List Nat} {g : List D → En → Prop} {acc : List D} {e : En} {n : Str} {ns : List Str} : compG k el vs g (n :: ns) acc e = (canSet e k ∧ el (e.set k (some (glX n))) (fun c e4 => c.isSc = false ∧ acc.length < sizeLine ∧ compG k el vs g ns (acc ++ [c.toD]) (wipeE e4 vs)) (fun _ => False)) := rfl
@[simp ↓] theorem forG_n {k : Nat} {b : WS} {vs : List Nat} {fin : En → Prop} {e : En} : forG k vs b fin [] e = fin e := rfl
@[simp ↓] theorem forG_c {k : Nat} {b : WS} {vs : List Nat} {fin : En → Prop} {e : En} {n : Str} {ns : List Str} : forG k vs b fin (n :: ns) e = (canSet e k ∧ b (e.set k (some (glX n))) ⟨fun e3 => nioE e3 vs ∧ forG k vs b fin ns (dropE e3 vs), fun _ _ => False, fun _ => False, fun e3 => nioE e3 vs ∧ forG k vs b fin ns (dropE e3 vs), fun _ => False⟩) := rfl
/-- a def that asks for a sale ahead of all else -/
theorem ref_gen {m : Nat} {d : D} {cs : List Cl} (hd : isSaleD d = false) (h : Y ("NoSale", none)) : ctOf (sSeq (sExpr (eCall C_need_sale [.v (eVar 0)])) sNo) m (.fz d :: cs) P Y := by
  apply ct_in
  apply seq_hide; intro N_a h_a
  try simp
  apply sp_need_sale_D
  · intro z
    rw [hd] at z
    cases z
  · intro _
    exact h
theorem said_no {f : WE} {env : En} {Pk : EK} {Yk : XP} (hf : ∀ (P : EK) (Y : XP), Y ("NoSale", none) → f (mask env) P Y) (h : Pk (.fz (.tuple [.str "sale"])) env) : eSaid false true rsL C_law_word f env Pk Yk := by
  refine hf _ _ ⟨"NoSale", by decide, rfl, fun a => sp_word (by decide) ?_⟩
  exact ⟨rfl, h⟩
end
end SwLaw

namespace SwLaw
open PySem PySem.Spec PyProof.Rows L2 Sw
section
variable {P : Sw.Cl → List OD → Prop} {Y : XP}
theorem ref_ini {d : D} (hd : isSaleD d = false) (h : Y ("NoSale", none)) : C_Counter___init__ [.io (.ob "Counter" []), .fz d] P Y := by
  apply ctN_in
  unfold w_Counter___init__
  apply seq_hide; intro N_a h_a
  try simp
  apply sp_need_sale_D
  · intro z
    rw [hd] at z
    cases z
  · intro _
    exact h
theorem sp_law_words {d : D} (hd : isSaleD d = false) (h : P (.ow (.lst (List.replicate 19 (.tuple [.str "sale"])))) []) : C_law_words [.fz d] P Y := by
  apply ct_in
  unfold w_law_words
  apply seq_hide; intro N_a h_a
  refine ⟨by decide, ?_, ?_⟩
  · try simp
  rw [compG_c]
  refine ⟨by simp, said_no (fun P' Y' hy => ⟨"worths", C_worths, by simp, rfl, ?_⟩) ?_⟩
  · try simp
    exact ref_gen hd hy
  try simp
  refine said_no (fun P' Y' hy => ⟨"best_plan", C_best_plan, by simp, rfl, ?_⟩) ?_
  · try simp
    exact ref_gen hd hy
  try simp
  refine said_no (fun P' Y' hy => ⟨"sale_text", C_sale_text, by simp, rfl, ?_⟩) ?_
  · try simp
    exact ref_gen hd hy
  try simp
  apply h_a
  apply seq_hide; intro N_b h_b
  try simp
  unfold eSaidO
  refine .inr ?_
  simp [maskF, maskI, maskD]
  refine ref_ini hd ?_
  refine ⟨"NoSale", by decide, rfl, fun a => sp_word (by decide) ?_⟩
  refine ⟨rfl, ?_⟩
  have ws : wordS "NoSale" = "sale" := by rfl
  simp [wordD, ws]
  apply h_b
  apply seq_hide; intro N_c h_c
  try simp
  refine said_no (fun P' Y' hy => ⟨"over_bound", C_over_bound, by simp, rfl, ?_⟩) ?_
  · try simp
    exact ref_gen hd hy
  try simp
  refine said_no (fun P' Y' hy => ⟨"under_bound", C_under_bound, by simp, rfl, ?_⟩) ?_
  · try simp
    exact ref_gen hd hy
  try simp
  refine said_no (fun P' Y' hy => ⟨"is_plan", C_is_plan, by simp, rfl, ?_⟩) ?_
  · try simp
    exact ref_gen hd hy
  try simp
  refine said_no (fun P' Y' hy => ⟨"plan_worth", C_plan_worth, by simp, rfl, ?_⟩) ?_
  · try simp
    exact ref_gen hd hy
  try simp
  refine said_no (fun P' Y' hy => ⟨"is_run", C_is_run, by simp, rfl, ?_⟩) ?_
  · try simp
    exact ref_gen hd hy
  try simp
  refine said_no (fun P' Y' hy => ⟨"run_cases", C_run_cases, by simp, rfl, ?_⟩) ?_
  · try simp
    exact ref_gen hd hy
  try simp
  apply h_c
  apply seq_hide; intro N_d h_d
  try simp
  refine said_no (fun P' Y' hy => ⟨"worth", C_worth, by simp, rfl, ?_⟩) ?_
  · try simp
    exact ref_gen hd hy
  try simp
  refine said_no (fun P' Y' hy => ⟨"opened", C_opened, by simp, rfl, ?_⟩) ?_
  · try simp
    exact ref_gen hd hy
  try simp
  refine said_no (fun P' Y' hy => ⟨"seat_worth", C_seat_worth, by simp, rfl, ?_⟩) ?_
  · try simp
    exact ref_gen hd hy
  try simp
  refine said_no (fun P' Y' hy => ⟨"mark", C_mark, by simp, rfl, ?_⟩) ?_
  · try simp
    exact ref_gen hd hy
  try simp
  refine said_no (fun P' Y' hy => ⟨"money", C_money, by simp, rfl, ?_⟩) ?_
  · try simp
    exact ref_gen hd hy
  try simp
  refine said_no (fun P' Y' hy => ⟨"shortfall", C_shortfall, by simp, rfl, ?_⟩) ?_
  · try simp
    exact ref_gen hd hy
  try simp
  apply h_d
  apply seq_hide; intro N_e h_e
  try simp
  refine said_no (fun P' Y' hy => ⟨"amends_mean", C_amends_mean, by simp, rfl, ?_⟩) ?_
  · try simp
    exact ref_gen hd hy
  try simp
  refine said_no (fun P' Y' hy => ⟨"worth_oversold", C_worth_oversold, by simp, rfl, ?_⟩) ?_
  · try simp
    exact ref_gen hd hy
  try simp
  apply h_e
  apply seq_hide; intro N_f h_f
  try simp
  refine said_no (fun P' Y' hy => ?_) ?_
  · try simp
    exact ref_gen hd hy
  try simp
  apply h_f
  try simp
  exact h
end
end SwLaw

namespace SwLaw
open PySem PySem.Spec PyProof.Rows L2 Sw
section
variable {P : Sw.Cl → List OD → Prop} {Y : XP}
/-- the law's own look at a number -/
theorem sp_law_number {d : D} {l m : Int} (h : P (.fz (.bool (amongD l m d))) []) : C_law_number [.fz d, .fz (.int l), .fz (.int m)] P Y := by
  simp only [C_law_number, w_law_number]
  cases d with
  | int i =>
    try simp
    by_cases h1 : l ≤ i
    · by_cases h2 : i ≤ m
      · simp [h1, h2]
        simpa [amongD, h1, h2] using h
      · simp [h1, h2]
        simpa [amongD, h1, h2] using h
    · simp [h1]
      simpa [amongD, h1] using h
  | _ =>
    try simp
    simpa [amongD] using h
end
end SwLaw

namespace SwLaw
open PySem PySem.Spec PyProof.Rows L2 Sw
section
variable {P : Sw.Cl → List OD → Prop} {Y : XP}
theorem pow30 : CPow (10 : Int) 30 := powW (by decide) (by decide) (by decide)
def isOfferL : D → Bool
  | .tuple [f, s, z] => amongD 1 99 f && (amongD 1 (10 ^ 30) s && amongD 1 4 z)
  | _ => false
theorem offerL_not {d : D} (ht : ¬ ∃ f s z, d = .tuple [f, s, z]) : isOfferL d = false := by
  cases d with
  | tuple xs =>
    match xs with
    | [f, s, z] => exact absurd ⟨f, s, z, rfl⟩ ht
    | [] => rfl
    | [_] => rfl
    | [_, _] => rfl
    | _ :: _ :: _ :: _ :: _ => rfl
  | _ => rfl
theorem sp_law_is_offer {d : D} (h : P (.fz (.bool (isOfferL d))) []) : C_law_is_offer [.fz d] P Y := by
  apply ct_in
  apply seq_hide; intro N_a h_a
  by_cases ht : ∃ f s z, d = .tuple [f, s, z]
  · obtain ⟨f, s, z, rfl⟩ := ht
    try simp
    apply h_a
    try simp
    apply sp_law_number
    have h : P (.fz (.bool (amongD 1 99 f && (amongD 1 (10 ^ 30) s && amongD 1 4 z)))) [] := h
    cases hf : amongD 1 99 f with
    | false =>
      rw [hf] at h
      try simp
      exact h
    | true =>
      rw [hf, Bool.true_and] at h
      try simp
      refine ⟨pow30, ?_⟩
      apply sp_law_number
      have e : (10 : Int) ^ 30 = 1000000000000000000000000000000 := by decide
      rw [e] at h
      cases hs : amongD 1 1000000000000000000000000000000 s with
      | false =>
        rw [hs] at h
        try simp
        exact h
      | true =>
        rw [hs, Bool.true_and] at h
        try simp
        apply sp_law_number
        exact h
  · rw [offerL_not ht] at h
    cases d with
    | tuple xs =>
      have hl : ¬ (xs.length : Int) = 3 := fun hz => by
        obtain ⟨f, s, z, rfl⟩ := len3 hz
        exact ht ⟨f, s, z, rfl⟩
      simp [hl]
      exact h
    | _ =>
      try simp
      exact h
/-- a share beyond all cases: both looks say no -/
theorem offersL_eq {os : List D} {c : Int} (hc : c ≤ 24) : (os.all isOfferL && decide ((os.map shareD).sum ≤ c)) = (os.all isOfferD && decide ((os.map shareD).sum ≤ c)) := by
  by_cases hall : os.all isOfferD = true
  · by_cases hs : (os.map shareD).sum ≤ c
    · have hpos : ∀ x ∈ os, 1 ≤ shareD x := fun x hx => by
        have := List.all_eq_true.mp hall x hx
        unfold isOfferD at this
        split at this
        · rename_i f s z
          simp only [Bool.and_eq_true] at this
          cases s with
          | int s =>
            have h2 := this.2.1
            simp [fromD] at h2
            exact h2
          | _ => exact absurd this.2.1 (by simp [fromD])
        · cases this
      have hle : ∀ x ∈ os, shareD x ≤ (os.map shareD).sum := by
        clear hall hs
        induction os with
        | nil => intro x hx; cases hx
        | cons y ys ih =>
          have hp : ∀ zs : List D, (∀ x ∈ zs, 1 ≤ shareD x) → 0 ≤ (zs.map shareD).sum := fun zs => by
            induction zs with
            | nil => intro _; simp
            | cons z zs ih2 =>
              intro h
              have := ih2 fun x hx => h x (List.mem_cons_of_mem _ hx)
              have := h z List.mem_cons_self
              simp only [List.map_cons, List.sum_cons]
              omega
          intro x hx
          simp only [List.map_cons, List.sum_cons]
          rcases List.mem_cons.mp hx with rfl | hx
          · have := hp ys fun x hx => hpos x (List.mem_cons_of_mem _ hx)
            omega
          · have := ih (fun x hx => hpos x (List.mem_cons_of_mem _ hx)) x hx
            have := hpos y List.mem_cons_self
            omega
      have hL : os.all isOfferL = true := by
        apply List.all_eq_true.mpr
        intro x hx
        have h1 := List.all_eq_true.mp hall x hx
        have h2 := hle x hx
        unfold isOfferD at h1
        split at h1
        · rename_i f s z
          simp only [Bool.and_eq_true] at h1
          cases s with
          | int s =>
            have e : shareD (.tuple [f, .int s, z]) = s := rfl
            rw [e] at h2
            have h3 := h1.2.1
            simp [fromD] at h3
            have h4 : s ≤ 1000000000000000000000000000000 := by omega
            show (amongD 1 99 f && (amongD 1 (10 ^ 30) (.int s) && amongD 1 4 z)) = true
            rw [h1.1, h1.2.2]
            simp [amongD, h3, h4]
          | _ => exact absurd h1.2.1 (by simp [fromD])
        · cases h1
      rw [hall, hL]
    · rw [decide_eq_false hs, Bool.and_false, Bool.and_false]
  · have hL : os.all isOfferL = false := by
      apply Bool.eq_false_iff.mpr
      intro h
      apply hall
      apply List.all_eq_true.mpr
      intro x hx
      have h1 := List.all_eq_true.mp h x hx
      unfold isOfferL at h1
      split at h1
      · rename_i f s z
        simp only [Bool.and_eq_true] at h1
        cases s with
        | int s =>
          have h3 := h1.2.1
          simp [amongD] at h3
          simp [isOfferD, h1.1, h1.2.2, fromD, h3.1]
        | _ => exact absurd h1.2.1 (by simp [amongD])
      · cases h1
    rw [Bool.eq_false_iff.mpr hall, hL]
theorem offerL_share {d : D} (h : isOfferL d = true) : ∃ f s z, d = .tuple [f, .int s, z] ∧ shareD d = s := by
  unfold isOfferL at h
  split at h
  · rename_i f s z
    simp only [Bool.and_eq_true] at h
    cases s with
    | int s => exact ⟨f, s, z, rfl, rfl⟩
    | _ => exact absurd h.2.1 (by simp [amongD])
  · cases h
theorem sp_law_is_sale {d : D} (h : P (.fz (.bool (isSaleD d))) []) : C_law_is_sale [.fz d] P Y := by
  apply ct_in
  apply seq_hide; intro N_a h_a
  by_cases ht : ∃ a b c o, d = .tuple [a, b, c, o]
  · obtain ⟨a, b, c, o, rfl⟩ := ht
    try simp
    apply h_a
    apply seq_hide; intro N_b h_b
    try simp
    apply sp_law_number
    cases ha : amongD 0 12 a with
    | false =>
      have e : isSaleD (.tuple [a, b, c, o]) = false := by cases o <;> simp [isSaleD, ha]
      rw [e] at h
      try simp
      exact h
    | true =>
      try simp
      apply sp_law_number
      cases hb : amongD 0 12 b with
      | false =>
        have e : isSaleD (.tuple [a, b, c, o]) = false := by cases o <;> simp [isSaleD, hb]
        rw [e] at h
        try simp
        exact h
      | true =>
        try simp
        apply sp_law_number
        cases hc : amongD 1 24 c with
        | false =>
          have e : isSaleD (.tuple [a, b, c, o]) = false := by cases o <;> simp [isSaleD, hc]
          rw [e] at h
          try simp
          exact h
        | true =>
          try simp
          apply h_b
          apply seq_hide; intro N_e h_e
          try simp
          by_cases ho : ∃ os, o = .tuple os
          case neg =>
            have e : isSaleD (.tuple [a, b, c, o]) = false := saleD_not fun ⟨_, _, _, os, z⟩ => ho ⟨os, by simp at z; exact z.2.2.2⟩
            rw [e] at h
            cases o with
            | tuple os => exact absurd ⟨os, rfl⟩ ho
            | _ =>
              try simp
              exact h
          obtain ⟨os, rfl⟩ := ho
          have es : isSaleD (.tuple [a, b, c, .tuple os]) = (amongD 0 12 a && (amongD 0 12 b && (amongD 1 24 c && (decide (1 ≤ (os.length : Int) ∧ (os.length : Int) ≤ 4) && (os.all isOfferD && decide ((os.map shareD).sum ≤ intD c)))))) := rfl
          rw [es, ha, hb, hc, Bool.true_and, Bool.true_and, Bool.true_and] at h
          clear es
          obtain ⟨m, rfl⟩ : ∃ m, c = .int m := by
            cases c with
            | int m => exact ⟨m, rfl⟩
            | _ => cases hc
          have hm : m ≤ 24 := by simp [amongD] at hc; exact hc.2
          try simp
          by_cases hl : 1 ≤ (os.length : Int) ∧ (os.length : Int) ≤ 4
          · rw [decide_eq_true hl, Bool.true_and, show intD (.int m) = m from rfl, ← offersL_eq hm] at h
            have h4 : ¬ 4 < (os.length : Int) := by omega
            simp [hl.1, h4]
            apply h_e
            try simp
            have em : os = os.map id := by simp
            have hz : os.length ≤ sizeLine := by rw [sizeLine_eq]; omega
            conv => arg 6; rw [em]
            refine compL_map (h := fun d => .bool (isOfferL d)) hz (fun x hx N hN => ?_) ?_
            · simp only [asg_nm]; refine ⟨by simp, ?_⟩
              try simp
              apply sp_law_is_offer
              try simp
              exact hN
            · refine ⟨os.map isOfferL, by simp, ?_⟩
              have ea : ((os.map isOfferL).all id) = os.all isOfferL := by simp
              rw [ea]
              cases hall : os.all isOfferL with
              | false =>
                rw [hall] at h
                try simp
                exact h
              | true =>
                rw [hall, Bool.true_and] at h
                try simp
                conv => arg 6; rw [em]
                have hsh : ∀ x ∈ os, isOfferL x = true := List.all_eq_true.mp hall
                refine compL_map (h := fun d => .int (shareD d)) hz (fun x hx N hN => ?_) ?_
                · obtain ⟨f, s, z, rfl, e1⟩ := offerL_share (hsh x hx)
                  rw [e1] at hN
                  simp only [asg_nm]; refine ⟨by simp, ?_⟩
                  try simp
                  exact hN
                · refine ⟨os.map shareD, by simp, ?_⟩
                  try simp
                  exact h
          · rw [decide_eq_false hl] at h
            by_cases h1 : 1 ≤ (os.length : Int)
            · have h4 : 4 < (os.length : Int) := by omega
              simp [h1, h4]
              exact h
            · simp [h1]
              exact h
  · have e : isSaleD d = false := saleD_not fun ⟨a, b, c, os, z⟩ => ht ⟨a, b, c, _, z⟩
    rw [e] at h
    cases d with
    | tuple xs =>
      have hl : ¬ (xs.length : Int) = 4 := fun hz => by
        obtain ⟨a, b, c, o, rfl⟩ := len4 hz
        exact ht ⟨a, b, c, o, rfl⟩
      simp [hl]
      exact h
    | _ =>
      try simp
      exact h
end
end SwLaw

namespace Sw
open PySem PySem.Spec PyProof.Rows L2
section
variable {P : Sw.Cl → List OD → Prop} {Y : XP}
/-- the drawn numbers, of two, of three -/
def StD (o : OD) : Prop := ∃ a b : Int, o = .lst [.int a, .int b] ∧ 0 ≤ a ∧ 0 ≤ b ∧ b < 2147483647
def StS (o : OD) : Prop := ∃ a b n : Int, o = .lst [.int a, .int b, .int n] ∧ 0 ≤ a ∧ 0 ≤ b ∧ b < 2147483647
@[simp ↓] theorem ixN_30 : ixN 3 0 = some 0 := by unfold ixN; rw [if_pos (by omega), if_pos (by omega)]; rfl
@[simp ↓] theorem ixN_31 : ixN 3 1 = some 1 := by unfold ixN; rw [if_pos (by omega), if_pos (by omega)]; rfl
@[simp ↓] theorem ixN_32 : ixN 3 2 = some 2 := by unfold ixN; rw [if_pos (by omega), if_pos (by omega)]; rfl
end
end Sw

namespace SwLaw
open PySem PySem.Spec PyProof.Rows L2 Sw
section
variable {P : Sw.Cl → List OD → Prop} {Y : XP}
theorem sp_cell_at {ns : List Int} {k : Nat} (h : ∀ c, P (.fz (.int c)) []) : C_law_cell_at [.sc ns, .fz (.int (k : Int))] P Y := by
  simp [C_law_cell_at, w_law_cell_at]
  by_cases hk : k < ns.length
  · right
    refine ⟨hk, ns[k], ?_, h _⟩
    have e : ixN ns.length (k : Int) = some k := by
      unfold ixN
      rw [if_pos (by omega), if_pos (by omega)]
      try simp
    unfold L2.atI
    rw [e]
    simp [hk]
  · left
    exact ⟨by omega, h 0⟩
end
end SwLaw

namespace SwLaw
open PySem PySem.Spec PyProof.Rows L2 Sw
section
variable {P : Sw.Cl → List OD → Prop} {Y : XP}
theorem sp_state {ns : List Int} {k : Nat} (h : ∀ o, StD o → P (.ow o) []) : C_law_state [.sc ns, .fz (.int (k : Int))] P Y := by
  simp [C_law_state, w_law_state]
  apply sp_cell_at
  intro c
  try simp
  refine ⟨powW (by decide) (by decide) (by decide), h _ ⟨_, _, rfl, by omega, by omega, by omega⟩⟩
theorem sp_take {o : OD} {c : Int} (hs : StD o) (hc : 0 < c) (hc2 : Sm 200 c) (h : ∀ r o', 0 ≤ r → r < c → StD o' → P (.fz (.int r)) [o']) : C_law_take [.io o, .fz (.int c)] P Y := by
  obtain ⟨a, b, rfl, ha, hb, hb2⟩ := hs
  simp [C_law_take, w_law_take]
  have m : ∀ x : Int, 0 ≤ x % 2147483647 ∧ x % 2147483647 < 2147483647 := fun x => by omega
  have m2 : ∀ x : Int, 0 ≤ x % 2147483629 ∧ x % 2147483629 < 2147483629 := fun x => by omega
  by_cases h0 : a ≤ 0
  · left
    obtain ⟨m0, m1⟩ := m (b * 48271 + 29)
    generalize (b * 48271 + 29) % 2147483647 = u at m0 m1 ⊢
    obtain ⟨m3, m4⟩ := m2 (u * u + 39373 * u + 7)
    generalize (u * u + 39373 * u + 7) % 2147483629 = v at m3 m4 ⊢
    refine ⟨h0, mulS (by omega) (by omega), mulS (by omega) (by omega), mulS (by omega) (by omega), mulS (by omega) (by omega), mulS (by omega) (by omega), Sm.divW (k := 4) (Sm.of (by decide) (by decide)) (by decide) (by decide), hc, ?_⟩
    exact h _ _ (Int.emod_nonneg _ (by omega)) (Int.emod_lt_of_pos _ hc) ⟨_, _, rfl, ha, m0, m1⟩
  · right
    exact ⟨by omega, hc, hc2.divW hc (by decide), h _ _ (Int.emod_nonneg _ (by omega)) (Int.emod_lt_of_pos _ hc) ⟨_, _, rfl, Int.ediv_nonneg ha (by omega), hb, hb2⟩⟩
end
end SwLaw

namespace SwLaw
open PySem PySem.Spec PyProof.Rows L2 Sw
section
variable {P : Sw.Cl → List OD → Prop} {Y : XP}
theorem sp_sale {o : OD} {n t z : Nat} (hs : StD o) (hn : n ≤ 12) (ht : t ≤ 12) (hz : 1 ≤ z) (hz2 : z ≤ 4) (h : ∀ (S : Sal) o', StD o' → S.Ok → S.n ≤ n → S.t ≤ t → (∀ c ∈ S.cs, c.z ≤ z) → P (.fz S.d) [o']) : C_law_sale [.io o, .fz (.int (n : Int)), .fz (.int (t : Int)), .fz (.int (z : Int))] P Y := by
  apply ct_in
  apply seq_hide; intro N_a h_a
  try simp
  apply sp_take hs (by omega) (Sm.of (by omega) (by omega))
  intro r1 o1 p1 q1 s1
  try simp
  apply sp_take s1 (by omega) (Sm.of (by omega) (by omega))
  intro r2 o2 p2 q2 s2
  try simp
  apply sp_take s2 (by decide) (Sm.of (by decide) (by decide))
  intro r3 o3 p3 q3 s3
  try simp
  refine pick p3 (by simpa using q3) ?_
  intro d hd
  obtain ⟨v, rfl, v2⟩ : ∃ v : Nat, d = .int (v : Int) ∧ v ≤ t := by
    simp at hd
    rcases hd with rfl | rfl
    · exact ⟨t, rfl, Nat.le_refl _⟩
    · exact ⟨r2.toNat, by congr 1; omega, by omega⟩
  obtain ⟨u, rfl⟩ := nat_of p1
  try simp
  apply h_a
  apply seq_hide; intro N_b h_b
  try simp
  apply sp_take s3 (by decide) (Sm.of (by decide) (by decide))
  intro r4 o4 p4 q4 s4
  try simp
  apply sp_take s4 (by decide) (Sm.of (by decide) (by decide))
  intro r5 o5 p5 q5 s5
  try simp
  apply sp_take s5 (by decide) (Sm.of (by decide) (by decide))
  intro r6 o6 p6 q6 s6
  try simp
  refine pick p6 (by simpa using q6) ?_
  intro d hd
  obtain ⟨m, rfl, m1, m2⟩ : ∃ m : Nat, d = .int (m : Int) ∧ 1 ≤ m ∧ m ≤ 24 := by
    simp at hd
    rcases hd with rfl | rfl | rfl
    · exact ⟨(1 + r4).toNat, by congr 1; omega, by omega, by omega⟩
    · exact ⟨24, rfl, by decide, by decide⟩
    · exact ⟨(4 + r5).toNat, by congr 1; omega, by omega, by omega⟩
  try simp
  apply h_b
  apply seq_hide; intro N_c h_c
  try simp
  apply h_c
  apply seq_hide; intro N_d h_d
  try simp
  apply sp_take s6 (by decide) (Sm.of (by decide) (by decide))
  intro r o1 p1 q1 s1
  try simp
  repeat (refine ⟨by omega, ?_⟩)
  obtain ⟨T, hT⟩ := nat_of (show 0 ≤ 1 + r by omega)
  rw [hT]
  simp only [Int.toNat_natCast]
  apply forL_map (en := fun k : Nat => .int (k : Int)) (fun i e => ∃ (cs : List Cla) (o : OD), StD o ∧ cs.length ≤ i ∧ (0 < i → 1 ≤ cs.length) ∧ (∀ c ∈ cs, c.Ok ∧ c.z ≤ z) ∧ shares cs ≤ m ∧ e = [some (.io (o)), some (.fz (.int ((n : Int)))), some (.fz (.int ((t : Int)))), some (.fz (.int ((z : Int)))), some (.fz (.int (((m - shares cs : Nat) : Int)))), none, some (.fz (.int ((u : Int)))), some (.fz (.int ((v : Int)))), some (.fz (.int ((m : Int)))), some (.ow (.lst (cs.map Cla.d))), none])
  · rintro i hi e N ⟨cs, o, s, l1, l2, hc, hsh, rfl⟩ hN
    have hi : i < T := by simpa using hi
    simp only [asg_nm]; refine ⟨by simp, ?_⟩
    by_cases h0 : 0 < m - shares cs
    · have h0' : (0 : Int) < ((m - shares cs : Nat) : Int) := by omega
      obtain ⟨rr, hrr⟩ : ∃ rr, rr = m - shares cs := ⟨_, rfl⟩
      rw [← hrr] at h0 h0' ⊢
      simp [h0, h0']
      apply sp_take s (by omega) (Sm.of (by omega) (by omega))
      intro r2 o2 p2 q2 s2
      try simp
      apply sp_take s2 (by decide) (Sm.of (by decide) (by decide))
      intro r3 o3 p3 q3 s3
      try simp
      refine pick p3 (by simpa using q3) ?_
      intro d hd
      obtain ⟨sh, rfl, x1, x2⟩ : ∃ sh : Nat, d = .int (sh : Int) ∧ 1 ≤ sh ∧ sh ≤ rr := by
        simp at hd
        rcases hd with rfl | rfl | rfl
        · exact ⟨1, rfl, by decide, by omega⟩
        · exact ⟨(1 + r2).toNat, by congr 1; omega, by omega, by omega⟩
        · exact ⟨rr, rfl, by omega, Nat.le_refl _⟩
      try simp
      apply sp_take s3 (by decide) (Sm.of (by decide) (by decide))
      intro r4 o4 p4 q4 s4
      try simp
      refine pick p4 (by simpa using q4) ?_
      intro d hd
      obtain ⟨x, rfl, y1, y2⟩ : ∃ x : Int, d = .int x ∧ 1 ≤ x ∧ x ≤ 99 := by
        simp at hd
        rcases hd with rfl | rfl
        · exact ⟨3, rfl, by decide, by decide⟩
        · exact ⟨99, rfl, by decide, by decide⟩
      try simp
      apply sp_take s4 (by omega) (Sm.of (by omega) (by omega))
      intro r5 o5 p5 q5 s5
      try simp
      apply sp_take s5 (by omega) (Sm.of (by omega) (by omega))
      intro r7 o7 p7 q7 s7
      try simp
      obtain ⟨f, hf⟩ := nat_of (show 0 ≤ 1 + r5 by omega)
      obtain ⟨zz, hzz⟩ := nat_of (show 0 ≤ 1 + r7 by omega)
      rw [hf, hzz]
      refine ⟨by omega, ?_⟩
      apply hN
      have esh : shares (cs ++ [⟨f, sh, zz⟩]) = shares cs + sh := by simp [shares]
      refine ⟨cs ++ [⟨f, sh, zz⟩], o7, s7, by simp; omega, fun _ => by simp, ?_, by omega, ?_⟩
      · intro c hcm
        rcases List.mem_append.mp hcm with hcm | hcm
        · exact hc c hcm
        · have e : c = ⟨f, sh, zz⟩ := by simpa using hcm
          subst e
          exact ⟨⟨by show 1 ≤ f; omega, by show f ≤ 99; omega, by show 1 ≤ sh; omega, by show sh ≤ 24; omega, by show 1 ≤ zz; omega, by show zz ≤ 4; omega⟩, by show zz ≤ z; omega⟩
      · rw [esh]
        have e8 : ((m - (shares cs + sh) : Nat) : Int) = (rr : Int) - (sh : Int) := by omega
        rw [e8]
        simp [Cla.d]
    · have h0' : ¬ (0 : Int) < ((m - shares cs : Nat) : Int) := by omega
      simp [h0, h0']
      apply hN
      refine ⟨cs, o, s, by omega, fun hi0 => ?_, hc, hsh, by simp⟩
      by_cases hi1 : 0 < i
      · exact l2 hi1
      · have : cs = [] := List.eq_nil_of_length_eq_zero (by omega)
        subst this
        simp [shares] at h0
        omega
  · rintro e ⟨cs, o, s, l1, l2, hc, hsh, rfl⟩
    apply h_d
    try simp
    have l1 : cs.length ≤ T := by simpa using l1
    have l2 : 0 < T → 1 ≤ cs.length := by simpa using l2
    exact h ⟨u, v, m, cs⟩ o s ⟨by show u ≤ 12; omega, by show v ≤ 12; omega, m1, m2, l2 (by omega), by show cs.length ≤ 4; omega, fun c hcm => (hc c hcm).1, hsh⟩ (by show u ≤ n; omega) v2 fun c hcm => (hc c hcm).2
  · exact ⟨[], o1, s1, by simp, fun h => by omega, fun c hc => (by cases hc), by simp [shares], by simp [shares]⟩
end
end SwLaw

namespace Sw
open PySem PySem.Spec PyProof.Rows L2
section
variable {P : Sw.Cl → List OD → Prop} {Y : XP}
theorem atI_get {α : Type} {xs : List α} {k : Nat} (h : k < xs.length) : L2.atI xs (k : Int) = some xs[k] := by
  have e : ixN xs.length (k : Int) = some k := by
    unfold ixN
    rw [if_pos (by omega), if_pos (by omega)]
    try simp
  unfold L2.atI
  rw [e]
  simp [h]
theorem cut_c1 {x : D} {xs : List D} : Sw.cutD (x :: xs) (some 1) none = xs := (cut_from (k := 1)).trans rfl
theorem cut_dl {xs : List D} : Sw.cutD xs none (some (-1)) = xs.dropLast := by
  unfold Sw.cutD
  have e : HT.sIx xs.length xs.length (some (-1)) = xs.length - 1 := by
    unfold HT.sIx
    try simp
    omega
  rw [HT.sIx_none, e, List.drop_zero, Nat.sub_zero, List.dropLast_eq_take]
theorem atI_la {α : Type} {xs : List α} {x : α} : L2.atI (xs ++ [x]) (-1) = some x := by
  have e : ixN (xs ++ [x]).length (-1) = some xs.length := by
    unfold ixN
    rw [if_neg (by omega), if_pos (by simp; omega)]
    try simp
    omega
  unfold L2.atI
  rw [e]
  try simp
end
end Sw

namespace SwLaw
open PySem PySem.Spec PyProof.Rows L2 Sw
section
variable {P : Sw.Cl → List OD → Prop} {Y : XP}
/-- the twenty-four things of other kinds -/
def oddL : List D := [.none, .bool true, .bool false, .int (-1), .int 13, .int 25, .int 100, .int (10 ^ 29), .str "", .str "1", .str "1/2", .tuple [], .list [], dI [], .tuple [.int 1], .tuple [.int 0, .int 1], .list [.int 0, .int 1], dI [(0, 1)], .tuple [.int 1, .int 2, .int 3], .tuple [.tuple [.int 1, .int 1, .int 1]], .tuple [.int 1, .tuple [.int 1, .int 1]], .str "nothing", .tuple [.bool true, .int 1], .tuple [.int (-1), .int 2]]
theorem odd_sh : ∀ d ∈ oddL, ShN 4 4000 d := by
  intro d hd
  simp only [oddL, List.mem_cons, List.not_mem_nil, or_false] at hd
  rcases hd with rfl | rfl | rfl | rfl | rfl | rfl | rfl | rfl | rfl | rfl | rfl | rfl | rfl | rfl | rfl | rfl | rfl | rfl | rfl | rfl | rfl | rfl | rfl | rfl
  all_goals exact ⟨by rfl, by decide +kernel, by decide +kernel, by decide +kernel⟩
theorem sp_odd {o : OD} (hs : StD o) (h : ∀ d o', d ∈ oddL → StD o' → P (.fz d) [o']) : C_law_odd [.io o] P Y := by
  apply ct_in
  apply seq_hide; intro N_a h_a
  try simp
  refine ⟨powW (by decide) (by decide) (by decide), ?_⟩
  apply h_a
  apply seq_hide; intro N_b h_b
  try simp
  apply h_b
  try simp
  apply sp_take hs (by decide) (Sm.of (by decide) (by decide))
  intro r o2 r0 r1 s2
  try simp
  obtain ⟨k, rfl⟩ : ∃ k : Nat, r = (k : Int) := ⟨r.toNat, by omega⟩
  have hk : k < oddL.length := by show k < 24; omega
  refine ⟨oddL[k], ?_, ?_⟩
  · show L2.atI oddL (k : Int) = some oddL[k]
    exact atI_get hk
  · exact h _ _ (List.getElem_mem hk) s2
end
end SwLaw

namespace SwLaw
open PySem PySem.Spec PyProof.Rows L2 Sw
section
variable {P : Sw.Cl → List OD → Prop} {Y : XP}
/-- each whole number in it is of so many bits -/
inductive Ib (c : Nat) : D → Prop
  | non : Ib c .none
  | bl {b : Bool} : Ib c (.bool b)
  | str {x : Str} : Ib c (.str x)
  | int {i : Int} : Sm c i → Ib c (.int i)
  | tup {xs : List D} : (∀ x ∈ xs, Ib c x) → Ib c (.tuple xs)
  | lst {xs : List D} : (∀ x ∈ xs, Ib c x) → Ib c (.list xs)
  | dct {kvs : List (D × D)} : Ib c (.dict kvs)
theorem Ib.mono {c c' : Nat} (hc : c ≤ c') {d : D} (h : Ib c d) : Ib c' d := by
  induction h with
  | non => exact .non
  | bl => exact .bl
  | str => exact .str
  | int h => exact .int (h.mono hc)
  | tup _ ih => exact .tup ih
  | lst _ ih => exact .lst ih
  | dct => exact .dct
theorem ib_all {c : Nat} {x : D} {xs : List D} (h1 : Ib c x) (h2 : ∀ y ∈ xs, Ib c y) : ∀ y ∈ x :: xs, Ib c y := fun y hy => by
  rcases List.mem_cons.mp hy with rfl | hy
  · exact h1
  · exact h2 y hy
theorem ib_nil {c : Nat} : ∀ y ∈ ([] : List D), Ib c y := fun y hy => by cases hy
theorem ib_s {c : Nat} (hc : 100 ≤ c) {i : Int} (h1 : -(2 ^ 100) < i) (h2 : i < 2 ^ 100) : Ib c (.int i) := .int ((Sm.of (k := 100) (by omega) (by omega)).mono hc)
theorem odd_ib {c : Nat} (hc : 100 ≤ c) : ∀ d ∈ oddL, Ib c d := by
  intro d hd
  simp only [oddL, List.mem_cons, List.not_mem_nil, or_false] at hd
  have z : ∀ i : Int, -200 ≤ i → i ≤ 200 → Ib c (.int i) := fun i h1 h2 => ib_s hc (by omega) (by omega)
  rcases hd with rfl | rfl | rfl | rfl | rfl | rfl | rfl | rfl | rfl | rfl | rfl | rfl | rfl | rfl | rfl | rfl | rfl | rfl | rfl | rfl | rfl | rfl | rfl | rfl
  case inr.inr.inr.inr.inr.inr.inr.inl => exact ib_s hc (by decide +kernel) (by decide +kernel)
  case inr.inr.inr.inr.inr.inr.inr.inr.inr.inr.inr.inr.inr.inr.inr.inr.inr.inr.inr.inl => exact .tup (ib_all (.tup (ib_all (z _ (by decide) (by decide)) (ib_all (z _ (by decide) (by decide)) (ib_all (z _ (by decide) (by decide)) ib_nil)))) ib_nil)
  case inr.inr.inr.inr.inr.inr.inr.inr.inr.inr.inr.inr.inr.inr.inr.inr.inr.inr.inr.inr.inl => exact .tup (ib_all (z _ (by decide) (by decide)) (ib_all (.tup (ib_all (z _ (by decide) (by decide)) (ib_all (z _ (by decide) (by decide)) ib_nil))) ib_nil))
  all_goals first
    | exact .non
    | exact .bl
    | exact .str
    | exact z _ (by decide) (by decide)
    | exact .dct
    | exact .tup ib_nil
    | exact .lst ib_nil
    | exact .tup (ib_all (z _ (by decide) (by decide)) ib_nil)
    | exact .tup (ib_all (z _ (by decide) (by decide)) (ib_all (z _ (by decide) (by decide)) ib_nil))
    | exact .lst (ib_all (z _ (by decide) (by decide)) (ib_all (z _ (by decide) (by decide)) ib_nil))
    | exact .tup (ib_all (z _ (by decide) (by decide)) (ib_all (z _ (by decide) (by decide)) (ib_all (z _ (by decide) (by decide)) ib_nil)))
    | exact .tup (ib_all .bl (ib_all (z _ (by decide) (by decide)) ib_nil))
/-- a thing of whole numbers in tuples, so deep -/
def Br (b : Nat) : Nat → D → Prop
  | 0, d => ∃ i, d = .int i ∧ Sm b i
  | n + 1, d => (∃ i, d = .int i ∧ Sm b i) ∨ ∃ xs, d = .tuple xs ∧ xs.length ≤ 5 ∧ ∀ x ∈ xs, Br b n x
def Wd : Nat → Nat
  | 0 => 4000
  | n + 1 => 8 * (Wd n + 2) + 10
theorem Wd_ge : ∀ n, 4000 ≤ Wd n
  | 0 => Nat.le_refl _
  | n + 1 => by have := Wd_ge n; unfold Wd; omega
theorem Br.sh {b : Nat} (hb : b < 1920) : ∀ {n : Nat} {d : D}, Br b n d → ShN n (Wd n) d
  | 0, d, h => by
    obtain ⟨i, rfl, hi⟩ := h
    exact (ShN.int hi hb).mono (Nat.le_refl _) (by decide)
  | n + 1, d, h => by
    rcases h with ⟨i, rfl, hi⟩ | ⟨xs, rfl, hl, hx⟩
    · exact (ShN.int hi hb).mono (Nat.le_refl _) (by have := Wd_ge (n + 1); omega)
    · refine (ShN.tuple fun x h => Br.sh hb (hx x h)).mono (Nat.le_refl _) ?_
      have : xs.length * (Wd n + 2) ≤ 8 * (Wd n + 2) := Nat.mul_le_mul_right _ (by omega)
      show _ ≤ 8 * (Wd n + 2) + 10
      omega
theorem plainAll_of : ∀ {xs : List D}, (∀ x ∈ xs, x.plain = true) → PyData.plainAll xs = true
  | [], _ => by simp
  | x :: xs, h => by simp [h x List.mem_cons_self, plainAll_of fun y hy => h y (List.mem_cons_of_mem _ hy)]
theorem depthAll_of {n : Nat} : ∀ {xs : List D}, (∀ x ∈ xs, x.depth ≤ n) → PyData.depthAll xs ≤ n
  | [], _ => by simp
  | x :: xs, h => by
    have h1 := h x List.mem_cons_self
    have h2 := depthAll_of fun y hy => h y (List.mem_cons_of_mem _ hy)
    try simp
    omega
theorem Br.plain {b : Nat} : ∀ {n : Nat} {d : D}, Br b n d → d.plain = true ∧ d.depth ≤ n
  | 0, d, h => by
    obtain ⟨i, rfl, hi⟩ := h
    exact ⟨by simp, by simp⟩
  | n + 1, d, h => by
    rcases h with ⟨i, rfl, hi⟩ | ⟨xs, rfl, hl, hx⟩
    · exact ⟨by simp, by simp⟩
    · have h1 : PyData.plainAll xs = true := plainAll_of fun x h => (Br.plain (hx x h)).1
      have h2 : PyData.depthAll xs ≤ n := depthAll_of fun x h => (Br.plain (hx x h)).2
      exact ⟨by simp [h1], by simp; omega⟩
theorem Br.ib {b : Nat} : ∀ {n : Nat} {d : D}, Br b n d → Ib b d
  | 0, d, h => by
    obtain ⟨i, rfl, hi⟩ := h
    exact .int hi
  | n + 1, d, h => by
    rcases h with ⟨i, rfl, hi⟩ | ⟨xs, rfl, hl, hx⟩
    · exact .int hi
    · exact .tup fun x h => (hx x h).ib
theorem Br.up {b : Nat} : ∀ {n : Nat} {d : D}, Br b n d → Br b (n + 1) d
  | 0, d, h => .inl h
  | n + 1, d, h => by
    rcases h with h | ⟨xs, rfl, hl, hx⟩
    · exact .inl h
    · exact .inr ⟨xs, rfl, hl, fun x h => (hx x h).up⟩
theorem sm_add {b : Nat} {i : Int} (h : Sm b i) (hb : 10 ≤ b) {j : Int} (h1 : -100 ≤ j) (h2 : j ≤ 100) : Sm (b + 1) (i + j) := by
  have hp : (1024 : Nat) ≤ 2 ^ b := Nat.le_trans (by decide) (Nat.pow_le_pow_right (n := 2) (by decide) hb)
  unfold Sm at h ⊢
  rw [Nat.pow_succ]
  omega
theorem cut_k {xs : List D} {k : Nat} : Sw.cutD xs none (some (k : Int)) = xs.take k := cut_to
theorem cut_k1 {xs : List D} {k : Nat} : Sw.cutD xs (some ((k : Int) + 1)) none = xs.drop (k + 1) := by
  have e : ((k : Int) + 1) = ((k + 1 : Nat) : Int) := by omega
  rw [e]
  exact cut_from
theorem sz_le {n : Nat} (h : n ≤ 1000) : n ≤ sizeLine := by rw [sizeLine_eq]; omega
/-- a part put in the place of another one, or of none -/
theorem spl_sh {n : Nat} {xs ys : List D} {k : Nat} (hl : xs.length ≤ 5) (hy : ys.length ≤ 2) (hx : ∀ x ∈ xs, ShN (n + 4) (Wd n) x) (hys : ∀ x ∈ ys, ShN (n + 4) (Wd n) x) : ShN (n + 5) (Wd (n + 1)) (.tuple (xs.take k ++ ys ++ xs.drop (k + 1))) := by
  refine (ShN.tuple (k := n + 4) (w := Wd n) fun x h => ?_).mono (Nat.le_refl _) ?_
  · rcases List.mem_append.mp h with h | h
    · rcases List.mem_append.mp h with h | h
      · exact hx x (List.mem_of_mem_take h)
      · exact hys x h
    · exact hx x (List.mem_of_mem_drop h)
  · have hl2 : (xs.take k ++ ys ++ xs.drop (k + 1)).length ≤ 8 := by simp; omega
    have : (xs.take k ++ ys ++ xs.drop (k + 1)).length * (Wd n + 2) ≤ 8 * (Wd n + 2) := Nat.mul_le_mul_right _ hl2
    show _ ≤ 8 * (Wd n + 2) + 10
    omega
theorem spl_ib {c : Nat} {xs ys : List D} {k : Nat} (hx : ∀ x ∈ xs, Ib c x) (hy : ∀ y ∈ ys, Ib c y) : Ib c (.tuple (xs.take k ++ (ys ++ xs.drop (k + 1)))) := .tup fun x h => by
  rcases List.mem_append.mp h with h | h
  · exact hx x (List.mem_of_mem_take h)
  · rcases List.mem_append.mp h with h | h
    · exact hy x h
    · exact hx x (List.mem_of_mem_drop h)
theorem sp_spoilt_int {b n m : Nat} (hb : b < 1910) (hb1 : 100 ≤ b) {i : Int} {o : OD} (hi : Sm b i) (hs : StD o) (h : ∀ d' o', ShN (n + 4) (Wd n) d' → Ib (b + 1) d' → StD o' → P (.fz d') [o']) : C_law_spoilt (m + 1) [.io o, .fz (.int i)] P Y := by
  have shI : ∀ j : Int, Sm (b + 1) j → ShN (n + 4) (Wd n) (.int j) ∧ Ib (b + 1) (.int j) := fun j hj => ⟨(ShN.int hj (by omega)).mono (Nat.le_refl _) (by have := Wd_ge n; omega), .int hj⟩
  have shO : ∀ d ∈ oddL, ShN (n + 4) (Wd n) d ∧ Ib (b + 1) d := fun d hd => ⟨(odd_sh d hd).mono (by omega) (Wd_ge n), odd_ib (by omega) d hd⟩
  apply ct_in
  apply seq_hide; intro N_a h_a
  try simp
  apply sp_take hs (by decide) (Sm.of (by decide) (by decide))
  intro r o2 r0 r1 s2
  try simp
  by_cases hr : 0 < r
  · right
    refine ⟨hr, powW (by decide) (by decide) (by decide), ?_⟩
    apply sp_take s2 (by decide) (Sm.of (by decide) (by decide))
    intro r3 o3 p3 q3 s3
    try simp
    refine pick p3 (by simpa using q3) ?_
    intro d hd
    suffices z : ShN (n + 4) (Wd n) d ∧ Ib (b + 1) d from h _ _ z.1 z.2 s3
    simp at hd
    rcases hd with rfl | rfl | rfl | rfl | rfl
    · exact shI _ (sm_add hi (by omega) (by decide) (by decide))
    · exact shI _ (sm_add (j := -1) hi (by omega) (by decide) (by decide))
    · exact shI _ (by unfold Sm at hi ⊢; rw [Nat.pow_succ]; omega)
    · exact shI _ (sm_add hi (by omega) (by decide) (by decide))
    · exact shO _ (by simp [oddL])
  · left
    refine ⟨by omega, ?_⟩
    apply h_a
    apply seq_hide; intro N_b h_b
    try simp
    apply sp_odd s2
    intro d o3 hd s3
    try simp
    exact h _ _ (shO d hd).1 (shO d hd).2 s3
theorem sp_spoilt {b : Nat} (hb : b < 1910) (hb1 : 100 ≤ b) : ∀ (n : Nat) {d : D} {o : OD} {m : Nat} {P : Sw.Cl → List OD → Prop}, Br b n d → StD o → n < m → (∀ d' o', ShN (n + 4) (Wd n) d' → Ib (b + 1) d' → StD o' → P (.fz d') [o']) → C_law_spoilt m [.io o, .fz d] P Y := by
  intro n
  induction n with
  | zero =>
    intro d o m P hd hs hm h
    obtain ⟨m, rfl⟩ : ∃ k, m = k + 1 := ⟨m - 1, by omega⟩
    obtain ⟨i, rfl, hi⟩ := hd
    exact sp_spoilt_int hb hb1 hi hs h
  | succ n ih =>
    intro d o m P hd hs hm h
    obtain ⟨m, rfl⟩ : ∃ k, m = k + 1 := ⟨m - 1, by omega⟩
    rcases hd with ⟨i, rfl, hi⟩ | ⟨xs, rfl, hl, hx⟩
    · exact sp_spoilt_int hb hb1 hi hs h
    · have hpl : PyData.plainAll xs = true := plainAll_of fun x h => (Br.plain (hx x h)).1
      have shX : ∀ x ∈ xs, ShN (n + 4) (Wd n) x := fun x h => (Br.sh (by omega) (hx x h)).mono (by omega) (Nat.le_refl _)
      have shO : ∀ d ∈ oddL, ShN (n + 4) (Wd n) d := fun d hd => (odd_sh d hd).mono (by omega) (Wd_ge n)
      have ibX : ∀ x ∈ xs, Ib (b + 1) x := fun x h => (hx x h).ib.mono (by omega)
      apply ct_in
      apply seq_hide; intro N_a h_a
      try simp
      apply h_a
      apply seq_hide; intro N_b h_b
      simp [hpl]
      cases xs with
      | nil =>
        try simp
        apply sp_odd hs
        intro d o3 hd s3
        try simp
        exact h _ _ ((odd_sh d hd).mono (by omega) (Wd_ge _)) (odd_ib (by omega) d hd) s3
      | cons x0 xr =>
        generalize hxs : x0 :: xr = xs at *
        have hne : PyData.eqvAll xs [] = false := by rw [← hxs]; simp [PyData.eqvAll]
        have hpos : 0 < xs.length := by rw [← hxs]; simp
        clear hxs
        simp [hne]
        apply h_b
        apply seq_hide; intro N_c h_c
        try simp
        apply sp_take hs (by omega) (Sm.of (by omega) (by omega))
        intro r o2 r0 r1 s2
        try simp
        apply sp_take s2 (by decide) (Sm.of (by decide) (by decide))
        intro r3 o3 p3 q3 s3
        try simp
        obtain ⟨k, rfl⟩ : ∃ k : Nat, r = (k : Int) := ⟨r.toNat, by omega⟩
        have hk : k < xs.length := by omega
        apply h_c
        apply seq_hide; intro N_e h_e
        try simp
        by_cases h3 : 3 < r3
        · have h3' : ¬ r3 ≤ 3 := by omega
          simp [h3, h3', cut_k, cut_k1]
          refine ⟨xs[k], atI_get hk, ?_⟩
          apply ih (hx _ (List.getElem_mem hk)) s3 (by omega)
          intro d o4 hd hib s4
          simp [cut_k1]
          refine ⟨by omega, by omega, ?_⟩
          have := spl_sh (k := k) (ys := [d]) hl (by simp) shX fun x hx => by rw [List.mem_singleton.mp hx]; exact hd
          simp at this
          exact h _ _ this (spl_ib ibX fun y hy => by rw [List.mem_singleton.mp hy]; exact hib) s4
        · have h3' : r3 ≤ 3 := by omega
          simp [h3, h3']
          apply h_e
          apply seq_hide; intro N_f h_f
          try simp
          by_cases h0 : r3 = 0
          · simp [h0]
            apply sp_take s3 (by decide) (Sm.of (by decide) (by decide))
            intro r4 o4 p4 q4 s4
            try simp
            refine pick p4 (by simpa using q4) ?_
            intro d hd
            suffices z : ShN (n + 1 + 4) (Wd (n + 1)) d ∧ Ib (b + 1) d from h _ _ z.1 z.2 s4
            have h5 : xs.length * (Wd n + 2) ≤ 5 * (Wd n + 2) := Nat.mul_le_mul_right _ hl
            have shT : ShN (n + 1) (5 * (Wd n + 2) + 10) (.tuple xs) := (ShN.tuple fun x h => Br.sh (b := b) (by omega) (hx x h)).mono (Nat.le_refl _) (by omega)
            have hw : xs.length * (Wd n + 2) + 10 ≤ Wd (n + 1) := by
              have : xs.length * (Wd n + 2) ≤ 8 * (Wd n + 2) := Nat.mul_le_mul_right _ (by omega)
              show _ ≤ 8 * (Wd n + 2) + 10
              omega
            simp at hd
            rcases hd with rfl | rfl | rfl
            · exact ⟨(ShN.list shX).mono (Nat.le_refl _) hw, .lst ibX⟩
            · refine ⟨(ShN.tuple (xs := xs.reverse) fun x hx => shX x (List.mem_reverse.mp hx)).mono (Nat.le_refl _) ?_, .tup fun x hx => ibX x (List.mem_reverse.mp hx)⟩
              rw [List.length_reverse]
              exact hw
            · refine ⟨(ShN.tuple (k := n + 1) (w := 5 * (Wd n + 2) + 10) (xs := [.tuple xs]) fun x hx => by rw [List.mem_singleton.mp hx]; exact shT).mono (by omega) ?_, .tup (ib_all (.tup ibX) ib_nil)⟩
              have := Wd_ge n
              show 1 * (5 * (Wd n + 2) + 10 + 2) + 10 ≤ 8 * (Wd n + 2) + 10
              omega
          · simp [h0]
            apply h_f
            simp [cut_k, cut_k1]
            apply sp_odd s3
            intro d o4 hd s4
            try simp
            refine ⟨xs[k], atI_get hk, xs[k], atI_get hk, ?_⟩
            refine pick (by omega) (by simp; omega) ?_
            intro e he
            have shK : ShN (n + 4) (Wd n) xs[k] := shX _ (List.getElem_mem hk)
            have fin : ∀ ys : List D, ys.length ≤ 2 → (∀ x ∈ ys, ShN (n + 4) (Wd n) x) → (∀ x ∈ ys, Ib (b + 1) x) → gAdd (.tuple (List.take k xs)) (.tuple ys) fun c => c.isSc = false ∧ gAdd c.toD (.tuple (Sw.cutD xs (some ((k : Int) + 1)) none)) fun c => P c [o4] := by
              intro ys hy1 hy2 hy3
              have z := spl_sh (k := k) (ys := ys) hl hy1 shX hy2
              simp [cut_k1]
              refine ⟨by omega, by omega, ?_⟩
              simp at z
              exact h _ _ z (spl_ib ibX hy3) s4
            simp at he
            rcases he with rfl | rfl | rfl
            · exact fin [] (by simp) (fun x hx => by cases hx) ib_nil
            · exact fin [d] (by simp) (fun x hx => by rw [List.mem_singleton.mp hx]; exact shO d hd) (ib_all (odd_ib (by omega) d hd) ib_nil)
            · exact fin [xs[k], xs[k]] (by simp) (fun x hx => by
                simp at hx
                rw [hx]
                exact shK) (ib_all (ibX _ (List.getElem_mem hk)) (ib_all (ibX _ (List.getElem_mem hk)) ib_nil))
end
end SwLaw

namespace SwLaw
open PySem PySem.Spec PyProof.Rows L2 Sw
section
variable {P : Sw.Cl → List OD → Prop} {Y : XP}
theorem sh_i {i : Int} {k : Nat} (h : -1 ≤ i) (h2 : i ≤ 100) : ShN k 1930 (.int i) := ShN.int (b := 7) (Sm.of (by omega) (by omega)) (by decide)
theorem sh_T {k w : Nat} {xs : List D} (h : ∀ x ∈ xs, ShN k w x) (hl : xs.length ≤ 5) : ShN (k + 1) (5 * (w + 2) + 10) (.tuple xs) := (ShN.tuple h).mono (Nat.le_refl _) (by have := Nat.mul_le_mul_right (w + 2) hl; omega)
theorem sh_L {k w : Nat} {xs : List D} (h : ∀ x ∈ xs, ShN k w x) (hl : xs.length ≤ 5) : ShN (k + 1) (5 * (w + 2) + 10) (.list xs) := (ShN.list h).mono (Nat.le_refl _) (by have := Nat.mul_le_mul_right (w + 2) hl; omega)
theorem sh_O {c : Cla} (ok : c.Ok) : ShN 1 9670 c.d := by
  have f2 := ok.f2
  have s2 := ok.s2
  have z2 := ok.z2
  unfold Cla.d
  refine sh_T (k := 0) (w := 1930) (fun x hx => ?_) (by simp)
  simp only [List.mem_cons, List.not_mem_nil, or_false] at hx
  rcases hx with rfl | rfl | rfl <;> exact sh_i (by omega) (by omega)
theorem sh_S {a b c : D} {os : List D} (ha : ShN 2 48370 a) (hb : ShN 2 48370 b) (hc : ShN 2 48370 c) (hos : ∀ o ∈ os, ShN 1 9670 o) (hl : os.length ≤ 5) : ShN 4 300000 (.tuple [a, b, c, .tuple os]) := by
  refine (sh_T (k := 2) (w := 48370) (fun x hx => ?_) (by simp)).mono (by decide) (by decide)
  simp only [List.mem_cons, List.not_mem_nil, or_false] at hx
  rcases hx with rfl | rfl | rfl | rfl
  · exact ha
  · exact hb
  · exact hc
  · exact sh_T hos hl
theorem sh_all {k w : Nat} {xs : List D} (h : ∀ x ∈ xs, ShN k w x) {x : D} (hx : ShN k w x) : ∀ y ∈ x :: xs, ShN k w y := fun y hy => by
  rcases List.mem_cons.mp hy with rfl | hy
  · exact hx
  · exact h y hy
theorem sh_nil {k w : Nat} : ∀ y ∈ ([] : List D), ShN k w y := fun y hy => by cases hy
theorem sh_T' {k w : Nat} {xs : List D} (h : ∀ x ∈ xs, ShN k w x) (hl : xs.length ≤ 5) {k' w' : Nat} (hk : k + 1 ≤ k') (hw : 5 * (w + 2) + 10 ≤ w') : ShN k' w' (.tuple xs) := (sh_T h hl).mono hk hw
theorem sh_L' {k w : Nat} {xs : List D} (h : ∀ x ∈ xs, ShN k w x) (hl : xs.length ≤ 5) {k' w' : Nat} (hk : k + 1 ≤ k') (hw : 5 * (w + 2) + 10 ≤ w') : ShN k' w' (.list xs) := (sh_L h hl).mono hk hw
theorem sh_i' {i : Int} {k w : Nat} (h : -1 ≤ i) (h2 : i ≤ 100) (hw : 1930 ≤ w := by decide) : ShN k w (.int i) := (sh_i h h2).mono (Nat.le_refl _) hw
theorem sh_n' {k w : Nat} (hw : 10 ≤ w := by decide) : ShN k w .none := ShN.none.mono (Nat.le_refl _) hw
theorem sh_b' {k w : Nat} {b : Bool} (hw : 10 ≤ w := by decide) : ShN k w (.bool b) := ShN.bool.mono (Nat.le_refl _) hw
end
end SwLaw

namespace SwLaw
open PySem PySem.Spec PyProof.Rows L2 Sw
section
variable {P : Sw.Cl → List OD → Prop} {Y : XP}
theorem sal_sh {S : Sal} (ok : S.Ok) : ShN 4 300000 S.d := by
  have n12 := ok.n
  have t12 := ok.t
  have m2 := ok.m2
  have c2 := ok.c2
  refine sh_S (sh_i' (by omega) (by omega)) (sh_i' (by omega) (by omega)) (sh_i' (by omega) (by omega)) (fun o ho => ?_) (by simp; omega)
  obtain ⟨c, hc, rfl⟩ := List.mem_map.mp ho
  exact sh_O (ok.cs c hc)
end
end SwLaw

namespace SwLaw
open PySem PySem.Spec PyProof.Rows L2 Sw
section
variable {P : Sw.Cl → List OD → Prop} {Y : XP}
theorem sal_br {S : Sal} (ok : S.Ok) : Br 100 3 S.d := by
  have n12 := ok.n
  have t12 := ok.t
  have m2 := ok.m2
  have e20 : (2 : Nat) ^ 20 = 1048576 := by decide
  have hS : ∀ i : Nat, i ≤ 1000 → Sm 100 (i : Int) := fun i hi => (Sm.nat (k := 20) (by omega)).mono (by decide)
  refine .inr ⟨_, rfl, by simp, fun x hx => ?_⟩
  simp only [List.mem_cons, List.not_mem_nil, or_false] at hx
  rcases hx with rfl | rfl | rfl | rfl
  · exact .inl ⟨_, rfl, hS _ (by omega)⟩
  · exact .inl ⟨_, rfl, hS _ (by omega)⟩
  · exact .inl ⟨_, rfl, hS _ (by omega)⟩
  · refine .inr ⟨_, rfl, by simp; have := ok.c2; omega, fun y hy => ?_⟩
    obtain ⟨c, hc, rfl⟩ := List.mem_map.mp hy
    have okc := ok.cs c hc
    have f2 := okc.f2
    have s2 := okc.s2
    have z2 := okc.z2
    refine .inr ⟨_, rfl, by simp, fun z hz => ?_⟩
    simp only [List.mem_cons, List.not_mem_nil, or_false] at hz
    rcases hz with rfl | rfl | rfl
    · exact ⟨_, rfl, hS _ (by omega)⟩
    · exact ⟨_, rfl, hS _ (by omega)⟩
    · exact ⟨_, rfl, hS _ (by omega)⟩
end
end SwLaw

namespace Sw
open PySem PySem.Spec PyProof.Rows L2
section
variable {P : Sw.Cl → List OD → Prop} {Y : XP}
theorem forL_cons {vs : List Nat} {t : Tg} {b : WS} {S : SK} {d : D} {ds : List D} {e : En} : forL vs t b S (d :: ds) e = asg t d e fun e2 => b e2 { S with nx := fun e3 => forL vs t b S ds (dropE e3 vs), ct := fun e3 => forL vs t b S ds (dropE e3 vs), bk := fun e3 => S.nx e3 } := rfl
theorem forL_nil {vs : List Nat} {t : Tg} {b : WS} {S : SK} {e : En} : forL vs t b S [] e = S.nx e := rfl
theorem atI_last {xs : List D} {x : D} : L2.atI (xs ++ [x]) (-1) = some x := by
  unfold L2.atI ixN
  rw [if_neg (by omega), if_pos (by simp; omega)]
  have e : (-1 + ((xs ++ [x]).length : Int)).toNat = xs.length := by simp; omega
  show (xs ++ [x])[(-1 + ((xs ++ [x]).length : Int)).toNat]? = some x
  rw [e]
  try simp
theorem enumS_get {k : Int} {xs : List D} {i : Nat} (hi : i < (enumS k xs).length) (hx : i < xs.length) : (enumS k xs)[i] = .tuple [.int (k + (i : Int)), xs[i]] := by
  simp [enumS]
theorem blank_len : ((Str.ofString " ").length == 0) = false := by decide +kernel
theorem enumD_S (l : List D) : enumD l = enumS 0 l := by simp [enumD, enumS]
theorem enumS_c (k : Int) (a : D) (l : List D) : enumS k (a :: l) = .tuple [.int k, a] :: enumS (k + 1) l := by
  unfold enumS
  rw [List.zipIdx_cons, List.map_cons, List.zipIdx_succ, List.map_map]
  congr 1
  · try simp
  · apply List.map_congr_left
    intro x _
    try simp
    omega
theorem enumS_n (k : Int) : enumS k [] = [] := rfl
theorem eqv_nil (l : List D) : PyData.eqvAll l [] = l.isEmpty := by cases l <;> simp
theorem ite_no {c : Prop} [i : Decidable c] {a b : Prop} (hc : ¬ c) (h : b) : if c then a else b := by rw [if_neg hc]; exact h
theorem ite_yes {c : Prop} [i : Decidable c] {a b : Prop} (hc : c) (h : a) : if c then a else b := by rw [if_pos hc]; exact h
end
end Sw

namespace SwLaw
open PySem PySem.Spec PyProof.Rows L2 Sw
section
variable {P : Sw.Cl → List OD → Prop} {Y : XP}
theorem rep_plain : PyData.plain (Cl.ow (.lst (List.replicate 19 (.tuple [.str "sale"])))).toD = true := by decide +kernel
theorem rep_depth : min (PyData.depth (Cl.ow (.lst (List.replicate 19 (.tuple [.str "sale"])))).toD) 2 ≤ 60 := by decide +kernel
theorem rep_eqv : PyData.eqv (Cl.ow (.lst (List.replicate 19 (.tuple [.str "sale"])))).toD (.list (List.replicate 19 (.tuple [.str "sale"]))) = true := by decide +kernel
theorem law_ok {ns : List Int} (hn : ns.length ≤ 63) (h : P (.fz (.bool true)) []) : C_law [.sc ns] P Y := by
  apply ct_in
  unfold w_law
  apply seq_hide; intro N_a h_a
  try simp
  repeat (refine ⟨by omega, ?_⟩)
  apply forL_map (en := fun k : Nat => .int (k : Int)) (fun i e => e = [some (.sc ns), none, none, none, none, none, none, none])
  rotate_left
  · rintro e rfl
    apply h_a
    try simp
    exact h
  · try simp
  rintro i hi e N rfl hN
  have hi : i < 4 := by simp at hi; omega
  simp only [asg_nm]; refine ⟨by simp, ?_⟩
  apply seq_hide; intro N_b h_b
  try simp
  refine sp_state (k := i) ?_
  intro o s1
  try simp
  apply h_b
  apply seq_hide; intro N_c h_c
  try simp
  refine sp_sale (n := 12) (t := 12) (z := 4) s1 (by decide) (by decide) (by decide) (by decide) ?_
  intro S o1 s2 ok hSn hSt hSz
  try simp
  have shS := sal_sh ok
  have brS := sal_br ok
  have eS : S.d = .tuple [.int (S.n : Int), .int (S.t : Int), .int (S.m : Int), .tuple (S.cs.map Cla.d)] := rfl
  apply h_c
  apply seq_hide; intro N_d h_d
  simp [eS]
  have c3 : ∀ x y z u : D, Sw.cutD [x, y, z, u] none (some 3) = [x, y, z] := fun x y z u => by
    have := cut_to (xs := [x, y, z, u]) (k := 3)
    simpa using this
  rw [cut_c1, c3]
  refine ⟨by simp, ?_⟩
  apply h_d
  apply seq_hide; intro N_e h_e
  try simp
  rw [c3]
  have c1 := ok.c1
  have c2 := ok.c2
  refine ⟨by simp, fun z => by rw [z] at c1; simp at c1, by omega, by simp, ?_⟩
  apply sp_odd s2
  intro od o2 hod s3
  try simp
  have n12 := ok.n
  have t12 := ok.t
  have m24 := ok.m2
  have eO : ∀ {k : Nat}, 3 ≤ k → ∀ x ∈ ([.int (S.n : Int), .int (S.t : Int), .int (S.m : Int), .tuple (S.cs.map Cla.d)] : List D), ShN k 200000 x := fun {k} hk x hx => by
    simp only [List.mem_cons, List.not_mem_nil, or_false] at hx
    rcases hx with rfl | rfl | rfl | rfl
    · exact sh_i' (by omega) (by omega)
    · exact sh_i' (by omega) (by omega)
    · exact sh_i' (by omega) (by omega)
    · exact sh_T' (k := 1) (w := 9670) (fun y hy => by
        obtain ⟨c, hc, rfl⟩ := List.mem_map.mp hy
        exact sh_O (ok.cs c hc)) (by simp; omega) (by omega) (by decide)
  have e5 : ShN 3 200000 (.tuple (S.cs.map Cla.d ++ (S.cs.map Cla.d ++ (S.cs.map Cla.d ++ (S.cs.map Cla.d ++ S.cs.map Cla.d))))) := by
    refine (ShN.tuple (k := 1) (w := 9670) fun y hy => ?_).mono (by decide) ?_
    · have : y ∈ S.cs.map Cla.d := by
        simp only [List.mem_append] at hy
        rcases hy with hy | hy | hy | hy | hy <;> exact hy
      obtain ⟨c, hc, rfl⟩ := List.mem_map.mp this
      exact sh_O (ok.cs c hc)
    · try simp
      omega
  generalize PyData.tuple (S.cs.map Cla.d ++ (S.cs.map Cla.d ++ (S.cs.map Cla.d ++ (S.cs.map Cla.d ++ S.cs.map Cla.d)))) = d5 at e5 ⊢
  have o3 := eO (k := 6) (by decide)
  have hall : ∀ x ∈ ([.none, .list [.int (S.n : Int), .int (S.t : Int), .int (S.m : Int), .tuple (S.cs.map Cla.d)], .tuple [.int (S.n : Int), .int (S.t : Int), .int (S.m : Int)], .tuple [.int (S.n : Int), .int (S.t : Int), .int (S.m : Int), .tuple (S.cs.map Cla.d), .int 1], .tuple [.int 13, .int (S.t : Int), .int (S.m : Int), .tuple (S.cs.map Cla.d)], .tuple [], .str "1 1 1 1/1/1", .tuple [.bool true, .int (S.t : Int), .int (S.m : Int), .tuple (S.cs.map Cla.d)], .tuple [.int (S.n : Int), .int (S.t : Int), .int (S.m : Int), .tuple []], .tuple [.int (S.n : Int), .int (S.t : Int), .int (S.m : Int), d5], od] : List D), ShN 7 3000000 x := fun x hx => by
    have sn := o3 (.int (S.n : Int)) (by simp)
    have st := o3 (.int (S.t : Int)) (by simp)
    have sm := o3 (.int (S.m : Int)) (by simp)
    have so := o3 (.tuple (S.cs.map Cla.d)) (by simp)
    have i1 : ShN 6 200000 (.int 1) := sh_i' (by decide) (by decide)
    have i13 : ShN 6 200000 (.int 13) := sh_i' (by decide) (by decide)
    have b1 : ShN 6 200000 (.bool true) := sh_b'
    have t0 : ShN 6 200000 (.tuple []) := sh_T' (k := 1) (w := 100) (fun y hy => by cases hy) (by simp) (by decide) (by decide)
    simp only [List.mem_cons, List.not_mem_nil, or_false] at hx
    rcases hx with rfl | rfl | rfl | rfl | rfl | rfl | rfl | rfl | rfl | rfl | rfl
    · exact sh_n'
    · exact sh_L' (sh_all (sh_all (sh_all (sh_all sh_nil so) sm) st) sn) (by simp) (by decide) (by decide)
    · exact sh_T' (sh_all (sh_all (sh_all sh_nil sm) st) sn) (by simp) (by decide) (by decide)
    · exact sh_T' (sh_all (sh_all (sh_all (sh_all (sh_all sh_nil i1) so) sm) st) sn) (by simp) (by decide) (by decide)
    · exact sh_T' (sh_all (sh_all (sh_all (sh_all sh_nil so) sm) st) i13) (by simp) (by decide) (by decide)
    · exact t0.mono (by decide) (by decide)
    · have s1 : ShN 4 4000 (.str "1 1 1 1/1/1") := ⟨by rfl, by decide +kernel, by decide +kernel, by decide +kernel⟩
      exact s1.mono (by decide) (by decide)
    · exact sh_T' (sh_all (sh_all (sh_all (sh_all sh_nil so) sm) st) b1) (by simp) (by decide) (by decide)
    · exact sh_T' (sh_all (sh_all (sh_all (sh_all sh_nil t0) sm) st) sn) (by simp) (by decide) (by decide)
    · exact sh_T' (sh_all (sh_all (sh_all (sh_all sh_nil (e5.mono (by decide) (by decide))) sm) st) sn) (by simp) (by decide) (by decide)
    · exact (odd_sh _ hod).mono (by decide) (by decide)
  have hlen : ([.none, .list [.int (S.n : Int), .int (S.t : Int), .int (S.m : Int), .tuple (S.cs.map Cla.d)], .tuple [.int (S.n : Int), .int (S.t : Int), .int (S.m : Int)], .tuple [.int (S.n : Int), .int (S.t : Int), .int (S.m : Int), .tuple (S.cs.map Cla.d), .int 1], .tuple [.int 13, .int (S.t : Int), .int (S.m : Int), .tuple (S.cs.map Cla.d)], .tuple [], .str "1 1 1 1/1/1", .tuple [.bool true, .int (S.t : Int), .int (S.m : Int), .tuple (S.cs.map Cla.d)], .tuple [.int (S.n : Int), .int (S.t : Int), .int (S.m : Int), .tuple []], .tuple [.int (S.n : Int), .int (S.t : Int), .int (S.m : Int), d5], od] : List D).length = 11 := rfl
  generalize ([.none, .list [.int (S.n : Int), .int (S.t : Int), .int (S.m : Int), .tuple (S.cs.map Cla.d)], .tuple [.int (S.n : Int), .int (S.t : Int), .int (S.m : Int)], .tuple [.int (S.n : Int), .int (S.t : Int), .int (S.m : Int), .tuple (S.cs.map Cla.d), .int 1], .tuple [.int 13, .int (S.t : Int), .int (S.m : Int), .tuple (S.cs.map Cla.d)], .tuple [], .str "1 1 1 1/1/1", .tuple [.bool true, .int (S.t : Int), .int (S.m : Int), .tuple (S.cs.map Cla.d)], .tuple [.int (S.n : Int), .int (S.t : Int), .int (S.m : Int), .tuple []], .tuple [.int (S.n : Int), .int (S.t : Int), .int (S.m : Int), d5], od] : List D) = ts at hall hlen ⊢
  apply h_e
  try simp
  rw [← eS]
  apply compL_idx (fun j acc e => acc.length = j ∧ (∀ x ∈ acc, ShN 7 3000000 x) ∧ ∃ o', StD o' ∧ e = [some (.sc ns), some (.fz (.int ((i : Int)))), some (.ow (o')), some (.fz (S.d)), some (.fz (.list (ts))), none, none, none])
  · rintro j hj acc e N2 ⟨hl, ha, o', s', rfl⟩ hN2
    have hj : j < 10 := by simpa using hj
    simp only [asg_nm]; refine ⟨by simp, ?_⟩
    simp [tsW]
    apply sp_spoilt (b := 100) (by decide) (by decide) 3 brS s' (by decide)
    intro d' o'' h1 _ s''
    try simp
    refine ⟨by omega, ?_⟩
    apply hN2
    refine ⟨by simp [hl], fun x hx => ?_, o'', s'', by simp⟩
    rcases List.mem_append.mp hx with hx | hx
    · exact ha x hx
    · cases List.mem_singleton.mp hx
      exact h1.mono (by decide) (by decide)
  · rintro acc e ⟨hl, ha, o', s', rfl⟩
    have hl : acc.length = 10 := by simpa using hl
    try simp
    refine ⟨by omega, ?_⟩
    have hall2 : ∀ x ∈ ts ++ acc, ShN 7 3000000 x := fun x hx => by
      rcases List.mem_append.mp hx with hx | hx
      · exact hall x hx
      · exact ha x hx
    generalize ts ++ acc = us at hall2 ⊢
    apply forL_idx (fun _ e => e = [some (.sc ns), some (.fz (.int ((i : Int)))), some (.ow (o')), some (.fz (S.d)), some (.fz (.list (ts))), none, none, none])
    · rintro j hj e N3 rfl hN3
      have sh := hall2 _ (List.getElem_mem hj)
      generalize us[j] = x at *
      simp only [asg_nm]; refine ⟨by simp, ?_⟩
      apply seq_hide; intro N_f h_f
      try simp
      apply gReprN_ok sh (by decide) (by decide)
      try simp
      apply h_f
      try simp
      apply sp_law_is_sale
      cases hs : isSaleD x with
      | true =>
        try simp
        apply hN3
        try simp
      | false =>
        try simp
        apply sp_law_words hs
        refine ⟨rfl, ⟨rep_plain, rep_depth⟩, .inl ⟨rep_eqv, ?_⟩⟩
        apply gReprN_ok sh (by decide) (by decide)
        try simp
        apply hN3
        try simp
    · rintro e rfl
      apply hN
      try simp
    · try simp
  · exact ⟨rfl, fun x hx => (by cases hx), o2, s3, rfl⟩
end
end SwLaw

namespace SwLaw
open PySem PySem.Spec PyProof.Rows L2 Sw
/-! ### what the top says -/
structure Tb (K : PySem.W.Frag) (mg : Str → Option Value) where
  a_is_whole : Addr
  d_is_whole : FuncData
  F_is_whole : FunD K "is_whole" "is_whole" (defArgs s_is_whole) (defBody s_is_whole) (defScope s_is_whole) [] [] a_is_whole d_is_whole
  g_is_whole : mg "is_whole" = some (.ref a_is_whole)
  a_is_from : Addr
  d_is_from : FuncData
  F_is_from : FunD K "is_from" "is_from" (defArgs s_is_from) (defBody s_is_from) (defScope s_is_from) [] [] a_is_from d_is_from
  g_is_from : mg "is_from" = some (.ref a_is_from)
  a_is_among : Addr
  d_is_among : FuncData
  F_is_among : FunD K "is_among" "is_among" (defArgs s_is_among) (defBody s_is_among) (defScope s_is_among) [] [] a_is_among d_is_among
  g_is_among : mg "is_among" = some (.ref a_is_among)
  a_is_offer : Addr
  d_is_offer : FuncData
  F_is_offer : FunD K "is_offer" "is_offer" (defArgs s_is_offer) (defBody s_is_offer) (defScope s_is_offer) [] [] a_is_offer d_is_offer
  g_is_offer : mg "is_offer" = some (.ref a_is_offer)
  a_is_sale : Addr
  d_is_sale : FuncData
  F_is_sale : FunD K "is_sale" "is_sale" (defArgs s_is_sale) (defBody s_is_sale) (defScope s_is_sale) [] [] a_is_sale d_is_sale
  g_is_sale : mg "is_sale" = some (.ref a_is_sale)
  a_need_sale : Addr
  d_need_sale : FuncData
  F_need_sale : FunD K "need_sale" "need_sale" (defArgs s_need_sale) (defBody s_need_sale) (defScope s_need_sale) [] [] a_need_sale d_need_sale
  g_need_sale : mg "need_sale" = some (.ref a_need_sale)
  a_worth : Addr
  d_worth : FuncData
  F_worth : FunD K "worth" "worth" (defArgs s_worth) (defBody s_worth) (defScope s_worth) [] [] a_worth d_worth
  g_worth : mg "worth" = some (.ref a_worth)
  n_worth : PySem.W.nsIn K mainGlobals "worth" = some (some (.ref a_worth))
  a_worths : Addr
  d_worths : FuncData
  F_worths : FunD K "worths" "worths" (defArgs s_worths) (defBody s_worths) (defScope s_worths) [] [] a_worths d_worths
  g_worths : mg "worths" = some (.ref a_worths)
  n_worths : PySem.W.nsIn K mainGlobals "worths" = some (some (.ref a_worths))
  a_opened : Addr
  d_opened : FuncData
  F_opened : FunD K "opened" "opened" (defArgs s_opened) (defBody s_opened) (defScope s_opened) [] [] a_opened d_opened
  g_opened : mg "opened" = some (.ref a_opened)
  n_opened : PySem.W.nsIn K mainGlobals "opened" = some (some (.ref a_opened))
  a_seat_worth : Addr
  d_seat_worth : FuncData
  F_seat_worth : FunD K "seat_worth" "seat_worth" (defArgs s_seat_worth) (defBody s_seat_worth) (defScope s_seat_worth) [] [] a_seat_worth d_seat_worth
  g_seat_worth : mg "seat_worth" = some (.ref a_seat_worth)
  n_seat_worth : PySem.W.nsIn K mainGlobals "seat_worth" = some (some (.ref a_seat_worth))
  a_mark : Addr
  d_mark : FuncData
  F_mark : FunD K "mark" "mark" (defArgs s_mark) (defBody s_mark) (defScope s_mark) [] [] a_mark d_mark
  g_mark : mg "mark" = some (.ref a_mark)
  n_mark : PySem.W.nsIn K mainGlobals "mark" = some (some (.ref a_mark))
  a_amends_mean : Addr
  d_amends_mean : FuncData
  F_amends_mean : FunD K "amends_mean" "amends_mean" (defArgs s_amends_mean) (defBody s_amends_mean) (defScope s_amends_mean) [] [("show", .ref (kwdAt "amends_mean" "show" K)), ("amends", .int 0)] a_amends_mean d_amends_mean
  g_amends_mean : mg "amends_mean" = some (.ref a_amends_mean)
  n_amends_mean : PySem.W.nsIn K mainGlobals "amends_mean" = some (some (.ref a_amends_mean))
  a_worth_oversold : Addr
  d_worth_oversold : FuncData
  F_worth_oversold : FunD K "worth_oversold" "worth_oversold" (defArgs s_worth_oversold) (defBody s_worth_oversold) (defScope s_worth_oversold) [] [("show", .ref (kwdAt "worth_oversold" "show" K)), ("amends", .int 0)] a_worth_oversold d_worth_oversold
  g_worth_oversold : mg "worth_oversold" = some (.ref a_worth_oversold)
  n_worth_oversold : PySem.W.nsIn K mainGlobals "worth_oversold" = some (some (.ref a_worth_oversold))
  a_least_limit : Addr
  d_least_limit : FuncData
  F_least_limit : FunD K "least_limit" "least_limit" (defArgs s_least_limit) (defBody s_least_limit) (defScope s_least_limit) [] [("show", .ref (kwdAt "least_limit" "show" K)), ("amends", .int 0)] a_least_limit d_least_limit
  g_least_limit : mg "least_limit" = some (.ref a_least_limit)
  a_is_plan : Addr
  d_is_plan : FuncData
  F_is_plan : FunD K "is_plan" "is_plan" (defArgs s_is_plan) (defBody s_is_plan) (defScope s_is_plan) [] [] a_is_plan d_is_plan
  g_is_plan : mg "is_plan" = some (.ref a_is_plan)
  n_is_plan : PySem.W.nsIn K mainGlobals "is_plan" = some (some (.ref a_is_plan))
  a_plan_worth : Addr
  d_plan_worth : FuncData
  F_plan_worth : FunD K "plan_worth" "plan_worth" (defArgs s_plan_worth) (defBody s_plan_worth) (defScope s_plan_worth) [] [] a_plan_worth d_plan_worth
  g_plan_worth : mg "plan_worth" = some (.ref a_plan_worth)
  n_plan_worth : PySem.W.nsIn K mainGlobals "plan_worth" = some (some (.ref a_plan_worth))
  a_best_plan : Addr
  d_best_plan : FuncData
  F_best_plan : FunD K "best_plan" "best_plan" (defArgs s_best_plan) (defBody s_best_plan) (defScope s_best_plan) [] [] a_best_plan d_best_plan
  g_best_plan : mg "best_plan" = some (.ref a_best_plan)
  n_best_plan : PySem.W.nsIn K mainGlobals "best_plan" = some (some (.ref a_best_plan))
  a_is_run : Addr
  d_is_run : FuncData
  F_is_run : FunD K "is_run" "is_run" (defArgs s_is_run) (defBody s_is_run) (defScope s_is_run) [] [] a_is_run d_is_run
  g_is_run : mg "is_run" = some (.ref a_is_run)
  n_is_run : PySem.W.nsIn K mainGlobals "is_run" = some (some (.ref a_is_run))
  a_run_cases : Addr
  d_run_cases : FuncData
  F_run_cases : FunD K "run_cases" "run_cases" (defArgs s_run_cases) (defBody s_run_cases) (defScope s_run_cases) [] [] a_run_cases d_run_cases
  g_run_cases : mg "run_cases" = some (.ref a_run_cases)
  n_run_cases : PySem.W.nsIn K mainGlobals "run_cases" = some (some (.ref a_run_cases))
  a_money : Addr
  d_money : FuncData
  F_money : FunD K "money" "money" (defArgs s_money) (defBody s_money) (defScope s_money) [] [] a_money d_money
  g_money : mg "money" = some (.ref a_money)
  n_money : PySem.W.nsIn K mainGlobals "money" = some (some (.ref a_money))
  a_shortfall : Addr
  d_shortfall : FuncData
  F_shortfall : FunD K "shortfall" "shortfall" (defArgs s_shortfall) (defBody s_shortfall) (defScope s_shortfall) [] [] a_shortfall d_shortfall
  g_shortfall : mg "shortfall" = some (.ref a_shortfall)
  n_shortfall : PySem.W.nsIn K mainGlobals "shortfall" = some (some (.ref a_shortfall))
  a_over_bound : Addr
  d_over_bound : FuncData
  F_over_bound : FunD K "over_bound" "over_bound" (defArgs s_over_bound) (defBody s_over_bound) (defScope s_over_bound) [] [] a_over_bound d_over_bound
  g_over_bound : mg "over_bound" = some (.ref a_over_bound)
  n_over_bound : PySem.W.nsIn K mainGlobals "over_bound" = some (some (.ref a_over_bound))
  a_under_bound : Addr
  d_under_bound : FuncData
  F_under_bound : FunD K "under_bound" "under_bound" (defArgs s_under_bound) (defBody s_under_bound) (defScope s_under_bound) [] [] a_under_bound d_under_bound
  g_under_bound : mg "under_bound" = some (.ref a_under_bound)
  n_under_bound : PySem.W.nsIn K mainGlobals "under_bound" = some (some (.ref a_under_bound))
  a_sale_text : Addr
  d_sale_text : FuncData
  F_sale_text : FunD K "sale_text" "sale_text" (defArgs s_sale_text) (defBody s_sale_text) (defScope s_sale_text) [] [] a_sale_text d_sale_text
  g_sale_text : mg "sale_text" = some (.ref a_sale_text)
  n_sale_text : PySem.W.nsIn K mainGlobals "sale_text" = some (some (.ref a_sale_text))
  a_law_cell_at : Addr
  d_law_cell_at : FuncData
  F_law_cell_at : FunD K "_law_cell_at" "_law_cell_at" (defArgs s_law_cell_at) (defBody s_law_cell_at) (defScope s_law_cell_at) [] [] a_law_cell_at d_law_cell_at
  g_law_cell_at : mg "_law_cell_at" = some (.ref a_law_cell_at)
  a_law_state : Addr
  d_law_state : FuncData
  F_law_state : FunD K "_law_state" "_law_state" (defArgs s_law_state) (defBody s_law_state) (defScope s_law_state) [] [] a_law_state d_law_state
  g_law_state : mg "_law_state" = some (.ref a_law_state)
  a_law_take : Addr
  d_law_take : FuncData
  F_law_take : FunD K "_law_take" "_law_take" (defArgs s_law_take) (defBody s_law_take) (defScope s_law_take) [] [] a_law_take d_law_take
  g_law_take : mg "_law_take" = some (.ref a_law_take)
  a_law_marks : Addr
  d_law_marks : FuncData
  F_law_marks : FunD K "_law_marks" "_law_marks" (defArgs s_law_marks) (defBody s_law_marks) (defScope s_law_marks) [] [] a_law_marks d_law_marks
  g_law_marks : mg "_law_marks" = some (.ref a_law_marks)
  a_law_word : Addr
  d_law_word : FuncData
  F_law_word : FunD K "_law_word" "_law_word" (defArgs s_law_word) (defBody s_law_word) (defScope s_law_word) [] [] a_law_word d_law_word
  g_law_word : mg "_law_word" = some (.ref a_law_word)
  a_law_said : Addr
  d_law_said : FuncData
  F_law_said : FunD K "_law_said" "_law_said" (defArgs s_law_said) (defBody s_law_said) (defScope s_law_said) [] [] a_law_said d_law_said
  g_law_said : mg "_law_said" = some (.ref a_law_said)
  a_law_number : Addr
  d_law_number : FuncData
  F_law_number : FunD K "_law_number" "_law_number" (defArgs s_law_number) (defBody s_law_number) (defScope s_law_number) [] [] a_law_number d_law_number
  g_law_number : mg "_law_number" = some (.ref a_law_number)
  a_law_odd : Addr
  d_law_odd : FuncData
  F_law_odd : FunD K "_law_odd" "_law_odd" (defArgs s_law_odd) (defBody s_law_odd) (defScope s_law_odd) [] [] a_law_odd d_law_odd
  g_law_odd : mg "_law_odd" = some (.ref a_law_odd)
  a_law_spoilt : Addr
  d_law_spoilt : FuncData
  F_law_spoilt : FunD K "_law_spoilt" "_law_spoilt" (defArgs s_law_spoilt) (defBody s_law_spoilt) (defScope s_law_spoilt) [] [] a_law_spoilt d_law_spoilt
  g_law_spoilt : mg "_law_spoilt" = some (.ref a_law_spoilt)
  a_law_sale : Addr
  d_law_sale : FuncData
  F_law_sale : FunD K "_law_sale" "_law_sale" (defArgs s_law_sale) (defBody s_law_sale) (defScope s_law_sale) [] [] a_law_sale d_law_sale
  g_law_sale : mg "_law_sale" = some (.ref a_law_sale)
  a_law_is_offer : Addr
  d_law_is_offer : FuncData
  F_law_is_offer : FunD K "_law_is_offer" "_law_is_offer" (defArgs s_law_is_offer) (defBody s_law_is_offer) (defScope s_law_is_offer) [] [] a_law_is_offer d_law_is_offer
  g_law_is_offer : mg "_law_is_offer" = some (.ref a_law_is_offer)
  a_law_is_sale : Addr
  d_law_is_sale : FuncData
  F_law_is_sale : FunD K "_law_is_sale" "_law_is_sale" (defArgs s_law_is_sale) (defBody s_law_is_sale) (defScope s_law_is_sale) [] [] a_law_is_sale d_law_is_sale
  g_law_is_sale : mg "_law_is_sale" = some (.ref a_law_is_sale)
  a_law_words : Addr
  d_law_words : FuncData
  F_law_words : FunD K "_law_words" "_law_words" (defArgs s_law_words) (defBody s_law_words) (defScope s_law_words) [] [] a_law_words d_law_words
  g_law_words : mg "_law_words" = some (.ref a_law_words)
  a_law : Addr
  d_law : FuncData
  F_law : FunD K "law" "law" (defArgs s_law) (defBody s_law) (defScope s_law) [] [] a_law d_law
  g_law : mg "law" = some (.ref a_law)
  a_Counter___init__ : Addr
  d_Counter___init__ : FuncData
  F_Counter___init__ : FunD K "__init__" "Counter.__init__" (defArgs s_Counter___init__) (defBody s_Counter___init__) (defScope s_Counter___init__) [] [] a_Counter___init__ d_Counter___init__
  c_NoSale : Addr
  g_NoSale : mg "NoSale" = some (.ref c_NoSale)
  e_NoSale : PySem.W.excIn K c_NoSale He.veBase "ValueError.__new__" = true ∧ PySem.W.keepIn K (.ref c_NoSale) = true ∧ PySem.W.subIn K (.ref c_NoSale) (.type "BaseException") = some true ∧ PySem.W.typeIn K (.ref c_NoSale) = some (.type "type")
  c_SeatError : Addr
  g_SeatError : mg "SeatError" = some (.ref c_SeatError)
  xf : XFact K mg exB rsL nsL "SeatError"
  k_MOST_SIZE : ∃ t, mg "MOST_SIZE" = some (.int 4 t)
  k_MOST_FARE : ∃ t, mg "MOST_FARE" = some (.int 99 t)
  k_MOST_CLASSES : ∃ t, mg "MOST_CLASSES" = some (.int 4 t)
  k_MOST_CASES_sales : ∃ t, mg "MOST_CASES_sales" = some (.int 24 t)
  k_MOST_PERIODS : ∃ t, mg "MOST_PERIODS" = some (.int 12 t)
  k_MOST_SEATS : ∃ t, mg "MOST_SEATS" = some (.int 12 t)
  b_isinstance : mg "isinstance" = none
  b_bool : mg "bool" = none
  b_int : mg "int" = none
  b_len : mg "len" = none
  b_max : mg "max" = none
  b_ValueError : mg "ValueError" = none
  b_tuple : mg "tuple" = none
  b_range : mg "range" = none
  b_sum : mg "sum" = none
  b_all : mg "all" = none
  b_list : mg "list" = none
  b_min : mg "min" = none
  b_repr : mg "repr" = none
  dk_amends_mean_show : ∀ F, Rep K F (.ref (kwdAt "amends_mean" "show" K)) (.tuple [.int 1, .int 1])
  dk_worth_oversold_show : ∀ F, Rep K F (.ref (kwdAt "worth_oversold" "show" K)) (.tuple [.int 1, .int 1])
  dk_least_limit_show : ∀ F, Rep K F (.ref (kwdAt "least_limit" "show" K)) (.tuple [.int 1, .int 1])
  kc_Counter : Addr
  g_Counter : mg "Counter" = some (.ref kc_Counter)
  n_Counter : clsN K "Counter" kc_Counter
  cl_Counter : Cls K kc_Counter
  na_Counter_own_sale : NoAttr K kc_Counter "own_sale"
  na_Counter_rows : NoAttr K kc_Counter "rows"
  na_Counter_own_came : NoAttr K kc_Counter "own_came"
  na_Counter_stood : NoAttr K kc_Counter "stood"
  mk_Counter : Mk K kc_Counter a_Counter___init__
/-! ### each def keeps its promise -/
section
variable {P : Program} {w : World} {K : PySem.W.Frag} {mg : Str → Option Value} {base : Heap}
theorem kb_least_limit_0 (T : Tb K mg) : ∃ mv : List Value, KBn K T.d_least_limit ["sale", "show", "amends"] 1 (["show", "amends"] : List Str) (fun us ws => pickL [0, 1, 2] (us ++ ws ++ mv)) (fun vs zs => pickL [0, 1, 2] (vs ++ zs ++ ([] : List V))) :=
  FunD.kbinds0 T.F_least_limit 1 ["show", "amends"] [] [0, 1, 2] (by intro z; cases z) (fun z hz => by cases hz) fun _ _ _ _ _ _ us mv ws h1 h2 h3 => match us, mv, ws, h1, h2, h3 with | [_], [], [_, _], _, _, _ => rfl
theorem kb_amends_mean_1 (T : Tb K mg) : ∃ mv : List Value, KBn K T.d_amends_mean ["sale", "sold", "show", "amends"] 2 (["show", "amends"] : List Str) (fun us ws => pickL [0, 1, 2, 3] (us ++ ws ++ mv)) (fun vs zs => pickL [0, 1, 2, 3] (vs ++ zs ++ ([] : List V))) :=
  FunD.kbinds0 T.F_amends_mean 2 ["show", "amends"] [] [0, 1, 2, 3] (by intro z; cases z) (fun z hz => by cases hz) fun _ _ _ _ _ _ us mv ws h1 h2 h3 => match us, mv, ws, h1, h2, h3 with | [_, _], [], [_, _], _, _, _ => rfl
theorem kb_worth_oversold_2 (T : Tb K mg) : ∃ mv : List Value, KBn K T.d_worth_oversold ["sale", "limit", "show", "amends"] 2 (["show", "amends"] : List Str) (fun us ws => pickL [0, 1, 2, 3] (us ++ ws ++ mv)) (fun vs zs => pickL [0, 1, 2, 3] (vs ++ zs ++ ([] : List V))) :=
  FunD.kbinds0 T.F_worth_oversold 2 ["show", "amends"] [] [0, 1, 2, 3] (by intro z; cases z) (fun z hz => by cases hz) fun _ _ _ _ _ _ us mv ws h1 h2 h3 => match us, mv, ws, h1, h2, h3 with | [_, _], [], [_, _], _, _, _ => rfl
theorem sc_is_whole : FnScope ["thing"] ["thing"] (defScope s_is_whole) := ⟨rfl, rfl, rfl, by decide +kernel, rfl, by decide +kernel, by decide +kernel⟩
theorem bd_is_whole (T : Tb K mg) : Binds K T.d_is_whole ["thing"] [] := T.F_is_whole.bindsN fun _ _ _ _ _ _ us hl => match us, hl with | [_], _ => rfl
theorem ok_is_whole (T : Tb K mg) (HB : TabsB K mg base) : FnOk P w K mg base (L2.CX P w) 1 T.a_is_whole T.d_is_whole ["thing"] (spOf K mg 1 C_is_whole) :=
  fn_ok T.F_is_whole sc_is_whole rfl rfl fun cdv A outer s H E hr tk po =>
  s_one (s_ret (g_and (pe_isi (k := .int) (g_r (i := 0) rfl (.inl rfl)) rfl T.b_isinstance rfl T.b_int rfl) (g_one (g_not (pe_isi (k := .bool) (g_r (i := 0) rfl (.inl rfl)) rfl T.b_isinstance rfl T.b_bool rfl)))))
theorem sc_law_cell_at : FnScope ["_law_script", "_law_k"] ["_law_script", "_law_k"] (defScope s_law_cell_at) := ⟨rfl, rfl, rfl, by decide +kernel, rfl, by decide +kernel, by decide +kernel⟩
theorem bd_law_cell_at (T : Tb K mg) : Binds K T.d_law_cell_at ["_law_script", "_law_k"] [] := T.F_law_cell_at.bindsN fun _ _ _ _ _ _ us hl => match us, hl with | [_, _], _ => rfl
theorem ok_law_cell_at (T : Tb K mg) (HB : TabsB K mg base) : FnG P w K mg base 1 T.a_law_cell_at T.d_law_cell_at ["_law_script", "_law_k"] (spOf K mg 2 C_law_cell_at) :=
  fn_okG T.F_law_cell_at sc_law_cell_at rfl rfl fun cdv A outer s H E gd hr hcd tk po =>
  s_cons (s_if (h_lt (g_r (i := 1) rfl (.inl rfl)) (g_v (g_lenV T.b_len rfl (g_t (i := 0) rfl (.inl rfl))))) (s_one (s_ret (g_ixV (g_r (i := 1) rfl (.inl rfl)) (g_t (i := 0) rfl (.inl rfl)) (fun _ _ => rfl)))) (s_nil)) (
  s_one (s_ret (g_int)))
theorem sc_law_take : FnScope ["_law_state_here", "_law_bound", "_law_stirred", "_law_found"] ["_law_state_here", "_law_bound"] (defScope s_law_take) := ⟨rfl, rfl, rfl, by decide +kernel, rfl, by decide +kernel, by decide +kernel⟩
theorem bd_law_take (T : Tb K mg) : Binds K T.d_law_take ["_law_state_here", "_law_bound"] [] := T.F_law_take.bindsN fun _ _ _ _ _ _ us hl => match us, hl with | [_, _], _ => rfl
theorem ok_law_take (T : Tb K mg) (HB : TabsB K mg base) : FnG P w K mg base 1 T.a_law_take T.d_law_take ["_law_state_here", "_law_bound"] (spOf K mg 2 C_law_take) :=
  fn_okG T.F_law_take sc_law_take rfl rfl fun cdv A outer s H E gd hr hcd tk po =>
  s_cons (s_if (h_gt (g_v (g_ix (g_r (i := 0) rfl (.inl rfl)) (g_v (g_int)) (fun _ _ => rfl))) (g_v (g_int))) (s_cons (s_set (i := 3) sc_law_take.nd rfl (.inl rfl) (g_mod (g_v (g_ix (g_r (i := 0) rfl (.inl rfl)) (g_v (g_int)) (fun _ _ => rfl))) (g_r (i := 1) rfl (.inl rfl)))) (
  s_cons (s_setIx (g_t (i := 0) rfl (.inl rfl)) (g_int) (g_div (g_v (g_ix (g_r (i := 0) rfl (.inl rfl)) (g_v (g_int)) (fun _ _ => rfl))) (g_r (i := 1) rfl (.inl rfl)))) (
  s_one (s_ret (g_move (i := 3) rfl (.inl rfl)))))) (s_nil)) (
  s_cons (s_setIx (g_t (i := 0) rfl (.inl rfl)) (g_int) (g_mod (g_v (g_add (g_v (g_mul (g_v (g_ix (g_r (i := 0) rfl (.inl rfl)) (g_v (g_int)) (fun _ _ => rfl))) (g_v (g_int)))) (g_v (g_int)))) (g_v (g_int)))) (
  s_cons (s_set (i := 2) sc_law_take.nd rfl (.inl rfl) (g_mod (g_v (g_add (g_v (g_add (g_v (g_mul (g_v (g_ix (g_r (i := 0) rfl (.inl rfl)) (g_v (g_int)) (fun _ _ => rfl))) (g_v (g_ix (g_r (i := 0) rfl (.inl rfl)) (g_v (g_int)) (fun _ _ => rfl))))) (g_v (g_mul (g_v (g_int)) (g_v (g_ix (g_r (i := 0) rfl (.inl rfl)) (g_v (g_int)) (fun _ _ => rfl))))))) (g_v (g_int)))) (g_v (g_int)))) (
  s_cons (s_set (i := 2) sc_law_take.nd rfl (.inl rfl) (g_mod (g_v (g_add (g_v (g_mul (g_r (i := 2) rfl (.inl rfl)) (g_r (i := 2) rfl (.inl rfl)))) (g_v (g_mul (g_v (g_int)) (g_r (i := 2) rfl (.inl rfl)))))) (g_v (g_int)))) (
  s_one (s_ret (g_mod (g_v (g_div (g_r (i := 2) rfl (.inl rfl)) (g_v (g_int)))) (g_r (i := 1) rfl (.inl rfl))))))))
theorem sc_law_marks : FnScope ["_law_e", "_law_marks_here"] ["_law_e"] (defScope s_law_marks) := ⟨rfl, rfl, rfl, by decide +kernel, rfl, by decide +kernel, by decide +kernel⟩
theorem bd_law_marks (T : Tb K mg) : Binds K T.d_law_marks ["_law_e"] [] := T.F_law_marks.bindsN fun _ _ _ _ _ _ us hl => match us, hl with | [_], _ => rfl
theorem ok_law_marks (T : Tb K mg) (HB : TabsB K mg base) : FnW P w K mg base 1 T.a_law_marks T.d_law_marks "_law_e" rsL C_law_marks :=
  fnW_ok T.F_law_marks sc_law_marks rfl fun cdv A outer s H E p c b D hr hc hmc hz hf =>
  s_cons (s_set (i := 1) sc_law_marks.nd rfl (.inl rfl) (g_lst (l_cons (g_isx List.mem_cons_self T.xf hc (by decide) hmc hz hf (i := 0) rfl (.inl rfl) rfl T.b_isinstance rfl) (l_cons (g_isx List.mem_cons_self T.xf hc (by decide) hmc hz hf (i := 0) rfl (.inl rfl) rfl T.b_isinstance rfl) (l_cons (g_isx List.mem_cons_self T.xf hc (by decide) hmc hz hf (i := 0) rfl (.inl rfl) rfl T.b_isinstance rfl) (l_cons (g_isx List.mem_cons_self T.xf hc (by decide) hmc hz hf (i := 0) rfl (.inl rfl) rfl T.b_isinstance rfl) (l_nil))))))) (
  s_cons (s_set (i := 1) sc_law_marks.nd rfl (.inl rfl) (g_add (g_r (i := 1) rfl (.inl rfl)) (g_v (g_lst (l_cons (g_isx List.mem_cons_self T.xf hc (by decide) hmc hz hf (i := 0) rfl (.inl rfl) rfl T.b_isinstance rfl) (l_cons (g_isx List.mem_cons_self T.xf hc (by decide) hmc hz hf (i := 0) rfl (.inl rfl) rfl T.b_isinstance rfl) (l_cons (g_isx List.mem_cons_self T.xf hc (by decide) hmc hz hf (i := 0) rfl (.inl rfl) rfl T.b_isinstance rfl) (l_cons (g_isx List.mem_cons_self T.xf hc (by decide) hmc hz hf (i := 0) rfl (.inl rfl) rfl T.b_isinstance rfl) (l_nil))))))))) (
  s_cons (s_set (i := 1) sc_law_marks.nd rfl (.inl rfl) (g_add (g_r (i := 1) rfl (.inl rfl)) (g_v (g_lst (l_cons (g_isx List.mem_cons_self T.xf hc (by decide) hmc hz hf (i := 0) rfl (.inl rfl) rfl T.b_isinstance rfl) (l_cons (g_isx List.mem_cons_self T.xf hc (by decide) hmc hz hf (i := 0) rfl (.inl rfl) rfl T.b_isinstance rfl) (l_cons (g_isx List.mem_cons_self T.xf hc (by decide) hmc hz hf (i := 0) rfl (.inl rfl) rfl T.b_isinstance rfl) (l_cons (g_isx List.mem_cons_self T.xf hc (by decide) hmc hz hf (i := 0) rfl (.inl rfl) rfl T.b_isinstance rfl) (l_nil))))))))) (
  s_cons (s_set (i := 1) sc_law_marks.nd rfl (.inl rfl) (g_add (g_r (i := 1) rfl (.inl rfl)) (g_v (g_lst (l_cons (g_isx List.mem_cons_self T.xf hc (by decide) hmc hz hf (i := 0) rfl (.inl rfl) rfl T.b_isinstance rfl) (l_cons (g_isx List.mem_cons_self T.xf hc (by decide) hmc hz hf (i := 0) rfl (.inl rfl) rfl T.b_isinstance rfl) (l_cons (g_isx List.mem_cons_self T.xf hc (by decide) hmc hz hf (i := 0) rfl (.inl rfl) rfl T.b_isinstance rfl) (l_cons (g_isx List.mem_cons_self T.xf hc (by decide) hmc hz hf (i := 0) rfl (.inl rfl) rfl T.b_isinstance rfl) (l_nil))))))))) (
  s_one (s_ret (g_add (g_r (i := 1) rfl (.inl rfl)) (g_v (g_lst (l_cons (g_isx List.mem_cons_self T.xf hc (by decide) hmc hz hf (i := 0) rfl (.inl rfl) rfl T.b_isinstance rfl) (l_nil))))))))))
theorem sc_law_number : FnScope ["_law_what", "_law_least", "_law_most"] ["_law_what", "_law_least", "_law_most"] (defScope s_law_number) := ⟨rfl, rfl, rfl, by decide +kernel, rfl, by decide +kernel, by decide +kernel⟩
theorem bd_law_number (T : Tb K mg) : Binds K T.d_law_number ["_law_what", "_law_least", "_law_most"] [] := T.F_law_number.bindsN fun _ _ _ _ _ _ us hl => match us, hl with | [_, _, _], _ => rfl
theorem ok_law_number (T : Tb K mg) (HB : TabsB K mg base) : FnG P w K mg base 1 T.a_law_number T.d_law_number ["_law_what", "_law_least", "_law_most"] (spOf K mg 3 C_law_number) :=
  fn_okG T.F_law_number sc_law_number rfl rfl fun cdv A outer s H E gd hr hcd tk po =>
  s_one (s_ret (g_and (pe_isi (k := .int) (g_r (i := 0) rfl (.inl rfl)) rfl T.b_isinstance rfl T.b_int rfl) (g_and (g_not (pe_isi (k := .bool) (g_r (i := 0) rfl (.inl rfl)) rfl T.b_isinstance rfl T.b_bool rfl)) (g_one (g_chain o_le o_le (g_r (i := 1) rfl (.inl rfl)) (g_r (i := 0) rfl (.inl rfl)) (g_r (i := 2) rfl (.inl rfl)))))))
theorem sc_is_from : FnScope ["thing", "least"] ["thing", "least"] (defScope s_is_from) := ⟨rfl, rfl, rfl, by decide +kernel, rfl, by decide +kernel, by decide +kernel⟩
theorem bd_is_from (T : Tb K mg) : Binds K T.d_is_from ["thing", "least"] [] := T.F_is_from.bindsN fun _ _ _ _ _ _ us hl => match us, hl with | [_, _], _ => rfl
theorem ok_is_from (T : Tb K mg) (HB : TabsB K mg base) : FnOk P w K mg base (L2.CX P w) 2 T.a_is_from T.d_is_from ["thing", "least"] (spOf K mg 2 C_is_from) :=
  fn_ok T.F_is_from sc_is_from rfl rfl fun cdv A outer s H E hr tk po =>
  s_one (s_ret (g_and (g_call (ok_is_whole T HB) hr (by decide) T.g_is_whole T.F_is_whole.kp (bd_is_whole T) tk rfl (a_v (g_var (i := 0) rfl (.inl rfl)) (a_nil))) (g_one (g_ge (g_r (i := 0) rfl (.inl rfl)) (g_r (i := 1) rfl (.inl rfl))))))
theorem sc_is_among : FnScope ["thing", "least", "most"] ["thing", "least", "most"] (defScope s_is_among) := ⟨rfl, rfl, rfl, by decide +kernel, rfl, by decide +kernel, by decide +kernel⟩
theorem bd_is_among (T : Tb K mg) : Binds K T.d_is_among ["thing", "least", "most"] [] := T.F_is_among.bindsN fun _ _ _ _ _ _ us hl => match us, hl with | [_, _, _], _ => rfl
theorem ok_is_among (T : Tb K mg) (HB : TabsB K mg base) : FnOk P w K mg base (L2.CX P w) 2 T.a_is_among T.d_is_among ["thing", "least", "most"] (spOf K mg 3 C_is_among) :=
  fn_ok T.F_is_among sc_is_among rfl rfl fun cdv A outer s H E hr tk po =>
  s_one (s_ret (g_and (g_call (ok_is_whole T HB) hr (by decide) T.g_is_whole T.F_is_whole.kp (bd_is_whole T) tk rfl (a_v (g_var (i := 0) rfl (.inl rfl)) (a_nil))) (g_one (g_chain o_le o_le (g_r (i := 1) rfl (.inl rfl)) (g_r (i := 0) rfl (.inl rfl)) (g_r (i := 2) rfl (.inl rfl))))))
theorem sc_law_state : FnScope ["_law_script", "_law_k", "_law_cell"] ["_law_script", "_law_k"] (defScope s_law_state) := ⟨rfl, rfl, rfl, by decide +kernel, rfl, by decide +kernel, by decide +kernel⟩
theorem bd_law_state (T : Tb K mg) : Binds K T.d_law_state ["_law_script", "_law_k"] [] := T.F_law_state.bindsN fun _ _ _ _ _ _ us hl => match us, hl with | [_, _], _ => rfl
theorem ok_law_state (T : Tb K mg) (HB : TabsB K mg base) : FnG P w K mg base 2 T.a_law_state T.d_law_state ["_law_script", "_law_k"] (spOf K mg 2 C_law_state) :=
  fn_okG T.F_law_state sc_law_state rfl rfl fun cdv A outer s H E gd hr hcd tk po =>
  s_cons (s_set (i := 2) sc_law_state.nd rfl (.inl rfl) (g_callG (ok_law_cell_at T HB) gd hr (by decide) T.g_law_cell_at T.F_law_cell_at.kp (bd_law_cell_at T) tk rfl (a_v (g_var (i := 0) rfl (.inl rfl)) (a_v (g_var (i := 1) rfl (.inl rfl)) (a_nil))))) (
  s_one (s_ret (g_lst (l_cons (g_max2 rfl T.b_max rfl (g_v (g_int)) (g_v (g_sub (g_r (i := 2) rfl (.inl rfl)) (g_v (g_pow (g_v (g_int)) (g_v (g_int))))))) (l_cons (g_mod (g_r (i := 2) rfl (.inl rfl)) (g_v (g_int))) (l_nil))))))
theorem sc_law_word : FnScope ["_law_e", "_law_marks_here", "_law_at", "_law_words_here", "_law_word_here"] ["_law_e"] (defScope s_law_word) := ⟨rfl, rfl, rfl, by decide +kernel, rfl, by decide +kernel, by decide +kernel⟩
theorem bd_law_word (T : Tb K mg) : Binds K T.d_law_word ["_law_e"] [] := T.F_law_word.bindsN fun _ _ _ _ _ _ us hl => match us, hl with | [_], _ => rfl
theorem ok_law_word (T : Tb K mg) (HB : TabsB K mg base) : FnW P w K mg base 2 T.a_law_word T.d_law_word "_law_e" rsL C_law_word :=
  fnW_ok T.F_law_word sc_law_word rfl fun cdv A outer s H E p c b D hr hc hmc hz hf =>
  s_cons (s_set (i := 1) sc_law_word.nd rfl (.inl rfl) (g_callX (ok_law_marks T HB) (hr.mono (by decide)) List.mem_cons_self hc hmc hz hf (bd_law_marks T) T.g_law_marks T.F_law_marks.kp rfl (i := 0) rfl (.inl rfl))) (
  s_cons (s_if (h_w (h_or (h_ne (g_v (g_count (hunits hr) (g_r (i := 1) rfl (.inl rfl)) (g_v (g_bool)))) (g_v (g_int)) (hunits hr)) (pw_or1 (h_not (h_val (g_isxV List.mem_cons_self T.xf hc hmc hz hf (i := 0) rfl (.inl rfl) rfl T.b_isinstance rfl T.b_ValueError)))))) (s_one (s_ret (g_tup (l_cons (g_str) (l_nil))))) (s_nil)) (
  s_cons (s_set (i := 2) sc_law_word.nd rfl (.inl rfl) (g_indexB (g_r (i := 1) rfl (.inl rfl)) (g_v (g_bool)))) (
  s_cons (s_if (h_ne (g_v (g_lst (l_cons (g_isx List.mem_cons_self T.xf hc (by decide) hmc hz hf (i := 0) rfl (.inl rfl) rfl T.b_isinstance rfl) (l_cons (g_isx List.mem_cons_self T.xf hc (by decide) hmc hz hf (i := 0) rfl (.inl rfl) rfl T.b_isinstance rfl) (l_nil))))) (g_v (g_lst (l_cons (g_lt (g_r (i := 2) rfl (.inl rfl)) (g_v (g_int))) (l_cons (g_gt (g_r (i := 2) rfl (.inl rfl)) (g_v (g_int))) (l_nil))))) (hunits hr)) (s_one (s_ret (g_tup (l_cons (g_str) (l_nil))))) (s_nil)) (
  s_cons (s_set (i := 3) sc_law_word.nd rfl (.inl rfl) (g_lst (l_cons (g_str) (l_cons (g_str) (l_cons (g_str) (l_cons (g_str) (l_cons (g_str) (l_cons (g_str) (l_cons (g_str) (l_cons (g_str) (l_cons (g_str) (l_cons (g_str) (l_cons (g_str) (l_cons (g_str) (l_nil))))))))))))))) (
  s_cons (s_set (i := 4) sc_law_word.nd rfl (.inl rfl) (g_ix (g_v (g_add (g_r (i := 3) rfl (.inl rfl)) (g_v (g_lst (l_cons (g_str) (l_cons (g_str) (l_cons (g_str) (l_cons (g_str) (l_cons (g_str) (l_nil)))))))))) (g_r (i := 2) rfl (.inl rfl)) (fun _ _ => rfl))) (
  s_one (s_ret (g_if (h_eq (g_r (i := 4) rfl (.inl rfl)) (g_v (g_str)) (hunits hr)) (g_tup (l_cons (g_var (i := 4) rfl (.inl rfl)) (l_cons (g_no) (l_nil)))) (g_tup (l_cons (g_var (i := 4) rfl (.inl rfl)) (l_nil)))))))))))
theorem sc_law_odd : FnScope ["_law_state_here", "_law_some"] ["_law_state_here"] (defScope s_law_odd) := ⟨rfl, rfl, rfl, by decide +kernel, rfl, by decide +kernel, by decide +kernel⟩
theorem bd_law_odd (T : Tb K mg) : Binds K T.d_law_odd ["_law_state_here"] [] := T.F_law_odd.bindsN fun _ _ _ _ _ _ us hl => match us, hl with | [_], _ => rfl
theorem ok_law_odd (T : Tb K mg) (HB : TabsB K mg base) : FnG P w K mg base 2 T.a_law_odd T.d_law_odd ["_law_state_here"] (spOf K mg 1 C_law_odd) :=
  fn_okG T.F_law_odd sc_law_odd rfl rfl fun cdv A outer s H E gd hr hcd tk po =>
  s_cons (s_set (i := 1) sc_law_odd.nd rfl (.inl rfl) (g_lst (l_cons (g_none) (l_cons (g_bool) (l_cons (g_bool) (l_cons (g_neg (g_v (g_int))) (l_cons (g_int) (l_cons (g_int) (l_cons (g_int) (l_cons (g_pow (g_v (g_int)) (g_v (g_int))) (l_cons (g_str) (l_cons (g_str) (l_cons (g_str) (l_cons (g_tup (l_nil)) (l_cons (g_lst (l_nil)) (l_cons (g_dct0) (l_cons (g_tup (l_cons (g_int) (l_nil))) (l_cons (g_tup (l_cons (g_int) (l_cons (g_int) (l_nil)))) (l_cons (g_lst (l_cons (g_int) (l_cons (g_int) (l_nil)))) (l_cons (g_dct1) (l_nil))))))))))))))))))))) (
  s_cons (s_set (i := 1) sc_law_odd.nd rfl (.inl rfl) (g_add (g_r (i := 1) rfl (.inl rfl)) (g_v (g_lst (l_cons (g_tup (l_cons (g_int) (l_cons (g_int) (l_cons (g_int) (l_nil))))) (l_cons (g_tup (l_cons (g_tup (l_cons (g_int) (l_cons (g_int) (l_cons (g_int) (l_nil))))) (l_nil))) (l_cons (g_tup (l_cons (g_int) (l_cons (g_tup (l_cons (g_int) (l_cons (g_int) (l_nil)))) (l_nil)))) (l_cons (g_str) (l_cons (g_tup (l_cons (g_bool) (l_cons (g_int) (l_nil)))) (l_cons (g_tup (l_cons (g_neg (g_v (g_int))) (l_cons (g_int) (l_nil)))) (l_nil))))))))))) (
  s_one (s_ret (g_ix (g_r (i := 1) rfl (.inl rfl)) (g_v (g_callG (ok_law_take T HB) gd hr (by decide) T.g_law_take T.F_law_take.kp (bd_law_take T) tk rfl (a_r (g_t (i := 0) rfl (.inl rfl)) (a_v (g_int) (a_nil))))) (fun _ _ => rfl)))))
theorem sc_law_sale : FnScope ["_law_state_here", "_law_far", "_law_long", "_law_sizes", "_law_room", "_law_turn", "_law_seats", "_law_periods", "_law_cases", "_law_offers", "_law_share"] ["_law_state_here", "_law_far", "_law_long", "_law_sizes"] (defScope s_law_sale) := ⟨rfl, rfl, rfl, by decide +kernel, rfl, by decide +kernel, by decide +kernel⟩
theorem bd_law_sale (T : Tb K mg) : Binds K T.d_law_sale ["_law_state_here", "_law_far", "_law_long", "_law_sizes"] [] := T.F_law_sale.bindsN fun _ _ _ _ _ _ us hl => match us, hl with | [_, _, _, _], _ => rfl
theorem ok_law_sale (T : Tb K mg) (HB : TabsB K mg base) : FnG P w K mg base 2 T.a_law_sale T.d_law_sale ["_law_state_here", "_law_far", "_law_long", "_law_sizes"] (spOf K mg 4 C_law_sale) :=
  fn_okG T.F_law_sale sc_law_sale rfl rfl fun cdv A outer s H E gd hr hcd tk po =>
  s_cons (s_par2 (i := 6) (j := 7) rfl sc_law_sale.nd rfl rfl (by decide) rfl rfl (g_callG (ok_law_take T HB) gd hr (by decide) T.g_law_take T.F_law_take.kp (bd_law_take T) tk rfl (a_r (g_t (i := 0) rfl (.inl rfl)) (a_v (g_add (g_r (i := 1) rfl (.inl rfl)) (g_v (g_int))) (a_nil)))) (g_ix (g_v (g_lst (l_cons (g_var (i := 2) rfl (.inl rfl)) (l_cons (g_callG (ok_law_take T HB) gd hr (by decide) T.g_law_take T.F_law_take.kp (bd_law_take T) tk rfl (a_r (g_t (i := 0) rfl (.inl rfl)) (a_v (g_add (g_r (i := 2) rfl (.inl rfl)) (g_v (g_int))) (a_nil)))) (l_nil))))) (g_v (g_callG (ok_law_take T HB) gd hr (by decide) T.g_law_take T.F_law_take.kp (bd_law_take T) tk rfl (a_r (g_t (i := 0) rfl (.inl rfl)) (a_v (g_int) (a_nil))))) (fun _ _ => rfl))) (
  s_cons (s_par2 (i := 8) (j := 9) rfl sc_law_sale.nd rfl rfl (by decide) rfl rfl (g_ix (g_v (g_lst (l_cons (g_add (g_v (g_int)) (g_v (g_callG (ok_law_take T HB) gd hr (by decide) T.g_law_take T.F_law_take.kp (bd_law_take T) tk rfl (a_r (g_t (i := 0) rfl (.inl rfl)) (a_v (g_int) (a_nil)))))) (l_cons (g_int) (l_cons (g_add (g_v (g_int)) (g_v (g_callG (ok_law_take T HB) gd hr (by decide) T.g_law_take T.F_law_take.kp (bd_law_take T) tk rfl (a_r (g_t (i := 0) rfl (.inl rfl)) (a_v (g_int) (a_nil)))))) (l_nil)))))) (g_v (g_callG (ok_law_take T HB) gd hr (by decide) T.g_law_take T.F_law_take.kp (bd_law_take T) tk rfl (a_r (g_t (i := 0) rfl (.inl rfl)) (a_v (g_int) (a_nil))))) (fun _ _ => rfl)) (g_lst (l_nil))) (
  s_cons (s_set (i := 4) sc_law_sale.nd rfl (.inl rfl) (g_var (i := 8) rfl (.inl rfl))) (
  s_cons (s_for po rfl (pi_iRng1 rfl T.b_range (pa_cons (g_add (g_v (g_int)) (g_v (g_callG (ok_law_take T HB) gd hr (by decide) T.g_law_take T.F_law_take.kp (bd_law_take T) tk rfl (a_r (g_t (i := 0) rfl (.inl rfl)) (a_v (g_int) (a_nil)))))) pa_nil)) (t_nm (i := 5) sc_law_sale.nd rfl (.inl rfl)) (s_one (s_if (h_gt (g_r (i := 4) rfl (.inl rfl)) (g_v (g_int))) (s_cons (s_set (i := 10) sc_law_sale.nd rfl (.inl rfl) (g_ix (g_v (g_lst (l_cons (g_int) (l_cons (g_add (g_v (g_int)) (g_v (g_callG (ok_law_take T HB) gd hr (by decide) T.g_law_take T.F_law_take.kp (bd_law_take T) tk rfl (a_r (g_t (i := 0) rfl (.inl rfl)) (a_v (g_var (i := 4) rfl (.inl rfl)) (a_nil)))))) (l_cons (g_var (i := 4) rfl (.inl rfl)) (l_nil)))))) (g_v (g_callG (ok_law_take T HB) gd hr (by decide) T.g_law_take T.F_law_take.kp (bd_law_take T) tk rfl (a_r (g_t (i := 0) rfl (.inl rfl)) (a_v (g_int) (a_nil))))) (fun _ _ => rfl))) (
  s_cons (s_expr (g_app (g_t (i := 9) rfl (.inl rfl)) (g_tup (l_cons (g_add (g_v (g_int)) (g_v (g_callG (ok_law_take T HB) gd hr (by decide) T.g_law_take T.F_law_take.kp (bd_law_take T) tk rfl (a_r (g_t (i := 0) rfl (.inl rfl)) (a_v (g_ix (g_v (g_lst (l_cons (g_int) (l_cons (g_int) (l_nil))))) (g_v (g_callG (ok_law_take T HB) gd hr (by decide) T.g_law_take T.F_law_take.kp (bd_law_take T) tk rfl (a_r (g_t (i := 0) rfl (.inl rfl)) (a_v (g_int) (a_nil))))) (fun _ _ => rfl)) (a_nil)))))) (l_cons (g_var (i := 10) rfl (.inl rfl)) (l_cons (g_add (g_v (g_int)) (g_v (g_callG (ok_law_take T HB) gd hr (by decide) T.g_law_take T.F_law_take.kp (bd_law_take T) tk rfl (a_r (g_t (i := 0) rfl (.inl rfl)) (a_v (g_var (i := 3) rfl (.inl rfl)) (a_nil)))))) (l_nil))))))) (
  s_one (s_set (i := 4) sc_law_sale.nd rfl (.inl rfl) (g_sub (g_r (i := 4) rfl (.inl rfl)) (g_r (i := 10) rfl (.inl rfl))))))) (s_nil)))) (
  s_one (s_ret (g_tup (l_cons (g_var (i := 6) rfl (.inl rfl)) (l_cons (g_var (i := 7) rfl (.inl rfl)) (l_cons (g_var (i := 8) rfl (.inl rfl)) (l_cons (g_tupO T.b_tuple rfl (g_r (i := 9) rfl (.inl rfl))) (l_nil)))))))))))
theorem sc_law_is_offer : FnScope ["_law_what"] ["_law_what"] (defScope s_law_is_offer) := ⟨rfl, rfl, rfl, by decide +kernel, rfl, by decide +kernel, by decide +kernel⟩
theorem bd_law_is_offer (T : Tb K mg) : Binds K T.d_law_is_offer ["_law_what"] [] := T.F_law_is_offer.bindsN fun _ _ _ _ _ _ us hl => match us, hl with | [_], _ => rfl
theorem ok_law_is_offer (T : Tb K mg) (HB : TabsB K mg base) : FnG P w K mg base 2 T.a_law_is_offer T.d_law_is_offer ["_law_what"] (spOf K mg 1 C_law_is_offer) :=
  fn_okG T.F_law_is_offer sc_law_is_offer rfl rfl fun cdv A outer s H E gd hr hcd tk po =>
  s_cons (s_if (h_w (h_or (h_not (h_val (pe_isi (k := .tuple) (g_r (i := 0) rfl (.inl rfl)) rfl T.b_isinstance rfl T.b_tuple rfl))) (pw_or1 (h_ne (g_v (g_len T.b_len rfl (g_r (i := 0) rfl (.inl rfl)))) (g_v (g_int)) hr.units)))) (s_one (s_ret (g_bool))) (s_nil)) (
  s_one (s_ret (g_and (g_callG (ok_law_number T HB) gd hr (by decide) T.g_law_number T.F_law_number.kp (bd_law_number T) tk rfl (a_v (g_ix (g_r (i := 0) rfl (.inl rfl)) (g_v (g_int)) (fun _ _ => rfl)) (a_v (g_int) (a_v (g_int) (a_nil))))) (g_and (g_callG (ok_law_number T HB) gd hr (by decide) T.g_law_number T.F_law_number.kp (bd_law_number T) tk rfl (a_v (g_ix (g_r (i := 0) rfl (.inl rfl)) (g_v (g_int)) (fun _ _ => rfl)) (a_v (g_int) (a_v (g_pow (g_v (g_int)) (g_v (g_int))) (a_nil))))) (g_one (g_callG (ok_law_number T HB) gd hr (by decide) T.g_law_number T.F_law_number.kp (bd_law_number T) tk rfl (a_v (g_ix (g_r (i := 0) rfl (.inl rfl)) (g_v (g_int)) (fun _ _ => rfl)) (a_v (g_int) (a_v (g_int) (a_nil))))))))))
theorem sc_is_offer : FnScope ["thing", "fare", "share", "size"] ["thing"] (defScope s_is_offer) := ⟨rfl, rfl, rfl, by decide +kernel, rfl, by decide +kernel, by decide +kernel⟩
theorem bd_is_offer (T : Tb K mg) : Binds K T.d_is_offer ["thing"] [] := T.F_is_offer.bindsN fun _ _ _ _ _ _ us hl => match us, hl with | [_], _ => rfl
theorem ok_is_offer (T : Tb K mg) (HB : TabsB K mg base) : FnOk P w K mg base (L2.CX P w) 3 T.a_is_offer T.d_is_offer ["thing"] (spOf K mg 1 C_is_offer) :=
  fn_ok T.F_is_offer sc_is_offer rfl rfl fun cdv A outer s H E hr tk po =>
  s_cons (s_if (h_w (h_or (h_not (h_val (pe_isi (k := .tuple) (g_r (i := 0) rfl (.inl rfl)) rfl T.b_isinstance rfl T.b_tuple rfl))) (pw_or1 (h_ne (g_v (g_len T.b_len rfl (g_r (i := 0) rfl (.inl rfl)))) (g_v (g_int)) hr.units)))) (s_one (s_ret (g_bool))) (s_nil)) (
  s_cons (s_unp (g_var (i := 0) rfl (.inl rfl)) (t_tup rfl (t_cons (t_nm (i := 1) sc_is_offer.nd rfl (.inl rfl)) (t_cons (t_nm (i := 2) sc_is_offer.nd rfl (.inl rfl)) (t_cons (t_nm (i := 3) sc_is_offer.nd rfl (.inl rfl)) (t_nil)))))) (
  s_one (s_ret (g_and (g_call (ok_is_among T HB) hr (by decide) T.g_is_among T.F_is_among.kp (bd_is_among T) tk rfl (a_v (g_var (i := 1) rfl (.inl rfl)) (a_v (g_int) (a_v (g_gint T.k_MOST_FARE rfl) (a_nil))))) (g_and (g_call (ok_is_from T HB) hr (by decide) T.g_is_from T.F_is_from.kp (bd_is_from T) tk rfl (a_v (g_var (i := 2) rfl (.inl rfl)) (a_v (g_int) (a_nil)))) (g_one (g_call (ok_is_among T HB) hr (by decide) T.g_is_among T.F_is_among.kp (bd_is_among T) tk rfl (a_v (g_var (i := 3) rfl (.inl rfl)) (a_v (g_int) (a_v (g_gint T.k_MOST_SIZE rfl) (a_nil)))))))))))
theorem sc_law_said : FnScope ["_law_call", "_law_e"] ["_law_call"] (defScope s_law_said) := ⟨rfl, rfl, rfl, by decide +kernel, rfl, by decide +kernel, by decide +kernel⟩
theorem bd_law_said (T : Tb K mg) : Binds K T.d_law_said ["_law_call"] [] := T.F_law_said.bindsN fun _ _ _ _ _ _ us hl => match us, hl with | [_], _ => rfl
theorem gv_law_said {X : Cx} (T : Tb K mg) (HB : TabsB K mg base) (e1 : X.K = K) (e2 : X.mg = mg) (e3 : X.base = base) {qn : Str} (hr : ∀ A : Around, A.depth = X.A.depth + 1 → A.units = X.A.units + 3 → L2H.RoomH 2 A) (cdg : Value) : LamX.GivesTo X ["_law_call", "_law_e"] "_law_said" (defScope s_law_said) T.a_law_said cdg (defBody s_law_said) "_law_call" qn (TTs X.K X.mg T.c_SeatError false true rsL C_law_word) := by
  subst e1 e2 e3
  exact
  said_gives (fw := T.a_law_word) T.xf (ok_law_word T HB) (bd_law_word T) T.g_law_word T.F_law_word.kp rfl rfl hr rfl T.g_SeatError rfl (by decide) rfl rfl rfl rfl rfl (fun X' t h => pe_tup (pa_cons pe_str (pa_cons h pa_nil))) (fun X' t h => h) (fun f => rfl)
theorem sc_law_is_sale : FnScope ["_law_what", "_law_offer"] ["_law_what"] (defScope s_law_is_sale) := ⟨rfl, rfl, rfl, by decide +kernel, rfl, by decide +kernel, by decide +kernel⟩
theorem bd_law_is_sale (T : Tb K mg) : Binds K T.d_law_is_sale ["_law_what"] [] := T.F_law_is_sale.bindsN fun _ _ _ _ _ _ us hl => match us, hl with | [_], _ => rfl
theorem ok_law_is_sale (T : Tb K mg) (HB : TabsB K mg base) : FnG P w K mg base 3 T.a_law_is_sale T.d_law_is_sale ["_law_what"] (spOf K mg 1 C_law_is_sale) :=
  fn_okG T.F_law_is_sale sc_law_is_sale rfl rfl fun cdv A outer s H E gd hr hcd tk po =>
  s_cons (s_if (h_w (h_or (h_not (h_val (pe_isi (k := .tuple) (g_r (i := 0) rfl (.inl rfl)) rfl T.b_isinstance rfl T.b_tuple rfl))) (pw_or1 (h_ne (g_v (g_len T.b_len rfl (g_r (i := 0) rfl (.inl rfl)))) (g_v (g_int)) hr.units)))) (s_one (s_ret (g_bool))) (s_nil)) (
  s_cons (s_if (h_w (h_or (h_not (h_val (g_callG (ok_law_number T HB) gd hr (by decide) T.g_law_number T.F_law_number.kp (bd_law_number T) tk rfl (a_v (g_ix (g_r (i := 0) rfl (.inl rfl)) (g_v (g_int)) (fun _ _ => rfl)) (a_v (g_int) (a_v (g_int) (a_nil))))))) (h_or (h_not (h_val (g_callG (ok_law_number T HB) gd hr (by decide) T.g_law_number T.F_law_number.kp (bd_law_number T) tk rfl (a_v (g_ix (g_r (i := 0) rfl (.inl rfl)) (g_v (g_int)) (fun _ _ => rfl)) (a_v (g_int) (a_v (g_int) (a_nil))))))) (pw_or1 (h_not (h_val (g_callG (ok_law_number T HB) gd hr (by decide) T.g_law_number T.F_law_number.kp (bd_law_number T) tk rfl (a_v (g_ix (g_r (i := 0) rfl (.inl rfl)) (g_v (g_int)) (fun _ _ => rfl)) (a_v (g_int) (a_v (g_int) (a_nil))))))))))) (s_one (s_ret (g_bool))) (s_nil)) (
  s_cons (s_if (h_w (h_or (h_not (h_val (pe_isi (k := .tuple) (g_v (g_ix (g_r (i := 0) rfl (.inl rfl)) (g_v (g_int)) (fun _ _ => rfl))) rfl T.b_isinstance rfl T.b_tuple rfl))) (pw_or1 (h_not (h_chain o_le o_le (g_v (g_int)) (g_v (g_len T.b_len rfl (g_v (g_ix (g_r (i := 0) rfl (.inl rfl)) (g_v (g_int)) (fun _ _ => rfl))))) (g_v (g_int))))))) (s_one (s_ret (g_bool))) (s_nil)) (
  s_one (s_ret (g_and (g_all rfl T.b_all rfl (g_v (g_comp rfl sc_law_is_sale.nd (blkOk_by (own := [("_law_offer", 1)]) (by kernel_rfl)) rfl (pi_iSeq (g_ix (g_r (i := 0) rfl (.inl rfl)) (g_v (g_int)) (fun _ _ => rfl))) (fun _ _ _ _ _ => t_nm (i := 1) sc_law_is_sale.nd rfl (.inl rfl)) (fun _ _ _ _ _ => g_callG (ok_law_is_offer T HB) gd hr (by decide) T.g_law_is_offer T.F_law_is_offer.kp (bd_law_is_offer T) takes0 rfl (a_v (g_var (i := 1) rfl (.inl rfl)) (a_nil)))))) (g_one (g_le (g_v (g_sum rfl T.b_sum rfl (g_v (g_comp rfl sc_law_is_sale.nd (blkOk_by (own := [("_law_offer", 1)]) (by kernel_rfl)) rfl (pi_iSeq (g_ix (g_r (i := 0) rfl (.inl rfl)) (g_v (g_int)) (fun _ _ => rfl))) (fun _ _ _ _ _ => t_nm (i := 1) sc_law_is_sale.nd rfl (.inl rfl)) (fun _ _ _ _ _ => g_ix (g_r (i := 1) rfl (.inl rfl)) (g_v (g_int)) (fun _ _ => rfl)))))) (g_v (g_ix (g_r (i := 0) rfl (.inl rfl)) (g_v (g_int)) (fun _ _ => rfl))))))))))
theorem sc_is_sale : FnScope ["thing", "seats", "periods", "cases", "offers", "offer"] ["thing"] (defScope s_is_sale) := ⟨rfl, rfl, rfl, by decide +kernel, rfl, by decide +kernel, by decide +kernel⟩
theorem bd_is_sale (T : Tb K mg) : Binds K T.d_is_sale ["thing"] [] := T.F_is_sale.bindsN fun _ _ _ _ _ _ us hl => match us, hl with | [_], _ => rfl
theorem ok_is_sale (T : Tb K mg) (HB : TabsB K mg base) : FnOk P w K mg base (L2.CX P w) 4 T.a_is_sale T.d_is_sale ["thing"] (spOf K mg 1 C_is_sale) :=
  fn_ok T.F_is_sale sc_is_sale rfl rfl fun cdv A outer s H E hr tk po =>
  s_cons (s_if (h_w (h_or (h_not (h_val (pe_isi (k := .tuple) (g_r (i := 0) rfl (.inl rfl)) rfl T.b_isinstance rfl T.b_tuple rfl))) (pw_or1 (h_ne (g_v (g_len T.b_len rfl (g_r (i := 0) rfl (.inl rfl)))) (g_v (g_int)) hr.units)))) (s_one (s_ret (g_bool))) (s_nil)) (
  s_cons (s_unp (g_var (i := 0) rfl (.inl rfl)) (t_tup rfl (t_cons (t_nm (i := 1) sc_is_sale.nd rfl (.inl rfl)) (t_cons (t_nm (i := 2) sc_is_sale.nd rfl (.inl rfl)) (t_cons (t_nm (i := 3) sc_is_sale.nd rfl (.inl rfl)) (t_cons (t_nm (i := 4) sc_is_sale.nd rfl (.inl rfl)) (t_nil))))))) (
  s_cons (s_if (h_w (h_or (h_not (h_val (g_call (ok_is_among T HB) hr (by decide) T.g_is_among T.F_is_among.kp (bd_is_among T) tk rfl (a_v (g_var (i := 1) rfl (.inl rfl)) (a_v (g_int) (a_v (g_gint T.k_MOST_SEATS rfl) (a_nil))))))) (pw_or1 (h_not (h_val (g_call (ok_is_among T HB) hr (by decide) T.g_is_among T.F_is_among.kp (bd_is_among T) tk rfl (a_v (g_var (i := 2) rfl (.inl rfl)) (a_v (g_int) (a_v (g_gint T.k_MOST_PERIODS rfl) (a_nil)))))))))) (s_one (s_ret (g_bool))) (s_nil)) (
  s_cons (s_if (h_w (h_or (h_not (h_val (g_call (ok_is_among T HB) hr (by decide) T.g_is_among T.F_is_among.kp (bd_is_among T) tk rfl (a_v (g_var (i := 3) rfl (.inl rfl)) (a_v (g_int) (a_v (g_gint T.k_MOST_CASES_sales rfl) (a_nil))))))) (h_or (h_not (h_val (pe_isi (k := .tuple) (g_r (i := 4) rfl (.inl rfl)) rfl T.b_isinstance rfl T.b_tuple rfl))) (pw_or1 (h_not (h_chain o_le o_le (g_v (g_int)) (g_v (g_len T.b_len rfl (g_r (i := 4) rfl (.inl rfl)))) (g_v (g_gint T.k_MOST_CLASSES rfl)))))))) (s_one (s_ret (g_bool))) (s_nil)) (
  s_one (s_ret (g_and (g_all rfl T.b_all rfl (g_v (g_comp rfl sc_is_sale.nd (blkOk_by (own := [("offer", 5)]) (by kernel_rfl)) rfl (pi_iSeq (g_var (i := 4) rfl (.inl rfl))) (fun _ _ _ _ _ => t_nm (i := 5) sc_is_sale.nd rfl (.inl rfl)) (fun _ _ _ _ _ => g_call (ok_is_offer T HB) hr (by decide) T.g_is_offer T.F_is_offer.kp (bd_is_offer T) takes0 rfl (a_v (g_var (i := 5) rfl (.inl rfl)) (a_nil)))))) (g_one (g_le (g_v (g_sum rfl T.b_sum rfl (g_v (g_comp rfl sc_is_sale.nd (blkOk_by (own := [("offer", 5)]) (by kernel_rfl)) rfl (pi_iSeq (g_var (i := 4) rfl (.inl rfl))) (fun _ _ _ _ _ => t_nm (i := 5) sc_is_sale.nd rfl (.inl rfl)) (fun _ _ _ _ _ => g_ix (g_r (i := 5) rfl (.inl rfl)) (g_v (g_int)) (fun _ _ => rfl)))))) (g_r (i := 3) rfl (.inl rfl))))))))))
theorem sc_need_sale : FnScope ["thing"] ["thing"] (defScope s_need_sale) := ⟨rfl, rfl, rfl, by decide +kernel, rfl, by decide +kernel, by decide +kernel⟩
theorem bd_need_sale (T : Tb K mg) : Binds K T.d_need_sale ["thing"] [] := T.F_need_sale.bindsN fun _ _ _ _ _ _ us hl => match us, hl with | [_], _ => rfl
theorem ok_need_sale (T : Tb K mg) (HB : TabsB K mg base) : FnOk P w K mg base (L2.CX P w) 5 T.a_need_sale T.d_need_sale ["thing"] (spOf K mg 1 C_need_sale) :=
  fn_ok T.F_need_sale sc_need_sale rfl rfl fun cdv A outer s H E hr tk po =>
  s_one (s_if (h_not (h_val (g_call (ok_is_sale T HB) hr (by decide) T.g_is_sale T.F_is_sale.kp (bd_is_sale T) tk rfl (a_v (g_var (i := 0) rfl (.inl rfl)) (a_nil))))) (s_one (ps_raiseN rfl tk PySem.F.excBase_ValueError T.e_NoSale.1 T.g_NoSale T.e_NoSale.2.1 (raises_own T.e_NoSale.2.2.1 T.e_NoSale.2.2.2) rfl)) (s_nil))
theorem sc_worth : FnScope ["sale", "time", "left"] ["sale", "time", "left"] (defScope s_worth) := ⟨rfl, rfl, rfl, by decide +kernel, rfl, by decide +kernel, by decide +kernel⟩
theorem bd_worth (T : Tb K mg) : Binds K T.d_worth ["sale", "time", "left"] [] := T.F_worth.bindsN fun _ _ _ _ _ _ us hl => match us, hl with | [_, _, _], _ => rfl
theorem ok_worth (T : Tb K mg) (HB : TabsB K mg base) : FnOk P w K mg base (L2.CX P w) 6 T.a_worth T.d_worth ["sale", "time", "left"] (spOf K mg 3 C_worth) :=
  fn_ok T.F_worth sc_worth rfl rfl fun cdv A outer s H E hr tk po =>
  s_cons (s_expr (g_call (ok_need_sale T HB) hr (by decide) T.g_need_sale T.F_need_sale.kp (bd_need_sale T) tk rfl (a_v (g_var (i := 0) rfl (.inl rfl)) (a_nil)))) (
  s_nos)
theorem sc_worths : FnScope ["sale"] ["sale"] (defScope s_worths) := ⟨rfl, rfl, rfl, by decide +kernel, rfl, by decide +kernel, by decide +kernel⟩
theorem bd_worths (T : Tb K mg) : Binds K T.d_worths ["sale"] [] := T.F_worths.bindsN fun _ _ _ _ _ _ us hl => match us, hl with | [_], _ => rfl
theorem ok_worths (T : Tb K mg) (HB : TabsB K mg base) : FnOk P w K mg base (L2.CX P w) 6 T.a_worths T.d_worths ["sale"] (spOf K mg 1 C_worths) :=
  fn_ok T.F_worths sc_worths rfl rfl fun cdv A outer s H E hr tk po =>
  s_cons (s_expr (g_call (ok_need_sale T HB) hr (by decide) T.g_need_sale T.F_need_sale.kp (bd_need_sale T) tk rfl (a_v (g_var (i := 0) rfl (.inl rfl)) (a_nil)))) (
  s_nos)
theorem sc_opened : FnScope ["sale", "number", "time"] ["sale", "number", "time"] (defScope s_opened) := ⟨rfl, rfl, rfl, by decide +kernel, rfl, by decide +kernel, by decide +kernel⟩
theorem bd_opened (T : Tb K mg) : Binds K T.d_opened ["sale", "number", "time"] [] := T.F_opened.bindsN fun _ _ _ _ _ _ us hl => match us, hl with | [_, _, _], _ => rfl
theorem ok_opened (T : Tb K mg) (HB : TabsB K mg base) : FnOk P w K mg base (L2.CX P w) 6 T.a_opened T.d_opened ["sale", "number", "time"] (spOf K mg 3 C_opened) :=
  fn_ok T.F_opened sc_opened rfl rfl fun cdv A outer s H E hr tk po =>
  s_cons (s_expr (g_call (ok_need_sale T HB) hr (by decide) T.g_need_sale T.F_need_sale.kp (bd_need_sale T) tk rfl (a_v (g_var (i := 0) rfl (.inl rfl)) (a_nil)))) (
  s_nos)
theorem sc_seat_worth : FnScope ["sale", "time", "left"] ["sale", "time", "left"] (defScope s_seat_worth) := ⟨rfl, rfl, rfl, by decide +kernel, rfl, by decide +kernel, by decide +kernel⟩
theorem bd_seat_worth (T : Tb K mg) : Binds K T.d_seat_worth ["sale", "time", "left"] [] := T.F_seat_worth.bindsN fun _ _ _ _ _ _ us hl => match us, hl with | [_, _, _], _ => rfl
theorem ok_seat_worth (T : Tb K mg) (HB : TabsB K mg base) : FnOk P w K mg base (L2.CX P w) 6 T.a_seat_worth T.d_seat_worth ["sale", "time", "left"] (spOf K mg 3 C_seat_worth) :=
  fn_ok T.F_seat_worth sc_seat_worth rfl rfl fun cdv A outer s H E hr tk po =>
  s_cons (s_expr (g_call (ok_need_sale T HB) hr (by decide) T.g_need_sale T.F_need_sale.kp (bd_need_sale T) tk rfl (a_v (g_var (i := 0) rfl (.inl rfl)) (a_nil)))) (
  s_nos)
theorem sc_mark : FnScope ["sale", "number", "time"] ["sale", "number", "time"] (defScope s_mark) := ⟨rfl, rfl, rfl, by decide +kernel, rfl, by decide +kernel, by decide +kernel⟩
theorem bd_mark (T : Tb K mg) : Binds K T.d_mark ["sale", "number", "time"] [] := T.F_mark.bindsN fun _ _ _ _ _ _ us hl => match us, hl with | [_, _, _], _ => rfl
theorem ok_mark (T : Tb K mg) (HB : TabsB K mg base) : FnOk P w K mg base (L2.CX P w) 6 T.a_mark T.d_mark ["sale", "number", "time"] (spOf K mg 3 C_mark) :=
  fn_ok T.F_mark sc_mark rfl rfl fun cdv A outer s H E hr tk po =>
  s_cons (s_expr (g_call (ok_need_sale T HB) hr (by decide) T.g_need_sale T.F_need_sale.kp (bd_need_sale T) tk rfl (a_v (g_var (i := 0) rfl (.inl rfl)) (a_nil)))) (
  s_nos)
theorem sc_amends_mean : FnScope ["sale", "sold", "show", "amends"] ["sale", "sold", "show", "amends"] (defScope s_amends_mean) := ⟨rfl, rfl, rfl, by decide +kernel, rfl, by decide +kernel, by decide +kernel⟩

theorem ok_amends_mean (T : Tb K mg) (HB : TabsB K mg base) : FnOk P w K mg base (L2.CX P w) 6 T.a_amends_mean T.d_amends_mean ["sale", "sold", "show", "amends"] (spOf K mg 4 C_amends_mean) :=
  fn_ok T.F_amends_mean sc_amends_mean rfl rfl fun cdv A outer s H E hr tk po =>
  s_cons (s_expr (g_call (ok_need_sale T HB) hr (by decide) T.g_need_sale T.F_need_sale.kp (bd_need_sale T) tk rfl (a_v (g_var (i := 0) rfl (.inl rfl)) (a_nil)))) (
  s_nos)
theorem sc_worth_oversold : FnScope ["sale", "limit", "show", "amends"] ["sale", "limit", "show", "amends"] (defScope s_worth_oversold) := ⟨rfl, rfl, rfl, by decide +kernel, rfl, by decide +kernel, by decide +kernel⟩

theorem ok_worth_oversold (T : Tb K mg) (HB : TabsB K mg base) : FnOk P w K mg base (L2.CX P w) 6 T.a_worth_oversold T.d_worth_oversold ["sale", "limit", "show", "amends"] (spOf K mg 4 C_worth_oversold) :=
  fn_ok T.F_worth_oversold sc_worth_oversold rfl rfl fun cdv A outer s H E hr tk po =>
  s_cons (s_expr (g_call (ok_need_sale T HB) hr (by decide) T.g_need_sale T.F_need_sale.kp (bd_need_sale T) tk rfl (a_v (g_var (i := 0) rfl (.inl rfl)) (a_nil)))) (
  s_nos)
theorem sc_least_limit : FnScope ["sale", "show", "amends"] ["sale", "show", "amends"] (defScope s_least_limit) := ⟨rfl, rfl, rfl, by decide +kernel, rfl, by decide +kernel, by decide +kernel⟩

theorem ok_least_limit (T : Tb K mg) (HB : TabsB K mg base) : FnOk P w K mg base (L2.CX P w) 6 T.a_least_limit T.d_least_limit ["sale", "show", "amends"] (spOf K mg 3 C_least_limit) :=
  fn_ok T.F_least_limit sc_least_limit rfl rfl fun cdv A outer s H E hr tk po =>
  s_cons (s_expr (g_call (ok_need_sale T HB) hr (by decide) T.g_need_sale T.F_need_sale.kp (bd_need_sale T) tk rfl (a_v (g_var (i := 0) rfl (.inr (.inl rfl))) (a_nil)))) (
  s_nos)
theorem sc_is_plan : FnScope ["sale", "thing"] ["sale", "thing"] (defScope s_is_plan) := ⟨rfl, rfl, rfl, by decide +kernel, rfl, by decide +kernel, by decide +kernel⟩
theorem bd_is_plan (T : Tb K mg) : Binds K T.d_is_plan ["sale", "thing"] [] := T.F_is_plan.bindsN fun _ _ _ _ _ _ us hl => match us, hl with | [_, _], _ => rfl
theorem ok_is_plan (T : Tb K mg) (HB : TabsB K mg base) : FnOk P w K mg base (L2.CX P w) 6 T.a_is_plan T.d_is_plan ["sale", "thing"] (spOf K mg 2 C_is_plan) :=
  fn_ok T.F_is_plan sc_is_plan rfl rfl fun cdv A outer s H E hr tk po =>
  s_cons (s_expr (g_call (ok_need_sale T HB) hr (by decide) T.g_need_sale T.F_need_sale.kp (bd_need_sale T) tk rfl (a_v (g_var (i := 0) rfl (.inl rfl)) (a_nil)))) (
  s_nos)
theorem sc_plan_worth : FnScope ["sale", "plan"] ["sale", "plan"] (defScope s_plan_worth) := ⟨rfl, rfl, rfl, by decide +kernel, rfl, by decide +kernel, by decide +kernel⟩
theorem bd_plan_worth (T : Tb K mg) : Binds K T.d_plan_worth ["sale", "plan"] [] := T.F_plan_worth.bindsN fun _ _ _ _ _ _ us hl => match us, hl with | [_, _], _ => rfl
theorem ok_plan_worth (T : Tb K mg) (HB : TabsB K mg base) : FnOk P w K mg base (L2.CX P w) 6 T.a_plan_worth T.d_plan_worth ["sale", "plan"] (spOf K mg 2 C_plan_worth) :=
  fn_ok T.F_plan_worth sc_plan_worth rfl rfl fun cdv A outer s H E hr tk po =>
  s_cons (s_expr (g_call (ok_need_sale T HB) hr (by decide) T.g_need_sale T.F_need_sale.kp (bd_need_sale T) tk rfl (a_v (g_var (i := 0) rfl (.inl rfl)) (a_nil)))) (
  s_nos)
theorem sc_best_plan : FnScope ["sale"] ["sale"] (defScope s_best_plan) := ⟨rfl, rfl, rfl, by decide +kernel, rfl, by decide +kernel, by decide +kernel⟩
theorem bd_best_plan (T : Tb K mg) : Binds K T.d_best_plan ["sale"] [] := T.F_best_plan.bindsN fun _ _ _ _ _ _ us hl => match us, hl with | [_], _ => rfl
theorem ok_best_plan (T : Tb K mg) (HB : TabsB K mg base) : FnOk P w K mg base (L2.CX P w) 6 T.a_best_plan T.d_best_plan ["sale"] (spOf K mg 1 C_best_plan) :=
  fn_ok T.F_best_plan sc_best_plan rfl rfl fun cdv A outer s H E hr tk po =>
  s_cons (s_expr (g_call (ok_need_sale T HB) hr (by decide) T.g_need_sale T.F_need_sale.kp (bd_need_sale T) tk rfl (a_v (g_var (i := 0) rfl (.inl rfl)) (a_nil)))) (
  s_nos)
theorem sc_is_run : FnScope ["sale", "thing"] ["sale", "thing"] (defScope s_is_run) := ⟨rfl, rfl, rfl, by decide +kernel, rfl, by decide +kernel, by decide +kernel⟩
theorem bd_is_run (T : Tb K mg) : Binds K T.d_is_run ["sale", "thing"] [] := T.F_is_run.bindsN fun _ _ _ _ _ _ us hl => match us, hl with | [_, _], _ => rfl
theorem ok_is_run (T : Tb K mg) (HB : TabsB K mg base) : FnOk P w K mg base (L2.CX P w) 6 T.a_is_run T.d_is_run ["sale", "thing"] (spOf K mg 2 C_is_run) :=
  fn_ok T.F_is_run sc_is_run rfl rfl fun cdv A outer s H E hr tk po =>
  s_cons (s_expr (g_call (ok_need_sale T HB) hr (by decide) T.g_need_sale T.F_need_sale.kp (bd_need_sale T) tk rfl (a_v (g_var (i := 0) rfl (.inl rfl)) (a_nil)))) (
  s_nos)
theorem sc_run_cases : FnScope ["sale", "run"] ["sale", "run"] (defScope s_run_cases) := ⟨rfl, rfl, rfl, by decide +kernel, rfl, by decide +kernel, by decide +kernel⟩
theorem bd_run_cases (T : Tb K mg) : Binds K T.d_run_cases ["sale", "run"] [] := T.F_run_cases.bindsN fun _ _ _ _ _ _ us hl => match us, hl with | [_, _], _ => rfl
theorem ok_run_cases (T : Tb K mg) (HB : TabsB K mg base) : FnOk P w K mg base (L2.CX P w) 6 T.a_run_cases T.d_run_cases ["sale", "run"] (spOf K mg 2 C_run_cases) :=
  fn_ok T.F_run_cases sc_run_cases rfl rfl fun cdv A outer s H E hr tk po =>
  s_cons (s_expr (g_call (ok_need_sale T HB) hr (by decide) T.g_need_sale T.F_need_sale.kp (bd_need_sale T) tk rfl (a_v (g_var (i := 0) rfl (.inl rfl)) (a_nil)))) (
  s_nos)
theorem sc_money : FnScope ["sale", "plan", "run"] ["sale", "plan", "run"] (defScope s_money) := ⟨rfl, rfl, rfl, by decide +kernel, rfl, by decide +kernel, by decide +kernel⟩
theorem bd_money (T : Tb K mg) : Binds K T.d_money ["sale", "plan", "run"] [] := T.F_money.bindsN fun _ _ _ _ _ _ us hl => match us, hl with | [_, _, _], _ => rfl
theorem ok_money (T : Tb K mg) (HB : TabsB K mg base) : FnOk P w K mg base (L2.CX P w) 6 T.a_money T.d_money ["sale", "plan", "run"] (spOf K mg 3 C_money) :=
  fn_ok T.F_money sc_money rfl rfl fun cdv A outer s H E hr tk po =>
  s_cons (s_expr (g_call (ok_need_sale T HB) hr (by decide) T.g_need_sale T.F_need_sale.kp (bd_need_sale T) tk rfl (a_v (g_var (i := 0) rfl (.inl rfl)) (a_nil)))) (
  s_nos)
theorem sc_shortfall : FnScope ["sale", "plan", "other"] ["sale", "plan", "other"] (defScope s_shortfall) := ⟨rfl, rfl, rfl, by decide +kernel, rfl, by decide +kernel, by decide +kernel⟩
theorem bd_shortfall (T : Tb K mg) : Binds K T.d_shortfall ["sale", "plan", "other"] [] := T.F_shortfall.bindsN fun _ _ _ _ _ _ us hl => match us, hl with | [_, _, _], _ => rfl
theorem ok_shortfall (T : Tb K mg) (HB : TabsB K mg base) : FnOk P w K mg base (L2.CX P w) 6 T.a_shortfall T.d_shortfall ["sale", "plan", "other"] (spOf K mg 3 C_shortfall) :=
  fn_ok T.F_shortfall sc_shortfall rfl rfl fun cdv A outer s H E hr tk po =>
  s_cons (s_expr (g_call (ok_need_sale T HB) hr (by decide) T.g_need_sale T.F_need_sale.kp (bd_need_sale T) tk rfl (a_v (g_var (i := 0) rfl (.inl rfl)) (a_nil)))) (
  s_nos)
theorem sc_over_bound : FnScope ["sale", "thing"] ["sale", "thing"] (defScope s_over_bound) := ⟨rfl, rfl, rfl, by decide +kernel, rfl, by decide +kernel, by decide +kernel⟩
theorem bd_over_bound (T : Tb K mg) : Binds K T.d_over_bound ["sale", "thing"] [] := T.F_over_bound.bindsN fun _ _ _ _ _ _ us hl => match us, hl with | [_, _], _ => rfl
theorem ok_over_bound (T : Tb K mg) (HB : TabsB K mg base) : FnOk P w K mg base (L2.CX P w) 6 T.a_over_bound T.d_over_bound ["sale", "thing"] (spOf K mg 2 C_over_bound) :=
  fn_ok T.F_over_bound sc_over_bound rfl rfl fun cdv A outer s H E hr tk po =>
  s_cons (s_expr (g_call (ok_need_sale T HB) hr (by decide) T.g_need_sale T.F_need_sale.kp (bd_need_sale T) tk rfl (a_v (g_var (i := 0) rfl (.inl rfl)) (a_nil)))) (
  s_nos)
theorem sc_under_bound : FnScope ["sale", "thing"] ["sale", "thing"] (defScope s_under_bound) := ⟨rfl, rfl, rfl, by decide +kernel, rfl, by decide +kernel, by decide +kernel⟩
theorem bd_under_bound (T : Tb K mg) : Binds K T.d_under_bound ["sale", "thing"] [] := T.F_under_bound.bindsN fun _ _ _ _ _ _ us hl => match us, hl with | [_, _], _ => rfl
theorem ok_under_bound (T : Tb K mg) (HB : TabsB K mg base) : FnOk P w K mg base (L2.CX P w) 6 T.a_under_bound T.d_under_bound ["sale", "thing"] (spOf K mg 2 C_under_bound) :=
  fn_ok T.F_under_bound sc_under_bound rfl rfl fun cdv A outer s H E hr tk po =>
  s_cons (s_expr (g_call (ok_need_sale T HB) hr (by decide) T.g_need_sale T.F_need_sale.kp (bd_need_sale T) tk rfl (a_v (g_var (i := 0) rfl (.inl rfl)) (a_nil)))) (
  s_nos)
theorem sc_sale_text : FnScope ["sale"] ["sale"] (defScope s_sale_text) := ⟨rfl, rfl, rfl, by decide +kernel, rfl, by decide +kernel, by decide +kernel⟩
theorem bd_sale_text (T : Tb K mg) : Binds K T.d_sale_text ["sale"] [] := T.F_sale_text.bindsN fun _ _ _ _ _ _ us hl => match us, hl with | [_], _ => rfl
theorem ok_sale_text (T : Tb K mg) (HB : TabsB K mg base) : FnOk P w K mg base (L2.CX P w) 6 T.a_sale_text T.d_sale_text ["sale"] (spOf K mg 1 C_sale_text) :=
  fn_ok T.F_sale_text sc_sale_text rfl rfl fun cdv A outer s H E hr tk po =>
  s_cons (s_expr (g_call (ok_need_sale T HB) hr (by decide) T.g_need_sale T.F_need_sale.kp (bd_need_sale T) tk rfl (a_v (g_var (i := 0) rfl (.inl rfl)) (a_nil)))) (
  s_nos)
theorem sc_Counter___init__ : FnScope ["self", "sale", "self.own_came", "self.stood"] ["self", "sale"] (defScope s_Counter___init__) := ⟨rfl, rfl, rfl, by decide +kernel, rfl, by decide +kernel, by decide +kernel⟩
theorem bd_Counter___init__ (T : Tb K mg) : Binds K T.d_Counter___init__ ["self", "sale"] [] := T.F_Counter___init__.bindsN fun _ _ _ _ _ _ us hl => match us, hl with | [_, _], _ => rfl
theorem ok_Counter___init__ (T : Tb K mg) (HB : TabsB K mg base) : FnG P w K mg base 6 T.a_Counter___init__ T.d_Counter___init__ ["self", "sale"] (spN K mg 2 0 2 C_Counter___init__) :=
  fn_okN T.F_Counter___init__ sc_Counter___init__ rfl rfl (nv_rng (by kernel_rfl)) (by decide) rfl fun cdv A outer s H E gd hr hcd tk po =>
  s_cons (s_expr (g_call (ok_need_sale T HB) hr (by decide) T.g_need_sale T.F_need_sale.kp (bd_need_sale T) tk rfl (a_v (g_var (i := 1) rfl (.inl rfl)) (a_nil)))) (
  s_nos)
theorem sc_law_words : FnScope ["_law_bad", "_law_found", "_law_call"] ["_law_bad"] (defScope s_law_words) := ⟨rfl, rfl, rfl, by decide +kernel, rfl, by decide +kernel, by decide +kernel⟩
theorem bd_law_words (T : Tb K mg) : Binds K T.d_law_words ["_law_bad"] [] := T.F_law_words.bindsN fun _ _ _ _ _ _ us hl => match us, hl with | [_], _ => rfl
theorem ok_law_words (T : Tb K mg) (HB : TabsB K mg base) : FnG P w K mg base 10 T.a_law_words T.d_law_words ["_law_bad"] (spOf K mg 1 C_law_words) :=
  fn_okG T.F_law_words sc_law_words rfl rfl fun cdv A outer s H E gd hr hcd tk po =>
  s_cons (s_setLcG (j := 1) (gls_cons rfl T.g_worths T.n_worths (gls_cons rfl T.g_best_plan T.n_best_plan (gls_cons rfl T.g_sale_text T.n_sale_text (gls_nil)))) rfl sc_law_words.nd rfl rfl (blkOk_by (own := [("_law_call", 2)]) (by kernel_rfl)) rfl (fun _ _ _ _ _ => pg_name sc_law_words.nd rfl (.inr rfl)) (fun _ _ _ _ _ => g_said (k := 7) T.F_law_said (bd_law_said T) sc_law_said rfl (.inl rfl) rfl T.g_law_said (gv_law_said T HB rfl rfl rfl (roomW (k := 2) (hr.mono (by decide)))) HB (by decide) (hcd T.g_law_words) rfl (hr.mono (by decide)) (LamX.lamS_by (by kernel_rfl)) rfl (fun _ _ _ _ _ => rfl) (fun A outer s H E f' c' hr => lam_in fun tk => g_callV (k := 6) (lk_cons ⟨_, _, _, T.n_worths, T.F_worths.kp, (ok_worths T HB).mono (by decide), bd_worths T⟩ (lk_cons ⟨_, _, _, T.n_best_plan, T.F_best_plan.kp, (ok_best_plan T HB).mono (by decide), bd_best_plan T⟩ (lk_cons ⟨_, _, _, T.n_sale_text, T.F_sale_text.kp, (ok_sale_text T HB).mono (by decide), bd_sale_text T⟩ (lk_nil)))) hr (by decide) tk (i := 2) rfl (.inr (.inr rfl)) (a_v (g_var (i := 0) rfl (.inr (.inr rfl))) (a_nil))))) (
  s_cons (s_expr (g_app (g_t (i := 1) rfl (.inl rfl)) (g_saidO (is := []) (k := 7) T.F_law_said (bd_law_said T) sc_law_said rfl (.inl rfl) rfl T.g_law_said (gv_law_said T HB rfl rfl rfl (roomW (k := 2) (hr.mono (by decide)))) HB (by decide) (hcd T.g_law_words) rfl (hr.mono (by decide)) (LamX.lamS_by (by kernel_rfl)) rfl (fun _ _ _ _ _ => rfl) (fun A outer s H E f' c' eg hr => have gd := eg.trans gd; lam_in fun tk => g_nr (ne_make T.n_Counter T.mk_Counter (ok_Counter___init__ T HB) gd hr (by decide) (by rfl) T.g_Counter (bd_Counter___init__ T) tk (a_v (g_var (i := 0) rfl (.inr (.inr rfl))) (a_nil))))))) (
  s_cons (s_forG (k := 2) (gls_cons rfl T.g_over_bound T.n_over_bound (gls_cons rfl T.g_under_bound T.n_under_bound (gls_cons rfl T.g_is_plan T.n_is_plan (gls_cons rfl T.g_plan_worth T.n_plan_worth (gls_cons rfl T.g_is_run T.n_is_run (gls_cons rfl T.g_run_cases T.n_run_cases (gls_nil))))))) po rfl sc_law_words.nd rfl (.inr rfl) (s_one (s_expr (g_app (g_t (i := 1) rfl (.inl rfl)) (g_said (k := 7) T.F_law_said (bd_law_said T) sc_law_said rfl (.inl rfl) rfl T.g_law_said (gv_law_said T HB rfl rfl rfl (roomW (k := 2) (hr.mono (by decide)))) HB (by decide) (hcd T.g_law_words) rfl (hr.mono (by decide)) (LamX.lamS_by (by kernel_rfl)) rfl (fun _ _ _ _ _ => rfl) (fun A outer s H E f' c' hr => lam_in fun tk => g_callV (k := 6) (lk_cons ⟨_, _, _, T.n_over_bound, T.F_over_bound.kp, (ok_over_bound T HB).mono (by decide), bd_over_bound T⟩ (lk_cons ⟨_, _, _, T.n_under_bound, T.F_under_bound.kp, (ok_under_bound T HB).mono (by decide), bd_under_bound T⟩ (lk_cons ⟨_, _, _, T.n_is_plan, T.F_is_plan.kp, (ok_is_plan T HB).mono (by decide), bd_is_plan T⟩ (lk_cons ⟨_, _, _, T.n_plan_worth, T.F_plan_worth.kp, (ok_plan_worth T HB).mono (by decide), bd_plan_worth T⟩ (lk_cons ⟨_, _, _, T.n_is_run, T.F_is_run.kp, (ok_is_run T HB).mono (by decide), bd_is_run T⟩ (lk_cons ⟨_, _, _, T.n_run_cases, T.F_run_cases.kp, (ok_run_cases T HB).mono (by decide), bd_run_cases T⟩ (lk_nil))))))) hr (by decide) tk (i := 2) rfl (.inr (.inr rfl)) (a_v (g_var (i := 0) rfl (.inr (.inr rfl))) (a_v (g_none) (a_nil))))))))) (
  s_cons (s_forG (k := 2) (gls_cons rfl T.g_worth T.n_worth (gls_cons rfl T.g_opened T.n_opened (gls_cons rfl T.g_seat_worth T.n_seat_worth (gls_cons rfl T.g_mark T.n_mark (gls_cons rfl T.g_money T.n_money (gls_cons rfl T.g_shortfall T.n_shortfall (gls_nil))))))) po rfl sc_law_words.nd rfl (.inr rfl) (s_one (s_expr (g_app (g_t (i := 1) rfl (.inl rfl)) (g_said (k := 7) T.F_law_said (bd_law_said T) sc_law_said rfl (.inl rfl) rfl T.g_law_said (gv_law_said T HB rfl rfl rfl (roomW (k := 2) (hr.mono (by decide)))) HB (by decide) (hcd T.g_law_words) rfl (hr.mono (by decide)) (LamX.lamS_by (by kernel_rfl)) rfl (fun _ _ _ _ _ => rfl) (fun A outer s H E f' c' hr => lam_in fun tk => g_callV (k := 6) (lk_cons ⟨_, _, _, T.n_worth, T.F_worth.kp, (ok_worth T HB).mono (by decide), bd_worth T⟩ (lk_cons ⟨_, _, _, T.n_opened, T.F_opened.kp, (ok_opened T HB).mono (by decide), bd_opened T⟩ (lk_cons ⟨_, _, _, T.n_seat_worth, T.F_seat_worth.kp, (ok_seat_worth T HB).mono (by decide), bd_seat_worth T⟩ (lk_cons ⟨_, _, _, T.n_mark, T.F_mark.kp, (ok_mark T HB).mono (by decide), bd_mark T⟩ (lk_cons ⟨_, _, _, T.n_money, T.F_money.kp, (ok_money T HB).mono (by decide), bd_money T⟩ (lk_cons ⟨_, _, _, T.n_shortfall, T.F_shortfall.kp, (ok_shortfall T HB).mono (by decide), bd_shortfall T⟩ (lk_nil))))))) hr (by decide) tk (i := 2) rfl (.inr (.inr rfl)) (a_v (g_var (i := 0) rfl (.inr (.inr rfl))) (a_v (g_none) (a_v (g_none) (a_nil)))))))))) (
  s_cons (s_forG (k := 2) (gls_cons rfl T.g_amends_mean T.n_amends_mean (gls_cons rfl T.g_worth_oversold T.n_worth_oversold (gls_nil))) po rfl sc_law_words.nd rfl (.inr rfl) (s_one (s_expr (g_app (g_t (i := 1) rfl (.inl rfl)) (g_said (k := 7) T.F_law_said (bd_law_said T) sc_law_said rfl (.inl rfl) rfl T.g_law_said (gv_law_said T HB rfl rfl rfl (roomW (k := 2) (hr.mono (by decide)))) HB (by decide) (hcd T.g_law_words) rfl (hr.mono (by decide)) (LamX.lamS_by (by kernel_rfl)) rfl (fun _ _ _ _ _ => rfl) (fun A outer s H E f' c' hr => lam_in fun tk => g_callVK (k := 6) (m := 4) (ks := ["show", "amends"]) (is := [0, 1, 2, 3]) (lk_cons ((kb_amends_mean_1 T).elim fun mv hb => ⟨_, _, _, _, T.n_amends_mean, T.F_amends_mean.kp, rfl, (ok_amends_mean T HB).mono (by decide), hb⟩) (lk_cons ((kb_worth_oversold_2 T).elim fun mv hb => ⟨_, _, _, _, T.n_worth_oversold, T.F_worth_oversold.kp, rfl, (ok_worth_oversold T HB).mono (by decide), hb⟩) (lk_nil))) hr (by decide) tk (i := 2) rfl (.inr (.inr rfl)) (l_cons (g_var (i := 0) rfl (.inr (.inr rfl))) (l_cons (g_none) (l_nil))) (k_cons (g_none) (k_cons (g_none) (k_nil))) rfl (fun ds h => match ds, h with | [_, _, _, _], _ => rfl))))))) (
  s_cons (s_expr (g_app (g_t (i := 1) rfl (.inl rfl)) (g_said (k := 7) T.F_law_said (bd_law_said T) sc_law_said rfl (.inl rfl) rfl T.g_law_said (gv_law_said T HB rfl rfl rfl (roomW (k := 2) (hr.mono (by decide)))) HB (by decide) (hcd T.g_law_words) rfl (hr.mono (by decide)) (LamX.lamS_by (by kernel_rfl)) rfl (fun _ _ _ _ _ => rfl) (fun A outer s H E f' c' hr => lam_in fun tk => (kb_least_limit_0 T).elim fun mv hb => g_callK (ok_least_limit T HB) hr (by decide) T.g_least_limit T.F_least_limit.kp hb tk rfl (fun F => .nil) (l_cons (g_var (i := 0) rfl (.inr (.inr rfl))) (l_nil)) (k_cons (g_none) (k_cons (g_none) (k_nil))))))) (
  s_one (s_ret (g_move (i := 1) rfl (.inl rfl)))))))))
theorem sc_law_spoilt : FnScope ["_law_state_here", "_law_what", "_law_at", "_law_how"] ["_law_state_here", "_law_what"] (defScope s_law_spoilt) := ⟨rfl, rfl, rfl, by decide +kernel, rfl, by decide +kernel, by decide +kernel⟩
theorem bd_law_spoilt (T : Tb K mg) : Binds K T.d_law_spoilt ["_law_state_here", "_law_what"] [] := T.F_law_spoilt.bindsN fun _ _ _ _ _ _ us hl => match us, hl with | [_, _], _ => rfl
theorem ok_law_spoilt (T : Tb K mg) (HB : TabsB K mg base) : ∀ f : Nat, FnG P w K mg base (2 + f) T.a_law_spoilt T.d_law_spoilt ["_law_state_here", "_law_what"] (spOf K mg 2 (C_law_spoilt f))
  | 0 => fn_zero
  | f + 1 => by
    have ih := ok_law_spoilt T HB f
    exact fn_okG (k := 2 + f) T.F_law_spoilt sc_law_spoilt rfl rfl fun cdv A outer s H E gd hr hcd tk po =>
  s_cons (s_if (h_w (h_and (h_val (pe_isi (k := .int) (g_r (i := 1) rfl (.inl rfl)) rfl T.b_isinstance rfl T.b_int rfl)) (h_and (h_not (h_val (pe_isi (k := .bool) (g_r (i := 1) rfl (.inl rfl)) rfl T.b_isinstance rfl T.b_bool rfl))) (pw_and1 (h_gt (g_v (g_callG (ok_law_take T HB) gd hr (by omega) T.g_law_take T.F_law_take.kp (bd_law_take T) tk rfl (a_r (g_t (i := 0) rfl (.inl rfl)) (a_v (g_int) (a_nil))))) (g_v (g_int))))))) (s_one (s_ret (g_ix (g_v (g_lst (l_cons (g_add (g_r (i := 1) rfl (.inl rfl)) (g_v (g_int))) (l_cons (g_sub (g_r (i := 1) rfl (.inl rfl)) (g_v (g_int))) (l_cons (g_sub (g_v (g_int)) (g_r (i := 1) rfl (.inl rfl))) (l_cons (g_add (g_r (i := 1) rfl (.inl rfl)) (g_v (g_int))) (l_cons (g_pow (g_v (g_int)) (g_v (g_int))) (l_nil)))))))) (g_v (g_callG (ok_law_take T HB) gd hr (by omega) T.g_law_take T.F_law_take.kp (bd_law_take T) tk rfl (a_r (g_t (i := 0) rfl (.inl rfl)) (a_v (g_int) (a_nil))))) (fun _ _ => rfl)))) (s_nil)) (
  s_cons (s_if (h_w (h_or (h_not (h_val (pe_isi (k := .tuple) (g_r (i := 1) rfl (.inl rfl)) rfl T.b_isinstance rfl T.b_tuple rfl))) (pw_or1 (h_eq (g_r (i := 1) rfl (.inl rfl)) (g_v (g_tup (l_nil))) hr.units)))) (s_one (s_ret (g_callG (ok_law_odd T HB) gd hr (by omega) T.g_law_odd T.F_law_odd.kp (bd_law_odd T) tk rfl (a_r (g_t (i := 0) rfl (.inl rfl)) (a_nil))))) (s_nil)) (
  s_cons (s_par2 (i := 2) (j := 3) rfl sc_law_spoilt.nd rfl rfl (by omega) rfl rfl (g_callG (ok_law_take T HB) gd hr (by omega) T.g_law_take T.F_law_take.kp (bd_law_take T) tk rfl (a_r (g_t (i := 0) rfl (.inl rfl)) (a_v (g_len T.b_len rfl (g_r (i := 1) rfl (.inl rfl))) (a_nil)))) (g_callG (ok_law_take T HB) gd hr (by omega) T.g_law_take T.F_law_take.kp (bd_law_take T) tk rfl (a_r (g_t (i := 0) rfl (.inl rfl)) (a_v (g_int) (a_nil))))) (
  s_cons (s_if (h_gt (g_r (i := 3) rfl (.inl rfl)) (g_v (g_int))) (s_one (s_ret (g_add (g_v (g_add (g_v (pe_sl (a := .r 1) (g_r (i := 1) rfl (.inl rfl)) po_none (po_some (g_var (i := 2) rfl (.inl rfl))))) (g_v (g_tup (l_cons (g_callG ih gd hr (by omega) T.g_law_spoilt T.F_law_spoilt.kp (bd_law_spoilt T) tk rfl (a_r (g_t (i := 0) rfl (.inl rfl)) (a_v (g_ix (g_r (i := 1) rfl (.inl rfl)) (g_r (i := 2) rfl (.inl rfl)) (fun _ _ => rfl)) (a_nil)))) (l_nil)))))) (g_v (pe_sl (a := .r 1) (g_r (i := 1) rfl (.inl rfl)) (po_some (g_add (g_r (i := 2) rfl (.inl rfl)) (g_v (g_int)))) po_none))))) (s_nil)) (
  s_cons (s_if (h_eq (g_r (i := 3) rfl (.inl rfl)) (g_v (g_int)) hr.units) (s_one (s_ret (g_ix (g_v (g_lst (l_cons (g_lstO T.b_list rfl (g_r (i := 1) rfl (.inl rfl))) (l_cons (g_rev (g_r (i := 1) rfl (.inl rfl))) (l_cons (g_tup (l_cons (g_var (i := 1) rfl (.inl rfl)) (l_nil))) (l_nil)))))) (g_v (g_callG (ok_law_take T HB) gd hr (by omega) T.g_law_take T.F_law_take.kp (bd_law_take T) tk rfl (a_r (g_t (i := 0) rfl (.inl rfl)) (a_v (g_int) (a_nil))))) (fun _ _ => rfl)))) (s_nil)) (
  s_one (s_ret (g_add (g_v (g_add (g_v (pe_sl (a := .r 1) (g_r (i := 1) rfl (.inl rfl)) po_none (po_some (g_var (i := 2) rfl (.inl rfl))))) (g_v (g_ix (g_v (g_lst (l_cons (g_tup (l_nil)) (l_cons (g_tup (l_cons (g_callG (ok_law_odd T HB) gd hr (by omega) T.g_law_odd T.F_law_odd.kp (bd_law_odd T) tk rfl (a_r (g_t (i := 0) rfl (.inl rfl)) (a_nil))) (l_nil))) (l_cons (g_tup (l_cons (g_ix (g_r (i := 1) rfl (.inl rfl)) (g_r (i := 2) rfl (.inl rfl)) (fun _ _ => rfl)) (l_cons (g_ix (g_r (i := 1) rfl (.inl rfl)) (g_r (i := 2) rfl (.inl rfl)) (fun _ _ => rfl)) (l_nil)))) (l_nil)))))) (g_v (g_sub (g_r (i := 3) rfl (.inl rfl)) (g_v (g_int)))) (fun _ _ => rfl))))) (g_v (pe_sl (a := .r 1) (g_r (i := 1) rfl (.inl rfl)) (po_some (g_add (g_r (i := 2) rfl (.inl rfl)) (g_v (g_int)))) po_none)))))))))
theorem sc_law : FnScope ["_law_script", "_law_k", "_law_state_here", "_law_deal", "_law_things", "_law_what", "_law_kept", "_law_turn"] ["_law_script"] (defScope s_law) := ⟨rfl, rfl, rfl, by decide +kernel, rfl, by decide +kernel, by decide +kernel⟩
theorem bd_law (T : Tb K mg) : Binds K T.d_law ["_law_script"] [] := T.F_law.bindsN fun _ _ _ _ _ _ us hl => match us, hl with | [_], _ => rfl
theorem ok_law (T : Tb K mg) (HB : TabsB K mg base) : FnG P w K mg base 15 T.a_law T.d_law ["_law_script"] (spOf K mg 1 C_law) :=
  fn_okG T.F_law sc_law rfl rfl fun cdv A outer s H E gd hr hcd tk po =>
  s_cons (s_for po rfl (pi_iRng1 rfl T.b_range (pa_cons (g_max2 rfl T.b_max rfl (g_v (g_int)) (g_v (g_min2 rfl T.b_min rfl (g_v (g_lenV T.b_len rfl (g_t (i := 0) rfl (.inl rfl)))) (g_v (g_int))))) pa_nil)) (t_nm (i := 1) sc_law.nd rfl (.inl rfl)) (s_cons (s_set (i := 2) sc_law.nd rfl (.inr rfl) (g_callG (ok_law_state T HB) gd hr (by decide) T.g_law_state T.F_law_state.kp (bd_law_state T) tk rfl (a_v (g_var (i := 0) rfl (.inl rfl)) (a_v (g_var (i := 1) rfl (.inl rfl)) (a_nil))))) (
  s_cons (s_set (i := 3) sc_law.nd rfl (.inr rfl) (g_callG (ok_law_sale T HB) gd hr (by decide) T.g_law_sale T.F_law_sale.kp (bd_law_sale T) tk rfl (a_r (g_t (i := 2) rfl (.inr (.inl rfl))) (a_v (g_int) (a_v (g_int) (a_v (g_int) (a_nil))))))) (
  s_cons (s_fz (s_set (i := 4) sc_law.nd rfl (.inl rfl) (g_lst (l_cons (g_none) (l_cons (g_lstO T.b_list rfl (g_r (i := 3) rfl (.inr (.inl rfl)))) (l_cons (pe_sl (a := .r 3) (g_r (i := 3) rfl (.inr (.inl rfl))) po_none (po_some (g_int))) (l_cons (g_add (g_r (i := 3) rfl (.inr (.inl rfl))) (g_v (g_tup (l_cons (g_int) (l_nil))))) (l_cons (g_add (g_v (g_tup (l_cons (g_int) (l_nil)))) (g_v (pe_sl (a := .r 3) (g_r (i := 3) rfl (.inr (.inl rfl))) (po_some (g_int)) po_none))) (l_cons (g_tup (l_nil)) (l_cons (g_str) (l_cons (g_add (g_v (g_tup (l_cons (g_bool) (l_nil)))) (g_v (pe_sl (a := .r 3) (g_r (i := 3) rfl (.inr (.inl rfl))) (po_some (g_int)) po_none))) (l_nil)))))))))))) (
  s_cons (s_fz (s_set (i := 4) sc_law.nd rfl (.inl rfl) (g_add (g_r (i := 4) rfl (.inl rfl)) (g_v (g_lst (l_cons (g_add (g_v (pe_sl (a := .r 3) (g_r (i := 3) rfl (.inr (.inl rfl))) po_none (po_some (g_int)))) (g_v (g_tup (l_cons (g_tup (l_nil)) (l_nil))))) (l_cons (g_add (g_v (pe_sl (a := .r 3) (g_r (i := 3) rfl (.inr (.inl rfl))) po_none (po_some (g_int)))) (g_v (g_tup (l_cons (g_mul (g_v (g_ix (g_r (i := 3) rfl (.inr (.inl rfl))) (g_v (g_int)) (fun _ _ => rfl))) (g_v (g_int))) (l_nil))))) (l_cons (g_callG (ok_law_odd T HB) gd hr (by decide) T.g_law_odd T.F_law_odd.kp (bd_law_odd T) tk rfl (a_r (g_t (i := 2) rfl (.inr (.inl rfl))) (a_nil))) (l_nil))))))))) (
  s_one (s_for po rfl (pi_iSeq (g_add (g_r (i := 4) rfl (.inl rfl)) (g_v (g_comp rfl sc_law.nd (blkOk_by (own := [("_law_turn", 7)]) (by kernel_rfl)) rfl (pi_iRng1 rfl T.b_range (pa_cons (g_int) pa_nil)) (fun _ _ _ _ _ => t_nm (i := 7) sc_law.nd rfl (.inl rfl)) (fun _ _ _ _ _ => g_callG (ok_law_spoilt T HB 12) gd hr (by decide) T.g_law_spoilt T.F_law_spoilt.kp (bd_law_spoilt T) takes0 rfl (a_r (g_t (i := 2) rfl (.inr (.inl rfl))) (a_v (g_var (i := 3) rfl (.inr (.inl rfl))) (a_nil)))))))) (t_nm (i := 5) sc_law.nd rfl (.inl rfl)) (s_cons (s_set (i := 6) sc_law.nd rfl (.inl rfl) (g_reprN gd hr.units T.b_repr rfl (g_r (i := 5) rfl (.inl rfl)))) (
  s_one (s_if (h_w (h_and (h_not (h_val (g_callG (ok_law_is_sale T HB) gd hr (by decide) T.g_law_is_sale T.F_law_is_sale.kp (bd_law_is_sale T) tk rfl (a_v (g_var (i := 5) rfl (.inl rfl)) (a_nil))))) (pw_and1 (h_w (h_or (h_ne (g_v (g_callG (ok_law_words T HB) gd hr (by decide) T.g_law_words T.F_law_words.kp (bd_law_words T) tk rfl (a_v (g_var (i := 5) rfl (.inl rfl)) (a_nil)))) (g_v (g_mul (g_v (g_lst (l_cons (g_tup (l_cons (g_str) (l_nil))) (l_nil)))) (g_v (g_int)))) hr.units) (pw_or1 (h_ne (g_v (g_reprN gd hr.units T.b_repr rfl (g_r (i := 5) rfl (.inl rfl)))) (g_r (i := 6) rfl (.inl rfl)) hr.units))))))) (s_one (s_ret (g_bool))) (s_nil))))))))))) (
  s_one (s_ret (g_bool)))
end
theorem mkT {K : PySem.W.Frag} {mg : Str → Option Value} {h : Heap} (X : K.In h) (G : h.Ns mainGlobals mg) (cX : Sw.SaysX faL fnL (fun K => xsL.all fun f => f K) K) : ∃ T : Tb K mg, T.a_law = He.ga K "law" := by
  have c := cX.both.1
  obtain ⟨d0, F0⟩ := c.def_ 0 (d := dd_is_whole) rfl
  obtain ⟨d1, F1⟩ := c.def_ 1 (d := dd_is_from) rfl
  obtain ⟨d2, F2⟩ := c.def_ 2 (d := dd_is_among) rfl
  obtain ⟨d3, F3⟩ := c.def_ 3 (d := dd_is_offer) rfl
  obtain ⟨d4, F4⟩ := c.def_ 4 (d := dd_is_sale) rfl
  obtain ⟨d5, F5⟩ := c.def_ 5 (d := dd_need_sale) rfl
  obtain ⟨d6, F6⟩ := c.def_ 6 (d := dd_worth) rfl
  obtain ⟨d7, F7⟩ := c.def_ 7 (d := dd_worths) rfl
  obtain ⟨d8, F8⟩ := c.def_ 8 (d := dd_opened) rfl
  obtain ⟨d9, F9⟩ := c.def_ 9 (d := dd_seat_worth) rfl
  obtain ⟨d10, F10⟩ := c.def_ 10 (d := dd_mark) rfl
  obtain ⟨d11, F11⟩ := c.def_ 11 (d := dd_amends_mean) rfl
  obtain ⟨d12, F12⟩ := c.def_ 12 (d := dd_worth_oversold) rfl
  obtain ⟨d13, F13⟩ := c.def_ 13 (d := dd_least_limit) rfl
  obtain ⟨d14, F14⟩ := c.def_ 14 (d := dd_is_plan) rfl
  obtain ⟨d15, F15⟩ := c.def_ 15 (d := dd_plan_worth) rfl
  obtain ⟨d16, F16⟩ := c.def_ 16 (d := dd_best_plan) rfl
  obtain ⟨d17, F17⟩ := c.def_ 17 (d := dd_is_run) rfl
  obtain ⟨d18, F18⟩ := c.def_ 18 (d := dd_run_cases) rfl
  obtain ⟨d19, F19⟩ := c.def_ 19 (d := dd_money) rfl
  obtain ⟨d20, F20⟩ := c.def_ 20 (d := dd_shortfall) rfl
  obtain ⟨d21, F21⟩ := c.def_ 21 (d := dd_over_bound) rfl
  obtain ⟨d22, F22⟩ := c.def_ 22 (d := dd_under_bound) rfl
  obtain ⟨d23, F23⟩ := c.def_ 23 (d := dd_sale_text) rfl
  obtain ⟨d24, F24⟩ := c.def_ 24 (d := dd_law_cell_at) rfl
  obtain ⟨d25, F25⟩ := c.def_ 25 (d := dd_law_state) rfl
  obtain ⟨d26, F26⟩ := c.def_ 26 (d := dd_law_take) rfl
  obtain ⟨d27, F27⟩ := c.def_ 27 (d := dd_law_marks) rfl
  obtain ⟨d28, F28⟩ := c.def_ 28 (d := dd_law_word) rfl
  obtain ⟨d29, F29⟩ := c.def_ 29 (d := dd_law_said) rfl
  obtain ⟨d30, F30⟩ := c.def_ 30 (d := dd_law_number) rfl
  obtain ⟨d31, F31⟩ := c.def_ 31 (d := dd_law_odd) rfl
  obtain ⟨d32, F32⟩ := c.def_ 32 (d := dd_law_spoilt) rfl
  obtain ⟨d33, F33⟩ := c.def_ 33 (d := dd_law_sale) rfl
  obtain ⟨d34, F34⟩ := c.def_ 34 (d := dd_law_is_offer) rfl
  obtain ⟨d35, F35⟩ := c.def_ 35 (d := dd_law_is_sale) rfl
  obtain ⟨d36, F36⟩ := c.def_ 36 (d := dd_law_words) rfl
  obtain ⟨d37, F37⟩ := c.def_ 37 (d := dd_law) rfl
  obtain ⟨d38, F38⟩ := c.def_ 38 (d := dd_Counter___init__) rfl
  exact ⟨⟨_, d0, F0, He.glo_ok X G (c.fact 0 (f := .glo "is_whole") rfl), _, d1, F1, He.glo_ok X G (c.fact 1 (f := .glo "is_from") rfl), _, d2, F2, He.glo_ok X G (c.fact 2 (f := .glo "is_among") rfl), _, d3, F3, He.glo_ok X G (c.fact 3 (f := .glo "is_offer") rfl), _, d4, F4, He.glo_ok X G (c.fact 4 (f := .glo "is_sale") rfl), _, d5, F5, He.glo_ok X G (c.fact 5 (f := .glo "need_sale") rfl), _, d6, F6, He.glo_ok X G (c.fact 6 (f := .glo "worth") rfl), He.eqO_ok (c.fact 6 (f := .glo "worth") rfl), _, d7, F7, He.glo_ok X G (c.fact 7 (f := .glo "worths") rfl), He.eqO_ok (c.fact 7 (f := .glo "worths") rfl), _, d8, F8, He.glo_ok X G (c.fact 8 (f := .glo "opened") rfl), He.eqO_ok (c.fact 8 (f := .glo "opened") rfl), _, d9, F9, He.glo_ok X G (c.fact 9 (f := .glo "seat_worth") rfl), He.eqO_ok (c.fact 9 (f := .glo "seat_worth") rfl), _, d10, F10, He.glo_ok X G (c.fact 10 (f := .glo "mark") rfl), He.eqO_ok (c.fact 10 (f := .glo "mark") rfl), _, d11, F11, He.glo_ok X G (c.fact 11 (f := .glo "amends_mean") rfl), He.eqO_ok (c.fact 11 (f := .glo "amends_mean") rfl), _, d12, F12, He.glo_ok X G (c.fact 12 (f := .glo "worth_oversold") rfl), He.eqO_ok (c.fact 12 (f := .glo "worth_oversold") rfl), _, d13, F13, He.glo_ok X G (c.fact 13 (f := .glo "least_limit") rfl), _, d14, F14, He.glo_ok X G (c.fact 14 (f := .glo "is_plan") rfl), He.eqO_ok (c.fact 14 (f := .glo "is_plan") rfl), _, d15, F15, He.glo_ok X G (c.fact 15 (f := .glo "plan_worth") rfl), He.eqO_ok (c.fact 15 (f := .glo "plan_worth") rfl), _, d16, F16, He.glo_ok X G (c.fact 16 (f := .glo "best_plan") rfl), He.eqO_ok (c.fact 16 (f := .glo "best_plan") rfl), _, d17, F17, He.glo_ok X G (c.fact 17 (f := .glo "is_run") rfl), He.eqO_ok (c.fact 17 (f := .glo "is_run") rfl), _, d18, F18, He.glo_ok X G (c.fact 18 (f := .glo "run_cases") rfl), He.eqO_ok (c.fact 18 (f := .glo "run_cases") rfl), _, d19, F19, He.glo_ok X G (c.fact 19 (f := .glo "money") rfl), He.eqO_ok (c.fact 19 (f := .glo "money") rfl), _, d20, F20, He.glo_ok X G (c.fact 20 (f := .glo "shortfall") rfl), He.eqO_ok (c.fact 20 (f := .glo "shortfall") rfl), _, d21, F21, He.glo_ok X G (c.fact 21 (f := .glo "over_bound") rfl), He.eqO_ok (c.fact 21 (f := .glo "over_bound") rfl), _, d22, F22, He.glo_ok X G (c.fact 22 (f := .glo "under_bound") rfl), He.eqO_ok (c.fact 22 (f := .glo "under_bound") rfl), _, d23, F23, He.glo_ok X G (c.fact 23 (f := .glo "sale_text") rfl), He.eqO_ok (c.fact 23 (f := .glo "sale_text") rfl), _, d24, F24, He.glo_ok X G (c.fact 24 (f := .glo "_law_cell_at") rfl), _, d25, F25, He.glo_ok X G (c.fact 25 (f := .glo "_law_state") rfl), _, d26, F26, He.glo_ok X G (c.fact 26 (f := .glo "_law_take") rfl), _, d27, F27, He.glo_ok X G (c.fact 27 (f := .glo "_law_marks") rfl), _, d28, F28, He.glo_ok X G (c.fact 28 (f := .glo "_law_word") rfl), _, d29, F29, He.glo_ok X G (c.fact 29 (f := .glo "_law_said") rfl), _, d30, F30, He.glo_ok X G (c.fact 30 (f := .glo "_law_number") rfl), _, d31, F31, He.glo_ok X G (c.fact 31 (f := .glo "_law_odd") rfl), _, d32, F32, He.glo_ok X G (c.fact 32 (f := .glo "_law_spoilt") rfl), _, d33, F33, He.glo_ok X G (c.fact 33 (f := .glo "_law_sale") rfl), _, d34, F34, He.glo_ok X G (c.fact 34 (f := .glo "_law_is_offer") rfl), _, d35, F35, He.glo_ok X G (c.fact 35 (f := .glo "_law_is_sale") rfl), _, d36, F36, He.glo_ok X G (c.fact 36 (f := .glo "_law_words") rfl), _, d37, F37, He.glo_ok X G (c.fact 37 (f := .glo "law") rfl), _, d38, F38, _, He.glo_ok X G (c.fact 38 (f := .glo "NoSale") rfl), He.exc_ok (c.fact 39 (f := .exc "NoSale") rfl), _, He.glo_ok X G (c.fact 59 (f := .glo "SeatError") rfl), Sw.xf_of X G (cX.dat 1 rfl), He.int_ok X G (c.fact 40 (f := .int "MOST_SIZE" 4) rfl), He.int_ok X G (c.fact 41 (f := .int "MOST_FARE" 99) rfl), He.int_ok X G (c.fact 42 (f := .int "MOST_CLASSES" 4) rfl), He.int_ok X G (c.fact 43 (f := .int "MOST_CASES_sales" 24) rfl), He.int_ok X G (c.fact 44 (f := .int "MOST_PERIODS" 12) rfl), He.int_ok X G (c.fact 45 (f := .int "MOST_SEATS" 12) rfl), He.free_ok X G (c.fact 46 (f := .free "isinstance") rfl), He.free_ok X G (c.fact 47 (f := .free "bool") rfl), He.free_ok X G (c.fact 48 (f := .free "int") rfl), He.free_ok X G (c.fact 49 (f := .free "len") rfl), He.free_ok X G (c.fact 50 (f := .free "max") rfl), He.free_ok X G (c.fact 51 (f := .free "ValueError") rfl), He.free_ok X G (c.fact 52 (f := .free "tuple") rfl), He.free_ok X G (c.fact 53 (f := .free "range") rfl), He.free_ok X G (c.fact 54 (f := .free "sum") rfl), He.free_ok X G (c.fact 55 (f := .free "all") rfl), He.free_ok X G (c.fact 56 (f := .free "list") rfl), He.free_ok X G (c.fact 57 (f := .free "min") rfl), He.free_ok X G (c.fact 58 (f := .free "repr") rfl), Sw.kwd_rep (cX.dat 2 rfl), Sw.kwd_rep (cX.dat 3 rfl), Sw.kwd_rep (cX.dat 4 rfl), _, He.glo_ok X G (c.fact 60 (f := .glo "Counter") rfl), He.eqO_ok (c.fact 60 (f := .glo "Counter") rfl), He.cls_ok (c.fact 61 (f := .cls "Counter") rfl), He.noat_ok (c.fact 62 (f := .noat "Counter" "own_sale") rfl), He.noat_ok (c.fact 63 (f := .noat "Counter" "rows") rfl), He.noat_ok (c.fact 64 (f := .noat "Counter" "own_came") rfl), He.noat_ok (c.fact 65 (f := .noat "Counter" "stood") rfl), He.mkr_ok (c.fact 66 (f := .mkr "Counter") rfl)⟩, rfl⟩
theorem facts {w : World} {K : PySem.W.Frag} {h : Heap} {mg : Str → Option Value} {f : Addr} (X : K.In h) (G : h.Ns mainGlobals mg) (hfa : mg ("law" : Str) = some (.ref f)) (c : Sw.SaysX faL fnL (fun K => xsL.all fun f => f K) K) :
    ∃ fd : FuncData, (∀ (s : Shared) (v : Value), BindsTo s fd ⟨[v], []⟩ [("_law_script", v)]) ∧ ∀ base : Heap, TabsB K mg base → FnG (PySem.Challenge.rw_seatworth_k05_sales_refused).prog w K mg base 15 f fd ["_law_script"] (spOf K mg 1 C_law) := by
  obtain ⟨T, eT⟩ := mkT X G c
  have e : f = T.a_law := by
    have := hfa.symm.trans T.g_law
    cases this
    rfl
  subst e
  exact ⟨T.d_law, fun s v => FunD.bindsA (ps := ["_law_script"]) T.F_law (fun _ _ _ _ _ _ us hl => match us, hl with | [_], _ => rfl) s [v] rfl, fun base HB => ok_law T HB⟩
theorem recs : ∀ x ∈ Sw.lamNames, ∃ d, (recsOf (PySem.W.view (PySem.W.OpenLaw.row PySem.Challenge.rw_seatworth_k05_sales_refused).prog [121, 122])).find? (fun e => e.name == x) = some d := fun x hx =>
  Option.isSome_iff_exists.mp (List.all_eq_true.mp (show (Sw.lamNames.all fun x => ((recsOf (PySem.W.view (PySem.W.OpenLaw.row PySem.Challenge.rw_seatworth_k05_sales_refused).prog [121, 122])).find? fun e => e.name == x).isSome) = true by kernel_rfl) x hx)
theorem said : LawSaidG PySem.Challenge.rw_seatworth_k05_sales_refused 15 C_law (fun _ h => ∃ K : PySem.W.Frag, K.In h ∧ Sw.SaysX faL fnL (fun K => xsL.all fun f => f K) K) ("law" : Str) := by
  intro w mg f h Y G hmg
  obtain ⟨K, KX, c⟩ := Y
  obtain ⟨fd, b, ok⟩ := facts (w := w) KX G hmg c
  exact ⟨K, fd, KX, Sw.tabsIn_of (c.dat 0 rfl), b, ok⟩
end SwLaw

open PySem PySem.W PySem.Calls PyProof.Rows
theorem PySem.Challenge.cw_seatworth_k05_sales_refused_holds : PySem.Challenge.rw_seatworth_k05_sales_refused.Holds := by
  w_on; o_law
  refine HandSHeadRun.head_any (r := OpenLaw.row PySem.Challenge.rw_seatworth_k05_sales_refused) (q := view (OpenLaw.row PySem.Challenge.rw_seatworth_k05_sales_refused).prog [121, 122]) (H := SwLaw.hk) (ob := SwLaw.ob) (M := 20000) (loose := SwLaw.looseL) (d := HandSHeadRun.topDef (OpenLaw.row PySem.Challenge.rw_seatworth_k05_sales_refused).prog 122) (kwd := []) SwLaw.ob_eq
    (by kernel_rfl) (fun s => by kernel_rfl) SwLaw.run (by kernel_rfl) (by kernel_rfl) (by kernel_rfl) (by rfl) (by first | assumption | decide +kernel) (by decide +kernel) ⟨rfl, rfl, rfl, rfl, rfl, by decide +kernel⟩ ?hw ?hc
  case hw => w_witness2
  case hc =>
    have nm : (HandSHeadRun.topDef (OpenLaw.row PySem.Challenge.rw_seatworth_k05_sales_refused).prog 122).name = ("law" : PySem.Str) := by kernel_rfl
    exact Sw.walk_saidG (l := PySem.Challenge.rw_seatworth_k05_sales_refused) (n := 63) (k := 15) (C := SwLaw.C_law) rfl (by decide) (by kernel_rfl) ⟨rfl, by decide, by decide⟩ SwLaw.recs (by rw [nm]; exact SwLaw.said) (fun ns hn => SwLaw.law_ok hn rfl)
