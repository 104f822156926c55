import PyProof.Rows.All
import Wide.All
import OpenK.AllK
import Wide.FinOn
import HandS.ForMost
import HandS.Exc
import HandS.WordsExc
import HandS.IsInst
import HandS.Flow
import HandS.Lambda
import HandS.StrMore
import HandS.HeadHook4
import HandS.WrittenGet
import HandS.ExcIs
import HandS.NoneIn
import HandS.Small
import HandS.MakeKw
import KE.KExcInit
import KE.KDictKeyed
import KE.KDictWalk
import KE.KEqDict
import OpenK.KMeth
import HandS.HeadNt
import KE.KDictCopyH
import PyProof.Rows.Range3
import PyProof.Conv_bool
import HandS.Head2
import HandS.TupAny
import HandS.Zip
import HandS.Defaults
import HandS.Replace
import HandS.ExcCtx
import HandS.ExcInit
import HandS.ExcField
import HandS.HotCalls
import HandS.HeadWalk
import HandS.Head0
import HandS.Head1
import HandS.HeadEnd
import HandS.HeadHook1
import HandS.HeadHook2
import HandS.Star
import HandS.ClsMeth
import HandS.MakeKwOnly
import HandS.FStr
import HandS.Style
import HandS.TupMul
import KE.KUnpackStar
import HandS.RaiseMore
import HandS.SlotsOwn
import HandS.OwnEq
import KE.GoesMore
import HandS.SetFor
import HandS.Conv
import HandS.TupLen
import KE.SortData
import OpenK.KOps
import KE.GoesZip
import HandS.More
import HandS.Finally
import HandS.DictComp
import PyProof.DictCompW
import KE.KDictDisplayH
import PyProof.DictTable
import HandS.Deep
import HandS.SetBool
import HandS.TupSets
import HandS.Codes
import PySem.Challenge.RW_highestsky_k21_sayings_refused
set_option Elab.async false
set_option linter.all false
set_option maxRecDepth 100000
set_option maxHeartbeats 0
/-! What the run of the start needs of the layer. -/
namespace DL
open PySem L2
inductive D where
  | non | bl (b : Bool) | int (i : Int) | str (s : Str)
  | lst (r : Nat) (xs : List D) | tup (xs : List D)
  | dct (kvs : List (D × D))
  | obj (n : Str) (fs : List (Str × D))
  | ref (a : Addr) | ty (n : String)
  | scr (ns : List Int)
  | exc (n : Str) (fs : List (Str × D))
  | cls (n : Str)
  | cst (xs : List D)

def tyNames : List String := ["NoneType", "bool", "int", "str", "list", "tuple", "dict"]
/-- an own class over ValueError, with its own __init__ -/
def oexB (K : PySem.W.Frag) (C : Addr) : Bool := (match K.lookup C with
  | some ⟨.type "type", _, .cls cd, sl⟩ => (match cd.mro, sl.toList with
    | .ref C' :: bm, [_, _, _, _, some (.builtin n), _] => C' == C && n == "ValueError.__new__" && !cd.hasDel && cd.hasDict && HandSPX.refsVE bm
    | _, _ => false)
  | _ => false) && (He.eqO (PySem.W.findIn K (.ref C) "__setattr__") (some (some (.builtin "object.__setattr__"))) && (decide (PySem.W.subIn K (.ref C) (.type "BaseException") = some true) && (decide (PySem.W.typeIn K (.ref C) = some (.type "type")) && PySem.W.keepIn K (.ref C))))
/-- its __init__ -/
def iniB (K : PySem.W.Frag) (C : Addr) : Bool := He.eqO (PySem.W.findIn K (.ref C) "__init__") (some (some (.ref (He.ma K C "__init__")))) && decide (PySem.W.typeIn K (.ref (He.ma K C "__init__")) = some (.type "function"))
def noB (K : PySem.W.Frag) (C : Addr) (fs : List Str) : Bool := fs.all fun f => He.eqO (PySem.W.findIn K (.ref C) f) (some none)
/-- the written value u is this data -/
def cstB (K : PySem.W.Frag) : Nat → Value → D → Bool
  | _, .none, .non => true
  | _, .bool b, .bl c => b == c
  | _, .int i _, .int j => decide (i = j)
  | _, .str x _, .str y => decide (x = y)
  | _, .type m, .ty n => decide (m = n)
  | _, .ref a, .tup [] => (match K.lookup a with
    | some ⟨.type c, _, .seq its _, _⟩ => decide (c = "tuple") && decide (its.toList = [])
    | _ => false)
  | n + 1, .ref a, .cst ds => (match K.lookup a with
    | some ⟨.type c, _, .seq its _, _⟩ => decide (c = "tuple") && (decide (its.size ≤ sizeLine) && (decide (its.toList.length = ds.length) && (its.toList.zip ds).all fun p => cstB K n p.1 p.2))
    | _ => false)
  | _, _, _ => false
def gcB (K : PySem.W.Frag) (x : Str) (d : D) : Bool := match PySem.W.nsIn K mainGlobals x with
  | some (some u) => cstB K 6 u d
  | _ => false
def ktB (K : PySem.W.Frag) (a : Addr) (kvs : List (Str × D)) : Bool := kvs.all fun q => match PySem.W.nsIn K a q.1 with
  | some (some u) => cstB K 6 u q.2
  | _ => false
def fnA (K : PySem.W.Frag) (f : Addr) : He.FnW := match K.lookup f with
  | some ⟨_, _, .func fd, _⟩ => some (fd.name, fd.qualname, fd.params, fd.body, fd.scope, fd.globals, fd.closure, fd.builtins)
  | _ => none
def okA (K : PySem.W.Frag) (f : Addr) (d : He.DefD) : Bool := PySem.W.keepIn K (.ref f) && (match K.lookup f with
  | some ⟨_, _, .func fd, _⟩ => PySem.W.codeIn K fd.code d.qual && (He.dflB K fd.defaults (d.dvs K) && He.kwdB K fd.kwdefaults (d.kws K))
  | _ => false)
abbrev SD := (Str × Str) × He.DefD
def sdA (K : PySem.W.Frag) (d : SD) : Addr := He5.wf K (He.ga K d.1.1) "staticmethod" d.1.2
abbrev AlY : Type := He.AlX × List He.FnW
structure SaysY (fa : List He.Fa) (fn : List He.DefD) (ts : List He.Tab) (tf : List He.Defn) (sd : List SD) (ex : PySem.W.Frag → Bool) (w : World) (h : Heap) (K : PySem.W.Frag) : Prop where
  x : He.SaysX fa fn ts tf (fun K => ex K && sd.all fun d => okA K (sdA K d) d.2) w h K
  s : sd.map (fun d => fnA K (sdA K d)) = sd.map fun d => d.2.val
def exS (sd : List SD) (ex : PySem.W.Frag → Bool) : PySem.W.Frag → Bool := fun K => ex K && sd.all fun d => okA K (sdA K d) d.2
abbrev KZ (as : List Addr) (g : Addr → Option Obj) : PySem.W.Frag := He.frT g as
def obsZ (as : List Addr) (fa : List He.Fa) (fn : List He.DefD) (ts : List He.Tab) (tf : List He.Defn) (sd : List SD) (ex : PySem.W.Frag → Bool) (g : Addr → Option Obj) : AlY := ((He.obsT fa fn ts (KZ as g), exS sd ex (KZ as g) && He.tabsB g tf (KZ as g)), sd.map fun d => fnA (KZ as g) (sdA (KZ as g) d))
theorem saysZ_of {as : List Addr} {fa : List He.Fa} {fn : List He.DefD} {ts : List He.Tab} {tf : List He.Defn} {sd : List SD} {ex : PySem.W.Frag → Bool} {w : World} {h : Heap} (e : obsZ as fa fn ts tf sd ex h.get? = (He.valX fn ts w, sd.map fun (d : SD) => He.DefD.val d.2)) : SaysY fa fn ts tf sd ex w h (KZ as h.get?) := by
  have e0 := congrArg (fun z : AlY => z.1) e
  have e1 : He.obsT fa fn ts (KZ as h.get?) = He.valT fn ts w := congrArg (fun z : He.AlX => z.1) e0
  have e2 : (exS sd ex (KZ as h.get?) && He.tabsB h.get? tf (KZ as h.get?)) = true := congrArg (fun z : He.AlX => z.2) e0
  obtain ⟨h1, h2⟩ := He.ba e2
  have key : ∀ p ∈ tf, PySem.W.codeHdIn (KZ as h.get?) (He.cT (KZ as h.get?) p).1 (He.cT (KZ as h.get?) p).2 = true ∧ ∃ o, h.get? (He.cT (KZ as h.get?) p).2 = some o ∧ He.emptyTab o = true := fun p hp => by
    obtain ⟨h3, h4⟩ := He.ba (List.all_eq_true.mp h2 p hp)
    refine ⟨h3, ?_⟩
    cases q : h.get? (He.cT (KZ as h.get?) p).2 with
    | none => rw [q] at h4; cases h4
    | some o => rw [q] at h4; exact ⟨o, rfl, h4⟩
  refine ⟨⟨e1, h1, fun p hp => (key p hp).1, fun p hp => ?_, fun p hp => ?_⟩, congrArg (fun z : AlY => z.2) e⟩
  · obtain ⟨_, o, q, ht⟩ := key p hp
    exact He.frT_none q ht
  · obtain ⟨_, o, q, ht⟩ := key p hp
    rw [q, He.emptyTab_eq ht]
def hookZ (as : List Addr) (fa : List He.Fa) (fn : List He.DefD) (ts : List He.Tab) (tf : List He.Defn) (sd : List SD) (ex : PySem.W.Frag → Bool) : PySem.W.Hook where
  α := AlY
  obs := fun s => obsZ as fa fn ts tf sd ex s.heap.get?
  val := fun w => (He.valX fn ts w, sd.map fun (d : SD) => He.DefD.val d.2)
  says := fun w h => ∃ K : PySem.W.Frag, K.In h ∧ SaysY fa fn ts tf sd ex w h K
  of := fun _ _ e => ⟨_, He.frT_in, saysZ_of e⟩
  keeps := fun _ _ _ ⟨K, hK, c⟩ k => ⟨K, PySem.W.Frag.In.keeps hK k, ⟨⟨c.x.t, c.x.more, c.x.hd, c.x.out, fun p hp => k _ _ (c.x.empty p hp)⟩, c.s⟩⟩
theorem obsZ_eq {as : List Addr} {fa : List He.Fa} {fn : List He.DefD} {ts : List He.Tab} {tf : List He.Defn} {sd : List SD} {ex : PySem.W.Frag → Bool} {g : Addr → Option Obj} {s : Shared} (h : ∀ a, g a = s.heap.get? a) : obsZ as fa fn ts tf sd ex g = (hookZ as fa fn ts tf sd ex).obs s := by
  have e : g = s.heap.get? := funext h
  rw [e] <;> rfl
def Ru (x : Option PySem.W.SharedT) (p : PySem.W.SharedT → Prop) : Prop := ∃ s, x = some s ∧ p s
theorem ru_of {α : Type} {x : Option PySem.W.SharedT} {g : PySem.W.SharedT → α} {v : α} (h : x.map g = some v) : Ru x fun s => g s = v := by
  cases x with
  | none => cases h
  | some s => exact ⟨s, rfl, Option.some.inj h⟩
theorem ru_and {x : Option PySem.W.SharedT} {p q : PySem.W.SharedT → Prop} (a : Ru x p) (b : Ru x q) : Ru x fun s => p s ∧ q s := by
  obtain ⟨s, e, hp⟩ := a
  obtain ⟨t, e2, hq⟩ := b
  rw [e] at e2
  cases e2
  exact ⟨s, e, hp, hq⟩
theorem ru_imp {x : Option PySem.W.SharedT} {p q : PySem.W.SharedT → Prop} (a : Ru x p) (h : ∀ s, p s → q s) : Ru x q := by
  obtain ⟨s, e, hp⟩ := a
  exact ⟨s, e, h s hp⟩
theorem ru_ob {as : List Addr} {fa : List He.Fa} {fn : List He.DefD} {ts : List He.Tab} {tf : List He.Defn} {sd : List SD} {ex : PySem.W.Frag → Bool} {x : Option PySem.W.SharedT} {w : World}
    (h1 : Ru x fun s => (fa.all fun f => f.ok (KZ as (HandSHeadRun.getT s))) = true)
    (h2 : Ru x fun s => (fn.all fun d => d.ok (KZ as (HandSHeadRun.getT s))) = true)
    (h3 : Ru x fun s => (fn.map fun d => He.fnW (KZ as (HandSHeadRun.getT s)) d.at_) = fn.map He.DefD.val)
    (h4 : Ru x fun s => (ts.map fun t => He.dicW (KZ as (HandSHeadRun.getT s)) (t.1 (KZ as (HandSHeadRun.getT s)))) = ts.map fun t => some (He.keysIn w.params t.2))
    (h5 : Ru x fun s => ex (KZ as (HandSHeadRun.getT s)) = true)
    (h6 : Ru x fun s => (sd.all fun d => okA (KZ as (HandSHeadRun.getT s)) (sdA (KZ as (HandSHeadRun.getT s)) d) d.2) = true)
    (h7 : Ru x fun s => He.tabsB (HandSHeadRun.getT s) tf (KZ as (HandSHeadRun.getT s)) = true)
    (h8 : Ru x fun s => (sd.map fun d => fnA (KZ as (HandSHeadRun.getT s)) (sdA (KZ as (HandSHeadRun.getT s)) d)) = sd.map fun d => He.DefD.val d.2) :
    Ru x fun s => obsZ as fa fn ts tf sd ex (HandSHeadRun.getT s) = (hookZ as fa fn ts tf sd ex).val w := by
  refine ru_imp (ru_and h1 (ru_and h2 (ru_and h3 (ru_and h4 (ru_and h5 (ru_and h6 (ru_and h7 h8))))))) fun s ⟨a1, a2, a3, a4, a5, a6, a7, a8⟩ => ?_
  have e1 : He.obsD fa fn (KZ as (HandSHeadRun.getT s)) = He.valD fn := Prod.ext (by
    show ((fa.all fun f => f.ok (KZ as (HandSHeadRun.getT s))) && fn.all fun d => d.ok (KZ as (HandSHeadRun.getT s))) = true
    rw [a1, a2]; rfl) a3
  have e2 : He.obsT fa fn ts (KZ as (HandSHeadRun.getT s)) = He.valT fn ts w := Prod.ext e1 a4
  have e3 : (exS sd ex (KZ as (HandSHeadRun.getT s)) && He.tabsB (HandSHeadRun.getT s) tf (KZ as (HandSHeadRun.getT s))) = true := by
    unfold exS
    rw [a5, a6, a7]; rfl
  exact Prod.ext (Prod.ext e2 e3) a8
theorem run_of {α β γ : Type} {x : Option PySem.W.SharedT} {a : PySem.W.SharedT → α} {b : PySem.W.SharedT → β} {c : PySem.W.SharedT → γ} {u : α} {v : β} {z : γ} (h1 : Ru x fun s => a s = u ∧ b s = v) (h2 : Ru x fun s => c s = z) : x.map (fun s => (a s, b s, c s)) = some (u, v, z) := by
  obtain ⟨s, e, ⟨e1, e2⟩, e3⟩ := ru_and h1 h2
  rw [e, Option.map_some, e1, e2, e3]
end DL
namespace HB
open PySem L2 DL
def kv_BOUNDS : List (Str × D) := [("atmost", (.cst [(.cst [(.int 0), (.int 99)])])), ("atleast", (.cst [(.cst [(.int 1), (.int 100)])])), ("exactly", (.cst [(.cst [(.int 0), (.int 99)])])), ("under", (.cst [(.cst [(.int (-100)), (.int 99)])])), ("level", (.cst [(.cst [(.int (-99)), (.int 99)])])), ("ifthen", (.cst [(.cst [(.int 1), (.int 100)]), (.cst [(.int 1), (.int 100)])])), ("squallmost", (.cst [(.cst [(.int 0), (.int 99)])])), ("squallleast", (.cst [(.cst [(.int 1), (.int 100)])]))]
end HB
/-! The text by places, scopes. Printed by a program of mine. -/
namespace K21
open PySem L2 DL HB
def top (i : Nat) : Stmt := PySem.Challenge.pw_highestsky_k21_sayings_refused.main.body.getD i (.Pass ⟨0, 0, 0, 0⟩)
def clsBody (s : Stmt) (i : Nat) : Stmt := match s with
  | .ClassDef _ _ _ b _ _ _ _ _ _ _ => b.getD i (.Pass ⟨0, 0, 0, 0⟩)
  | _ => .Pass ⟨0, 0, 0, 0⟩
abbrev s_is_number : Stmt := top 13
abbrev s_is_name : Stmt := top 14
abbrev s_is_cell : Stmt := top 15
abbrev s_is_place : Stmt := top 16
abbrev s_first_outside : Stmt := top 23
abbrev s_check_gauge : Stmt := top 24
abbrev s_kept_region : Stmt := top 26
abbrev s_kept_place : Stmt := top 27
abbrev s_made : Stmt := top 28
abbrev s_at_most : Stmt := top 29
abbrev s_at_least : Stmt := top 30
abbrev s_exactly : Stmt := top 31
abbrev s_under : Stmt := top 32
abbrev s_level : Stmt := top 33
abbrev s_if_then : Stmt := top 34
abbrev s_squall_most : Stmt := top 35
abbrev s_squall_least : Stmt := top 36
abbrev s__law_open : Stmt := top 38
abbrev s__law_draw : Stmt := top 39
abbrev s__law_of : Stmt := top 40
abbrev s__law_same : Stmt := top 41
abbrev s__law_field : Stmt := top 42
abbrev s__law_try : Stmt := top 43
abbrev s__law_tries : Stmt := top 44
abbrev s__law_kinds : Stmt := top 45
abbrev s__law_is_squall : Stmt := top 46
abbrev s__law_bounds : Stmt := top 47
abbrev s__law_any_number : Stmt := top 48
abbrev s__law_any_gauge : Stmt := top 49
abbrev s__law_any_place : Stmt := top 50
abbrev s__law_any_region : Stmt := top 51
abbrev s__law_any_saying : Stmt := top 52
abbrev s__law_call : Stmt := top 53
abbrev s__law_made : Stmt := top 54
abbrev s__law_told : Stmt := top 55
abbrev s__law_is_word : Stmt := top 56
abbrev s__law_is_place : Stmt := top 57
abbrev s__law_odd_gauge : Stmt := top 58
abbrev s__law_odd_region : Stmt := top 59
abbrev s__law_odd_place : Stmt := top 60
abbrev s__law_odd_number : Stmt := top 61
abbrev s__law_region_due : Stmt := top 62
abbrev s__law_call_due : Stmt := top 63
abbrev s__law_copied : Stmt := top 64
abbrev s_law : Stmt := top 65
abbrev s_Saying___init__ : Stmt := clsBody (top 25) 0
abbrev s_Saying_numbers : Stmt := clsBody (top 25) 1
abbrev s_Saying_regions : Stmt := clsBody (top 25) 2
abbrev s_Saying_with_gauge : Stmt := clsBody (top 25) 11
abbrev si_InvalidGauge : Stmt := clsBody (top 5) 0
abbrev si_InvalidNumber : Stmt := clsBody (top 4) 0
abbrev si_InvalidPlace : Stmt := clsBody (top 6) 0
abbrev si_InvalidRegion : Stmt := clsBody (top 7) 0
def xnames : List Str := ["InvalidGauge", "InvalidNumber", "InvalidPlace", "InvalidRegion"]
def xfields : List Str := ["at", "code", "line", "most", "place", "value", "why"]
def fields_Saying : List Str := ["kind", "gauge", "held_regions", "held_numbers"]
end K21
/-! The head and the end. Printed by a program of mine. -/
namespace K21
open PySem PySem.Spec PyProof.Rows L2 DL LamX HB
def d_is_number : He.DefD := ⟨("is_number", none), "is_number", "is_number", defArgs s_is_number, defBody s_is_number, defScope s_is_number, [], []⟩
def d_is_name : He.DefD := ⟨("is_name", none), "is_name", "is_name", defArgs s_is_name, defBody s_is_name, defScope s_is_name, [], []⟩
def d_is_cell : He.DefD := ⟨("is_cell", none), "is_cell", "is_cell", defArgs s_is_cell, defBody s_is_cell, defScope s_is_cell, [], []⟩
def d_is_place : He.DefD := ⟨("is_place", none), "is_place", "is_place", defArgs s_is_place, defBody s_is_place, defScope s_is_place, [], []⟩
def d_first_outside : He.DefD := ⟨("first_outside", none), "first_outside", "first_outside", defArgs s_first_outside, defBody s_first_outside, defScope s_first_outside, [], []⟩
def d_check_gauge : He.DefD := ⟨("check_gauge", none), "check_gauge", "check_gauge", defArgs s_check_gauge, defBody s_check_gauge, defScope s_check_gauge, [], []⟩
def d_kept_region : He.DefD := ⟨("kept_region", none), "kept_region", "kept_region", defArgs s_kept_region, defBody s_kept_region, defScope s_kept_region, [], []⟩
def d_kept_place : He.DefD := ⟨("kept_place", none), "kept_place", "kept_place", defArgs s_kept_place, defBody s_kept_place, defScope s_kept_place, [], []⟩
def d_made : He.DefD := ⟨("made", none), "made", "made", defArgs s_made, defBody s_made, defScope s_made, [], []⟩
def d_at_most : He.DefD := ⟨("at_most", none), "at_most", "at_most", defArgs s_at_most, defBody s_at_most, defScope s_at_most, [], [("gauge", .non)]⟩
def d_at_least : He.DefD := ⟨("at_least", none), "at_least", "at_least", defArgs s_at_least, defBody s_at_least, defScope s_at_least, [], [("gauge", .non)]⟩
def d_exactly : He.DefD := ⟨("exactly", none), "exactly", "exactly", defArgs s_exactly, defBody s_exactly, defScope s_exactly, [], [("gauge", .non)]⟩
def d_under : He.DefD := ⟨("under", none), "under", "under", defArgs s_under, defBody s_under, defScope s_under, [], [("gauge", .non)]⟩
def d_level : He.DefD := ⟨("level", none), "level", "level", defArgs s_level, defBody s_level, defScope s_level, [], [("gauge", .non)]⟩
def d_if_then : He.DefD := ⟨("if_then", none), "if_then", "if_then", defArgs s_if_then, defBody s_if_then, defScope s_if_then, [], [("gauge", .non)]⟩
def d_squall_most : He.DefD := ⟨("squall_most", none), "squall_most", "squall_most", defArgs s_squall_most, defBody s_squall_most, defScope s_squall_most, [], [("gauge", .non)]⟩
def d_squall_least : He.DefD := ⟨("squall_least", none), "squall_least", "squall_least", defArgs s_squall_least, defBody s_squall_least, defScope s_squall_least, [], [("gauge", .non)]⟩
def d__law_open : He.DefD := ⟨("_law_open", none), "_law_open", "_law_open", defArgs s__law_open, defBody s__law_open, defScope s__law_open, [], []⟩
def d__law_draw : He.DefD := ⟨("_law_draw", none), "_law_draw", "_law_draw", defArgs s__law_draw, defBody s__law_draw, defScope s__law_draw, [], []⟩
def d__law_of : He.DefD := ⟨("_law_of", none), "_law_of", "_law_of", defArgs s__law_of, defBody s__law_of, defScope s__law_of, [], []⟩
def d__law_same : He.DefD := ⟨("_law_same", none), "_law_same", "_law_same", defArgs s__law_same, defBody s__law_same, defScope s__law_same, [], []⟩
def d__law_field : He.DefD := ⟨("_law_field", none), "_law_field", "_law_field", defArgs s__law_field, defBody s__law_field, defScope s__law_field, [], []⟩
def d__law_try : He.DefD := ⟨("_law_try", none), "_law_try", "_law_try", defArgs s__law_try, defBody s__law_try, defScope s__law_try, [], []⟩
def d__law_tries : He.DefD := ⟨("_law_tries", none), "_law_tries", "_law_tries", defArgs s__law_tries, defBody s__law_tries, defScope s__law_tries, [], []⟩
def d__law_kinds : He.DefD := ⟨("_law_kinds", none), "_law_kinds", "_law_kinds", defArgs s__law_kinds, defBody s__law_kinds, defScope s__law_kinds, [], []⟩
def d__law_is_squall : He.DefD := ⟨("_law_is_squall", none), "_law_is_squall", "_law_is_squall", defArgs s__law_is_squall, defBody s__law_is_squall, defScope s__law_is_squall, [], []⟩
def d__law_bounds : He.DefD := ⟨("_law_bounds", none), "_law_bounds", "_law_bounds", defArgs s__law_bounds, defBody s__law_bounds, defScope s__law_bounds, [], []⟩
def d__law_any_number : He.DefD := ⟨("_law_any_number", none), "_law_any_number", "_law_any_number", defArgs s__law_any_number, defBody s__law_any_number, defScope s__law_any_number, [], []⟩
def d__law_any_gauge : He.DefD := ⟨("_law_any_gauge", none), "_law_any_gauge", "_law_any_gauge", defArgs s__law_any_gauge, defBody s__law_any_gauge, defScope s__law_any_gauge, [], []⟩
def d__law_any_place : He.DefD := ⟨("_law_any_place", none), "_law_any_place", "_law_any_place", defArgs s__law_any_place, defBody s__law_any_place, defScope s__law_any_place, [], []⟩
def d__law_any_region : He.DefD := ⟨("_law_any_region", none), "_law_any_region", "_law_any_region", defArgs s__law_any_region, defBody s__law_any_region, defScope s__law_any_region, [], []⟩
def d__law_any_saying : He.DefD := ⟨("_law_any_saying", none), "_law_any_saying", "_law_any_saying", defArgs s__law_any_saying, defBody s__law_any_saying, defScope s__law_any_saying, [], []⟩
def d__law_call : He.DefD := ⟨("_law_call", none), "_law_call", "_law_call", defArgs s__law_call, defBody s__law_call, defScope s__law_call, [], []⟩
def d__law_made : He.DefD := ⟨("_law_made", none), "_law_made", "_law_made", defArgs s__law_made, defBody s__law_made, defScope s__law_made, [], []⟩
def d__law_told : He.DefD := ⟨("_law_told", none), "_law_told", "_law_told", defArgs s__law_told, defBody s__law_told, defScope s__law_told, [], []⟩
def d__law_is_word : He.DefD := ⟨("_law_is_word", none), "_law_is_word", "_law_is_word", defArgs s__law_is_word, defBody s__law_is_word, defScope s__law_is_word, [], []⟩
def d__law_is_place : He.DefD := ⟨("_law_is_place", none), "_law_is_place", "_law_is_place", defArgs s__law_is_place, defBody s__law_is_place, defScope s__law_is_place, [], []⟩
def d__law_odd_gauge : He.DefD := ⟨("_law_odd_gauge", none), "_law_odd_gauge", "_law_odd_gauge", defArgs s__law_odd_gauge, defBody s__law_odd_gauge, defScope s__law_odd_gauge, [], []⟩
def d__law_odd_region : He.DefD := ⟨("_law_odd_region", none), "_law_odd_region", "_law_odd_region", defArgs s__law_odd_region, defBody s__law_odd_region, defScope s__law_odd_region, [], []⟩
def d__law_odd_place : He.DefD := ⟨("_law_odd_place", none), "_law_odd_place", "_law_odd_place", defArgs s__law_odd_place, defBody s__law_odd_place, defScope s__law_odd_place, [], []⟩
def d__law_odd_number : He.DefD := ⟨("_law_odd_number", none), "_law_odd_number", "_law_odd_number", defArgs s__law_odd_number, defBody s__law_odd_number, defScope s__law_odd_number, [], []⟩
def d__law_region_due : He.DefD := ⟨("_law_region_due", none), "_law_region_due", "_law_region_due", defArgs s__law_region_due, defBody s__law_region_due, defScope s__law_region_due, [], []⟩
def d__law_call_due : He.DefD := ⟨("_law_call_due", none), "_law_call_due", "_law_call_due", defArgs s__law_call_due, defBody s__law_call_due, defScope s__law_call_due, [], []⟩
def d__law_copied : He.DefD := ⟨("_law_copied", none), "_law_copied", "_law_copied", defArgs s__law_copied, defBody s__law_copied, defScope s__law_copied, [], []⟩
def d_law : He.DefD := ⟨("law", none), "law", "law", defArgs s_law, defBody s_law, defScope s_law, [], []⟩
def d_Saying___init__ : He.DefD := ⟨("Saying", some "__init__"), "__init__", "Saying.__init__", defArgs s_Saying___init__, defBody s_Saying___init__, defScope s_Saying___init__, [], []⟩
def d_Saying_numbers : He.DefD := ⟨("Saying", some "numbers"), "numbers", "Saying.numbers", defArgs s_Saying_numbers, defBody s_Saying_numbers, defScope s_Saying_numbers, [], []⟩
def d_Saying_regions : He.DefD := ⟨("Saying", some "regions"), "regions", "Saying.regions", defArgs s_Saying_regions, defBody s_Saying_regions, defScope s_Saying_regions, [], []⟩
def d_Saying_with_gauge : He.DefD := ⟨("Saying", some "with_gauge"), "with_gauge", "Saying.with_gauge", defArgs s_Saying_with_gauge, defBody s_Saying_with_gauge, defScope s_Saying_with_gauge, [], []⟩
def di_InvalidGauge : He.DefD := ⟨("InvalidGauge", some "__init__"), "__init__", "InvalidGauge.__init__", defArgs si_InvalidGauge, defBody si_InvalidGauge, defScope si_InvalidGauge, [], []⟩
def di_InvalidNumber : He.DefD := ⟨("InvalidNumber", some "__init__"), "__init__", "InvalidNumber.__init__", defArgs si_InvalidNumber, defBody si_InvalidNumber, defScope si_InvalidNumber, [], []⟩
def di_InvalidPlace : He.DefD := ⟨("InvalidPlace", some "__init__"), "__init__", "InvalidPlace.__init__", defArgs si_InvalidPlace, defBody si_InvalidPlace, defScope si_InvalidPlace, [], []⟩
def di_InvalidRegion : He.DefD := ⟨("InvalidRegion", some "__init__"), "__init__", "InvalidRegion.__init__", defArgs si_InvalidRegion, defBody si_InvalidRegion, defScope si_InvalidRegion, [], []⟩
def fnl : List He.DefD := [d_is_number, d_is_name, d_is_cell, d_is_place, d_first_outside, d_check_gauge, d_kept_region, d_kept_place, d_made, d_at_most, d_at_least, d_exactly, d_under, d_level, d_if_then, d_squall_most, d_squall_least, d__law_open, d__law_draw, d__law_of, d__law_same, d__law_field, d__law_try, d__law_tries, d__law_kinds, d__law_is_squall, d__law_bounds, d__law_any_number, d__law_any_gauge, d__law_any_place, d__law_any_region, d__law_any_saying, d__law_call, d__law_made, d__law_told, d__law_is_word, d__law_is_place, d__law_odd_gauge, d__law_odd_region, d__law_odd_place, d__law_odd_number, d__law_region_due, d__law_call_due, d__law_copied, d_law, d_Saying___init__, d_Saying_numbers, d_Saying_regions, d_Saying_with_gauge, di_InvalidGauge, di_InvalidNumber, di_InvalidPlace, di_InvalidRegion]
def sdl : List SD := []
def fal : List He.Fa := [.glo "is_number", .glo "is_name", .glo "is_cell", .glo "is_place", .glo "first_outside", .glo "check_gauge", .glo "kept_region", .glo "kept_place", .glo "made", .glo "at_most", .glo "at_least", .glo "exactly", .glo "under", .glo "level", .glo "if_then", .glo "squall_most", .glo "squall_least", .glo "_law_open", .glo "_law_draw", .glo "_law_of", .glo "_law_same", .glo "_law_field", .glo "_law_try", .glo "_law_tries", .glo "_law_kinds", .glo "_law_is_squall", .glo "_law_bounds", .glo "_law_any_number", .glo "_law_any_gauge", .glo "_law_any_place", .glo "_law_any_region", .glo "_law_any_saying", .glo "_law_call", .glo "_law_made", .glo "_law_told", .glo "_law_is_word", .glo "_law_is_place", .glo "_law_odd_gauge", .glo "_law_odd_region", .glo "_law_odd_place", .glo "_law_odd_number", .glo "_law_region_due", .glo "_law_call_due", .glo "_law_copied", .glo "law", .glo "InvalidGauge", .glo "InvalidNumber", .glo "InvalidPlace", .glo "InvalidRegion", .glo "SkyError", .glo "Missing", .glo "Saying", .glo "BOUNDS", .cls "Saying", .noat "Saying" "kind", .noat "Saying" "gauge", .noat "Saying" "held_regions", .noat "Saying" "held_numbers", .meth "Saying" "numbers", .meth "Saying" "regions", .meth "Saying" "with_gauge", .mkr "Saying", .free "abs", .free "all", .free "bool", .free "dict", .free "enumerate", .free "int", .free "isinstance", .free "len", .free "list", .free "max", .free "min", .free "range", .free "set", .free "sorted", .free "str", .free "tuple", .free "zip"]
def tsl : List He.Tab := [(fun K => He.ga K "BOUNDS", kv_BOUNDS.map (·.1))]
def lml : List ((Str × Option Str) × Str) := [(("law", none), ((PyProof.Rows.envOfC "law" (defScope s_law) 0 0 .none).qual ++ "<lambda>"))]
def exl : PySem.W.Frag → List Bool := fun K => [gcB K "LAST_HOUR" (.int 8), gcB K "LAST_INDEX" (.int 5), gcB K "LETTERS" (.str "abcdefghijklmnopqrstuvwxyz"), gcB K "MOST_LETTERS" (.int 6), gcB K "MOST_PLACES" (.int 40), ktB K (He.ga K "BOUNDS") kv_BOUNDS, oexB K (He.ga K "InvalidGauge"), iniB K (He.ga K "InvalidGauge"), noB K (He.ga K "InvalidGauge") ["code", "value"], oexB K (He.ga K "InvalidNumber"), iniB K (He.ga K "InvalidNumber"), noB K (He.ga K "InvalidNumber") ["code", "value"], oexB K (He.ga K "InvalidPlace"), iniB K (He.ga K "InvalidPlace"), noB K (He.ga K "InvalidPlace") ["code", "value"], oexB K (He.ga K "InvalidRegion"), iniB K (He.ga K "InvalidRegion"), noB K (He.ga K "InvalidRegion") ["code", "at"], (xnames.all fun n => decide (PySem.W.exmAny K (.ref (He.ga K n)) [.ref (He.ga K "SkyError"), .ref (He.ga K "Missing")] = some true)), (xnames.all fun n => xfB K (He.ga K n)), (xnames.all fun n => noB K (He.ga K n) xfields), decide ((lml.map fun p => (He.cT K p.1).2).Nodup)]
def exb : PySem.W.Frag → Bool := fun K => (exl K).all id
theorem exb_at {K : PySem.W.Frag} (h : exb K = true) (i : Nat) {b : Bool} (e : (exl K)[i]? = some b) : b = true := by
  have := List.all_eq_true.mp h b (List.mem_of_getElem? e)
  exact this
abbrev R : PySem.W.OpenRow := PySem.W.OpenLaw.row PySem.Challenge.rw_highestsky_k21_sayings_refused
def asl : List Addr := List.range 1000
abbrev hk : PySem.W.Hook := hookZ asl fal fnl tsl (lml.map (·.1)) sdl exb
def ob (s : PySem.W.SharedT) : AlY := obsZ asl fal fnl tsl (lml.map (·.1)) sdl exb (HandSHeadRun.getT s)
theorem ob_eq (s : PySem.W.SharedT) : ob s = hk.obs s.abs := obsZ_eq (HandSHeadRun.getT_eq s)
def loo : List Str := (["_wall", "SkyError", "Missing", "InvalidNumber", "InvalidGauge", "InvalidPlace", "InvalidRegion", "LETTERS", "MOST_LETTERS", "LAST_INDEX", "LAST_HOUR", "is_number", "is_name", "is_cell", "is_place", "place_text", "region_text", "BOUNDS", "MOST_PLACES", "first_outside", "check_gauge", "Saying", "kept_region", "kept_place", "made", "at_most", "at_least", "exactly", "under", "level"] : List Str) ++ (["if_then", "squall_most", "squall_least", "_law_open", "_law_draw", "_law_of", "_law_same", "_law_field", "_law_try", "_law_tries", "_law_kinds", "_law_is_squall", "_law_bounds", "_law_any_number", "_law_any_gauge", "_law_any_place", "_law_any_region", "_law_any_saying", "_law_call", "_law_made", "_law_told", "_law_is_word", "_law_is_place", "_law_odd_gauge", "_law_odd_region", "_law_odd_place", "_law_odd_number", "_law_region_due", "_law_call_due", "_law_copied"] : List Str)
noncomputable abbrev RN (w : World) (os : OsState) : Option PySem.W.SharedT := HandSHeadRun.endF (HandSHeadRun.stepQ (HandSHeadRun.denQ HandSHeadRun.tabQ) R.prog w) 20000 R.prog w os
abbrev KS (s : PySem.W.SharedT) : PySem.W.Frag := KZ asl (HandSHeadRun.getT s)
open PySem PySem.W PySem.Calls PyProof.Rows
theorem lkLf (w : World) (os : OsState) : (RN (w.withFollow "special-get-raises" false) os).map (fun s => (HandSHeadRun.looksF R.prog (boot_heap (w.withFollow "special-get-raises" false).params) s.abs, HandSHeadRun.seenQ (PySem.W.view R.prog [65]) loo (importedModules R.prog.main.body) (fun s => xlAt (PySem.W.view R.prog [65]) [] s && recOk R.toRowW.records s) s.abs)) = some (true, openGood (PySem.W.view R.prog [65]) loo) := by kernel_rfl
theorem lkA0f (w : World) (os : OsState) : (RN (w.withFollow "special-get-raises" false) os).map (fun s => fal.all fun f => f.ok (KS s)) = some true := by kernel_rfl
theorem lkN0f (w : World) (os : OsState) : (RN (w.withFollow "special-get-raises" false) os).map (fun s => (fnl.all fun d => d.ok (KS s), fnl.map fun d => He.fnW (KS s) d.at_)) = some (true, fnl.map He.DefD.val) := by kernel_rfl
theorem lkE0f (w : World) (os : OsState) : (RN (w.withFollow "special-get-raises" false) os).map (fun s => (exl (KS s)).all id) = some true := by kernel_rfl
theorem lkCf (w : World) (os : OsState) : (RN (w.withFollow "special-get-raises" false) os).map (fun s => (tsl.map fun t => He.dicW (KS s) (t.1 (KS s)), sdl.all fun d => okA (KS s) (sdA (KS s) d) d.2, He.tabsB (HandSHeadRun.getT s) (lml.map (·.1)) (KS s), sdl.map fun d => fnA (KS s) (sdA (KS s) d))) = some (tsl.map fun t => some (He.keysIn (w.withFollow "special-get-raises" false).params t.2), true, true, sdl.map fun d => He.DefD.val d.2) := by kernel_rfl
theorem run0f (w : World) : HandSHeadRun.RunEq R (PySem.W.view R.prog [65]) hk ob 20000 loo (w.withFollow "special-get-raises" false) := fun os =>
  run_of (ru_imp (ru_of (lkLf w os)) fun s e => ⟨congrArg (·.1) e, congrArg (·.2) e⟩)
    (show Ru (RN (w.withFollow "special-get-raises" false) os) fun s => ob s = hk.val (w.withFollow "special-get-raises" false) from ru_ob (as := asl) (fa := fal) (fn := fnl) (ts := tsl) (tf := lml.map Prod.fst) (sd := sdl) (ex := exb) (w := (w.withFollow "special-get-raises" false)) (ru_imp (ru_of (lkA0f w os)) fun s e => e)
      (ru_imp (ru_of (lkN0f w os)) fun s e => congrArg (·.1) e)
      (ru_imp (ru_of (lkN0f w os)) fun s e => congrArg (·.2) e)
      (ru_imp (ru_of (lkCf w os)) fun s e => congrArg (·.1) e) (show Ru (RN (w.withFollow "special-get-raises" false) os) fun s => (exl (KS s)).all id = true from (ru_imp (ru_of (lkE0f w os)) fun s e => e)) (ru_imp (ru_of (lkCf w os)) fun s e => congrArg (·.2.1) e) (ru_imp (ru_of (lkCf w os)) fun s e => congrArg (·.2.2.1) e) (ru_imp (ru_of (lkCf w os)) fun s e => congrArg (·.2.2.2) e))
open PySem PySem.W PySem.Calls PyProof.Rows
theorem lkLt (w : World) (os : OsState) : (RN (w.withFollow "special-get-raises" true) os).map (fun s => (HandSHeadRun.looksF R.prog (boot_heap (w.withFollow "special-get-raises" true).params) s.abs, HandSHeadRun.seenQ (PySem.W.view R.prog [65]) loo (importedModules R.prog.main.body) (fun s => xlAt (PySem.W.view R.prog [65]) [] s && recOk R.toRowW.records s) s.abs)) = some (true, openGood (PySem.W.view R.prog [65]) loo) := by kernel_rfl
theorem lkA0t (w : World) (os : OsState) : (RN (w.withFollow "special-get-raises" true) os).map (fun s => fal.all fun f => f.ok (KS s)) = some true := by kernel_rfl
theorem lkN0t (w : World) (os : OsState) : (RN (w.withFollow "special-get-raises" true) os).map (fun s => (fnl.all fun d => d.ok (KS s), fnl.map fun d => He.fnW (KS s) d.at_)) = some (true, fnl.map He.DefD.val) := by kernel_rfl
theorem lkE0t (w : World) (os : OsState) : (RN (w.withFollow "special-get-raises" true) os).map (fun s => (exl (KS s)).all id) = some true := by kernel_rfl
theorem lkCt (w : World) (os : OsState) : (RN (w.withFollow "special-get-raises" true) os).map (fun s => (tsl.map fun t => He.dicW (KS s) (t.1 (KS s)), sdl.all fun d => okA (KS s) (sdA (KS s) d) d.2, He.tabsB (HandSHeadRun.getT s) (lml.map (·.1)) (KS s), sdl.map fun d => fnA (KS s) (sdA (KS s) d))) = some (tsl.map fun t => some (He.keysIn (w.withFollow "special-get-raises" true).params t.2), true, true, sdl.map fun d => He.DefD.val d.2) := by kernel_rfl
theorem run0t (w : World) : HandSHeadRun.RunEq R (PySem.W.view R.prog [65]) hk ob 20000 loo (w.withFollow "special-get-raises" true) := fun os =>
  run_of (ru_imp (ru_of (lkLt w os)) fun s e => ⟨congrArg (·.1) e, congrArg (·.2) e⟩)
    (show Ru (RN (w.withFollow "special-get-raises" true) os) fun s => ob s = hk.val (w.withFollow "special-get-raises" true) from ru_ob (as := asl) (fa := fal) (fn := fnl) (ts := tsl) (tf := lml.map Prod.fst) (sd := sdl) (ex := exb) (w := (w.withFollow "special-get-raises" true)) (ru_imp (ru_of (lkA0t w os)) fun s e => e)
      (ru_imp (ru_of (lkN0t w os)) fun s e => congrArg (·.1) e)
      (ru_imp (ru_of (lkN0t w os)) fun s e => congrArg (·.2) e)
      (ru_imp (ru_of (lkCt w os)) fun s e => congrArg (·.1) e) (show Ru (RN (w.withFollow "special-get-raises" true) os) fun s => (exl (KS s)).all id = true from (ru_imp (ru_of (lkE0t w os)) fun s e => e)) (ru_imp (ru_of (lkCt w os)) fun s e => congrArg (·.2.1) e) (ru_imp (ru_of (lkCt w os)) fun s e => congrArg (·.2.2.1) e) (ru_imp (ru_of (lkCt w os)) fun s e => congrArg (·.2.2.2) e))
theorem run0 (b : Bool) (w : World) : HandSHeadRun.RunEq R (PySem.W.view R.prog [65]) hk ob 20000 loo (w.withFollow "special-get-raises" b) := match b with | false => run0f w | true => run0t w
theorem run (w : World) : HandSHeadRun.RunEq R (PySem.W.view R.prog [65]) hk ob 20000 loo w := by
  have := run0 (w.params.followText "special-get-raises") w
  rwa [World.withFollow_self] at this
end K21
/-! The data layer, part a: data without addresses, an owned store, and readings over both. -/
namespace DL
open PySem L2

/-- what is owned (may still be changed) -/
inductive MO where
  | lst (xs : List D)
  | bg (k : Nat)
  | dK (kvs : List (Key × D))
  | dT (kvs : List (List Key × D))
  | ins (n : Str) (fs : List (Str × D))
/-- a bag of four items -/
abbrev MO.bag : MO := .bg 0
abbrev Mu := Addr → Option MO
/-- a world: what is hidden (it stands as it is), what is lent (by regions), the exception that is handled (its address, class, dict), the classes by their names, the tables of code objects, what is owned, the heap -/
structure Wd where
  hd : Hp
  ln : Nat → Hp
  ex : Option (Addr × Addr × Addr)
  cl : Str → Addr
  tb : List (Addr × Str)
  M : Mu
  H : Hp
structure Fr (w : Wd) (a : Addr) : Prop where
  m : w.M a = none
  h : w.hd a = none
  l : ∀ r, w.ln r a = none
def keyD : Key → D
  | .inl i => .int i
  | .inr x => .str x
def tkeyD (ks : List Key) : D := .tup (ks.map keyD)

/-- a list, a tuple that is not owned -/
def LsAt (w : Wd) (r : Nat) (a : Addr) (xs : List V) : Prop := w.H a = some (.lst xs) ∧ ((r = 0 ∧ Fr w a) ∨ (r ≠ 0 ∧ w.ln r a = some (.lst xs)))
def TuAt (K : PySem.W.Frag) (w : Wd) (a : Addr) (xs : List V) : Prop := (Fr w a ∧ w.H a = some (.tup xs)) ∨ (xs = [] ∧ ∀ H', SqT K H' a xs)
/-- the script: a list that is read alone -/
def ScAt (K : PySem.W.Frag) (w : Wd) (a : Addr) (xs : List V) : Prop := (Fr w a ∧ Rd w.H a (.lst xs)) ∨ ∀ H', SqL K H' a xs
/-- a dict, locked or not -/
def unl : HO → HO
  | .frz _ (.dK k) => .dK k
  | .frz _ (.dT k) => .dT k
  | u => u
theorem unl_lst {u : HO} {xs : List V} (h : unl u = .lst xs) : u = .lst xs := by
  unfold unl at h
  split at h <;> first | exact h | cases h
theorem unl_frz {u : HO} {o : Obj} {xs : List V} (h : unl u = .frz o (.lst xs)) : u = .frz o (.lst xs) := by
  unfold unl at h
  split at h <;> first | exact h | cases h
theorem unl_tup {u : HO} {xs : List V} (h : unl u = .tup xs) : u = .tup xs := by
  unfold unl at h
  split at h <;> first | exact h | cases h
theorem unl_xd {u : HO} {xs : List (Str × V)} (h : unl u = .xd xs) : u = .xd xs := by
  unfold unl at h
  split at h <;> first | exact h | cases h
theorem unl_ins {u : HO} {C dx : Addr} {xs : List (Str × V)} (h : unl u = .ins C dx xs) : u = .ins C dx xs := by
  unfold unl at h
  split at h <;> first | exact h | cases h
/-- at a stands this, locked or not -/
def Sd (H : Hp) (a : Addr) (u : HO) : Prop := ∃ u', H a = some u' ∧ unl u' = u

/-! data that stands in the heap, in nothing that is owned -/
mutual
def Rp (K : PySem.W.Frag) (w : Wd) : D → V → Prop
  | .non, v => v = .non
  | .bl b, v => v = .bl b
  | .int i, v => v = .int i
  | .str x, v => v = .str x
  | .ref a, v => v = .ref a
  | .ty n, v => v = .ty n
  | .scr ns, v => ∃ a, v = .ref a ∧ ScAt K w a (ns.map V.int)
  | .lst r ds, v => ∃ a xs, v = .ref a ∧ LsAt w r a xs ∧ RpL K w ds xs
  | .tup ds, v => ∃ a xs, v = .ref a ∧ TuAt K w a xs ∧ RpL K w ds xs
  | .cst ds, v => ∃ a xs, v = .ref a ∧ (∀ H', SqT K H' a xs) ∧ RpL K w ds xs
  | .dct kvs, v => ∃ a, v = .ref a ∧ Fr w a ∧ ((kvs ≠ [] ∧ ∃ ks, Sd w.H a (.dK ks) ∧ RpK K w kvs (ks.map fun p => (keyD p.1, p.2))) ∨ (∃ ks, Sd w.H a (.dT ks) ∧ RpK K w kvs (ks.map fun p => (tkeyD p.1, p.2))))
  | .cls n, v => v = .ref (w.cl n)
  | .obj n fs, v => ∃ a dx vs, v = .ref a ∧ Fr w a ∧ w.H a = some (.ins (w.cl n) dx vs) ∧ RpF K w fs vs
  | .exc n fs, v => ∃ a dd vs, v = .ref a ∧ w.ex = some (a, w.cl n, dd) ∧ Fr w dd ∧ w.H dd = some (.xd vs) ∧ RpF K w fs vs
def RpL (K : PySem.W.Frag) (w : Wd) : List D → List V → Prop
  | [], vs => vs = []
  | d :: ds, vs => ∃ x r, vs = x :: r ∧ Rp K w d x ∧ RpL K w ds r
def RpK (K : PySem.W.Frag) (w : Wd) : List (D × D) → List (D × V) → Prop
  | [], vs => vs = []
  | (k, d) :: ds, vs => ∃ x r, vs = (k, x) :: r ∧ Rp K w d x ∧ RpK K w ds r
def RpF (K : PySem.W.Frag) (w : Wd) : List (Str × D) → List (Str × V) → Prop
  | [], vs => vs = []
  | (k, d) :: ds, vs => ∃ x r, vs = (k, x) :: r ∧ Rp K w d x ∧ RpF K w ds r
end
/-- what is free stands as it stood (but for a dict's lock), and is free; what is lent stays so -/
structure Kp (w w' : Wd) : Prop where
  fr : ∀ a u, Fr w a → w.H a = some u → (∀ ps, u ≠ .tbl ps) → Fr w' a ∧ Sd w'.H a (unl u)
  ln : ∀ r a u, w.ln r a = some u → w'.ln r a = some u ∧ (w.H a = some u → w'.H a = some u)
  ex : w'.ex = w.ex
  cl : w'.cl = w.cl
  tb : w'.tb = w.tb
  fz : ∀ a o v, Fr w a → w.H a = some (.frz o v) → w'.H a = some (.frz o v)
theorem unl_tbl {u : HO} {ps : Array Value} (h : unl u = .tbl ps) : u = .tbl ps := by
  unfold unl at h
  split at h <;> first | exact h | cases h
theorem Kp.refl (w : Wd) : Kp w w := ⟨fun _ u h r _ => ⟨h, u, r, rfl⟩, fun _ _ _ h => ⟨h, id⟩, rfl, rfl, rfl, fun _ _ _ _ e => e⟩
theorem Kp.trans {w w1 w2 : Wd} (a : Kp w w1) (b : Kp w1 w2) : Kp w w2 := ⟨fun x u h r nt => by
  obtain ⟨h1, u1, r1, e1⟩ := a.fr x u h r nt
  obtain ⟨h2, u2, r2, e2⟩ := b.fr x u1 h1 r1 (fun ps z => by subst z; exact nt ps (unl_tbl e1.symm))
  exact ⟨h2, u2, r2, e2.trans e1⟩, fun r x u h => ⟨(b.ln r x u (a.ln r x u h).1).1, fun q => (b.ln r x u (a.ln r x u h).1).2 ((a.ln r x u h).2 q)⟩, b.ex.trans a.ex, b.cl.trans a.cl, b.tb.trans a.tb, fun x o v h e => b.fz x o v (a.fr x _ h e (fun _ z => nomatch z)).1 (a.fz x o v h e)⟩
/-- all that is tracked and free stays; the lent ones, too -/
theorem Kp.of {w w' : Wd} (h : ∀ a u, Fr w a → w.H a = some u → (∀ ps, u ≠ .tbl ps) → Fr w' a ∧ w'.H a = some u) (l : ∀ r a u, w.ln r a = some u → w'.ln r a = some u ∧ (w.H a = some u → w'.H a = some u)) (e : w'.ex = w.ex) (c : w'.cl = w.cl) (t : w'.tb = w.tb) : Kp w w' := ⟨fun a u hm e n => ⟨(h a u hm e n).1, u, (h a u hm e n).2, rfl⟩, l, e, c, t, fun a o v hm e => (h a _ hm e (fun _ z => nomatch z)).2⟩
section
variable {w w' : Wd} {a C dx : Addr} {r : Nat}
theorem Kp.lst {xs : List V} (k : Kp w w') (h : LsAt w r a xs) : LsAt w' r a xs := by
  obtain ⟨hH, ⟨h0, hf⟩ | ⟨h0, hl⟩⟩ := h
  · obtain ⟨h1, u, e, q⟩ := k.fr a _ hf hH (fun _ z => nomatch z)
    exact ⟨by rw [e, unl_lst q], .inl ⟨h0, h1⟩⟩
  · obtain ⟨h1, h2⟩ := k.ln r a _ hl
    exact ⟨h2 hH, .inr ⟨h0, h1⟩⟩
theorem Kp.tup {K : PySem.W.Frag} {xs : List V} (k : Kp w w') (h : TuAt K w a xs) : TuAt K w' a xs := by
  rcases h with h | h
  · obtain ⟨h1, u, e, q⟩ := k.fr a _ h.1 h.2 (fun _ z => nomatch z)
    exact .inl ⟨h1, by rw [e, unl_tup q]⟩
  · exact .inr h
theorem Kp.scr {K : PySem.W.Frag} {xs : List V} (k : Kp w w') (h : ScAt K w a xs) : ScAt K w' a xs := by
  rcases h with ⟨h0, h | ⟨o, h⟩⟩ | h
  · obtain ⟨h1, u, e, q⟩ := k.fr a _ h0 h (fun _ z => nomatch z)
    exact .inl ⟨h1, .inl (by rw [e, unl_lst q])⟩
  · obtain ⟨h1, u, e, q⟩ := k.fr a _ h0 h (fun _ z => nomatch z)
    exact .inl ⟨h1, .inr ⟨o, by rw [e, unl_frz q]⟩⟩
  · exact .inr h
theorem Kp.sd {u : HO} (k : Kp w w') (hm : Fr w a) (h : Sd w.H a u) (nt : ∀ ps, u ≠ .tbl ps) : Fr w' a ∧ Sd w'.H a u := by
  obtain ⟨u1, e, rfl⟩ := h
  obtain ⟨h1, u2, e2, q⟩ := k.fr a _ hm e (fun ps z => nt ps (by rw [z]; rfl))
  exact ⟨h1, u2, e2, q⟩
theorem Kp.ins {xs : List (Str × V)} (k : Kp w w') (hm : Fr w a) (h : w.H a = some (.ins C dx xs)) : Fr w' a ∧ w'.H a = some (.ins C dx xs) := by
  obtain ⟨h1, u2, e2, q⟩ := k.fr a _ hm h (fun _ z => nomatch z)
  exact ⟨h1, by rw [e2, unl_ins q]⟩
theorem Kp.xd {xs : List (Str × V)} (k : Kp w w') (hm : Fr w a) (h : w.H a = some (.xd xs)) : Fr w' a ∧ w'.H a = some (.xd xs) := by
  obtain ⟨h1, u2, e2, q⟩ := k.fr a _ hm h (fun _ z => nomatch z)
  exact ⟨h1, by rw [e2, unl_xd q]⟩
end
/-- the heap alone, otherwise -/
abbrev Wd.at (w : Wd) (H : Hp) : Wd := { w with H := H }
theorem Fr.at {w : Wd} {a : Addr} {H : Hp} (h : Fr w a) : Fr (w.at H) a := ⟨h.m, h.h, h.l⟩
/-- more in the heap -/
theorem Kp.ex' {w : Wd} {H' : Hp} (h : ∀ a u, w.H a = some u → H' a = some u) : Kp w (w.at H') := Kp.of (fun a u hm e _ => ⟨hm.at, h a u e⟩) (fun _ a u e => ⟨e, h a u⟩) rfl rfl rfl
/-- a new object that is free -/
theorem Kp.new {w : Wd} {p : Addr} {o : HO} (h : w.H p = none) : Kp w (w.at (upd w.H p o)) := Kp.ex' fun a u e => by rw [upd_ne (ne_of_none e h)]; exact e

mutual
theorem Rp.mono {K : PySem.W.Frag} {w w' : Wd} (k : Kp w w') : ∀ {d : D} {v : V}, Rp K w d v → Rp K w' d v
  | .non, _, h => h
  | .bl _, _, h => h
  | .int _, _, h => h
  | .str _, _, h => h
  | .ref _, _, h => h
  | .ty _, _, h => h
  | .scr ns, v, h => by
    obtain ⟨a, rfl, h1⟩ := h
    exact ⟨a, rfl, k.scr h1⟩
  | .lst _ ds, v, h => by
    obtain ⟨a, xs, rfl, hl, hr⟩ := h
    exact ⟨a, xs, rfl, k.lst hl, RpL.mono k hr⟩
  | .exc C fs, v, h => by
    obtain ⟨a, dd, vs, rfl, he, hm, h1, h2⟩ := h
    exact ⟨a, dd, vs, rfl, by rw [k.ex, k.cl]; exact he, (k.xd hm h1).1, (k.xd hm h1).2, RpF.mono k h2⟩
  | .tup ds, v, h => by
    obtain ⟨a, xs, rfl, hl, hr⟩ := h
    exact ⟨a, xs, rfl, k.tup hl, RpL.mono k hr⟩
  | .cst ds, v, h => by
    obtain ⟨a, xs, rfl, hl, hr⟩ := h
    exact ⟨a, xs, rfl, hl, RpL.mono k hr⟩
  | .dct kvs, v, h => by
    obtain ⟨a, rfl, hm, hl⟩ := h
    rcases hl with ⟨hne, ks, h1, h2⟩ | ⟨ks, h1, h2⟩
    · exact ⟨a, rfl, (k.sd hm h1 (fun _ z => by cases z)).1, .inl ⟨hne, ks, (k.sd hm h1 (fun _ z => by cases z)).2, RpK.mono k h2⟩⟩
    · exact ⟨a, rfl, (k.sd hm h1 (fun _ z => by cases z)).1, .inr ⟨ks, (k.sd hm h1 (fun _ z => by cases z)).2, RpK.mono k h2⟩⟩
  | .cls n, v, h => by
    show v = .ref (w'.cl n)
    rw [k.cl]; exact h
  | .obj C fs, v, h => by
    obtain ⟨a, dx, vs, rfl, hm, h1, h2⟩ := h
    exact ⟨a, dx, vs, rfl, (k.ins hm h1).1, by rw [k.cl]; exact (k.ins hm h1).2, RpF.mono k h2⟩
theorem RpL.mono {K : PySem.W.Frag} {w w' : Wd} (k : Kp w w') : ∀ {ds : List D} {vs : List V}, RpL K w ds vs → RpL K w' ds vs
  | [], _, h => h
  | d :: ds, vs, h => by
    obtain ⟨x, r, rfl, h1, h2⟩ := h
    exact ⟨x, r, rfl, Rp.mono k h1, RpL.mono k h2⟩
theorem RpK.mono {K : PySem.W.Frag} {w w' : Wd} (k : Kp w w') : ∀ {ds : List (D × D)} {vs : List (D × V)}, RpK K w ds vs → RpK K w' ds vs
  | [], _, h => h
  | (q, d) :: ds, vs, h => by
    obtain ⟨x, r, rfl, h1, h2⟩ := h
    exact ⟨x, r, rfl, Rp.mono k h1, RpK.mono k h2⟩
theorem RpF.mono {K : PySem.W.Frag} {w w' : Wd} (k : Kp w w') : ∀ {ds : List (Str × D)} {vs : List (Str × V)}, RpF K w ds vs → RpF K w' ds vs
  | [], _, h => h
  | (q, d) :: ds, vs, h => by
    obtain ⟨x, r, rfl, h1, h2⟩ := h
    exact ⟨x, r, rfl, Rp.mono k h1, RpF.mono k h2⟩
end
section
variable {K : PySem.W.Frag} {w w' : Wd}
theorem RpL.length : ∀ {ds : List D} {vs : List V}, RpL K w ds vs → vs.length = ds.length
  | [], vs, h => by obtain rfl : vs = [] := h; rfl
  | d :: ds, vs, h => by
    obtain ⟨x, r, rfl, _, h2⟩ := h
    rw [List.length_cons, List.length_cons, RpL.length h2]
theorem RpL.get : ∀ {ds : List D} {vs : List V} {i : Nat} {v : V}, RpL K w ds vs → vs[i]? = some v → ∃ d, ds[i]? = some d ∧ Rp K w d v
  | [], vs, i, v, h, e => by obtain rfl : vs = [] := h; simp at e
  | d :: ds, vs, 0, v, h, e => by
    obtain ⟨x, r, rfl, h1, _⟩ := h
    obtain rfl : x = v := by simpa using e
    exact ⟨d, rfl, h1⟩
  | d :: ds, vs, i + 1, v, h, e => by
    obtain ⟨x, r, rfl, _, h2⟩ := h
    exact RpL.get (i := i) h2 (by simpa using e)
theorem RpL.at : ∀ {ds : List D} {vs : List V} {i : Nat} {d : D}, RpL K w ds vs → ds[i]? = some d → ∃ v, vs[i]? = some v ∧ Rp K w d v
  | [], vs, i, d, h, e => by simp at e
  | d :: ds, vs, 0, d', h, e => by
    obtain ⟨x, r, rfl, h1, _⟩ := h
    obtain rfl : d = d' := by simpa using e
    exact ⟨x, rfl, h1⟩
  | d :: ds, vs, i + 1, d', h, e => by
    obtain ⟨x, r, rfl, _, h2⟩ := h
    exact RpL.at (i := i) h2 (by simpa using e)
theorem RpL.append : ∀ {ds es : List D} {vs ws : List V}, RpL K w ds vs → RpL K w es ws → RpL K w (ds ++ es) (vs ++ ws)
  | [], es, vs, ws, h, g => by obtain rfl : vs = [] := h; exact g
  | d :: ds, es, vs, ws, h, g => by
    obtain ⟨x, r, rfl, h1, h2⟩ := h
    exact ⟨x, r ++ ws, rfl, h1, RpL.append h2 g⟩
theorem RpL.take : ∀ {ds : List D} {vs : List V} (n : Nat), RpL K w ds vs → RpL K w (ds.take n) (vs.take n)
  | ds, vs, 0, h => by rw [List.take_zero, List.take_zero]; rfl
  | [], vs, n + 1, h => by obtain rfl : vs = [] := h; exact rfl
  | d :: ds, vs, n + 1, h => by
    obtain ⟨x, r, rfl, h1, h2⟩ := h
    exact ⟨x, r.take n, rfl, h1, RpL.take n h2⟩
theorem RpL.drop : ∀ {ds : List D} {vs : List V} (n : Nat), RpL K w ds vs → RpL K w (ds.drop n) (vs.drop n)
  | ds, vs, 0, h => h
  | [], vs, n + 1, h => by obtain rfl : vs = [] := h; exact rfl
  | d :: ds, vs, n + 1, h => by
    obtain ⟨x, r, rfl, h1, h2⟩ := h
    exact RpL.drop n h2
theorem RpL.one {d : D} {v : V} (h : Rp K w d v) : RpL K w [d] [v] := ⟨v, [], rfl, h, rfl⟩
theorem LsAt.sq {r : Nat} {a : Addr} {xs : List V} (h : LsAt w r a xs) : SqL K w.H a xs := .inl (.inl h.1)
theorem TuAt.sq {a : Addr} {xs : List V} (h : TuAt K w a xs) : SqT K w.H a xs := h.elim (fun z => .inl (.inl z.2)) fun z => z.2 w.H
theorem LsAt.mono {r : Nat} {a : Addr} {xs : List V} (k : Kp w w') (h : LsAt w r a xs) : LsAt w' r a xs := k.lst h
theorem LsAt.free {a : Addr} {xs : List V} (h : Fr w a) (e : w.H a = some (.lst xs)) : LsAt w 0 a xs := ⟨e, .inl ⟨rfl, h⟩⟩
theorem TuAt.mono {a : Addr} {xs : List V} (k : Kp w w') (h : TuAt K w a xs) : TuAt K w' a xs := k.tup h
end

/-! ### the owned store -/
/-- a law's bag: the cells, how many were taken, the rest of a great cell, a mixed number -/
def BagAt (w : Wd) (a : Addr) (k : Nat) : Prop := ∃ (c : Addr) (cs : List Int) (i r m : Int) (tl : List Int), w.H a = some (.lst (.ref c :: .int i :: .int r :: .int m :: tl.map V.int)) ∧ LsAt w 0 c (cs.map V.int) ∧ cs.length ≤ 63 ∧ 0 ≤ i ∧ tl.length = k ∧ (k ≠ 0 → 0 ≤ r ∧ 0 ≤ m ∧ m < 4294967296)
/-- all but a table stands -/
def MOk (K : PySem.W.Frag) (w : Wd) (a : Addr) : MO → Prop
  | .lst ds => ∃ xs, w.H a = some (.lst xs) ∧ RpL K w ds xs
  | .bg k => BagAt w a k
  | .dK kvs => ∃ ks, w.H a = some (.dK ks) ∧ RpK K w (kvs.map fun p => (keyD p.1, p.2)) (ks.map fun p => (keyD p.1, p.2)) ∧ ks.map (·.1) = kvs.map (·.1)
  | .dT kvs => ∃ ks, w.H a = some (.dT ks) ∧ RpK K w (kvs.map fun p => (tkeyD p.1, p.2)) (ks.map fun p => (tkeyD p.1, p.2)) ∧ ks.map (·.1) = kvs.map (·.1)
  | .ins n fs => ∃ dx vs, w.H a = some (.ins (w.cl n) dx vs) ∧ RpF K w fs vs
structure Ok (K : PySem.W.Frag) (w : Wd) : Prop where
  mo : ∀ a m, w.M a = some m → MOk K w a m
  hid : ∀ a u, w.hd a = some u → w.H a = some u
  ap : ∀ a m, w.M a = some m → w.hd a = none
  len : ∀ r a u, w.ln r a = some u → w.H a = some u
  lap : ∀ r a u, w.ln r a = some u → w.M a = none ∧ w.hd a = none
  lfr : ∃ n, ∀ r, n ≤ r → ∀ a, w.ln r a = none
  hl : ∀ a u, w.hd a = some u → ∃ xs, u = .lst xs
  ll : ∀ r a u, w.ln r a = some u → ∃ xs, u = .lst xs
  tabs : LamX.Tabs w.tb w.H
theorem unl_ext {u : HO} {φ : Heap → Prop} (h : unl u = .ext φ) : u = .ext φ := by
  unfold unl at h
  split at h <;> first | exact h | cases h
theorem MOk.mono {K : PySem.W.Frag} {w w' : Wd} {a : Addr} {m : MO} (k : Kp w w') (e : w'.H a = w.H a) (h : MOk K w a m) : MOk K w' a m := by
  cases m with
  | lst ds => obtain ⟨xs, h1, h2⟩ := h; exact ⟨xs, e.trans h1, RpL.mono k h2⟩
  | bg kk => obtain ⟨c, cs, i, r, m, tl, h1, h2, h3⟩ := h; exact ⟨c, cs, i, r, m, tl, e.trans h1, h2.mono k, h3⟩
  | dK kvs => obtain ⟨xs, h1, h2, h3⟩ := h; exact ⟨xs, e.trans h1, RpK.mono k h2, h3⟩
  | dT kvs => obtain ⟨xs, h1, h2, h3⟩ := h; exact ⟨xs, e.trans h1, RpK.mono k h2, h3⟩
  | ins C fs => obtain ⟨dx, vs, h1, h2⟩ := h; exact ⟨dx, vs, by rw [k.cl]; exact e.trans h1, RpF.mono k h2⟩
theorem Ok.tracked {K : PySem.W.Frag} {w : Wd} {a : Addr} {m : MO} (o : Ok K w) (h : w.M a = some m) : ∃ u, w.H a = some u := by
  have z := o.mo a m h
  cases m with
  | lst ds => obtain ⟨xs, h1, _⟩ := z; exact ⟨_, h1⟩
  | bg k => obtain ⟨_, _, _, _, _, _, h1, _⟩ := z; exact ⟨_, h1⟩
  | dK kvs => obtain ⟨_, h1, _⟩ := z; exact ⟨_, h1⟩
  | dT kvs => obtain ⟨_, h1, _⟩ := z; exact ⟨_, h1⟩
  | ins C fs => obtain ⟨_, _, h1, _⟩ := z; exact ⟨_, h1⟩
/-- what is owned is no table, no code object -/
theorem Ok.plain {K : PySem.W.Frag} {w : Wd} {a : Addr} {m : MO} (o : Ok K w) (h : w.M a = some m) : ∃ u, w.H a = some u ∧ (∀ ps, u ≠ .tbl ps) ∧ ∀ φ, u ≠ .ext φ := by
  have z := o.mo a m h
  cases m with
  | lst ds => obtain ⟨xs, h1, _⟩ := z; exact ⟨_, h1, ⟨fun _ z => (by cases z), fun _ z => (by cases z)⟩⟩
  | bg k => obtain ⟨_, _, _, _, _, _, h1, _⟩ := z; exact ⟨_, h1, ⟨fun _ z => (by cases z), fun _ z => (by cases z)⟩⟩
  | dK kvs => obtain ⟨_, h1, _⟩ := z; exact ⟨_, h1, ⟨fun _ z => (by cases z), fun _ z => (by cases z)⟩⟩
  | dT kvs => obtain ⟨_, h1, _⟩ := z; exact ⟨_, h1, ⟨fun _ z => (by cases z), fun _ z => (by cases z)⟩⟩
  | ins C fs => obtain ⟨_, _, h1, _⟩ := z; exact ⟨_, h1, ⟨fun _ z => (by cases z), fun _ z => (by cases z)⟩⟩
theorem tabs_upd {T : List (Addr × Str)} {H : Hp} {a : Addr} {u u' : HO} (t : LamX.Tabs T H) (e : H a = some u) (h1 : ∀ ps, u ≠ .tbl ps) (h2 : ∀ φ, u ≠ .ext φ) : LamX.Tabs T (upd H a u') := fun p hp => by
  obtain ⟨ps, g1, g2, g3⟩ := t p hp
  refine ⟨ps, ?_, g2, fun pos cv hc => ?_⟩
  · rw [upd_ne (fun z => by rw [z, e] at g1; exact h1 ps (Option.some.inj g1))]; exact g1
  · obtain ⟨c, q1, q2⟩ := g3 pos cv hc
    refine ⟨c, q1, ?_⟩
    rw [upd_ne (fun z => by rw [z, e] at q2; exact h2 _ (Option.some.inj q2))]; exact q2
/-- a new object is free -/
theorem Ok.fresh {K : PySem.W.Frag} {w : Wd} {p : Addr} (o : Ok K w) (h : w.H p = none) : Fr w p := by
  refine ⟨?_, ?_, fun r => ?_⟩
  · cases e : w.M p with
    | none => rfl
    | some m =>
      obtain ⟨u, q⟩ := o.tracked e
      rw [h] at q; cases q
  · cases e : w.hd p with
    | none => rfl
    | some m =>
      have q := o.hid p m e
      rw [h] at q; cases q
  · cases e : w.ln r p with
    | none => rfl
    | some m =>
      have q := o.len r p m e
      rw [h] at q; cases q
theorem Ok.keep {K : PySem.W.Frag} {w : Wd} {H' : Hp} (o : Ok K w) (h : ∀ a u, w.H a = some u → H' a = some u) : Ok K (w.at H') where
  mo := fun a m e => by
    obtain ⟨u, q⟩ := o.tracked e
    exact (o.mo a m e).mono (Kp.ex' h) (by show H' a = _; rw [h a u q, q])
  hid := fun a u e => h a u (o.hid a u e)
  ap := o.ap
  len := fun r a u e => h a u (o.len r a u e)
  lap := o.lap
  lfr := o.lfr
  hl := o.hl
  ll := o.ll
  tabs := o.tabs.ext h
theorem Ok.new {K : PySem.W.Frag} {w : Wd} {p : Addr} {o : HO} (k : Ok K w) (h : w.H p = none) : Ok K (w.at (upd w.H p o)) := k.keep fun a u e => by
  rw [upd_ne (ne_of_none e h)]; exact e
end DL
/-! The data layer, part b: readings over data, expressions. -/
namespace DL
open PySem L2

abbrev DEnv := List (Option D)
abbrev DK := D → Mu → Prop
abbrev DE := DEnv → Mu → DK → Prop
abbrev DT := DEnv → Mu → (Bool → Mu → Prop) → Prop
abbrev DA := DEnv → Mu → (List D → Mu → Prop) → Prop
def RE (K : PySem.W.Frag) (w : Wd) (ρ : DEnv) (σ : St) : Prop := σ.length = ρ.length ∧ ∀ (i : Nat) (d : D), ρ[i]? = some (some d) → ∃ v, σ[i]? = some (some v) ∧ Rp K w d v
/-- c: the entry of the def -/
structure At (K : PySem.W.Frag) (c w : Wd) (ρ : DEnv) (σ : St) : Prop where
  kp : Kp c w
  re : RE K w ρ σ
  ok : Ok K w
  hd : w.hd = c.hd
  ln : w.ln = c.ln
/-- what is behind: what stood is kept -/
structure Bh (K : PySem.W.Frag) (w w' : Wd) : Prop where
  kp : Kp w w'
  ok : Ok K w'
  hd : w'.hd = w.hd
  ln : w'.ln = w.ln
/-- what never changes is the same -/
structure SC (c c' : Wd) : Prop where
  cl : c'.cl = c.cl
  ex : c'.ex = c.ex
  tb : c'.tb = c.tb
/-- classes, tables; nothing is handled -/
structure Cc (cl : Str → Addr) (tb : List (Addr × Str)) (c : Wd) : Prop where
  cl : c.cl = cl
  ex : c.ex = none
  tb : c.tb = tb
theorem Kp.sc {c c' : Wd} (k : Kp c c') : SC c c' := ⟨k.cl, k.ex, k.tb⟩
theorem SC.trans {a b c : Wd} (x : SC a b) (y : SC b c) : SC a c := ⟨y.cl.trans x.cl, y.ex.trans x.ex, y.tb.trans x.tb⟩
theorem Cc.sc {cl : Str → Addr} {tb : List (Addr × Str)} {c c' : Wd} (h : Cc cl tb c) (s : SC c c') : Cc cl tb c' := ⟨s.cl.trans h.cl, s.ex.trans h.ex, s.tb.trans h.tb⟩
section
variable {K : PySem.W.Frag} {c w w' w'' : Wd} {ρ : DEnv} {σ : St}
theorem RE.mono (k : Kp w w') (r : RE K w ρ σ) : RE K w' ρ σ := ⟨r.1, fun i d e => let ⟨v, a, b⟩ := r.2 i d e; ⟨v, a, b.mono k⟩⟩
theorem RE.set {i : Nat} {d : D} {v : V} (r : RE K w ρ σ) (h : Rp K w d v) : RE K w (ρ.set i (some d)) (σ.set i (some v)) := by
  refine ⟨by rw [List.length_set, List.length_set]; exact r.1, fun j e q => ?_⟩
  by_cases hj : i = j
  · subst hj
    have hl : i < ρ.length := by
      have := (List.getElem?_eq_some_iff.mp q).1
      rwa [List.length_set] at this
    rw [List.getElem?_set_self hl] at q
    obtain rfl : d = e := by simpa using q
    exact ⟨v, by rw [List.getElem?_set_self (by rw [r.1]; exact hl)], h⟩
  · rw [List.getElem?_set_ne hj] at q
    obtain ⟨w, a, b⟩ := r.2 j e q
    exact ⟨w, by rw [List.getElem?_set_ne hj]; exact a, b⟩
theorem Bh.refl (o : Ok K w) : Bh K w w := ⟨Kp.refl w, o, rfl, rfl⟩
theorem Bh.trans (a : Bh K w w') (b : Bh K w' w'') : Bh K w w'' := ⟨a.kp.trans b.kp, b.ok, b.hd.trans a.hd, b.ln.trans a.ln⟩
theorem Bh.new {p : Addr} {o : HO} (k : Ok K w) (h : w.H p = none) : Bh K w (w.at (upd w.H p o)) := ⟨Kp.new h, k.new h, rfl, rfl⟩
theorem At.next (a : At K c w ρ σ) (b : Bh K w w') : At K c w' ρ σ := ⟨a.kp.trans b.kp, a.re.mono b.kp, b.ok, b.hd.trans a.hd, b.ln.trans a.ln⟩
theorem At.bh (a : At K c w ρ σ) : Bh K c w := ⟨a.kp, a.ok, a.hd, a.ln⟩
theorem At.set {i : Nat} {d : D} {v : V} (a : At K c w ρ σ) (h : Rp K w d v) : At K c w (ρ.set i (some d)) (σ.set i (some v)) := ⟨a.kp, a.re.set h, a.ok, a.hd, a.ln⟩
end
/-- what is wanted of values, from what is wanted of data -/
def Wv (K : PySem.W.Frag) (w : Wd) (Q' : DK) (Q : VK) : Prop := ∀ d w' v, Q' d w'.M → Bh K w w' → Rp K w' d v → Q v w'.H
section
variable {K : PySem.W.Frag} {w w1 : Wd} {Q' : DK} {Q : VK}
theorem Wv.back (k : Wv K w Q' Q) (b : Bh K w w1) : Wv K w1 Q' Q := fun d w' v q b' r => k d w' v q (b.trans b') r
theorem Wv.here {d : D} {v : V} (k : Wv K w Q' Q) (o : Ok K w) (q : Q' d w.M) (r : Rp K w d v) : Q v w.H := k d w v q (Bh.refl o) r
/-- a new object -/
theorem Wv.new {d : D} {p : Addr} {o : HO} (k : Wv K w Q' Q) (ok : Ok K w) (h : w.H p = none) (q : Q' d w.M) (r : Rp K (w.at (upd w.H p o)) d (.ref p)) : Q (.ref p) (upd w.H p o) := k d (w.at (upd w.H p o)) (.ref p) q (Bh.new ok h) r
end
def lift (K : PySem.W.Frag) (c : Wd) (t : DE) : TE := fun σ H Q => ∃ ρ w Q', w.H = H ∧ At K c w ρ σ ∧ t ρ w.M Q' ∧ Wv K w Q' Q
def liftT (K : PySem.W.Frag) (c : Wd) (t : DT) : TT := fun σ H Q => ∃ ρ w Q', w.H = H ∧ At K c w ρ σ ∧ t ρ w.M Q' ∧ ∀ b w', Q' b w'.M → Bh K w w' → Q b w'.H
def liftA (K : PySem.W.Frag) (c : Wd) (t : DA) : TA := fun σ H Q => ∃ ρ w Q', w.H = H ∧ At K c w ρ σ ∧ t ρ w.M Q' ∧ ∀ ds w' vs, Q' ds w'.M → Bh K w w' → RpL K w' ds vs → Q vs w'.H
abbrev PD (c : Wd) (X : Cx) (e : Expr) (t : DE) : Prop := PE X e (lift X.K c t)
abbrev PDT (c : Wd) (X : Cx) (e : Expr) (t : DT) : Prop := PT X e (liftT X.K c t)
abbrev PDW (c : Wd) (X : Cx) (e : Expr) (t : DT) : Prop := PW X e (liftT X.K c t)
abbrev PDA (c : Wd) (X : Cx) (es : List Expr) (t : DA) : Prop := PA X es (liftA X.K c t)
theorem PE_imp {X : Cx} {e : Expr} {t t' : TE} (h : PE X e t) (i : ∀ σ H Q, t' σ H Q → t σ H Q) : PE X e t' := ⟨fun pins s σ H Q I q => h.run pins s σ H Q I (i σ H Q q)⟩
theorem PT_imp {X : Cx} {e : Expr} {t t' : TT} (h : PT X e t) (i : ∀ σ H Q, t' σ H Q → t σ H Q) : PT X e t' := ⟨fun pins s σ H Q I q => h.run pins s σ H Q I (i σ H Q q)⟩
theorem PW_imp {X : Cx} {e : Expr} {t t' : TT} (h : PW X e t) (i : ∀ σ H Q, t' σ H Q → t σ H Q) : PW X e t' := ⟨fun wh pins s σ H Q I q => h.run wh pins s σ H Q I (i σ H Q q)⟩
theorem PA_imp {X : Cx} {es : List Expr} {t t' : TA} (h : PA X es t) (i : ∀ σ H Q, t' σ H Q → t σ H Q) : PA X es t' := ⟨fun pos pins s σ H Q I q => h.run pos pins s σ H Q I (i σ H Q q)⟩

/-! ### names, constants -/
@[simp] def dVar (i : Nat) : DE := fun ρ M Q => match ρ[i]? with | some (some d) => Q d M | _ => False
@[simp] def dC (d : D) : DE := fun _ M Q => Q d M
section
variable {X : Cx} {c : Wd}
theorem pd_var (i : Nat) {x : Str} {pos : Pos} (hN : X.N[i]? = some x := by rfl) (hv : Vis X.env.scope x := by first | exact Or.inl rfl | exact Or.inr (Or.inl rfl) | exact Or.inr (Or.inr rfl)) (hd : (x == ("__debug__" : Str)) = false := by decide)
    (hcd : (x == ("__classdict__" : Str)) = false := by decide) : PD c X (.Name x pos) (dVar i) := PE_imp (pe_var hN hv hd hcd) fun σ H Q ⟨ρ, w, Q', hH, a, h, k⟩ => by
  subst hH
  unfold dVar at h
  cases e : ρ[i]? with
  | none => rw [e] at h; exact h.elim
  | some o =>
    rw [e] at h
    cases o with
    | none => exact h.elim
    | some d =>
      obtain ⟨v, h1, h2⟩ := a.re.2 i d e
      exact ⟨v, h1, k.here a.ok h h2⟩
theorem pd_of {e : Expr} {v : V} {d : D} (h : PE X e (tC v)) (r : ∀ w, Rp X.K w d v) : PD c X e (dC d) := PE_imp h fun σ H Q ⟨ρ, w, Q', hH, a, h, k⟩ => hH ▸ k.here a.ok h (r w)
theorem pd_int {i j pos} : PD c X (.Constant (.int i) j pos) (dC (.int i)) := pd_of pe_int fun _ => rfl
theorem pd_bl {b j pos} : PD c X (.Constant (.bool b) j pos) (dC (.bl b)) := pd_of pe_bl fun _ => rfl
theorem pd_non {j pos} : PD c X (.Constant .none j pos) (dC .non) := pd_of pe_non fun _ => rfl
theorem pd_str {x j pos} : PD c X (.Constant (.str x) j pos) (dC (.str x)) := pd_of pe_str fun _ => rfl
/-- a name of the module: a constant -/
theorem pd_glob {x : Str} {v : V} {d : D} {u : Value} {pos : Pos} (hg : Gl X x) (hm : X.mg x = some u) (r : RelV v u) (rd : ∀ w, Rp X.K w d v) (hd : (x == ("__debug__" : Str)) = false := by decide) : PD c X (.Name x pos) (dC d) := pd_of (pe_glob hg hm r hd) rd

/-! ### operators -/
abbrev D2 := D → D → Mu → DK → Prop
@[simp] def dOp (g : D2) (ta tb : DE) : DE := fun ρ M Q => ta ρ M fun x M1 => tb ρ M1 fun y M2 => g x y M2 Q
def liftO (K : PySem.W.Frag) (g : D2) : R2 := fun x y H Q => ∃ w dx dy Q', w.H = H ∧ Ok K w ∧ Rp K w dx x ∧ Rp K w dy y ∧ g dx dy w.M Q' ∧ Wv K w Q' Q
abbrev OpD (X : Cx) (f : Value → Value → Sem Value) (g : D2) : Prop := OpR X f (liftO X.K g)
variable {a b e : Expr} {ta tb te : DE} {pos : Pos} {g g' : D2}
theorem op_imp {ρ : DEnv} {w : Wd} {Q' : DK} {K : PySem.W.Frag} {σ : St} {H : Hp} {Q : VK} (hH : w.H = H) (a : At K c w ρ σ) (h : dOp g ta tb ρ w.M Q') (k : Wv K w Q' Q) : tOp (liftO K g) (lift K c ta) (lift K c tb) σ H Q :=
  ⟨ρ, w, _, hH, a, h, fun d w1 v q b1 r => ⟨ρ, w1, _, rfl, a.next b1, q, fun e w2 v2 q2 b2 r2 => ⟨w2, d, e, Q', rfl, b2.ok, r.mono b2.kp, r2, q2, k.back (b1.trans b2)⟩⟩⟩
theorem pd_op {op : Operator} (ho : OpD X (binaryOp op) g) (ha : PD c X a ta) (hb : PD c X b tb) : PD c X (.BinOp a op b pos) (dOp g ta tb) := PE_imp (pe_op ho ha hb) fun _ _ _ ⟨_, _, _, hH, a, h, k⟩ => op_imp hH a h k
theorem pd_cmp {op : CmpOp} (ho : OpD X (compareOp op) g) (ha : PD c X a ta) (hb : PD c X b tb) (hm : behindInMarks op b = false := by first | exact nobehind _ (by decide) (by decide) | rfl) : PD c X (.Compare a [op] [b] pos) (dOp g ta tb) :=
  PE_imp (pe_cmpR ho ha hb hm) fun _ _ _ ⟨_, _, _, hH, a, h, k⟩ => op_imp hH a h k
/-- an answer that is a bool -/
@[simp] def isB (Q : Bool → Mu → Prop) : DK := fun d M => match d with | .bl k => Q k M | _ => False
@[simp] def dB (t : DE) : DT := fun ρ M Q => t ρ M (isB Q)
theorem Wv.isB {K : PySem.W.Frag} {w : Wd} {Q' : Bool → Mu → Prop} {Q : Bool → Hp → Prop} (k : ∀ b w', Q' b w'.M → Bh K w w' → Q b w'.H) : Wv K w (DL.isB Q') (fun x H' => ∃ k, x = .bl k ∧ Q k H') := fun d w' v q b r => by
  cases d with
  | bl z => obtain rfl : v = .bl z := r; exact ⟨z, rfl, k z w' q b⟩
  | _ => exact q.elim
theorem pdt_cmp {op : CmpOp} (ho : OpD X (compareOp op) g) (ha : PD c X a ta) (hb : PD c X b tb) (hm : behindInMarks op b = false := by first | exact nobehind _ (by decide) (by decide) | rfl) : PDT c X (.Compare a [op] [b] pos) (dB (dOp g ta tb)) :=
  PT_imp (pt_cmpR ho ha hb hm) fun _ _ _ ⟨_, _, _, hH, a, h, k⟩ => op_imp hH a h (Wv.isB k)
/-- a value that is a bool, as a test -/
theorem pdt_val (h : PD c X e te) (he : ∀ whole, isTrue e X.env whole = (do let v ← whole; standAt e.pos; holding [v] (truthy v)) := by intro _; rfl) : PDT c X e (dB te) :=
  PT_imp (pt_val h he) fun _ _ _ ⟨ρ, w, Q', hH, a, h, k⟩ => ⟨ρ, w, _, hH, a, h, Wv.isB k⟩

/-! ### and, or, not, if -/
variable {tA tB tC' : DT} {rest : List Expr}
@[simp] def dAnd (t u : DT) : DT := fun ρ M Q => t ρ M fun k M1 => if k = true then u ρ M1 Q else Q false M1
@[simp] def dOr (t u : DT) : DT := fun ρ M Q => t ρ M fun k M1 => if k = true then Q true M1 else u ρ M1 Q
@[simp] def dNot (t : DT) : DT := fun ρ M Q => t ρ M fun k M1 => Q (!k) M1
theorem pdw_one {op} (ha : PDT c X a tA) : PDW c X (.BoolOp op [a] pos) tA := by
  cases op with
  | And => exact pw_and1 ha
  | Or => exact pw_or1 ha
theorem pdw_and (ha : PDT c X a tA) (hb : PDW c X (.BoolOp .And (b :: rest) pos) tB) : PDW c X (.BoolOp .And (a :: b :: rest) pos) (dAnd tA tB) := PW_imp (pw_and ha hb) fun σ H Q ⟨ρ, w, Q', hH, a, h, k⟩ =>
  ⟨ρ, w, _, hH, a, h, fun z w1 q b1 => by
    cases z with
    | true => exact iteT ⟨ρ, w1, Q', rfl, a.next b1, q, fun b w' q b' => k b w' q (b1.trans b')⟩
    | false => exact iteF (k false w1 q b1)⟩
theorem pdw_or (ha : PDT c X a tA) (hb : PDW c X (.BoolOp .Or (b :: rest) pos) tB) : PDW c X (.BoolOp .Or (a :: b :: rest) pos) (dOr tA tB) := PW_imp (pw_or ha hb) fun σ H Q ⟨ρ, w, Q', hH, a, h, k⟩ =>
  ⟨ρ, w, _, hH, a, h, fun z w1 q b1 => by
    cases z with
    | false => exact iteF ⟨ρ, w1, Q', rfl, a.next b1, q, fun b w' q b' => k b w' q (b1.trans b')⟩
    | true => exact iteT (k true w1 q b1)⟩
theorem pdt_not (ha : PDT c X a tA) : PDT c X (.UnaryOp .Not a pos) (dNot tA) := PT_imp (pt_not ha) fun σ H Q ⟨ρ, w, Q', hH, a, h, k⟩ => ⟨ρ, w, _, hH, a, h, fun z w1 q b1 => k _ w1 q b1⟩
@[simp] def dAndV (t u : DE) : DE := fun ρ M Q => t ρ M fun d M1 => match d with | .bl k => if k = true then u ρ M1 Q else Q (.bl false) M1 | _ => False
@[simp] def dNotV (t : DE) : DE := fun ρ M Q => t ρ M fun d M1 => match d with | .bl k => Q (.bl (!k)) M1 | _ => False
theorem pd_one {op} (h : PD c X a ta) : PD c X (.BoolOp op [a] pos) ta := pe_one h
theorem pd_and (ha : PD c X a ta) (hb : PD c X (.BoolOp .And (b :: rest) pos) tb) : PD c X (.BoolOp .And (a :: b :: rest) pos) (dAndV ta tb) := PE_imp (pe_and ha hb) fun σ H Q ⟨ρ, w, Q', hH, a, h, k⟩ =>
  ⟨ρ, w, _, hH, a, h, fun d w1 v q b1 r => by
    cases d with
    | bl z =>
      obtain rfl : v = .bl z := r
      cases z with
      | true => exact ⟨true, rfl, iteT ⟨ρ, w1, Q', rfl, a.next b1, q, k.back b1⟩⟩
      | false => exact ⟨false, rfl, iteF (k _ w1 _ q b1 rfl)⟩
    | _ => exact q.elim⟩
theorem pd_not (ha : PD c X a ta) : PD c X (.UnaryOp .Not a pos) (dNotV ta) := PE_imp (pe_not ha) fun σ H Q ⟨ρ, w, Q', hH, a, h, k⟩ =>
  ⟨ρ, w, _, hH, a, h, fun d w1 v q b1 r => by
    cases d with
    | bl z => obtain rfl : v = .bl z := r; exact ⟨z, rfl, k _ w1 _ q b1 rfl⟩
    | _ => exact q.elim⟩
@[simp] def dIf (t : DT) (ta tb : DE) : DE := fun ρ M Q => t ρ M fun k M1 => if k = true then ta ρ M1 Q else tb ρ M1 Q
theorem pd_if {t : Expr} (ht : PDT c X t tA) (ha : PD c X a ta) (hb : PD c X b tb) : PD c X (.IfExp t a b pos) (dIf tA ta tb) := PE_imp (pe_ifExp ht ha hb) fun σ H Q ⟨ρ, w, Q', hH, a, h, k⟩ =>
  ⟨ρ, w, _, hH, a, h, fun z w1 q b1 => by
    cases z with
    | true => exact iteT ⟨ρ, w1, Q', rfl, a.next b1, q, k.back b1⟩
    | false => exact iteF ⟨ρ, w1, Q', rfl, a.next b1, q, k.back b1⟩⟩

/-! ### arguments, displays -/
@[simp] def dNil : DA := fun _ M Q => Q [] M
@[simp] def dCons (t : DE) (u : DA) : DA := fun ρ M Q => t ρ M fun d M1 => u ρ M1 fun ds M2 => Q (d :: ds) M2
variable {es : List Expr} {tl : DA}
theorem pda_nil : PDA c X [] dNil := PA_imp pa_nil fun σ H Q ⟨ρ, w, Q', hH, a, h, k⟩ => hH ▸ k [] w [] h (Bh.refl a.ok) rfl
theorem pda_cons (ha : PD c X e te) (hr : PDA c X es tl) (hs : starEach (e :: es) X.env = (false, eval e X.env) :: starEach es X.env := by rfl) : PDA c X (e :: es) (dCons te tl) := PA_imp (pa_cons ha hr hs) fun σ H Q ⟨ρ, w, Q', hH, a, h, k⟩ =>
  ⟨ρ, w, _, hH, a, h, fun d w1 v q b1 r => ⟨ρ, w1, _, rfl, a.next b1, q, fun ds w2 vs q2 b2 r2 => k (d :: ds) w2 (v :: vs) q2 (b1.trans b2) ⟨v, vs, rfl, r.mono b2.kp, r2⟩⟩⟩
@[simp] def dTup (t : DA) : DE := fun ρ M Q => t ρ M fun ds M1 => ds.length ≤ 100000 ∧ Q (.tup ds) M1
@[simp] def dLst (t : DA) : DE := fun ρ M Q => t ρ M fun ds M1 => ds.length ≤ 100000 ∧ Q (.lst 0 ds) M1
theorem sz {n : Nat} (h : n ≤ 100000) : n ≤ sizeLine := Nat.le_trans h (by decide)
theorem szlt {n : Nat} (h : n < 100000) : n < sizeLine := Nat.lt_of_lt_of_le h (by decide)
/-- data that was just laid -/
theorem rp_lst {K : PySem.W.Frag} {w : Wd} {p : Addr} {ds : List D} {xs : List V} (o : Ok K w) (h : w.H p = none) (r : RpL K w ds xs) : Rp K (w.at (upd w.H p (.lst xs))) (.lst 0 ds) (.ref p) := ⟨p, xs, rfl, LsAt.free (o.fresh h).at upd_same, r.mono (Kp.new h)⟩
theorem rp_tup {K : PySem.W.Frag} {w : Wd} {p : Addr} {ds : List D} {xs : List V} (o : Ok K w) (h : w.H p = none) (r : RpL K w ds xs) : Rp K (w.at (upd w.H p (.tup xs))) (.tup ds) (.ref p) := ⟨p, xs, rfl, .inl ⟨(o.fresh h).at, upd_same⟩, r.mono (Kp.new h)⟩
theorem pd_tup {x1} (h : PDA c X es tl) : PD c X (.Tuple es x1 pos) (dTup tl) := PE_imp (pe_tup h) fun σ H Q ⟨ρ, w, Q', hH, a, h, k⟩ =>
  ⟨ρ, w, _, hH, a, h, fun ds w1 vs q b1 r => ⟨sz (by rw [r.length]; exact q.1), fun p hp => (k.back b1).new b1.ok hp q.2 (rp_tup b1.ok hp r)⟩⟩
theorem pd_lst (h : PDA c X es tl) : PD c X (.List es pos) (dLst tl) := PE_imp (pe_lst h) fun σ H Q ⟨ρ, w, Q', hH, a, h, k⟩ =>
  ⟨ρ, w, _, hH, a, h, fun ds w1 vs q b1 r => ⟨sz (by rw [r.length]; exact q.1), fun p hp => (k.back b1).new b1.ok hp q.2 (rp_lst b1.ok hp r)⟩⟩

/-! ### calls of built-ins by values -/
abbrev DC := List D → Mu → DK → Prop
@[simp] def dCB (g : DC) (t : DA) : DE := fun ρ M Q => t ρ M fun ds M1 => g ds M1 Q
def liftC (K : PySem.W.Frag) (g : DC) : List V → Hp → VK → Prop := fun vs H Q => ∃ w ds Q', w.H = H ∧ Ok K w ∧ RpL K w ds vs ∧ g ds w.M Q' ∧ Wv K w Q' Q
abbrev CallD (X : Cx) (f : Value) (g : DC) : Prop := CallR X f (liftC X.K g)
variable {id T : String} {x : Str} {p : Pos} {gc : DC}
theorem cb_imp {ρ : DEnv} {w : Wd} {Q' : DK} {K : PySem.W.Frag} {σ : St} {H : Hp} {Q : VK} (hH : w.H = H) (a : At K c w ρ σ) (h : dCB gc tl ρ w.M Q') (k : Wv K w Q' Q) : tCB (liftC K gc) (liftA K c tl) σ H Q :=
  ⟨ρ, w, _, hH, a, h, fun ds w1 vs q b1 r => ⟨w1, ds, Q', rfl, b1.ok, r, q, k.back b1⟩⟩
theorem pd_callB (hc : CallD X (.builtin id) gc) (hg : Gl X x) (hm : X.mg x = none) (hv : bootBuiltins x = some (.builtin id)) (ha : PDA c X (e :: es) tl) (hn : x ≠ "__name__" := by decide) (hdb : (x == ("__debug__" : Str)) = false := by decide)
    (he : starEach (e :: es) X.env = (false, eval e X.env) :: starEach es X.env := by rfl) (hpl : (backTo pos (starEach es X.env)).any (·.1) = false := by rfl) : PD c X (.Call (.Name x p) (e :: es) [] pos) (dCB gc tl) :=
  PE_imp (pe_callB hc hg hm hv ha hn hdb he hpl) fun _ _ _ ⟨_, _, _, hH, a, h, k⟩ => cb_imp hH a h k
theorem pd_callTy (hc : CallD X (.type T) gc) (hg : Gl X x) (hm : X.mg x = none) (hv : bootBuiltins x = some (.type T)) (ha : PDA c X (e :: es) tl) (hn : x ≠ "__name__" := by decide) (hdb : (x == ("__debug__" : Str)) = false := by decide)
    (he : starEach (e :: es) X.env = (false, eval e X.env) :: starEach es X.env := by rfl) (hpl : (backTo pos (starEach es X.env)).any (·.1) = false := by rfl) : PD c X (.Call (.Name x p) (e :: es) [] pos) (dCB gc tl) :=
  PE_imp (pe_callTy hc hg hm hv ha hn hdb he hpl) fun _ _ _ ⟨_, _, _, hH, a, h, k⟩ => cb_imp hH a h k
end
end DL
/-! The data layer, part c: operators, subscripts, built-in calls. -/
namespace DL
open PySem L2

/-! ### plain data -/
mutual
def py : D → PyData
  | .non => .none
  | .bl b => .bool b
  | .int i => .int i
  | .str x => .str x
  | .lst _ xs => .list (pyL xs)
  | .tup xs => .tuple (pyL xs)
  | .dct _ => .none
  | .obj _ _ => .none
  | .ref _ => .none
  | .ty _ => .none
  | .scr _ => .none
  | .exc _ _ => .none
  | .cls _ => .none
  | .cst _ => .none
def pyL : List D → List PyData
  | [] => []
  | x :: xs => py x :: pyL xs
end
theorem pyL_map : ∀ xs : List D, pyL xs = xs.map py
  | [] => rfl
  | x :: xs => by rw [pyL, pyL_map xs, List.map_cons]
theorem py_lst (r : Nat) (xs : List D) : py (.lst r xs) = .list (xs.map py) := by rw [py, pyL_map]
theorem py_tup (xs : List D) : py (.tup xs) = .tuple (xs.map py) := by rw [py, pyL_map]
def pyN : Nat → D → Bool
  | _, .non => true
  | _, .bl _ => true
  | _, .int _ => true
  | _, .str x => PyData.strOk x
  | n + 1, .lst _ xs => xs.all (pyN n)
  | n + 1, .tup xs => xs.all (pyN n)
  | _, _ => false
def flatD : D → Bool
  | .non => true
  | .bl _ => true
  | .int _ => true
  | .str _ => true
  | _ => false
def strPair : D → D → Bool
  | .str _, .str _ => true
  | .str _, .non => true
  | .str _, .int _ => true
  | .str _, .bl _ => true
  | .non, .str _ => true
  | .int _, .str _ => true
  | .bl _, .str _ => true
  | _, _ => false
def eqOk (x y : D) : Bool := strPair x y || (pyN 30 x && pyN 30 y)
def eqB (x y : D) : Bool := PyData.eqv (py x) (py y)
section
variable {K : PySem.W.Frag} {w : Wd}
theorem dp_of : ∀ (n : Nat) (d : D) (v : V), pyN n d = true → Rp K w d v → Dp K w.H v (py d) ∧ PyData.canLay0 (py d) = true ∧ PyData.depth (py d) ≤ n := by
  have key : ∀ (n : Nat), (∀ (d : D) (v : V), pyN n d = true → Rp K w d v → Dp K w.H v (py d) ∧ PyData.canLay0 (py d) = true ∧ PyData.depth (py d) ≤ n) →
      ∀ (ds : List D) (vs : List V), ds.all (pyN n) = true → RpL K w ds vs → DpAll K w.H vs (ds.map py) ∧ PyData.canLayAll0 (ds.map py) = true ∧ PyData.depthAll (ds.map py) ≤ n := by
    intro n ih ds
    induction ds with
    | nil => intro vs _ r; obtain rfl : vs = [] := r; exact ⟨.nil, rfl, Nat.zero_le _⟩
    | cons d ds ih2 =>
      intro vs h r
      obtain ⟨x, q, rfl, r1, r2⟩ := r
      rw [List.all_cons, Bool.and_eq_true] at h
      obtain ⟨a1, a2, a3⟩ := ih d x h.1 r1
      obtain ⟨b1, b2, b3⟩ := ih2 q h.2 r2
      refine ⟨.cons a1 b1, ?_, ?_⟩
      · rw [List.map_cons, PyData.canLayAll0, a2, b2]; rfl
      · rw [List.map_cons, PyData.depthAll]; omega
  intro n
  induction n with
  | zero =>
    intro d v h r
    cases d with
    | non => obtain rfl : v = .non := r; exact ⟨.non, rfl, Nat.le_refl _⟩
    | bl b => obtain rfl : v = .bl b := r; exact ⟨.bl b, rfl, Nat.le_refl _⟩
    | int i => obtain rfl : v = .int i := r; exact ⟨.int i, rfl, Nat.le_refl _⟩
    | str x => obtain rfl : v = .str x := r; exact ⟨.str x, h, Nat.le_refl _⟩
    | _ => exact absurd h (by simp [pyN])
  | succ n ih =>
    intro d v h r
    cases d with
    | non => obtain rfl : v = .non := r; exact ⟨.non, rfl, Nat.zero_le _⟩
    | bl b => obtain rfl : v = .bl b := r; exact ⟨.bl b, rfl, Nat.zero_le _⟩
    | int i => obtain rfl : v = .int i := r; exact ⟨.int i, rfl, Nat.zero_le _⟩
    | str x => obtain rfl : v = .str x := r; exact ⟨.str x, h, Nat.zero_le _⟩
    | lst t ds =>
      obtain ⟨a, xs, rfl, hl, hr⟩ := r
      obtain ⟨b1, b2, b3⟩ := key n ih ds xs h hr
      rw [py_lst]
      exact ⟨.lst hl.sq b1, b2, Nat.succ_le_succ b3⟩
    | tup ds =>
      obtain ⟨a, xs, rfl, hl, hr⟩ := r
      obtain ⟨b1, b2, b3⟩ := key n ih ds xs h hr
      rw [py_tup]
      exact ⟨.tup hl.sq b1, b2, Nat.succ_le_succ b3⟩
    | _ => exact absurd h (by simp [pyN])
theorem shaped_of {d : D} {v : V} (h : pyN 30 d = true) (r : Rp K w d v) : Dp K w.H v (py d) ∧ SeqAt.shaped (py d) = true := by
  obtain ⟨a, b, c⟩ := dp_of 30 d v h r
  refine ⟨a, ?_⟩
  unfold SeqAt.shaped
  rw [b, decide_eq_true (show (py d).depth ≤ 64 by omega)]
  rfl
end

/-! ### operators -/
@[simp] def addD : D2 := fun x y M Q => match x, y with
  | .int i, .int j => Q (.int (i + j)) M
  | .str a, .str b => a.length + b.length ≤ 100000 ∧ Q (.str (a ++ b)) M
  | .lst _ a, .lst _ b => a.length + b.length ≤ 100000 ∧ Q (.lst 0 (a ++ b)) M
  | .tup a, .tup b => a.length + b.length ≤ 100000 ∧ Q (.tup (a ++ b)) M
  | _, _ => False
@[simp] def subD : D2 := fun x y M Q => match x, y with
  | .int i, .int j => Q (.int (i - j)) M
  | _, _ => False
@[simp] def mulD : D2 := fun x y M Q => match x, y with
  | .int i, .int j => CMul i j ∧ Q (.int (i * j)) M
  | .lst _ a, .int k => 0 ≤ k ∧ k ≤ 100000 ∧ a.length * k.toNat ≤ 100000 ∧ Q (.lst 0 (List.replicate k.toNat a).flatten) M
  | _, _ => False
@[simp] def fdivD : D2 := fun x y M Q => match x, y with
  | .int i, .int j => (0 < j ∧ j < 1073741824) ∧ Q (.int (i / j)) M
  | _, _ => False
@[simp] def modD : D2 := fun x y M Q => match x, y with
  | .int i, .int j => 0 < j ∧ Q (.int (i % j)) M
  | _, _ => False
@[simp] def powD : D2 := fun x y M Q => match x, y with
  | .int i, .int j => CPow i j ∧ Q (.int (i ^ j.toNat)) M
  | _, _ => False
@[simp] def eqD : D2 := fun x y M Q => eqOk x y = true ∧ Q (.bl (eqB x y)) M
@[simp] def neD : D2 := fun x y M Q => eqOk x y = true ∧ Q (.bl (!eqB x y)) M
@[simp] def ltD : D2 := fun x y M Q => match x, y with
  | .int i, .int j => Q (.bl (decide (i < j))) M
  | _, _ => False
@[simp] def leD : D2 := fun x y M Q => match x, y with
  | .int i, .int j => Q (.bl (decide (i ≤ j))) M
  | _, _ => False
@[simp] def gtD : D2 := fun x y M Q => match x, y with
  | .int i, .int j => Q (.bl (decide (j < i))) M
  | _, _ => False
@[simp] def geD : D2 := fun x y M Q => match x, y with
  | .int i, .int j => Q (.bl (decide (j ≤ i))) M
  | _, _ => False
def isNon : D → Bool
  | .non => true
  | _ => false
@[simp] def isND : D2 := fun x y M Q => match y with
  | .non => Q (.bl (isNon x)) M
  | _ => False
@[simp] def notND : D2 := fun x y M Q => match y with
  | .non => Q (.bl (!isNon x)) M
  | _ => False
def inB (x : D) (ys : List D) : Bool := ys.any fun y => eqB y x
def subText (a b : Str) : Bool := !(Builtin.Str.occurrences b a 0 b.length 1).isEmpty
@[simp] def inD : D2 := fun x y M Q => match x, y with
  | .str a, .str b => Q (.bl (subText a b)) M
  | x, .lst _ ys => (flatD x = true ∧ ys.all flatD = true) ∧ Q (.bl (inB x ys)) M
  | x, .tup ys => (flatD x = true ∧ ys.all flatD = true) ∧ Q (.bl (inB x ys)) M
  | x, .cst ys => (flatD x = true ∧ ys.all flatD = true) ∧ Q (.bl (inB x ys)) M
  | _, _ => False
section
variable {X : Cx}
theorem opD_add : OpD X (binaryOp .Add) addD := by
  intro pins s σ H x y v u Q I rx ry ⟨w, dx, dy, Q', hH, ok, r1, r2, h, k⟩
  subst hH
  cases dx <;> cases dy <;> first | exact False.elim h | skip
  case int.int i j =>
    obtain rfl : x = .int i := r1; obtain rfl : y = .int j := r2
    exact op_add pins s σ _ _ _ v u Q I rx ry ⟨i, j, rfl, rfl, k.here ok h rfl⟩
  case str.str a b =>
    obtain rfl : x = .str a := r1; obtain rfl : y = .str b := r2
    exact op_add_str pins s σ _ _ _ v u Q I rx ry ⟨a, b, rfl, rfl, sz h.1, k.here ok h.2 rfl⟩
  case lst.lst t1 a t2 b =>
    obtain ⟨p, xs, rfl, l1, s1⟩ := r1; obtain ⟨p2, ys, rfl, l2, s2⟩ := r2
    refine op_cat pins s σ _ _ _ v u Q I rx ry ⟨p, p2, xs, ys, rfl, rfl, l1.1, l2.1, by rw [s1.length, s2.length]; exact sz h.1, fun q hq => ?_⟩
    exact k.new ok hq h.2 (rp_lst ok hq (s1.append s2))
  case tup.tup a b =>
    obtain ⟨p, xs, rfl, l1, s1⟩ := r1; obtain ⟨p2, ys, rfl, l2, s2⟩ := r2
    refine op_catA pins s σ _ _ _ v u Q I rx ry ⟨p, p2, xs, ys, rfl, rfl, l1.sq, l2.sq, by rw [s1.length, s2.length]; exact sz h.1, fun e => ?_, fun _ e => ?_, fun _ _ q hq => ?_⟩
    · subst e
      cases a with
      | nil => exact k.here ok h.2 ⟨p2, ys, rfl, l2, s2⟩
      | cons d r => obtain ⟨_, _, z, _⟩ := s1; cases z
    · subst e
      cases b with
      | nil => exact k.here ok h.2 (by rw [List.append_nil]; exact ⟨p, xs, rfl, l1, s1⟩)
      | cons d r => obtain ⟨_, _, z, _⟩ := s2; cases z
    · exact k.new ok hq h.2 (rp_tup ok hq (s1.append s2))
theorem opD_sub : OpD X (binaryOp .Sub) subD := by
  intro pins s σ H x y v u Q I rx ry ⟨w, dx, dy, Q', hH, ok, r1, r2, h, k⟩
  subst hH
  cases dx <;> cases dy <;> first | exact False.elim h | skip
  case int.int i j =>
    obtain rfl : x = .int i := r1; obtain rfl : y = .int j := r2
    exact op_sub pins s σ _ _ _ v u Q I rx ry ⟨i, j, rfl, rfl, k.here ok h rfl⟩
theorem rp_flat {K : PySem.W.Frag} {w : Wd} {ds : List D} {xs : List V} (r : RpL K w ds xs) : ∀ n : Nat, RpL K w (List.replicate n ds).flatten (List.replicate n xs).flatten
  | 0 => rfl
  | n + 1 => by
    rw [List.replicate_succ, List.replicate_succ, List.flatten_cons, List.flatten_cons]
    exact r.append (rp_flat r n)
theorem opD_mul : OpD X (binaryOp .Mult) mulD := by
  intro pins s σ H x y v u Q I rx ry ⟨w, dx, dy, Q', hH, ok, r1, r2, h, k⟩
  subst hH
  cases dx <;> cases dy <;> first | exact False.elim h | skip
  case int.int i j =>
    obtain rfl : x = .int i := r1; obtain rfl : y = .int j := r2
    exact op_mul pins s σ _ _ _ v u Q I rx ry ⟨i, j, rfl, rfl, h.1, k.here ok h.2 rfl⟩
  case lst.int t1 a n =>
    obtain ⟨p, xs, rfl, l1, s1⟩ := r1; obtain rfl : y = .int n := r2
    refine op_rep pins s σ _ _ _ v u Q I rx ry ⟨p, n, xs, rfl, rfl, l1.1, (by have h1 := h.1; have h2 := h.2.1; omega), (by have h1 := h.1; have h2 := h.2.1; omega), by rw [s1.length]; exact sz h.2.2.1, fun q hq => ?_⟩
    exact k.new ok hq h.2.2.2 (rp_lst ok hq (rp_flat s1 n.toNat))
theorem opD_fdiv : OpD X (binaryOp .FloorDiv) fdivD := by
  intro pins s σ H x y v u Q I rx ry ⟨w, dx, dy, Q', hH, ok, r1, r2, h, k⟩
  subst hH
  cases dx <;> cases dy <;> first | exact False.elim h | skip
  case int.int i j =>
    obtain rfl : x = .int i := r1; obtain rfl : y = .int j := r2
    exact op_fdiv pins s σ _ _ _ v u Q I rx ry ⟨i, j, rfl, rfl, h.1, k.here ok h.2 rfl⟩
theorem opD_mod : OpD X (binaryOp .Mod) modD := by
  intro pins s σ H x y v u Q I rx ry ⟨w, dx, dy, Q', hH, ok, r1, r2, h, k⟩
  subst hH
  cases dx <;> cases dy <;> first | exact False.elim h | skip
  case int.int i j =>
    obtain rfl : x = .int i := r1; obtain rfl : y = .int j := r2
    exact op_mod pins s σ _ _ _ v u Q I rx ry ⟨i, j, rfl, rfl, h.1, k.here ok h.2 rfl⟩
theorem opD_pow : OpD X (binaryOp .Pow) powD := by
  intro pins s σ H x y v u Q I rx ry ⟨w, dx, dy, Q', hH, ok, r1, r2, h, k⟩
  subst hH
  cases dx <;> cases dy <;> first | exact False.elim h | skip
  case int.int i j =>
    obtain rfl : x = .int i := r1; obtain rfl : y = .int j := r2
    exact op_pow pins s σ _ _ _ v u Q I rx ry ⟨i, j, rfl, rfl, h.1, k.here ok h.2 rfl⟩
theorem opD_lt : OpD X (compareOp .Lt) ltD := by
  intro pins s σ H x y v u Q I rx ry ⟨w, dx, dy, Q', hH, ok, r1, r2, h, k⟩
  subst hH
  cases dx <;> cases dy <;> first | exact False.elim h | skip
  case int.int i j =>
    obtain rfl : x = .int i := r1; obtain rfl : y = .int j := r2
    exact op_lt pins s σ _ _ _ v u Q I rx ry ⟨i, j, rfl, rfl, k.here ok h rfl⟩
theorem opD_le : OpD X (compareOp .LtE) leD := by
  intro pins s σ H x y v u Q I rx ry ⟨w, dx, dy, Q', hH, ok, r1, r2, h, k⟩
  subst hH
  cases dx <;> cases dy <;> first | exact False.elim h | skip
  case int.int i j =>
    obtain rfl : x = .int i := r1; obtain rfl : y = .int j := r2
    exact op_le pins s σ _ _ _ v u Q I rx ry ⟨i, j, rfl, rfl, k.here ok h rfl⟩
theorem opD_gt : OpD X (compareOp .Gt) gtD := by
  intro pins s σ H x y v u Q I rx ry ⟨w, dx, dy, Q', hH, ok, r1, r2, h, k⟩
  subst hH
  cases dx <;> cases dy <;> first | exact False.elim h | skip
  case int.int i j =>
    obtain rfl : x = .int i := r1; obtain rfl : y = .int j := r2
    exact op_gt pins s σ _ _ _ v u Q I rx ry ⟨i, j, rfl, rfl, k.here ok h rfl⟩
theorem opD_ge : OpD X (compareOp .GtE) geD := by
  intro pins s σ H x y v u Q I rx ry ⟨w, dx, dy, Q', hH, ok, r1, r2, h, k⟩
  subst hH
  cases dx <;> cases dy <;> first | exact False.elim h | skip
  case int.int i j =>
    obtain rfl : x = .int i := r1; obtain rfl : y = .int j := r2
    exact op_ge pins s σ _ _ _ v u Q I rx ry ⟨i, j, rfl, rfl, k.here ok h rfl⟩
theorem rp_non {K : PySem.W.Frag} {w : Wd} {d : D} {v : V} (r : Rp K w d v) : decide (v = .non) = isNon d := by
  cases d with
  | non => obtain rfl : v = .non := r; rfl
  | bl b => obtain rfl : v = .bl b := r; rfl
  | int b => obtain rfl : v = .int b := r; rfl
  | str b => obtain rfl : v = .str b := r; rfl
  | ref b => obtain rfl : v = .ref b := r; rfl
  | ty b => obtain rfl : v = .ty b := r; rfl
  | lst t b => obtain ⟨_, _, rfl, _⟩ := r; rfl
  | tup b => obtain ⟨_, _, rfl, _⟩ := r; rfl
  | dct b => obtain ⟨_, rfl, _⟩ := r; rfl
  | obj C b => obtain ⟨_, _, _, rfl, _⟩ := r; rfl
  | scr b => obtain ⟨_, rfl, _⟩ := r; rfl
  | exc C b => obtain ⟨_, _, _, rfl, _⟩ := r; rfl
  | cls b => obtain rfl : v = .ref _ := r; rfl
  | cst b => obtain ⟨_, _, rfl, _⟩ := r; rfl
theorem opD_is : OpD X (compareOp .Is) isND := by
  intro pins s σ H x y v u Q I rx ry ⟨w, dx, dy, Q', hH, ok, r1, r2, h, k⟩
  subst hH
  cases dy <;> first | exact False.elim h | skip
  case non =>
    obtain rfl : y = .non := r2
    exact op_isN pins s σ _ _ _ v u Q I rx ry ⟨rfl, by rw [rp_non r1]; exact k.here ok h rfl⟩
theorem opD_isnot : OpD X (compareOp .IsNot) notND := by
  intro pins s σ H x y v u Q I rx ry ⟨w, dx, dy, Q', hH, ok, r1, r2, h, k⟩
  subst hH
  cases dy <;> first | exact False.elim h | skip
  case non =>
    obtain rfl : y = .non := r2
    exact op_notN pins s σ _ _ _ v u Q I rx ry ⟨rfl, by rw [rp_non r1]; exact k.here ok h rfl⟩

/-! ### ==, in -/
theorem eq_flat {X : Cx} (hu : X.A.units + 64 < cLine) : OpR X (compareOp .Eq) (liftO X.K eqD) := by
  intro pins s σ H x y v u Q I rx ry ⟨w, dx, dy, Q', hH, ok, r1, r2, h, k⟩
  subst hH
  have gen : pyN 30 dx = true → pyN 30 dy = true → wpAny (model X.prog X.w) X.A (compareOp .Eq v u) (EP X pins σ Q) X.xe s := fun h1 h2 => by
    obtain ⟨a1, a2⟩ := shaped_of h1 r1
    obtain ⟨b1, b2⟩ := shaped_of h2 r2
    exact op_eqD hu pins s σ _ _ _ v u Q I rx ry ⟨_, _, a1, b1, a2, b2, k.here ok h.2 rfl⟩
  have fl : scal x y = true → decide (x = y) = eqB dx dy → wpAny (model X.prog X.w) X.A (compareOp .Eq v u) (EP X pins σ Q) X.xe s := fun h1 h2 =>
    op_eq pins s σ _ _ _ v u Q I rx ry ⟨h1, by rw [h2]; exact k.here ok h.2 rfl⟩
  have h1 := h.1
  rw [eqOk, Bool.or_eq_true, Bool.and_eq_true] at h1
  rcases h1 with h1 | h1
  rotate_left
  · exact gen h1.1 h1.2
  cases dx <;> cases dy <;> first
    | exact (Bool.noConfusion (show false = true from h1))
    | (obtain rfl := (show x = _ from r1); obtain rfl := (show y = _ from r2); exact fl rfl rfl)
    | (obtain rfl := (show x = _ from r1); obtain rfl := (show y = _ from r2); exact fl rfl (by
        rename_i a b
        show decide (V.str a = V.str b) = (a == b)
        by_cases e : a = b
        · subst e; simp
        · rw [decide_eq_false (by intro z; exact e (V.str.inj z))]; simp [e]))
theorem ne_flat {X : Cx} (hu : X.A.units + 64 < cLine) : OpR X (compareOp .NotEq) (liftO X.K neD) := by
  intro pins s σ H x y v u Q I rx ry ⟨w, dx, dy, Q', hH, ok, r1, r2, h, k⟩
  subst hH
  have gen : pyN 30 dx = true → pyN 30 dy = true → wpAny (model X.prog X.w) X.A (compareOp .NotEq v u) (EP X pins σ Q) X.xe s := fun h1 h2 => by
    obtain ⟨a1, a2⟩ := shaped_of h1 r1
    obtain ⟨b1, b2⟩ := shaped_of h2 r2
    exact op_neD hu pins s σ _ _ _ v u Q I rx ry ⟨_, _, a1, b1, a2, b2, k.here ok h.2 rfl⟩
  have fl : scal x y = true → decide (x = y) = eqB dx dy → wpAny (model X.prog X.w) X.A (compareOp .NotEq v u) (EP X pins σ Q) X.xe s := fun h1 h2 =>
    op_ne pins s σ _ _ _ v u Q I rx ry ⟨h1, by rw [h2]; exact k.here ok h.2 rfl⟩
  have h1 := h.1
  rw [eqOk, Bool.or_eq_true, Bool.and_eq_true] at h1
  rcases h1 with h1 | h1
  rotate_left
  · exact gen h1.1 h1.2
  cases dx <;> cases dy <;> first
    | exact (Bool.noConfusion (show false = true from h1))
    | (obtain rfl := (show x = _ from r1); obtain rfl := (show y = _ from r2); exact fl rfl rfl)
    | (obtain rfl := (show x = _ from r1); obtain rfl := (show y = _ from r2); exact fl rfl (by
        rename_i a b
        show decide (V.str a = V.str b) = (a == b)
        by_cases e : a = b
        · subst e; simp
        · rw [decide_eq_false (by intro z; exact e (V.str.inj z))]; simp [e]))
theorem flat_v {K : PySem.W.Frag} {w : Wd} {d : D} {v : V} (h : flatD d = true) (r : Rp K w d v) : flatV v = true := by
  cases d <;> first | (obtain rfl := (show v = _ from r); rfl) | exact (Bool.noConfusion (show false = true from h))
theorem flat_vs {K : PySem.W.Frag} {w : Wd} : ∀ {ds : List D} {vs : List V}, ds.all flatD = true → RpL K w ds vs → vs.all flatV = true
  | [], vs, h, r => by obtain rfl : vs = [] := r; rfl
  | d :: ds, vs, h, r => by
    obtain ⟨x, q, rfl, r1, r2⟩ := r
    rw [List.all_cons, Bool.and_eq_true] at h
    rw [List.all_cons, flat_v h.1 r1, flat_vs h.2 r2]; rfl
theorem eqV_eqB {K : PySem.W.Frag} {w : Wd} {d e : D} {v u : V} (h : flatD d = true) (h' : flatD e = true) (r : Rp K w d v) (r' : Rp K w e u) : eqV v u = eqB d e := by
  cases d <;> cases e <;> first | (obtain rfl := (show v = _ from r); obtain rfl := (show u = _ from r'); rfl) | exact (Bool.noConfusion (show false = true from h)) | exact (Bool.noConfusion (show false = true from h'))
theorem inV_inB {K : PySem.W.Frag} {w : Wd} {d : D} {v : V} (h : flatD d = true) (r : Rp K w d v) : ∀ {ds : List D} {vs : List V}, ds.all flatD = true → RpL K w ds vs → inV v vs = inB d ds
  | [], vs, h, r => by obtain rfl : vs = [] := r; rfl
  | e :: ds, vs, h', r' => by
    obtain ⟨x, q, rfl, r1, r2⟩ := r'
    rw [List.all_cons, Bool.and_eq_true] at h'
    have ih := inV_inB h r h'.2 r2
    unfold inV inB at ih ⊢
    rw [List.any_cons, List.any_cons, eqV_eqB h'.1 h r1 r, ih]
theorem opD_in : OpD X (compareOp .In) inD := by
  intro pins s σ H x y v u Q I rx ry ⟨w, dx, dy, Q', hH, ok, r1, r2, h, k⟩
  subst hH
  have hs : ∀ ys, (∃ p xs, y = .ref p ∧ (SqL X.K w.H p xs ∨ SqT X.K w.H p xs) ∧ RpL X.K w ys xs) → (flatD dx = true ∧ ys.all flatD = true) ∧ Q' (.bl (inB dx ys)) w.M → wpAny (model X.prog X.w) X.A (compareOp .In v u) (EP X pins σ Q) X.xe s := fun ys ⟨p, xs, e, l, s1⟩ h =>
    op_in_seq pins s σ _ _ _ v u Q I rx ry ⟨p, xs, e, l, flat_v h.1.1 r1, flat_vs h.1.2 s1, by
      show Q (.bl (inV x xs)) w.H
      rw [inV_inB h.1.1 r1 h.1.2 s1]; exact k.here ok h.2 rfl⟩
  cases dy with
  | lst t ys => obtain ⟨p, xs, rfl, l, s1⟩ := r2; exact hs ys ⟨p, xs, rfl, .inl l.sq, s1⟩ (by cases dx <;> exact h)
  | tup ys => obtain ⟨p, xs, rfl, l, s1⟩ := r2; exact hs ys ⟨p, xs, rfl, .inr l.sq, s1⟩ (by cases dx <;> exact h)
  | cst ys => obtain ⟨p, xs, rfl, l, s1⟩ := r2; exact hs ys ⟨p, xs, rfl, .inr (l _), s1⟩ (by cases dx <;> exact h)
  | str b =>
    cases dx with
    | str a =>
      obtain rfl : x = .str a := r1; obtain rfl : y = .str b := r2
      exact op_in_str pins s σ _ _ _ v u Q I rx ry ⟨a, b, rfl, rfl, k.here ok h rfl⟩
    | _ => exact False.elim h
  | _ => cases dx <;> exact False.elim h
/-! ### chains -/
variable {c : Wd} {a b e : Expr} {ta tb te : DE} {pos : Pos} {g g' : D2}
@[simp] def dChain (g g' : D2) (ta tb tc : DE) : DE := fun ρ M Q => ta ρ M fun x M1 => tb ρ M1 fun y M2 => g x y M2 fun z M3 => match z with | .bl k => if k = true then (tc ρ M3 fun w M4 => g' y w M4 Q) else Q (.bl false) M3 | _ => False
theorem chain_imp {tc : DE} {ρ : DEnv} {w : Wd} {Q' : DK} {K : PySem.W.Frag} {σ : St} {H : Hp} {Q : VK} (hH : w.H = H) (a : At K c w ρ σ) (h : dChain g g' ta tb tc ρ w.M Q') (k : Wv K w Q' Q) : tChain (liftO K g) (liftO K g') (lift K c ta) (lift K c tb) (lift K c tc) σ H Q :=
  ⟨ρ, w, _, hH, a, h, fun d w1 v q b1 r => ⟨ρ, w1, _, rfl, a.next b1, q, fun e w2 v2 q2 b2 r2 => ⟨w2, d, e, _, rfl, b2.ok, r.mono b2.kp, r2, q2, fun z w3 vz q3 b3 r3 => by
    cases z with
    | bl y =>
      obtain rfl : vz = .bl y := r3
      refine ⟨y, rfl, ?_⟩
      cases y with
      | true => exact iteT ⟨ρ, w3, _, rfl, a.next ((b1.trans b2).trans b3), q3, fun d4 w4 v4 q4 b4 r4 => ⟨w4, e, d4, Q', rfl, b4.ok, (r2.mono b3.kp).mono b4.kp, r4, q4, k.back (((b1.trans b2).trans b3).trans b4)⟩⟩
      | false => exact iteF (k _ w3 _ q3 ((b1.trans b2).trans b3) rfl)
    | _ => exact q3.elim⟩⟩⟩
theorem pd_chain {op op' : CmpOp} {c' : Expr} {tc : DE} (ho : OpD X (compareOp op) g) (ho' : OpD X (compareOp op') g') (ha : PD c X a ta) (hb : PD c X b tb) (hc : PD c X c' tc)
    (hm : lastMarks [op, op'] [b, c'] = false := by with_unfolding_all rfl) : PD c X (.Compare a [op, op'] [b, c'] pos) (dChain g g' ta tb tc) := PE_imp (pe_chain ho ho' ha hb hc hm) fun _ _ _ ⟨_, _, _, hH, a, h, k⟩ => chain_imp hH a h k
theorem pdt_chain {op op' : CmpOp} {c' : Expr} {tc : DE} (ho : OpD X (compareOp op) g) (ho' : OpD X (compareOp op') g') (ha : PD c X a ta) (hb : PD c X b tb) (hc : PD c X c' tc)
    (hm : lastMarks [op, op'] [b, c'] = false := by with_unfolding_all rfl) : PDT c X (.Compare a [op, op'] [b, c'] pos) (dB (dChain g g' ta tb tc)) := PT_imp (pt_chain ho ho' ha hb hc hm) fun _ _ _ ⟨_, _, _, hH, a, h, k⟩ => chain_imp hH a h (Wv.isB k)

/-! ### subscripts, slices -/
@[simp] def ixD : D2 := fun x y M Q => match y with
  | .int i => match x with
    | .lst _ ds => (match atI ds i with | some d => Q d M | none => False)
    | .tup ds => (match atI ds i with | some d => Q d M | none => False)
    | .cst ds => (match atI ds i with | some d => Q d M | none => False)
    | .str z => z.length ≤ 100000 ∧ (match atI z.cps.toList i with | some c => Q (.str ⟨#[c]⟩) M | none => False)
    | .ref a => (match M a with | some (.lst ds) => (match atI ds i with | some d => Q d M | none => False) | _ => False)
    | _ => False
  | _ => False
theorem atI_rp {K : PySem.W.Frag} {w : Wd} {ds : List D} {vs : List V} {i : Int} {d : D} (r : RpL K w ds vs) (h : atI ds i = some d) : ∃ v, atI vs i = some v ∧ Rp K w d v := by
  unfold atI at h ⊢
  rw [r.length]
  cases e : ixN ds.length i with
  | none => rw [e] at h; cases h
  | some j =>
    rw [e] at h
    obtain ⟨v, h1, h2⟩ := r.at (i := j) (d := d) h
    exact ⟨v, h1, h2⟩
theorem ixR_D : IxR X (liftO X.K ixD) := by
  intro value slice pins s σ H x y v u Q I rx ry ⟨w, dx, dy, Q', hH, ok, r1, r2, h, k⟩ hs
  subst hH
  cases dy with
  | int i =>
    obtain rfl : y = .int i := r2
    cases dx with
    | lst t ds =>
      obtain ⟨p, xs, rfl, l, s1⟩ := r1
      cases e : atI ds i with
      | none => simp only [ixD, e] at h
      | some d =>
        simp only [ixD, e] at h
        obtain ⟨z, h1, h2⟩ := atI_rp s1 e
        exact ix_list value slice pins s σ _ _ _ v u Q I rx ry ⟨p, xs, i, z, rfl, rfl, l.sq, h1, k.here ok h h2⟩ hs
    | tup ds =>
      obtain ⟨p, xs, rfl, l, s1⟩ := r1
      cases e : atI ds i with
      | none => simp only [ixD, e] at h
      | some d =>
        simp only [ixD, e] at h
        obtain ⟨z, h1, h2⟩ := atI_rp s1 e
        exact ix_tup value slice pins s σ _ _ _ v u Q I rx ry ⟨p, xs, i, z, rfl, rfl, l.sq, h1, k.here ok h h2⟩ hs
    | cst ds =>
      obtain ⟨p, xs, rfl, l, s1⟩ := r1
      cases e : atI ds i with
      | none => simp only [ixD, e] at h
      | some d =>
        simp only [ixD, e] at h
        obtain ⟨z, h1, h2⟩ := atI_rp s1 e
        exact ix_tup value slice pins s σ _ _ _ v u Q I rx ry ⟨p, xs, i, z, rfl, rfl, l _, h1, k.here ok h h2⟩ hs
    | str z =>
      obtain rfl : x = .str z := r1
      cases e : atI z.cps.toList i with
      | none => simp only [ixD, e] at h; exact h.2.elim
      | some d =>
        simp only [ixD, e] at h
        exact ix_str value slice pins s σ _ _ _ v u Q I rx ry ⟨z, i, d, rfl, rfl, sz h.1, e, k.here ok h.2 rfl⟩ hs
    | ref a =>
      obtain rfl : x = .ref a := r1
      cases em : w.M a with
      | none => simp only [ixD, em] at h
      | some m =>
        cases m with
        | lst ds =>
          simp only [ixD, em] at h
          cases e : atI ds i with
          | none => simp only [e] at h
          | some d =>
            simp only [e] at h
            obtain ⟨xs, hx, s1⟩ := (show ∃ xs, w.H a = some (.lst xs) ∧ RpL X.K w ds xs from ok.mo a _ em)
            obtain ⟨z, h1, h2⟩ := atI_rp s1 e
            exact ix_list value slice pins s σ _ _ _ v u Q I rx ry ⟨a, xs, i, z, rfl, rfl, SqL.of hx, h1, k.here ok h h2⟩ hs
        | _ => simp only [ixD, em] at h
    | _ => exact False.elim h
  | _ => exact False.elim h
def cut {α : Type} (xs : List α) (lo hi : Option Int) : List α := (xs.drop (HT.sIx xs.length 0 lo)).take (HT.sIx xs.length xs.length hi - HT.sIx xs.length 0 lo)
theorem cut_rp {K : PySem.W.Frag} {w : Wd} {ds : List D} {vs : List V} (lo hi : Option Int) (r : RpL K w ds vs) : RpL K w (cut ds lo hi) (cutV vs lo hi) := by
  unfold cut cutV
  rw [r.length]
  exact (r.drop _).take _
abbrev DO := DEnv → Mu → (Option Int → Mu → Prop) → Prop
def liftOp (K : PySem.W.Frag) (c : Wd) (t : DO) : TO := fun σ H Q => ∃ ρ w Q', w.H = H ∧ At K c w ρ σ ∧ t ρ w.M Q' ∧ ∀ o w', Q' o w'.M → Bh K w w' → Q o w'.H
abbrev PDO (c : Wd) (X : Cx) (e : Option Expr) (t : DO) : Prop := PO X e (liftOp X.K c t)
theorem PO_imp {e : Option Expr} {t t' : TO} (h : PO X e t) (i : ∀ σ H Q, t' σ H Q → t σ H Q) : PO X e t' := ⟨fun pins s σ H Q I q => h.run pins s σ H Q I (i σ H Q q)⟩
@[simp] def dNoPart : DO := fun _ M Q => Q none M
@[simp] def dPart (t : DE) : DO := fun ρ M Q => t ρ M fun d M1 => match d with | .int i => Q (some i) M1 | _ => False
theorem pdo_none : PDO c X none dNoPart := PO_imp po_none fun σ H Q ⟨ρ, w, Q', hH, a, h, k⟩ => hH ▸ k none w h (Bh.refl a.ok)
theorem pdo_some (h : PD c X e te) : PDO c X (some e) (dPart te) := PO_imp (po_some h) fun σ H Q ⟨ρ, w, Q', hH, a, h, k⟩ => ⟨ρ, w, _, hH, a, h, fun d w1 v q b1 r => by
  cases d with
  | int i => obtain rfl : v = .int i := r; exact ⟨i, rfl, k _ w1 q b1⟩
  | _ => exact q.elim⟩
@[simp] def slD : D → Option Int → Option Int → Mu → DK → Prop := fun x lo hi M Q => match x with
  | .lst _ ds => Q (.lst 0 (cut ds lo hi)) M
  | .tup ds => Q (.tup (cut ds lo hi)) M
  | .str z => z.length ≤ 100000 ∧ Q (.str (cutS z lo hi)) M
  | .scr ns => Q (.lst 0 (cut (ns.map D.int) lo hi)) M
  | .ref a => (match M a with | some (.lst ds) => Q (.lst 0 (cut ds lo hi)) M | _ => False)
  | _ => False
theorem ints_rp {K : PySem.W.Frag} {w : Wd} : ∀ ns : List Int, RpL K w (ns.map D.int) (ns.map V.int)
  | [] => rfl
  | n :: ns => ⟨.int n, ns.map V.int, rfl, rfl, ints_rp ns⟩
def liftSl (K : PySem.W.Frag) : V → Option Int → Option Int → Hp → VK → Prop := fun x lo hi H Q => ∃ w dx Q', w.H = H ∧ Ok K w ∧ Rp K w dx x ∧ slD dx lo hi w.M Q' ∧ Wv K w Q' Q
theorem slR_D : SlR X (liftSl X.K) := by
  intro pins s σ H x v vl vu lo hi sl Q I rx hs pl pu ⟨w, dx, Q', hH, ok, r1, h, k⟩
  subst hH
  cases dx with
  | lst t ds =>
    obtain ⟨p, xs, rfl, l, s1⟩ := r1
    exact sl_list pins s σ _ _ v vl vu lo hi sl Q I rx hs pl pu ⟨p, xs, rfl, l.sq, fun q hq => k.new ok hq h (rp_lst ok hq (cut_rp lo hi s1))⟩
  | tup ds =>
    obtain ⟨p, xs, rfl, l, s1⟩ := r1
    refine sl_tupA pins s σ _ _ v vl vu lo hi sl Q I rx hs pl pu ⟨p, xs, rfl, l.sq, fun e => ?_, fun _ q hq => k.new ok hq h (rp_tup ok hq (cut_rp lo hi s1))⟩
    have hl := s1.length
    refine k.here ok h (show Rp X.K w (.tup (cut ds lo hi)) (.ref p) from ?_)
    have : cut ds lo hi = ds := by
      unfold cut
      rw [← hl, e.1, e.2, List.drop_zero, hl, Nat.sub_zero, List.take_length]
    rw [this]
    exact ⟨p, xs, rfl, l, s1⟩
  | str z =>
    obtain rfl : x = .str z := r1
    exact sl_str pins s σ _ _ v vl vu lo hi sl Q I rx hs pl pu ⟨z, rfl, sz h.1, k.here ok h.2 rfl⟩
  | scr ns =>
    obtain ⟨ad, rfl, h1⟩ := r1
    have hq : SqL X.K w.H ad (ns.map V.int) := h1.elim (fun z => .inl z.2) fun z => z w.H
    exact sl_list pins s σ _ _ v vl vu lo hi sl Q I rx hs pl pu ⟨ad, ns.map V.int, rfl, hq, fun q hq => k.new ok hq h (rp_lst ok hq (cut_rp lo hi (ints_rp ns)))⟩
  | ref a =>
    obtain rfl : x = .ref a := r1
    cases em : w.M a with
    | none => simp only [slD, em] at h
    | some m =>
      cases m with
      | lst ds =>
        simp only [slD, em] at h
        obtain ⟨xs, hx, s1⟩ := (show ∃ xs, w.H a = some (.lst xs) ∧ RpL X.K w ds xs from ok.mo a _ em)
        exact sl_list pins s σ _ _ v vl vu lo hi sl Q I rx hs pl pu ⟨a, xs, rfl, SqL.of hx, fun q hq => k.new ok hq h (rp_lst ok hq (cut_rp lo hi s1))⟩
      | _ => simp only [slD, em] at h
  | _ => exact False.elim h
@[simp] def dSl (te : DE) (tl th : DO) : DE := fun ρ M Q => te ρ M fun x M1 => tl ρ M1 fun l M2 => th ρ M2 fun u M3 => slD x l u M3 Q
theorem pd_slice {lo hi : Option Expr} {tl th : DO} {p2 : Pos} (he : PD c X e te) (hl : PDO c X lo tl) (hu : PDO c X hi th) : PD c X (.Subscript e (.Slice lo hi none p2) pos) (dSl te tl th) :=
  PE_imp (pe_slice slR_D he hl hu) fun σ H Q ⟨ρ, w, Q', hH, a, h, k⟩ => ⟨ρ, w, _, hH, a, h, fun d w1 v q b1 r => ⟨ρ, w1, _, rfl, a.next b1, q, fun l w2 q2 b2 => ⟨ρ, w2, _, rfl, (a.next b1).next b2, q2, fun u w3 q3 b3 =>
    ⟨w3, d, Q', rfl, b3.ok, (r.mono b2.kp).mono b3.kp, q3, k.back ((b1.trans b2).trans b3)⟩⟩⟩⟩
end
end DL
/-! The data layer, part d: statements, loops, comprehensions, defs. -/
namespace DL
open PySem L2

structure DEnds where
  nx : DEnv → Mu → Prop
  rt : DK
  bk : DEnv → Mu → Prop := fun _ _ => False
  ct : DEnv → Mu → Prop := fun _ _ => False
abbrev DS := DEnds → DEnv → Mu → Prop
structure WE (K : PySem.W.Frag) (c w : Wd) (D' : DEnds) (D : Ends) : Prop where
  nx : ∀ ρ' w' σ', D'.nx ρ' w'.M → Bh K w w' → At K c w' ρ' σ' → D.nx σ' w'.H
  rt : Wv K w D'.rt D.rt
  bk : ∀ ρ' w' σ', D'.bk ρ' w'.M → Bh K w w' → At K c w' ρ' σ' → D.bk σ' w'.H
  ct : ∀ ρ' w' σ', D'.ct ρ' w'.M → Bh K w w' → At K c w' ρ' σ' → D.ct σ' w'.H
theorem WE.back {K : PySem.W.Frag} {c w w1 : Wd} {D' : DEnds} {D : Ends} (k : WE K c w D' D) (b : Bh K w w1) : WE K c w1 D' D where
  nx := fun ρ' w' σ' q b' a => k.nx ρ' w' σ' q (b.trans b') a
  rt := k.rt.back b
  bk := fun ρ' w' σ' q b' a => k.bk ρ' w' σ' q (b.trans b') a
  ct := fun ρ' w' σ' q b' a => k.ct ρ' w' σ' q (b.trans b') a
def liftS (K : PySem.W.Frag) (c : Wd) (t : DS) : TS := fun D σ H => ∃ ρ w D', w.H = H ∧ At K c w ρ σ ∧ t D' ρ w.M ∧ WE K c w D' D
abbrev PDS (c : Wd) (X : Cx) (st : Stmt) (t : DS) : Prop := PS X st (liftS X.K c t)
abbrev PDSs (c : Wd) (X : Cx) (st : List Stmt) (t : DS) : Prop := PSs X st (liftS X.K c t)
theorem PS_imp {X : Cx} {st : Stmt} {t t' : TS} (h : PS X st t) (i : ∀ D σ H, t' D σ H → t D σ H) : PS X st t' := ⟨fun pins s σ H D I q => h.run pins s σ H D I (i D σ H q)⟩
theorem PSs_imp {X : Cx} {st : List Stmt} {t t' : TS} (h : PSs X st t) (i : ∀ D σ H, t' D σ H → t D σ H) : PSs X st t' := ⟨fun pins s σ H D I q => h.run pins s σ H D I (i D σ H q)⟩
section
variable {X : Cx} {c : Wd} {st : Stmt} {rest body : List Stmt} {t u : DS} {e : Expr} {te : DE} {pos : Pos}
@[simp] def dNext : DS := fun D ρ M => D.nx ρ M
@[simp] def dSeq (t u : DS) : DS := fun D ρ M => t { nx := u D, rt := D.rt, bk := D.bk, ct := D.ct } ρ M
theorem pdss_nil : PDSs c X [] dNext := PSs_imp pss_nil fun D σ H ⟨ρ, w, D', hH, a, h, k⟩ => hH ▸ k.nx ρ w σ h (Bh.refl a.ok) a
theorem pdss_cons (h1 : PDS c X st t) (h2 : PDSs c X rest u) : PDSs c X (st :: rest) (dSeq t u) := PSs_imp (pss_cons h1 h2) fun D σ H ⟨ρ, w, D', hH, a, h, k⟩ =>
  ⟨ρ, w, _, hH, a, h, { nx := fun ρ' w' σ' q b a' => ⟨ρ', w', D', rfl, a', q, k.back b⟩, rt := k.rt, bk := k.bk, ct := k.ct }⟩
theorem pdss_one (h1 : PDS c X st t) : PDSs c X [st] t := PSs_imp (pss_one h1) fun D σ H h => h
@[simp] def dRet (te : DE) : DS := fun D ρ M => te ρ M D.rt
theorem pds_ret (he : PD c X e te) : PDS c X (.Return (some e) pos) (dRet te) := PS_imp (ps_ret he) fun D σ H ⟨ρ, w, D', hH, a, h, k⟩ => ⟨ρ, w, D'.rt, hH, a, h, k.rt⟩
@[simp] def dDrop (te : DE) : DS := fun D ρ M => te ρ M fun _ M1 => D.nx ρ M1
theorem pds_expr (he : PD c X e te) (hs : swapsWith e none pos.line X.env = pure false := by rfl) : PDS c X (.Expr e pos) (dDrop te) := PS_imp (ps_expr he hs) fun D σ H ⟨ρ, w, D', hH, a, h, k⟩ =>
  ⟨ρ, w, _, hH, a, h, fun d w' v q b r => k.nx ρ w' σ q b (a.next b)⟩
@[simp] def dIfS (t : DT) (u v : DS) : DS := fun D ρ M => t ρ M fun k M1 => if k = true then u D ρ M1 else v D ρ M1
theorem pds_if {tc : Expr} {p q : List Stmt} {tt : DT} (hc : PDT c X tc tt) (ha : PDSs c X p t) (hb : PDSs c X q u) : PDS c X (.If tc p q pos) (dIfS tt t u) := PS_imp (ps_if hc ha hb) fun D σ H ⟨ρ, w, D', hH, a, h, k⟩ =>
  ⟨ρ, w, _, hH, a, h, fun z w1 q b1 => by
    cases z with
    | true => exact iteT ⟨ρ, w1, D', rfl, a.next b1, q, k.back b1⟩
    | false => exact iteF ⟨ρ, w1, D', rfl, a.next b1, q, k.back b1⟩⟩

/-! ### targets -/
abbrev DG := D → DEnv → Mu → (DEnv → Mu → Prop) → Prop
/-- the same slots but for some -/
def Ag (vs : List Nat) (σ σ' : St) : Prop := σ'.length = σ.length ∧ ∀ i : Nat, i ∉ vs → σ'[i]? = σ[i]?
theorem Ag.refl (vs : List Nat) (σ : St) : Ag vs σ σ := ⟨rfl, fun _ _ => rfl⟩
theorem Ag.trans {vs : List Nat} {σ σ1 σ2 : St} (a : Ag vs σ σ1) (b : Ag vs σ1 σ2) : Ag vs σ σ2 := ⟨b.1.trans a.1, fun i h => (b.2 i h).trans (a.2 i h)⟩
theorem Ag.set {vs : List Nat} {σ : St} {i : Nat} {o : Option V} (h : i ∈ vs) : Ag vs σ (σ.set i o) := ⟨List.length_set, fun j hj => List.getElem?_set_ne (fun (e : i = j) => hj (by rw [← e]; exact h))⟩
theorem wipe_ag {vs : List Nat} {σ σ' : St} (h : Ag vs σ σ') : wipe σ' vs = wipe σ vs := by
  apply List.ext_getElem?
  intro i
  have hl := h.1
  by_cases hi : i ∈ vs
  · have hv : ∀ (τ : St), ∀ us : List Nat, i ∈ us → i < τ.length → (wipe τ us)[i]? = some none := by
      intro τ us
      induction us with
      | nil => intro z; cases z
      | cons u us ih =>
        intro z hlt
        unfold wipe
        by_cases e : u = i
        · subst e
          rw [List.getElem?_set_self (by rw [wipe_length]; exact hlt)]
        · rw [List.getElem?_set_ne e]
          rcases List.mem_cons.mp z with z | z
          · exact absurd z.symm e
          · exact ih z hlt
    by_cases hlt : i < σ.length
    · rw [hv σ' vs hi (by omega), hv σ vs hi hlt]
    · rw [List.getElem?_eq_none (by rw [wipe_length]; omega), List.getElem?_eq_none (by rw [wipe_length]; omega)]
  · rw [wipe_out hi, wipe_out hi, h.2 i hi]
theorem wipe_wipe {vs : List Nat} {σ : St} : Ag vs σ (wipe σ vs) := ⟨wipe_length σ vs, fun i hi => wipe_out hi⟩
def liftG (K : PySem.W.Frag) (c : Wd) (vs : List Nat) (g : DG) : TG := fun v σ H Q => ∃ d ρ w Q', w.H = H ∧ At K c w ρ σ ∧ Rp K w d v ∧ g d ρ w.M Q' ∧ ∀ ρ' w' σ', Q' ρ' w'.M → Bh K w w' → At K c w' ρ' σ' → Ag vs σ σ' → Q σ' w'.H
abbrev PDG (c : Wd) (X : Cx) (vs : List Nat) (e : Expr) (g : DG) : Prop := PG X e (liftG X.K c vs g)
theorem PG_imp {e : Expr} {g g' : TG} (h : PG X e g) (i : ∀ v σ H Q, g' v σ H Q → g v σ H Q) : PG X e g' := ⟨fun pins s σ H v u Q I r q => h.run pins s σ H v u Q I r (i _ _ _ _ q)⟩
@[simp] def gNm (i : Nat) : DG := fun d ρ M Q => Q (ρ.set i (some d)) M
variable {vs : List Nat}
theorem pdg_name {i : Nat} {x : Str} (hN : X.N.Nodup) (hi : X.N[i]? = some x := by rfl) (hx : Loc X.env.scope x := by first | exact Or.inl rfl | exact Or.inr rfl) (hf : X.fn x = true ∨ X.env.scope.names.lookup x = some .local := by first | exact .inl rfl | exact .inr rfl) (hvs : i ∈ vs := by simp) : PDG c X vs (.Name x pos) (gNm i) :=
  PG_imp (pg_name hN hi hx hf) fun v σ H Q ⟨d, ρ, w, Q', hH, a, r, h, k⟩ => hH ▸ k _ w _ h (Bh.refl a.ok) (a.set r) (Ag.set hvs)
abbrev DGs := List D → DEnv → Mu → (DEnv → Mu → Prop) → Prop
def liftGs (K : PySem.W.Frag) (c : Wd) (us : List Nat) (g : DGs) : TGs := fun vs σ H Q => ∃ ds ρ w Q', w.H = H ∧ At K c w ρ σ ∧ RpL K w ds vs ∧ g ds ρ w.M Q' ∧ ∀ ρ' w' σ', Q' ρ' w'.M → Bh K w w' → At K c w' ρ' σ' → Ag us σ σ' → Q σ' w'.H
abbrev PDGs (c : Wd) (X : Cx) (vs : List Nat) (es : List Expr) (g : DGs) : Prop := PGs X es (liftGs X.K c vs g)
theorem PGs_imp {es : List Expr} {g g' : TGs} (h : PGs X es g) (i : ∀ v σ H Q, g' v σ H Q → g v σ H Q) : PGs X es g' := ⟨fun pins s σ H v u Q I r q => h.run pins s σ H v u Q I r (i _ _ _ _ q)⟩
@[simp] def gsNil : DGs := fun ds ρ M Q => match ds with | [] => Q ρ M | _ => False
@[simp] def gsCons (g : DG) (k : DGs) : DGs := fun ds ρ M Q => match ds with | d :: r => g d ρ M (fun ρ' M' => k r ρ' M' Q) | [] => False
theorem pdgs_nil : PDGs c X vs [] gsNil := PGs_imp pgs_nil fun us σ H Q ⟨ds, ρ, w, Q', hH, a, r, h, k⟩ => by
  cases ds with
  | nil => exact ⟨r, hH ▸ k ρ w σ h (Bh.refl a.ok) a (Ag.refl _ _)⟩
  | cons d ds => exact h.elim
theorem pdgs_cons {es : List Expr} {g : DG} {gs : DGs} (h1 : PDG c X vs e g) (h2 : PDGs c X vs es gs) (hs : (assignEach (e :: es) X.env).map (·.2) = assign e X.env :: (assignEach es X.env).map (·.2) := by rfl) : PDGs c X vs (e :: es) (gsCons g gs) :=
  PGs_imp (pgs_cons h1 h2 hs) fun us σ H Q ⟨ds, ρ, w, Q', hH, a, r, h, k⟩ => by
  cases ds with
  | nil => exact h.elim
  | cons d ds =>
    obtain ⟨x, q, rfl, r1, r2⟩ := r
    exact ⟨x, q, rfl, d, ρ, w, _, hH, a, r1, h, fun ρ' w' σ' q' b a' g1 => ⟨ds, ρ', w', Q', rfl, a', r2.mono b.kp, q', fun ρ'' w'' σ'' q'' b' a'' g2 => k ρ'' w'' σ'' q'' (b.trans b') a'' (g1.trans g2)⟩⟩
@[simp] def gTp (g : DGs) (n : Nat) : DG := fun d ρ M Q => match d with | .tup ds => ds.length = n ∧ g ds ρ M Q | .cst ds => ds.length = n ∧ g ds ρ M Q | _ => False
theorem pdg_tup {es : List Expr} {k : Nat} {g : DGs} {n : Nat} (hc : X.calm = true) (h : PDGs c X vs es g) (hn : (assignEach es X.env).length = n := by rfl) (hst : (assignEach es X.env).findIdx? (·.1) = none := by rfl) : PDG c X vs (.Tuple es k pos) (gTp g n) :=
  PG_imp (pg_tup hc h hn hst) fun v σ H Q ⟨d, ρ, w, Q', hH, a, r, h, k⟩ => by
  cases d with
  | tup ds =>
    obtain ⟨p, xs, rfl, l, s1⟩ := r
    subst hH
    exact ⟨p, xs, rfl, l.sq, by rw [s1.length]; exact h.1, ds, ρ, w, Q', rfl, a, s1, h.2, k⟩
  | cst ds =>
    obtain ⟨p, xs, rfl, l, s1⟩ := r
    subst hH
    exact ⟨p, xs, rfl, l _, by rw [s1.length]; exact h.1, ds, ρ, w, Q', rfl, a, s1, h.2, k⟩
  | _ => exact h.elim
@[simp] def dAsg (te : DE) (g : DG) : DS := fun D ρ M => te ρ M fun d M1 => g d ρ M1 D.nx
theorem pds_asg {tg : Expr} {g : DG} (he : PD c X e te) (hg : PDG c X vs tg g) (hs : swapsWithSole [tg] e pos.line X.env = pure false := by rfl) (hw : swappedStores [tg] e X.env = pure none := by rfl) (h1 : (assignEach [tg] X.env).map (·.2) = [assign tg X.env] := by rfl) : PDS c X (.Assign [tg] e pos) (dAsg te g) :=
  PS_imp (ps_asg he hg hs hw h1) fun D σ H ⟨ρ, w, D', hH, a, h, k⟩ => ⟨ρ, w, _, hH, a, h, fun d w1 v q b r => ⟨d, ρ, w1, D'.nx, rfl, a.next b, r, q, fun ρ' w' σ' q' b' a' _ => k.nx ρ' w' σ' q' (b.trans b') a'⟩⟩
theorem pds_set {i : Nat} {x : Str} {pos' : Pos} (hN : X.N.Nodup) (he : PD c X e te) (hi : X.N[i]? = some x := by rfl) (hx : Loc X.env.scope x := by first | exact Or.inl rfl | exact Or.inr rfl) (hs : swapsWith e (some (.Name x pos')) pos.line X.env = pure false := by rfl) (hf : X.fn x = true ∨ X.env.scope.names.lookup x = some .local := by first | exact .inl rfl | exact .inr rfl) :
    PDS c X (.Assign [.Name x pos'] e pos) (dAsg te (gNm i)) :=
  PS_imp (ps_set hN hi hx he hs hf) fun D σ H ⟨ρ, w, D', hH, a, h, k⟩ => ⟨ρ, w, _, hH, a, h, fun d w1 v q b r => k.nx _ w1 _ q b ((a.next b).set r)⟩
/-- a, b = e1, e2 -/
@[simp] def dPar (i j : Nat) (ta : DA) : DS := fun D ρ M => ta ρ M fun ds M1 => match ds with | [d, e] => D.nx ((ρ.set i (some d)).set j (some e)) M1 | _ => False

/-! ### what is walked -/
abbrev DI := DEnv → Mu → (List D → Mu → Prop) → Prop
/-- J yields these data, one after another, while what is free stays -/
def IsIt (K : PySem.W.Frag) (w : Wd) (ds : List D) (J : It) : Prop := ∀ w', Kp w w' → Ok K w' →
  (∀ i d, ds[i]? = some d → J.go i w'.H ∧ ∀ x H'', J.yld i w'.H x H'' → Bh K w' (w'.at H'') ∧ Rp K (w'.at H'') d x) ∧ J.stop ds.length w'.H
def liftI (K : PySem.W.Frag) (c : Wd) (t : DI) : TI := fun σ H R => ∃ ρ w Q', w.H = H ∧ At K c w ρ σ ∧ t ρ w.M Q' ∧ ∀ ds w' J, Q' ds w'.M → Bh K w w' → IsIt K w' ds J → R J w'.H
abbrev PDI (c : Wd) (X : Cx) (tg iter : Expr) (t : DI) : Prop := PI X tg iter (liftI X.K c t)
theorem PI_imp {tg e : Expr} {t t' : TI} (h : PI X tg e t) (i : ∀ σ H Q, t' σ H Q → t σ H Q) : PI X tg e t' := ⟨fun pins s σ H Q I q => h.run pins s σ H Q I (i σ H Q q)⟩
theorem isIt_l {K : PySem.W.Frag} {w : Wd} {ds : List D} {t : Nat} {a : Addr} {xs : List V} (h : LsAt w t a xs) (r : RpL K w ds xs) : IsIt K w ds (Itl K a) := fun w' k ok => by
  have h' := k.lst h
  have r' := r.mono k
  have hl := r'.length
  refine ⟨fun i d e => ?_, ⟨xs, h'.sq, by omega⟩⟩
  obtain ⟨v, e1, r1⟩ := r'.at e
  refine ⟨⟨xs, v, h'.sq, e1⟩, fun x H'' y => ?_⟩
  obtain ⟨rfl, y⟩ := y
  have := y xs h'.sq
  rw [e1] at this
  cases this
  exact ⟨Bh.refl ok, r1⟩
theorem isIt_t {K : PySem.W.Frag} {w : Wd} {ds : List D} {a : Addr} {xs : List V} (h : TuAt K w a xs) (r : RpL K w ds xs) : IsIt K w ds (Itt K a) := fun w' k ok => by
  have h' := h.mono k
  have r' := r.mono k
  have hl := r'.length
  refine ⟨fun i d e => ?_, ⟨xs, h'.sq, by omega⟩⟩
  obtain ⟨v, e1, r1⟩ := r'.at e
  refine ⟨⟨xs, v, h'.sq, e1⟩, fun x H'' y => ?_⟩
  obtain ⟨rfl, y⟩ := y
  have := y xs h'.sq
  rw [e1] at this
  cases this
  exact ⟨Bh.refl ok, r1⟩
/-- a constant of the module -/
theorem isIt_c {K : PySem.W.Frag} {w : Wd} {ds : List D} {a : Addr} {xs : List V} (h : ∀ H', SqT K H' a xs) (r : RpL K w ds xs) : IsIt K w ds (Itt K a) := fun w' k ok => by
  have r' := r.mono k
  have hl := r'.length
  refine ⟨fun i d e => ?_, ⟨xs, h _, by omega⟩⟩
  obtain ⟨v, e1, r1⟩ := r'.at e
  refine ⟨⟨xs, v, h _, e1⟩, fun x H'' y => ?_⟩
  obtain ⟨rfl, y⟩ := y
  have := y xs (h _)
  rw [e1] at this
  cases this
  exact ⟨Bh.refl ok, r1⟩
def signs (z : Str) : List D := z.cps.toList.map fun c => .str ⟨#[c]⟩
theorem isIt_s {K : PySem.W.Frag} {w : Wd} {z : Str} : IsIt K w (signs z) (Its z) := fun w' k ok => by
  refine ⟨fun i d e => ?_, by show z.cps.size ≤ (signs z).length; simp [signs]⟩
  unfold signs at e
  rw [List.getElem?_map] at e
  cases ec : z.cps.toList[i]? with
  | none => rw [ec] at e; cases e
  | some ch =>
    rw [ec] at e
    cases e
    have ha : z.cps[i]? = some ch := by simpa using ec
    refine ⟨?_, fun x H'' y => ?_⟩
    · exact (Array.getElem?_eq_some_iff.mp ha).1
    · obtain ⟨rfl, ch', h1, rfl⟩ := y
      rw [ha] at h1
      cases h1
      exact ⟨Bh.refl ok, rfl⟩
theorem isIt_r {K : PySem.W.Frag} {w : Wd} {lo : Int} {n : Nat} : IsIt K w ((List.range n).map fun (i : Nat) => .int (lo + i)) (Itr lo n) := fun w' k ok => by
  refine ⟨fun i d e => ?_, by show n ≤ _; simp⟩
  rw [List.getElem?_map] at e
  by_cases hi : i < n
  · rw [List.getElem?_range hi] at e
    cases e
    refine ⟨hi, fun x H'' y => ?_⟩
    obtain ⟨rfl, rfl⟩ := y
    exact ⟨Bh.refl ok, rfl⟩
  · rw [List.getElem?_eq_none (by simp; omega)] at e
    cases e
/-- a list, a tuple, a text: what is walked -/
@[simp] def dIt (te : DE) : DI := fun ρ M Q => te ρ M fun d M1 => match d with
  | .lst _ ds => Q ds M1
  | .tup ds => Q ds M1
  | .cst ds => Q ds M1
  | .str z => Q (signs z) M1
  | _ => False
theorem pi_any {tg : Expr} {tl : TE} (hl : PE X e tl) : PI X tg e (fun σ H R => tl σ H fun x H1 => (∃ a, x = .ref a ∧ (∃ xs, SqL X.K H1 a xs) ∧ R (Itl X.K a) H1) ∨ (∃ a, x = .ref a ∧ (∃ xs, SqT X.K H1 a xs) ∧ R (Itt X.K a) H1) ∨ ∃ z, x = .str z ∧ R (Its z) H1) := by
  refine ⟨fun pins s σ H R I h => ?_⟩
  refine thn (hl.run pins s σ H _ I h) fun v s1 ⟨x, H1, I1, r1, q1⟩ => ?_
  rcases q1 with ⟨a, e, ⟨xs, hq⟩, q⟩ | ⟨a, e, ⟨xs, hq⟩, q⟩ | ⟨z, ex, q⟩
  · subst e
    cases r1
    obtain ⟨its, rv, p, hz⟩ := I1.list hq
    refine wpAny_pyIter_list p.isList ?_
    refine ⟨s1.heap.objs.size, [s1.heap.objs.size], _, _, H1, rfl, I1.kept (t' := s1.toks) fun b o e => Heap.get?_push_of_some _ e, turn_list a _, ⟨_, Heap.get?_push_size _ rfl, rfl, rfl⟩, fun b hb => ?_, q⟩
    have e : b = s1.heap.objs.size := by simpa using hb
    subst e
    exact I1.fpOk (Nat.le_refl _) (I1.hok.fresh (Nat.le_refl _))
  · subst e
    cases r1
    obtain ⟨its, rv, p, hz⟩ := I1.tuple hq
    refine wpAny_pyIter_tuple (show s1.heap.IsTuple a its.toArray from p) ?_
    refine ⟨s1.heap.objs.size, [s1.heap.objs.size], _, _, H1, rfl, I1.kept (t' := s1.toks) fun b o e => Heap.get?_push_of_some _ e, turn_tuple a _, ⟨_, Heap.get?_push_size _ rfl, rfl, rfl⟩, fun b hb => ?_, q⟩
    have e : b = s1.heap.objs.size := by simpa using hb
    subst e
    exact I1.fpOk (Nat.le_refl _) (I1.hok.fresh (Nat.le_refl _))
  · subst ex
    obtain ⟨t, rfl⟩ := r1
    cases ha : z.cps.all (· < 128)
    · exact PySem.wpAny_pyIter_wide ha (pi_one (tk := s1.toks) I1 _ (turn_str _ z t "str_iterator" (.inr rfl)) ⟨_, Heap.get?_push_size _ rfl, rfl, rfl⟩ q)
    · exact PySem.wpAny_pyIter_ascii ha (pi_one (tk := s1.toks) I1 _ (turn_str _ z t "str_ascii_iterator" (.inl rfl)) ⟨_, Heap.get?_push_size _ rfl, rfl, rfl⟩ q)
theorem pdi_any {tg : Expr} (he : PD c X e te) : PDI c X tg e (dIt te) := PI_imp (pi_any he) fun σ H R ⟨ρ, w, Q', hH, a, h, k⟩ => ⟨ρ, w, _, hH, a, h, fun d w1 v q b r => by
  cases d with
  | lst t ds => obtain ⟨p, xs, rfl, l, s1⟩ := r; exact .inl ⟨p, rfl, ⟨xs, l.sq⟩, k ds w1 _ q b (isIt_l l s1)⟩
  | tup ds => obtain ⟨p, xs, rfl, l, s1⟩ := r; exact .inr (.inl ⟨p, rfl, ⟨xs, l.sq⟩, k ds w1 _ q b (isIt_t l s1)⟩)
  | cst ds => obtain ⟨p, xs, rfl, l, s1⟩ := r; exact .inr (.inl ⟨p, rfl, ⟨xs, l _⟩, k ds w1 _ q b (isIt_c l s1)⟩)
  | str z => obtain rfl : v = .str z := r; exact .inr (.inr ⟨z, rfl, k _ w1 _ q b isIt_s⟩)
  | _ => exact q.elim⟩
end
end DL
/-! The data layer, part e: loops, comprehensions, defs and calls. -/
namespace DL
open PySem L2
section
variable {X : Cx} {c : Wd} {st : Stmt} {rest body : List Stmt} {t u tb : DS} {e : Expr} {te : DE} {pos : Pos} {ti : DI} {g : DG} {vs : List Nat}
/-! ### for -/
def fori (g : DG) (body : DS) : List D → DS
  | [] => fun D ρ M => D.nx ρ M
  | x :: xs => fun D ρ M => g x ρ M fun ρ1 M1 => body { nx := fori g body xs D, rt := D.rt, bk := D.nx, ct := fori g body xs D } ρ1 M1
@[simp] def dFor (ti : DI) (g : DG) (body : DS) : DS := fun D ρ M => ti ρ M fun ds M1 => fori g body ds D ρ M1
theorem for_imp {K : PySem.W.Frag} {D : Ends} {σ : St} {H : Hp} (h : liftS K c (dFor ti g tb) D σ H) : tFor (liftI K c ti) (liftG K c vs g) (liftS K c tb) D σ H := by
  obtain ⟨ρ, w, D', hH, a, h, k⟩ := h
  refine ⟨ρ, w, _, hH, a, h, fun ds w1 J q b1 it => ?_⟩
  refine ⟨fun i m σ' H' => m = ds.length - i ∧ i ≤ ds.length ∧ ∃ ρ' w', w'.H = H' ∧ At K c w' ρ' σ' ∧ Bh K w1 w' ∧ fori g tb (ds.drop i) D' ρ' w'.M, ⟨ds.length, by simp, Nat.zero_le _, ρ, w1, rfl, a.next b1, Bh.refl b1.ok, by rw [List.drop_zero]; exact q⟩, ?_⟩
  rintro i m σ' H' ⟨rfl, hi, ρ', w', rfl, a', b', hf⟩
  obtain ⟨hgo, hst⟩ := it w' b'.kp b'.ok
  by_cases hlt : i < ds.length
  · right
    have e0 : ds.drop i = ds[i] :: ds.drop (i + 1) := List.drop_eq_getElem_cons hlt
    have e1 : ds[i]? = some ds[i] := List.getElem?_eq_getElem hlt
    rw [e0] at hf
    obtain ⟨g1, g2⟩ := hgo i _ e1
    refine ⟨g1, fun σ2 H2 => ∃ ρ2 w2, w2.H = H2 ∧ At K c w2 ρ2 σ2 ∧ Bh K w1 w2 ∧ fori g tb (ds.drop (i + 1)) D' ρ2 w2.M, fun σ2 H2 ⟨ρ2, w2, h1, h2, h3, h4⟩ => ⟨ds.length - (i + 1), by omega, rfl, hlt, ρ2, w2, h1, h2, h3, h4⟩, fun x H'' y => ?_⟩
    obtain ⟨b2, r2⟩ := g2 x H'' y
    refine ⟨ds[i], ρ', w'.at H'', _, rfl, a'.next b2, r2, hf, fun ρ3 w3 σ3 q3 b3 a3 _ => ?_⟩
    refine ⟨ρ3, w3, _, rfl, a3, q3, ?_⟩
    have b03 : Bh K w1 w3 := (b'.trans b2).trans b3
    exact { nx := fun ρ4 w4 σ4 q4 b4 a4 => ⟨ρ4, w4, rfl, a4, b03.trans b4, q4⟩
            rt := k.rt.back (b1.trans b03)
            bk := fun ρ4 w4 σ4 q4 b4 a4 => k.nx ρ4 w4 σ4 q4 ((b1.trans b03).trans b4) a4
            ct := fun ρ4 w4 σ4 q4 b4 a4 => ⟨ρ4, w4, rfl, a4, b03.trans b4, q4⟩ }
  · left
    have e : i = ds.length := by omega
    subst e
    rw [List.drop_length] at hf
    exact ⟨hst, k.nx ρ' w' σ' hf (b1.trans b') a'⟩
theorem pds_for {tg iter : Expr} (hp : PassesOwn (model X.prog X.w) X.A X.env X.xe) (hc : X.calm = true) (hi : PDI c X tg iter ti) (hg : PDG c X vs tg g) (hb : PDSs c X body tb) (hs : ∀ x, foldedSetIterable iter X.env x = pure x := by intro _; rfl) :
    PDS c X (.For tg iter body [] pos) (dFor ti g tb) := PS_imp (ps_for hp hc hi hg hb hs) fun D σ H h => for_imp h

/-! ### comprehensions -/
def wipeD (ρ : DEnv) : List Nat → DEnv
  | [] => ρ
  | v :: vs => (wipeD ρ vs).set v none
theorem wipeD_len (ρ : DEnv) : ∀ vs : List Nat, (wipeD ρ vs).length = ρ.length
  | [] => rfl
  | v :: vs => by unfold wipeD; rw [List.length_set, wipeD_len ρ vs]
theorem wipeD_some {ρ : DEnv} {i : Nat} {x : D} : ∀ {vs : List Nat}, (wipeD ρ vs)[i]? = some (some x) → ρ[i]? = some (some x) ∧ i ∉ vs
  | [], h => ⟨h, by simp⟩
  | v :: vs, h => by
    unfold wipeD at h
    by_cases hi : v = i
    · subst hi
      by_cases hv : v < (wipeD ρ vs).length
      · rw [List.getElem?_set_self hv] at h; cases h
      · rw [List.getElem?_eq_none (by simpa using hv)] at h; cases h
    · rw [List.getElem?_set_ne hi] at h
      obtain ⟨h1, h2⟩ := wipeD_some h
      exact ⟨h1, by simp only [List.mem_cons, not_or]; exact ⟨fun e => hi e.symm, h2⟩⟩
theorem RE.wipe {K : PySem.W.Frag} {w : Wd} {ρ : DEnv} {σ : St} (r : RE K w ρ σ) (vs : List Nat) : RE K w (wipeD ρ vs) (wipe σ vs) := ⟨by rw [wipe_length, wipeD_len]; exact r.1, fun i d e => by
  obtain ⟨h1, h2⟩ := wipeD_some e
  obtain ⟨v, h3, h4⟩ := r.2 i d h1
  exact ⟨v, by rw [wipe_out h2]; exact h3, h4⟩⟩
def compi (g : DG) (tt : DT) (te : DE) (ρ : DEnv) : List D → List D → Mu → DK → Prop
  | [], acc, M, Q => Q (.lst 0 acc) M
  | x :: xs, acc, M, Q => g x ρ M fun ρ1 M1 => tt ρ1 M1 fun b M2 => if b = true then te ρ1 M2 fun d M3 => acc.length < 100000 ∧ compi g tt te ρ xs (acc ++ [d]) M3 Q else compi g tt te ρ xs acc M2 Q
@[simp] def dLc (ti : DI) (g : DG) (tt : DT) (te : DE) (vs : List Nat) : DE := fun ρ M Q => ti ρ M fun ds M1 => compi g tt te (wipeD ρ vs) ds [] M1 Q
/-- the world while a list at L is made -/
def mk (w : Wd) (L : Addr) (xs : List V) : Wd := { hd := upd w.hd L (.lst xs), ln := w.ln, ex := w.ex, cl := w.cl, tb := w.tb, M := w.M, H := upd w.H L (.lst xs) }
theorem fr_mk {w : Wd} {L a : Addr} {xs : List V} : Fr (mk w L xs) a ↔ Fr w a ∧ a ≠ L := by
  constructor
  · rintro ⟨h1, h2, h3⟩
    have hne : a ≠ L := fun e => by subst e; rw [show (mk w a xs).hd a = some (.lst xs) from upd_same] at h2; cases h2
    exact ⟨⟨h1, by rw [← h2]; exact (upd_ne hne).symm, h3⟩, hne⟩
  · rintro ⟨⟨h1, h2, h3⟩, hne⟩
    exact ⟨h1, by rw [← h2]; exact upd_ne hne, h3⟩
/-- the list is begun, or grown -/
theorem kp_mk {K : PySem.W.Frag} {w : Wd} {L : Addr} {xs : List V} (o : Ok K w) (h : w.H L = none ∨ ∃ u, w.hd L = some u) : Kp w (mk w L xs) := by
  refine Kp.of (fun a u hf e _ => ?_) (fun r a u e => ⟨e, fun q => ?_⟩) rfl rfl rfl
  · have hne : a ≠ L := fun z => by
      subst z
      rcases h with h | ⟨u', h⟩
      · rw [e] at h; cases h
      · rw [hf.h] at h; cases h
    exact ⟨fr_mk.mpr ⟨hf, hne⟩, by show upd w.H L _ a = _; rw [upd_ne hne]; exact e⟩
  · have hne : a ≠ L := fun z => by
      subst z
      rcases h with h | ⟨u', h⟩
      · rw [q] at h; cases h
      · rw [(o.lap r a u e).2] at h; cases h
    show upd w.H L _ a = _; rw [upd_ne hne]; exact q
theorem ok_mk {K : PySem.W.Frag} {w : Wd} {L : Addr} {xs : List V} (o : Ok K w) (h : w.H L = none ∨ ∃ u, w.hd L = some u) : Ok K (mk w L xs) := by
  have hM : w.M L = none := by
    rcases h with h | ⟨u', h⟩
    · exact (o.fresh h).m
    · cases e : w.M L with
      | none => rfl
      | some m => have := o.ap L m e; rw [h] at this; cases this
  have hln : ∀ r a u, w.ln r a = some u → a ≠ L := fun r a u e z => by
    subst z
    rcases h with h | ⟨u', h⟩
    · rw [o.len r a u e] at h; cases h
    · rw [(o.lap r a u e).2] at h; cases h
  refine ⟨fun a m e => (o.mo a m e).mono (kp_mk o h) ?_, fun a u e => ?_, fun a m e => ?_, fun r a u e => ?_, fun r a u e => ⟨(o.lap r a u e).1, ?_⟩, o.lfr, fun a u e => ?_, o.ll, ?_⟩
  · have hne : a ≠ L := fun z => by subst z; rw [show (mk w a xs).M a = w.M a from rfl, hM] at e; cases e
    show upd w.H L _ a = _; rw [upd_ne hne]
  · by_cases z : a = L
    · subst z
      have : (mk w a xs).hd a = some (.lst xs) := upd_same
      rw [this] at e; cases e
      exact upd_same
    · have e' : w.hd a = some u := by
        have q : (mk w L xs).hd a = w.hd a := upd_ne z
        rw [← q]; exact e
      show upd w.H L _ a = _; rw [upd_ne z]; exact o.hid a u e'
  · have hne : a ≠ L := fun z => by subst z; rw [show (mk w a xs).M a = w.M a from rfl, hM] at e; cases e
    show upd w.hd L _ a = _; rw [upd_ne hne]; exact o.ap a m e
  · show upd w.H L _ a = _; rw [upd_ne (hln r a u e)]; exact o.len r a u e
  · show upd w.hd L _ a = _; rw [upd_ne (hln r a u e)]; exact (o.lap r a u e).2
  · by_cases z : a = L
    · subst z
      have q : (mk w a xs).hd a = some (.lst xs) := upd_same
      rw [q] at e; cases e; exact ⟨_, rfl⟩
    · have q : (mk w L xs).hd a = w.hd a := upd_ne z
      rw [q] at e; exact o.hl a u e
  · rcases h with h | ⟨u', h⟩
    · exact o.tabs.ext fun b v q => by show upd w.H L _ b = _; rw [upd_ne (ne_of_none q h)]; exact q
    · obtain ⟨ys, rfl⟩ := o.hl L u' h
      exact tabs_upd o.tabs (o.hid L _ h) (fun _ z => nomatch z) (fun _ z => nomatch z)
/-- the list is shown -/
theorem shown {K : PySem.W.Frag} {w1 w' : Wd} {L : Addr} {xs : List V} (fL : Fr w1 L) (hhd : w'.hd = upd w1.hd L (.lst xs)) (ok' : Ok K w') : Kp w' { w' with hd := w1.hd } ∧ Ok K { w' with hd := w1.hd } ∧ Fr { w' with hd := w1.hd } L := by
  have hdL : w'.hd L = some (.lst xs) := by rw [hhd]; exact upd_same
  have hM : w'.M L = none := by
    cases e : w'.M L with
    | none => rfl
    | some m => have := ok'.ap L m e; rw [hdL] at this; cases this
  have hl : ∀ r, w'.ln r L = none := fun r => by
    cases e : w'.ln r L with
    | none => rfl
    | some m => have := (ok'.lap r L m e).2; rw [hdL] at this; cases this
  have nh : ∀ x, w'.hd x = none → w1.hd x = none := fun x z => by
    rw [hhd] at z
    have hne : x ≠ L := fun q => by subst q; rw [upd_same] at z; cases z
    rw [upd_ne hne] at z; exact z
  have hd6 : ∀ x u, w1.hd x = some u → w'.hd x = some u := fun x u e => by
    have hne : x ≠ L := fun q => by subst q; rw [fL.h] at e; cases e
    rw [hhd, upd_ne hne]; exact e
  have kp6 : Kp w' { w' with hd := w1.hd } := Kp.of (fun x u hf e _ => ⟨⟨hf.m, nh x hf.h, hf.l⟩, e⟩) (fun _ _ _ e => ⟨e, id⟩) rfl rfl rfl
  refine ⟨kp6, ⟨fun x m e => (ok'.mo x m e).mono kp6 rfl, fun x u e => ok'.hid x u (hd6 x u e), fun x m e => nh x (ok'.ap x m e), ok'.len, fun r x u e => ⟨(ok'.lap r x u e).1, nh x (ok'.lap r x u e).2⟩, ok'.lfr, fun x u e => ok'.hl x u (hd6 x u e), ok'.ll, ok'.tabs⟩, ⟨hM, fL.h, hl⟩⟩
/-! in a comprehension's block: the entry is taken anew -/
def liftB (K : PySem.W.Frag) (c0 : Wd) (t : DE) : TE := fun σ H Q => ∃ c, SC c0 c ∧ lift K c t σ H Q
def liftTB (K : PySem.W.Frag) (c0 : Wd) (t : DT) : TT := fun σ H Q => ∃ c, SC c0 c ∧ liftT K c t σ H Q
def liftGB (K : PySem.W.Frag) (c0 : Wd) (vs : List Nat) (t : DG) : TG := fun v σ H Q => ∃ c, SC c0 c ∧ liftG K c vs t v σ H Q
theorem At.self {K : PySem.W.Frag} {c w : Wd} {ρ : DEnv} {σ : St} (a : At K c w ρ σ) : At K w w ρ σ := ⟨Kp.refl w, a.re, a.ok, rfl, rfl⟩
theorem comp_imp {K : PySem.W.Frag} {tt : DT} {us : List Nat} (hsub : ∀ i ∈ us, i ∈ vs) {σ : St} {H : Hp} {Q : VK} (h : lift K c (dLc ti g tt te vs) σ H Q) : tLc (liftI K c ti) (liftGB K c us g) (liftTB K c tt) (liftB K c te) vs σ H Q := by
  obtain ⟨ρ, w, Q', hH, a, h, k⟩ := h
  refine ⟨ρ, w, _, hH, a, h, fun ds w1 J q b1 it L hL => ?_⟩
  have a1 := a.next b1
  have fL := b1.ok.fresh hL
  refine ⟨fun i m H' => m = ds.length - i ∧ i ≤ ds.length ∧ ∃ w' acc xs, w'.H = H' ∧ w'.hd = upd w1.hd L (.lst xs) ∧ w'.ln = w1.ln ∧ Kp w1 w' ∧ Ok K w' ∧ RpL K w' acc xs ∧ compi g tt te (wipeD ρ vs) (ds.drop i) acc w'.M Q',
    ⟨ds.length, by simp, Nat.zero_le _, mk w1 L [], [], [], rfl, rfl, rfl, kp_mk b1.ok (.inl hL), ok_mk b1.ok (.inl hL), rfl, by rw [List.drop_zero]; exact q⟩, ?_⟩
  rintro i m H' ⟨rfl, hi, w', acc, xs, rfl, hhd, hln, kp', ok', racc, hf⟩
  have hdL : w'.hd L = some (.lst xs) := by rw [hhd]; exact upd_same
  obtain ⟨hgo, hst⟩ := it w' kp' ok'
  by_cases hlt : i < ds.length
  · right
    have e0 : ds.drop i = ds[i] :: ds.drop (i + 1) := List.drop_eq_getElem_cons hlt
    have e1 : ds[i]? = some ds[i] := List.getElem?_eq_getElem hlt
    rw [e0] at hf
    obtain ⟨g1, g2⟩ := hgo i _ e1
    refine ⟨g1, fun H2 => ∃ w2 acc2 xs2, w2.H = H2 ∧ w2.hd = upd w1.hd L (.lst xs2) ∧ w2.ln = w1.ln ∧ Kp w1 w2 ∧ Ok K w2 ∧ RpL K w2 acc2 xs2 ∧ compi g tt te (wipeD ρ vs) (ds.drop (i + 1)) acc2 w2.M Q', fun H2 ⟨w2, acc2, xs2, h1, h2, h3, h4, h5, h6, h7⟩ => ⟨ds.length - (i + 1), by omega, rfl, hlt, w2, acc2, xs2, h1, h2, h3, h4, h5, h6, h7⟩, fun x H'' y => ?_⟩
    obtain ⟨b2, r2⟩ := g2 x H'' y
    have at2 : At K (w'.at H'') (w'.at H'') (wipeD ρ vs) (wipe σ vs) := ⟨Kp.refl _, ((a1.re.wipe vs).mono kp').mono b2.kp, b2.ok, rfl, rfl⟩
    have cl2 : SC c (w'.at H'') := ((a1.kp.trans kp').trans b2.kp).sc
    refine ⟨w'.at H'', cl2, ds[i], wipeD ρ vs, w'.at H'', _, rfl, at2, r2, hf, fun ρ3 w3 σ3 q3 b3 a3 g3 => ?_⟩
    have hag : Ag vs (wipe σ vs) σ3 := ⟨g3.1, fun j hj => g3.2 j (fun z => hj (hsub j z))⟩
    refine ⟨by rw [wipe_ag hag, wipe_ag wipe_wipe], w3, cl2.trans b3.kp.sc, ρ3, w3, _, rfl, a3.self, q3, fun b w4 q4 b4 => ?_⟩
    have b24 : Bh K w' w4 := (b2.trans b3).trans b4
    cases b with
    | false =>
      refine iteF ⟨w4, acc, xs, rfl, b24.hd.trans hhd, b24.ln.trans hln, kp'.trans b24.kp, b24.ok, racc.mono b24.kp, ?_⟩
      exact q4
    | true =>
      refine iteT ⟨w4, (cl2.trans b3.kp.sc).trans b4.kp.sc, ρ3, w4, _, rfl, (a3.next b4).self, q4, fun d w5 v q5 b5 r5 => ?_⟩
      have b25 : Bh K w' w5 := b24.trans b5
      have hd5 : w5.hd L = some (.lst xs) := by rw [b25.hd]; exact hdL
      have r5' := racc.mono b25.kp
      refine ⟨xs, b25.ok.hid L _ hd5, szlt (by rw [racc.length]; exact q5.1), mk w5 L (xs ++ [v]), acc ++ [d], xs ++ [v], rfl, ?_, b25.ln.trans hln, (kp'.trans b25.kp).trans (kp_mk b25.ok (.inr ⟨_, hd5⟩)), ok_mk b25.ok (.inr ⟨_, hd5⟩), (r5'.append (RpL.one r5)).mono (kp_mk b25.ok (.inr ⟨_, hd5⟩)), q5.2⟩
      show upd w5.hd L _ = _
      rw [b25.hd, hhd, upd_upd]
  · left
    have e : i = ds.length := by omega
    subst e
    rw [List.drop_length] at hf
    refine ⟨hst, ?_⟩
    obtain ⟨kp6, ok6, f6⟩ := shown fL hhd ok'
    exact k (.lst 0 acc) { w' with hd := w1.hd } (.ref L) hf ⟨(b1.kp.trans kp').trans kp6, ok6, b1.hd, hln.trans b1.ln⟩ ⟨L, xs, rfl, LsAt.free f6 (ok'.hid L _ hdL), racc.mono kp6⟩
abbrev PDTs (c : Wd) (X : Cx) (ifs : List Expr) (t : DT) : Prop := PTs X ifs (liftT X.K c t)
@[simp] def dYes : DT := fun _ M Q => Q true M
theorem pdts_nil : PDTs c X [] dYes := ⟨fun pins s σ H Q I ⟨ρ, w, Q', hH, a, h, k⟩ => pts_nil.run pins s σ H Q I (hH ▸ k true w h (Bh.refl a.ok))⟩
theorem pdts_one {ce : Expr} {tt : DT} (h : PDT c X ce tt) : PDTs c X [ce] tt := pts_one h
theorem pd_lc {elt tg iter : Expr} {ifs : List Expr} {scope : Scope} {own : List (Str × Nat)} {us : List Nat} {tt : DT} (hc : X.calm = true) (hN : X.N.Nodup) (hi : PDI c X tg iter ti) (ok : BlkOk X.N X.env.scope scope own)
    (hg : ∀ (c' : Wd), SC c c' → ∀ (s : Shared) (H : Hp) (C : Addr) (cl : List (Str × Addr)) (fp : List Addr), PDG c' (X.blk s H scope (compEnvC scope cl C X.env) fp) us tg g) (ht : ∀ (c' : Wd), SC c c' → ∀ (s : Shared) (H : Hp) (C : Addr) (cl : List (Str × Addr)) (fp : List Addr), PDTs c' (X.blk s H scope (compEnvC scope cl C X.env) fp) ifs tt)
    (he : ∀ (c' : Wd), SC c c' → ∀ (s : Shared) (H : Hp) (C : Addr) (cl : List (Str × Addr)) (fp : List Addr), PD c' (X.blk s H scope (compEnvC scope cl C X.env) fp) elt te) (hsub : ∀ i ∈ us, i ∈ own.map (·.2) := by decide) (hs : ∀ x, foldedSetIterable iter X.env x = pure x := by intro _; rfl) :
    PD c X (.ListComp elt [⟨tg, iter, ifs, 0⟩] scope pos) (dLc ti g tt te (own.map (·.2))) := PE_imp (pe_lc hc hN hi ok (fun s H C cl fp => ⟨fun pins sh σ H' v u Q I r ⟨c', e, q⟩ => (hg c' e s H C cl fp).run pins sh σ H' v u Q I r q⟩) (fun s H C cl fp => ⟨fun pins sh σ H' Q I ⟨c', e, q⟩ => (ht c' e s H C cl fp).run pins sh σ H' Q I q⟩) (fun s H C cl fp => ⟨fun pins sh σ H' Q I ⟨c', e, q⟩ => (he c' e s H C cl fp).run pins sh σ H' Q I q⟩) hs) fun σ H Q h => comp_imp hsub h
theorem pds_setLc {i : Nat} {y : Str} {py spos : Pos} {elt tg iter : Expr} {ifs : List Expr} {scope : Scope} {own : List (Str × Nat)} {us : List Nat} {tt : DT} (hc : X.calm = true) (hN : X.N.Nodup)
    (hi : PDI c X tg iter ti) (ok : BlkOk X.N X.env.scope scope own)
    (hg : ∀ (c' : Wd), SC c c' → ∀ (s : Shared) (H : Hp) (C : Addr) (cl : List (Str × Addr)) (fp : List Addr), PDG c' (X.blk s H scope (compEnvC scope cl C X.env) fp) us tg g) (ht : ∀ (c' : Wd), SC c c' → ∀ (s : Shared) (H : Hp) (C : Addr) (cl : List (Str × Addr)) (fp : List Addr), PDTs c' (X.blk s H scope (compEnvC scope cl C X.env) fp) ifs tt)
    (he : ∀ (c' : Wd), SC c c' → ∀ (s : Shared) (H : Hp) (C : Addr) (cl : List (Str × Addr)) (fp : List Addr), PD c' (X.blk s H scope (compEnvC scope cl C X.env) fp) elt te)
    (hsw : swapsWith (.ListComp elt [⟨tg, iter, ifs, 0⟩] scope pos) (some (.Name y py)) spos.line X.env = pure true) (hy : X.N[i]? = some y := by rfl) (hyl : X.env.scope.names.lookup y = some .local := by rfl) (hsub : ∀ i ∈ us, i ∈ own.map (·.2) := by decide) (hs : ∀ x, foldedSetIterable iter X.env x = pure x := by intro _; rfl) :
    PDS c X (.Assign [.Name y py] (.ListComp elt [⟨tg, iter, ifs, 0⟩] scope pos) spos) (dAsg (dLc ti g tt te (own.map (·.2))) (gNm i)) := PS_imp (ps_setLc hc hN hy hyl hsw hi ok (fun s H C cl fp => ⟨fun pins sh σ H' v u Q I r ⟨c', e, q⟩ => (hg c' e s H C cl fp).run pins sh σ H' v u Q I r q⟩) (fun s H C cl fp => ⟨fun pins sh σ H' Q I ⟨c', e, q⟩ => (ht c' e s H C cl fp).run pins sh σ H' Q I q⟩) (fun s H C cl fp => ⟨fun pins sh σ H' Q I ⟨c', e, q⟩ => (he c' e s H C cl fp).run pins sh σ H' Q I q⟩) hs) fun D σ H ⟨ρ, w, D', hH, a, h, k⟩ =>
  comp_imp hsub ⟨ρ, w, _, hH, a, h, fun d w1 v q b r => k.nx _ w1 _ q b ((a.next b).set r)⟩
end
end DL
/-! The data layer, part f: defs, calls, built-ins. -/
namespace DL
open PySem L2

/-! ### what a def promises, over data -/
/-- what is wanted of an exception: its class by name, its fields (the last one set first) -/
abbrev DXK := Str → List (Str × D) → Mu → Prop
abbrev DSp := List D → Mu → DK → DXK → Prop
abbrev DX0 : DXK := fun _ _ _ => False
def WvX (K : PySem.W.Frag) (w : Wd) (E' : DXK) (E : XK) : Prop := ∀ n fs w' dd vs, E' n fs w'.M → Bh K w w' → Fr w' dd → w'.H dd = some (.xd vs) → RpF K w' fs vs → E (.ref (w.cl n)) (some dd) w'.H
def upX (K : PySem.W.Frag) (cl : Str → Addr) (tb : List (Addr × Str)) (s : DSp) : Sp := fun vs H Q E => ∃ w ds Q' E', w.H = H ∧ Cc cl tb w ∧ Ok K w ∧ RpL K w ds vs ∧ s ds w.M Q' E' ∧ Wv K w Q' Q ∧ WvX K w E' E
/-- an exception that leaves a def entered at c -/
def XKof (K : PySem.W.Frag) (c : Wd) (E : DXK) : XK := fun cls d H' => ∃ n fs w' dd vs, cls = .ref (c.cl n) ∧ d = some dd ∧ w'.H = H' ∧ Bh K c w' ∧ Fr w' dd ∧ H' dd = some (.xd vs) ∧ RpF K w' fs vs ∧ E n fs w'.M
/-- the context takes such exceptions -/
def Tk (c : Wd) (X : Cx) (E : DXK) : Prop := L2N.Takes X (fun cls d _ H => XKof X.K c E cls d H)
theorem tk0 {c : Wd} {X : Cx} : Tk c X DX0 := fun _ _ ⟨_, _, _, _, _, _, _, _, _, _, _, _, _, _, _, _, _, _, _, _, _, _, _, _, _, _, _, _, z⟩ => z.elim
@[simp] def startD (N : List Str) (ds : List D) : DEnv := ds.map some ++ List.replicate (N.length - ds.length) none
theorem RE.start {K : PySem.W.Frag} {w : Wd} {N : List Str} : ∀ {ds : List D} {vs : List V}, RpL K w ds vs → RE K w (startD N ds) (start N vs) := fun {ds vs} r => by
  have hl := r.length
  refine ⟨by simp [startD, L2.start, hl], fun i d e => ?_⟩
  unfold startD at e
  by_cases hi : i < ds.length
  · rw [List.getElem?_append_left (by simpa using hi), List.getElem?_map] at e
    cases ed : ds[i]? with
    | none => rw [ed] at e; cases e
    | some d' =>
      rw [ed] at e
      obtain rfl : d' = d := by simpa using e
      obtain ⟨v, h1, h2⟩ := r.at ed
      refine ⟨v, ?_, h2⟩
      unfold L2.start
      rw [List.getElem?_append_left (by simp; omega), List.getElem?_map, h1]; rfl
  · rw [List.getElem?_append_right (by simpa using hi), List.getElem?_replicate] at e
    split at e <;> cases e
section
variable {P : Program} {w : World} {K : PySem.W.Frag} {mg : Str → Option Value} {base : Heap} {x qual : Str} {st : Stmt} {dvs : List V} {kws : List (Str × V)} {f : Addr} {fd : FuncData} {cl : Str → Addr} {tb : List (Addr × Str)}
theorem tk_of {N : List Str} {sc : Scope} {cdv : Value} {A : Around} {outer : List Env} {sh : Shared} {H : Hp} {E : XK} {E' : DXK} {c : Wd} (h : WvX K c E' E) : Tk c (cxOf (L2N.CX P w) P w K mg base N qual sc f cdv A outer sh H E) E' := by
  refine L2N.Takes.imp (L2N.takes_of (E := E) rfl rfl rfl rfl) fun cls d σ H q => ?_
  obtain ⟨n, fs, w', dd, vs, rfl, rfl, rfl, b, fr, hx, r, e⟩ := q
  exact h n fs w' dd vs e b fr hx r
/-- a def keeps its promise -/
theorem fnX {N ps : List Str} {k : Nat} {s : DSp} {t : DXK → DS} (F : FunD K x qual (defArgs st) (defBody st) (defScope st) dvs kws f fd) (S : FnScope N ps (defScope st))
    (hb : ∀ (cdv : Value) (A : Around) (outer : List Env) (sh : Shared) (H : Hp) (E : XK) (c : Wd) (E' : DXK), Cc cl tb c → Room k (A.deeper (PyProof.Rows.envOfC qual (defScope st) sh.heap.objs.size f cdv)) → Tk c (cxOf (L2N.CX P w) P w K mg base N qual (defScope st) f cdv A outer sh H E) E' →
      PDSs c (cxOf (L2N.CX P w) P w K mg base N qual (defScope st) f cdv A outer sh H E) (defBody st) (t E'))
    (hs : ∀ ds M Q E', s ds M Q E' → ds.length = ps.length ∧ t E' { nx := fun _ M' => Q .non M', rt := Q } (startD N ds) M) : FnOk P w K mg base (L2N.CX P w) (k + 1) f fd ps (upX K cl tb s) := by
  refine F.ok S (fun vs H Q E h => ?_) (fun cdv A outer sh H vs Q E hr h => ?_)
  · obtain ⟨w, ds, Q', E', hH, hcc, ok, r, h, k, kx⟩ := h
    rw [r.length]; exact (hs ds _ Q' E' h).1
  · obtain ⟨w, ds, Q', E', hH, hcc, ok, r, h, k, kx⟩ := h
    refine ⟨liftS K w (t E'), hb cdv A outer sh H E w E' hcc hr (tk_of kx), startD N ds, w, _, hH, ⟨Kp.refl w, RE.start r, ok, rfl, rfl⟩, (hs ds _ Q' E' h).2, ?_⟩
    exact { nx := fun ρ' w' σ' q b a => k .non w' .non q b rfl, rt := k, bk := fun _ _ _ q => q.elim, ct := fun _ _ _ q => q.elim }
/-- a def of the text that keeps its promise, by its name -/
structure Fnd (P : Program) (w : World) (K : PySem.W.Frag) (mg : Str → Option Value) (base : Heap) (cl : Str → Addr) (tb : List (Addr × Str)) (k : Nat) (x : Str) (st : Stmt) (ps : List Str) (s : DSp) : Prop where
  ex : ∃ f fd, FunD K x x (defArgs st) (defBody st) (defScope st) [] [] f fd ∧ FnOk P w K mg base (L2N.CX P w) k f fd ps (upX K cl tb s) ∧ mg x = some (.ref f) ∧ Binds K fd ps []
theorem Fnd.mono {j k : Nat} {ps : List Str} {s : DSp} (F : Fnd P w K mg base cl tb j x st ps s) (h : j ≤ k) : Fnd P w K mg base cl tb k x st ps s := by
  obtain ⟨f, fd, a, b, c⟩ := F.ex
  exact ⟨f, fd, a, b.mono h, c⟩
end
section
variable {X : Cx} {c : Wd} {e o : Expr} {es : List Expr} {te ta tb : DE} {tl tk : DA} {pos p apos : Pos} {x : Str} {st : Stmt} {ps : List Str} {s : DSp} {k : Nat} {E : DXK}
@[simp] def dCall (s : DSp) (E : DXK) (t : DA) : DE := fun ρ M Q => t ρ M fun ds M1 => s ds M1 Q E
theorem Tk.pass (h : Tk c X E) : Passes (L2N.CX X.prog X.w) X (XKof X.K c E) := L2N.passes_call h fun _ _ _ _ h => h
theorem wvX_of {K : PySem.W.Frag} {w w1 : Wd} {ρ : DEnv} {σ : St} (a : At K c w ρ σ) (b : Bh K w w1) : WvX K w1 E (XKof K c E) := fun n fs w' dd vs e b' fr hx r =>
  ⟨n, fs, w', dd, vs, by rw [b.kp.cl, a.kp.cl], rfl, rfl, (a.bh.trans b).trans b', fr, hx, r, e⟩
theorem call_imp {K : PySem.W.Frag} {cl : Str → Addr} {tb : List (Addr × Str)} (hcc : Cc cl tb c) {σ : St} {H : Hp} {Q : VK} (h : lift K c (dCall s E tl) σ H Q) : tCall (upX K cl tb s) [] (XKof K c E) (liftA K c tl) σ H Q := by
  obtain ⟨ρ, w, Q', hH, a, h, k⟩ := h
  refine ⟨ρ, w, _, hH, a, h, fun ds w1 vs q b r => ?_⟩
  show upX K cl tb s (vs ++ []) w1.H Q (XKof K c E)
  rw [List.append_nil]
  exact ⟨w1, ds, Q', E, rfl, hcc.sc (a.kp.trans b.kp).sc, b.ok, r, q, k.back b, wvX_of a b⟩
theorem pd_call {cl : Str → Addr} {tb : List (Addr × Str)} (hcc : Cc cl tb c) (G : Fnd X.prog X.w X.K X.mg X.base cl tb k x st ps s) (hr : Room k X.A) (tk : Tk c X E) (ha : PDA c X (e :: es) tl) (hg : Gl X x := by rfl) (hdb : (x == ("__debug__" : Str)) = false := by decide)
    (he : starEach (e :: es) X.env = (false, eval e X.env) :: starEach es X.env := by rfl) (hpl : (backTo pos (starEach es X.env)).any (·.1) = false := by rfl) : PD c X (.Call (.Name x p) (e :: es) [] pos) (dCall s E tl) := by
  obtain ⟨f, fd, F, G, hm, hb⟩ := G.ex
  exact PE_imp (pe_call G hr hg hm F.kp hb .nil tk.pass ha (hdb := hdb) (he := he) (hpl := hpl)) fun σ H Q h => call_imp hcc h
theorem pd_call0 {cl : Str → Addr} {tb : List (Addr × Str)} (hcc : Cc cl tb c) (G : Fnd X.prog X.w X.K X.mg X.base cl tb k x st ps s) (hr : Room k X.A) (tk : Tk c X E) (hg : Gl X x := by rfl) (hdb : (x == ("__debug__" : Str)) = false := by decide) : PD c X (.Call (.Name x p) [] [] pos) (dCall s E dNil) := by
  obtain ⟨f, fd, F, G, hm, hb⟩ := G.ex
  refine PE_imp (pe_call0 G hr hg hm F.kp hb .nil tk.pass (hdb := hdb)) fun σ H Q ⟨ρ, w, Q', hH, a, h, k⟩ => ?_
  exact ⟨w, [], Q', E, hH, hcc.sc a.kp.sc, a.ok, rfl, h, k, wvX_of a (Bh.refl a.ok)⟩
/-! ### keywords -/
abbrev PDK (c : Wd) (X : Cx) (kws : List Keyword) (t : DA) : Prop := PK X kws (liftA X.K c t)
theorem PK_imp {kws : List Keyword} {t t' : TA} (h : PK X kws t) (i : ∀ σ H Q, t' σ H Q → t σ H Q) : PK X kws t' := ⟨fun pos pins s σ H Q I q => h.run pos pins s σ H Q I (i σ H Q q)⟩
theorem pdk_nil : PDK c X [] dNil := PK_imp pk_nil fun σ H Q ⟨ρ, w, Q', hH, a, h, k⟩ => hH ▸ k [] w [] h (Bh.refl a.ok) rfl
theorem pdk_cons {kws : List Keyword} {nm : Option Str} {kpos : Pos} (ha : PD c X e te) (hr : PDK c X kws tl) : PDK c X (⟨nm, e, kpos⟩ :: kws) (dCons te tl) := PK_imp (pk_cons ha hr) fun σ H Q ⟨ρ, w, Q', hH, a, h, k⟩ =>
  ⟨ρ, w, _, hH, a, h, fun d w1 v q b1 r => ⟨ρ, w1, _, rfl, a.next b1, q, fun ds w2 vs q2 b2 r2 => k (d :: ds) w2 (v :: vs) q2 (b1.trans b2) ⟨v, vs, rfl, r.mono b2.kp, r2⟩⟩⟩
end
end DL
/-! The data layer, part g: own exceptions: made, raised. -/
namespace DL
open PySem L2
/-! ### what an exception's own __init__ does -/
/-- the fields are set, the exception has its dict at d -/
def xfin (H : Hp) (a C d : Addr) (fs : List (Str × V)) : Hp := upd (upd H d (exd d fs)) a (exo a C (some d))
def spIni (C : Addr) (m : Nat) (mkf : List V → List (Str × V)) : Sp := fun vs H Q _ => ∃ a args, vs = .ref a :: args ∧ args.length = m ∧ H a = some (exo a C none) ∧ ∀ d, H d = none → d ≠ a → Q .non (xfin H a C d (mkf args))
section
variable {K : PySem.W.Frag} {C a d : Addr} {f : Str} {te : TE} {y : V} {D : Ends} {σ : St} {H : Hp} {fs : List (Str × V)}
theorem ost_first (T : OexC K C) (hno : PySem.W.findIn K (.ref C) f = some none) (h0 : σ[0]? = some (some (.ref a))) (ha : H a = some (exo a C none)) (hy : ∀ Q : VK, Q y H → te σ H Q)
    (k : ∀ d, H d = none → d ≠ a → D.nx σ (xfin H a C d [(f, y)])) : tOst K f (tVar 0) te D σ H :=
  hy _ ⟨.ref a, h0, a, C, rfl, T, hno, .inl ⟨ha, k⟩⟩
theorem ost_next (T : OexC K C) (hno : PySem.W.findIn K (.ref C) f = some none) (h0 : σ[0]? = some (some (.ref a))) (hd : d ≠ a) (hl : fs.length ≤ 900) (hy : ∀ Q : VK, Q y (xfin H a C d fs) → te σ (xfin H a C d fs) Q)
    (k : D.nx σ (xfin H a C d ((f, y) :: fs))) : tOst K f (tVar 0) te D σ (xfin H a C d fs) := by
  refine hy _ ⟨.ref a, h0, a, C, rfl, T, hno, .inr ⟨d, fs, upd_same, ?_, hl, ?_⟩⟩
  · unfold xfin; rw [upd_ne hd, upd_same]
  · have e : upd (xfin H a C d fs) d (exd d ((f, y) :: fs)) = xfin H a C d ((f, y) :: fs) := by
      funext b
      unfold xfin
      by_cases hb : b = d
      · subst hb; rw [upd_same, upd_ne hd, upd_same]
      · rw [upd_ne hb]
        by_cases hb2 : b = a
        · subst hb2; rw [upd_same, upd_same]
        · rw [upd_ne hb2, upd_ne hb2, upd_ne hb, upd_ne hb]
    rw [e]; exact k
end
/-! ### C(e, ..), the context of the new exception being None -/
section
variable {X : Cx} {e : Expr} {es : List Expr} {ta : TA} {p pos : Pos}
theorem pmkN {CX : CXT} {x : Str} {C fI : Addr} {k : Nat} {fd : FuncData} {ps : List Str} {sp : Sp} {ds : List Value} {dvs : List V} (T : OexC X.K C) (iC : PySem.W.findIn X.K (.ref C) "__init__" = some (some (.ref fI))) (tI : PySem.W.typeIn X.K (.ref fI) = some (.type "function"))
    (F1 : FnOk X.prog X.w X.K X.mg X.base CX k fI fd ps sp) (hr : Room (k + 1) X.A) (hb : Binds X.K fd ps ds) (hd : Vals dvs ds) (hx : Passes CX X (fun _ _ _ => False)) (hg : Gl X x) (hm : X.mg x = some (.ref C)) (ha : PA X (e :: es) ta)
    (hdb : (x == ("__debug__" : Str)) = false := by decide) (he : starEach (e :: es) X.env = (false, eval e X.env) :: starEach es X.env := by rfl) (hpl : (backTo pos (starEach es X.env)).any (·.1) = false := by rfl) :
    L2N.PMk X (.Call (.Name x p) (e :: es) [] pos) (tMkO C sp dvs ta) := by
  intro pins s σ H Q I h
  obtain ⟨nm, q, N, bs, bm, sn, sub, ab, col, dd, k0, k1, k2, k3, k5, hC, hbm⟩ := T.cls
  refine wpAny_Call_Name_kw (ld_glob I hg hm ?_ hdb)
  refine PySem.W.callWith_K (h₀ := X.base) I.ok.mod.kin T.kC (thn (ha.run pos pins s σ H _ I h) fun us s1 ⟨vs, H1, I1, r1, hz, q1⟩ => ⟨I1.kIn, ?_⟩) he hpl
  show wpAny _ _ (call (.ref C) us) _ _ _
  obtain ⟨hp, g, dr, tk, os⟩ := s1
  have hsz : hp.objs.size ≤ hp.objs.size + 1 := Nat.le_succ _
  have hq := q1 (hp.objs.size + 1) (I1.hok.fresh hsz)
  have kk : ∀ b o, hp.get? b = some o → ((hp.push (PySem.W.kdv_tup us)).push (PySem.HandSPX.excO C hp.objs.size)).get? b = some o := fun b o e => Heap.get?_push_of_some _ (Heap.get?_push_of_some _ e)
  have hget : ((hp.push (PySem.W.kdv_tup us)).push (PySem.HandSPX.excO C hp.objs.size)).get? (hp.objs.size + 1) = some (PySem.HandSPX.excO C hp.objs.size) := by heap_get
  have I2 : Inv X pins σ (upd H1 (hp.objs.size + 1) (exo (hp.objs.size + 1) C none)) ⟨(hp.push (PySem.W.kdv_tup us)).push (PySem.HandSPX.excO C hp.objs.size), g, dr, tk, os⟩ :=
    I1.laid (t' := tk) (a := hp.objs.size + 1) (o := exo (hp.objs.size + 1) C none) (h' := (hp.push (PySem.W.kdv_tup us)).push (PySem.HandSPX.excO C hp.objs.size)) kk hsz (exo_ok hget)
  have r2 : Vals (V.ref (hp.objs.size + 1) :: (vs ++ dvs)) (Value.ref (hp.objs.size + 1) :: (us ++ ds)) := .cons rfl (r1.append hd)
  have hl : (Value.ref (hp.objs.size + 1) :: us ++ ds).length = ps.length := by
    have e := r2.length
    rw [F1.len _ _ _ _ hq] at e
    exact e.symm
  have hus : us.length ≤ sizeLine := by
    rw [← Paired.length r1, sizeLine_eq]
    omega
  refine wpAny_call (PySem.HandSPX.call_own F.excBase_ValueError (fun Y => PySem.HandSPX.refsVE_contains Y bm hbm) (I1.kIn _ _ hC) (PySem.W.looks_findIn I1.kIn iC) (fun self => PySem.W.bind_fn I1.kIn self tI) hus
    (codeAny_mono (F1.run _ X.stack _ _ ⟨Value.ref (hp.objs.size + 1) :: us, []⟩ (Value.ref (hp.objs.size + 1) :: (us ++ ds)) _ _ (fun _ _ _ => False) (hr.make C us []) (I2.env0.make C us []) (hb _ (Value.ref (hp.objs.size + 1) :: us) I2.kIn hl) r2 hq) fun r s' hq' => ?_))
  cases r with
  | error er => exact hx pins σ _ _ er s' I2 hq'
  | ok fl =>
    cases fl with
    | ret u =>
      obtain ⟨v, H2, os2, bare2, un2, hok2, rv, ev, d, fs, ea, ed, hd1, q2⟩ := hq'
      subst ev
      obtain ⟨h2, g2, d2, t2, os'⟩ := s'
      refine ⟨rv, ?_⟩
      obtain ⟨t0, G, J, kG, ge, hoe, na⟩ := mk_end0 (d2 := d2) (t2 := t2) I1 hsz kk un2 hok2 os2 bare2 ea ed hd1
      exact ⟨_, _, _, ⟨G, g2, d2, t2, os'⟩, _, .ref C, some d, rfl, J, kG, ge, hoe, ⟨rfl, rfl, fun vs e => by cases e; rfl⟩, rfl, rfl, na, rfl, bare2, raises_own T.exC T.tyC, q2⟩
    | next => exact False.elim hq'
    | brk => exact False.elim hq'
    | cont => exact False.elim hq'
end
/-! ### over data -/
/-- the fields, the last one set first: by a text, or by the i-th argument -/
def mkF {α : Type} (str : Str → α) (z : α) : List (Str × (Sum Str Nat)) → List α → List (Str × α)
  | [], _ => []
  | (f, .inl t) :: r, xs => (f, str t) :: mkF str z r xs
  | (f, .inr i) :: r, xs => (f, xs.getD i z) :: mkF str z r xs
theorem mkF_rp {K : PySem.W.Frag} {w : Wd} {ds : List D} {vs : List V} (r : RpL K w ds vs) : ∀ (fl : List (Str × (Sum Str Nat))), RpF K w (mkF D.str .non fl ds) (mkF V.str .non fl vs)
  | [] => rfl
  | (f, .inl t) :: l => ⟨_, _, rfl, rfl, mkF_rp r l⟩
  | (f, .inr i) :: l => by
    refine ⟨_, _, rfl, ?_, mkF_rp r l⟩
    cases e : ds[i]? with
    | none =>
      have e2 : vs[i]? = none := by
        have := r.length
        rw [List.getElem?_eq_none_iff] at e ⊢; omega
      simp only [List.getD, e, e2]; rfl
    | some d =>
      obtain ⟨v, e2, h⟩ := r.at e
      simp only [List.getD, e, e2]; exact h
/-- an own class of exceptions whose __init__ sets these fields -/
structure ExcD (P : Program) (w : World) (K : PySem.W.Frag) (mg : Str → Option Value) (base : Heap) (cl : Str → Addr) (n : Str) (m : Nat) (fl : List (Str × (Sum Str Nat))) : Prop where
  oex : OexC K (cl n)
  ini : ∃ fI fd ps, PySem.W.findIn K (.ref (cl n)) "__init__" = some (some (.ref fI)) ∧ PySem.W.typeIn K (.ref fI) = some (.type "function") ∧ FnOk P w K mg base CX0 1 fI fd ps (spIni (cl n) m (mkF V.str .non fl)) ∧ Binds K fd ps []
  glo : mg n = some (.ref (cl n))
section
variable {X : Cx} {c : Wd} {e : Expr} {es : List Expr} {tl : DA} {p pos : Pos} {n : Str} {m : Nat} {fl : List (Str × (Sum Str Nat))} {E : DXK}
@[simp] def dRaise (E : DXK) (n : Str) (m : Nat) (fl : List (Str × (Sum Str Nat))) (tl : DA) : DS := fun _ ρ M => tl ρ M fun ds M1 => (ds.length = m ∧ m ≤ 1000) ∧ E n (mkF D.str .non fl ds) M1
theorem pds_raise {cl : Str → Addr} (hcl : c.cl = cl) (hc : X.calm = true) (G : ExcD X.prog X.w X.K X.mg X.base cl n m fl) (hr : Room 2 X.A) (tk : Tk c X E) (ha : PDA c X (e :: es) tl) (hg : Gl X n := by rfl) (hdb : (n == ("__debug__" : Str)) = false := by decide)
    (he : starEach (e :: es) X.env = (false, eval e X.env) :: starEach es X.env := by rfl) (hpl : (backTo pos (starEach es X.env)).any (·.1) = false := by rfl) {rpos : Pos} : PDS c X (.Raise (some (.Call (.Name n p) (e :: es) [] pos)) none rpos) (dRaise E n m fl tl) := by
  obtain ⟨fI, fd, ps, h1, h2, h3, h4⟩ := G.ini
  subst hcl
  refine PS_imp (L2N.ps_raise hc tk (pmkN (dvs := []) G.oex h1 h2 h3 hr h4 .nil (fun _ _ _ _ _ _ _ z => z.elim) hg G.glo ha (hdb := hdb) (he := he) (hpl := hpl))) fun D0 σ H ⟨ρ, w, D', hH, a, h, k⟩ => ?_
  refine ⟨ρ, w, _, hH, a, h, fun ds w1 vs q b r => ⟨by rw [r.length, q.1.1]; exact q.1.2, fun ae hn => ?_⟩⟩
  refine ⟨ae, vs, by rw [List.append_nil], by rw [r.length]; exact q.1.1, upd_same, fun d hdn hda => ⟨rfl, d, mkF V.str .non fl vs, upd_same, ?_, ?_, ?_⟩⟩
  · unfold xfin; rw [upd_ne hda, upd_same]
  · rw [← hdn, upd_ne hda]
  · have hd1 : w1.H d = none := by rw [← hdn, upd_ne hda]
    have e1 : upd (del (xfin (upd w1.H ae (exo ae (c.cl n) none)) ae (c.cl n) d (mkF V.str .non fl vs)) ae) d (.xd (mkF V.str .non fl vs)) = upd w1.H d (.xd (mkF V.str .non fl vs)) := by
      funext x
      by_cases hx : x = d
      · subst hx; rw [upd_same, upd_same]
      · rw [upd_ne hx, upd_ne hx]
        by_cases hx2 : x = ae
        · subst hx2; rw [del_same, hn]
        · rw [del_ne hx2]; unfold xfin; rw [upd_ne hx2, upd_ne hx, upd_ne hx2]
    rw [e1]
    have b2 : Bh X.K w1 (w1.at (upd w1.H d (.xd (mkF V.str .non fl vs)))) := Bh.new b.ok hd1
    exact ⟨n, mkF D.str .non fl ds, w1.at (upd w1.H d (.xd (mkF V.str .non fl vs))), d, mkF V.str .non fl vs, rfl, rfl, rfl, (a.bh.trans b).trans b2, (b.ok.fresh hd1).at, upd_same, RpF.mono b2.kp (mkF_rp r fl), q.2⟩
end
end DL
/-! The data layer, part h: try with one clause of two classes, what its suite reads. -/
namespace DL
open PySem L2
theorem flying_push {B h : Heap} {l : List Env} {a : Addr} {Z : Obj → Prop} (f : HandSPX.FlyingZ B l a Z h) (o : Obj) : HandSPX.FlyingZ B l a Z (h.push o) := by
  obtain ⟨k1, k2, k3, oe, vs, T, oT, ts, he, hz, hd, h1, hn, hne, hT, hdT, h3⟩ := f
  exact ⟨fun b u e => Heap.get?_push_of_some _ (k1 b u e), k2, k3.of_keeps fun b u e _ => ⟨u, Heap.get?_push_of_some _ e, rfl⟩, oe, vs, T, oT, ts, Heap.get?_push_of_some _ he, hz, hd, h1, hn, hne, Heap.get?_push_of_some _ hT, hdT, h3⟩
/-- what the clause wishes of an exception: it is caught -/
def wTwo (K : PySem.W.Frag) (c1 c2 : Value) (i : Nat) (ts : Addr → Value → Option Addr → TS) (D : Ends) : WX := fun cls d σ H => PySem.W.exmAny K cls [c1, c2] = some true ∧
  ∀ a, H a = none → ts a cls d { nx := fun σ' H' => D.nx (σ'.set i none) H', rt := D.rt, bk := fun σ' H' => D.bk (σ'.set i none) H', ct := fun σ' H' => D.ct (σ'.set i none) H' } (σ.set i (some (.ref a))) H
section
variable {X : Cx} {x1 x2 n : Str} {c1 c2 : Value} {i kk : Nat} {body suite : List Stmt} {b₀ : Stmt} {p1 p2 tpos pos pos' : Pos} {tb : WX → TS} {ts : Addr → Value → Option Addr → TS}
theorem ps_try_two (hs : X.stack = X.env :: X.outer) (hf : X.env.frame = some X.env.locals) (hN : X.N.Nodup) (hi : X.N[i]? = some n) (hln : X.env.kindOf n = some .local) (h1 : Names X x1 c1) (h2 : Names X x2 c2)
    (hb : ∀ (W : WX) (pn : List (Addr × Obj)) (xe : Value → Shared → Prop), L2N.Takes (X.tr pn xe) W → PassesOwn (model X.prog X.w) X.A X.env xe → PSs (X.tr pn xe) body (tb W))
    (hsu : ∀ (a : Addr) (oe : Obj) (cls : Value) (d : Option Addr) (pn : List (Addr × Obj)), L2N.Zn cls d oe → (∃ vs, oe.data = .fields vs) → PSs (X.suite a ((a, oe) :: pn)) (b₀ :: suite) (ts a cls d)) :
    PS X (.Try body [.ExceptHandler (some (.Tuple [.Name x1 p1, .Name x2 p2] kk tpos)) (some n) (b₀ :: suite) pos'] [] [] pos) (fun D σ H => tb (wTwo X.K c1 c2 i ts D) D σ H) := by
  refine ⟨fun pins s σ H D I h => ?_⟩
  have ok := I.ok
  have hfr : X.A.frames = some (X.env :: X.outer) := by rw [ok.frames, hs]
  refine wpAny_Try_except (wpAny_mono ((hb (wTwo X.K c1 c2 i ts D) (X.pn ++ pins) (fun e s₁ => wpAny (model X.prog X.w) X.A (noteFrame e X.env) (fun _ s₂ => wpAny (model X.prog X.w) X.A (setFlight e none) (fun _ s₃ =>
    wpAny (model X.prog X.w) X.A (handleBy e X.env [.ExceptHandler (some (.Tuple [.Name x1 p1, .Name x2 p2] kk tpos)) (some n) (b₀ :: suite) pos']) (SP X pins D) X.xe s₃) X.xe s₂) X.xe s₁) (fun u s' xx => ?_) PassesOwn.looking).run [] s σ H D (I.toTry _) h) (fun f s1 hsp => ?_) (fun e s1 he => he))
  · obtain ⟨a, B, sI, pins', σ', H', cls, d, rfl, J', nb, up, sky, na, os, ag, hcl, hyes⟩ := xx
    have J : Inv X pins σ' H' sI := J'.ofTry ok
    have sky' : Sky B (X.env :: X.outer) a (L2N.Zn cls d) X.env.locals s'.heap := by rw [← hs]; exact sky
    show wpAny (model X.prog X.w) X.A (noteFrame (.ref a) X.env) _ _ _
    refine L2N.Sky.land L2N.Zn.steady hfr hf sky' fun h3 fl3 up3 => ?_
    have J3 : Inv X pins σ' H' { s' with heap := h3 } := J.landed nb fl3.1 (up.trans up3) os ag
    obtain ⟨oe3, vs3, he3, hz3, hd3⟩ := fl3.there
    have nfr : a ∉ frs (X.env :: X.outer) := fun hm => by
      obtain ⟨_, o', e', hnf⟩ := fl3.2.2.1.mem hm
      rw [he3] at e'; cases e'
      exact hnf _ hd3
    have nL : a ≠ X.env.locals := fun z => nfr (List.mem_filterMap.mpr ⟨X.env, List.mem_cons_self, by rw [hf, z]⟩)
    have nF : a ∉ X.fs := fun hm => by
      obtain ⟨e, he, q⟩ := List.mem_filterMap.mp hm
      exact nfr (List.mem_filterMap.mpr ⟨e, List.mem_cons_of_mem _ he, q⟩)
    have S3 := J3.suite he3 hd3 na nL nF
    refine wpAny_handleBy_cons (codeAny_handlers_test ?_) (by intro q; cases q)
    have look : ∀ {x : Str} {c : Value} {p : Pos} {Q : Value → Shared → Prop} {E : Value → Shared → Prop}, Names X x c → Q c { s' with heap := h3 } → wpAny (model X.prog X.w) (X.A.mark (some (.ref a))) (eval (.Name x p) X.env) Q E { s' with heap := h3 } := fun {x c p Q E} hc q => by
      obtain ⟨hg, hdbg, hm | ⟨hm, hv, hnn⟩⟩ := hc
      · exact ld_glob (X := X.suite a ((a, oe3) :: (X.pn ++ pins))) S3 hg hm q hdbg
      · exact ld_blt (X := X.suite a ((a, oe3) :: (X.pn ++ pins))) S3 hg hm hv q hnn hdbg
    refine PyProof.Rows.Tuple_ (PyProof.Rows.spliced_more (look h1 (PyProof.Rows.spliced_more (look h2 (PyProof.Rows.spliced_none ?_)))))
    refine wpAny_newObj_type ?_
    have fl5 := flying_push fl3 { cls := .type "tuple", dict := none, data := .seq [c1, c2].toArray }
    have up5 : h3.UpToSlots (h3.push { cls := .type "tuple", dict := none, data := .seq [c1, c2].toArray }) := Heap.UpToSlots.of_keeps fun b o e => Heap.get?_push_of_some _ e
    have J5 : Inv X pins σ' H' { s' with heap := h3.push { cls := .type "tuple", dict := none, data := .seq [c1, c2].toArray } } := J.landed nb fl5.1 ((up.trans up3).trans up5) os ag
    have LT : PySem.W.Looks (model X.prog X.w) (h3.push { cls := .type "tuple", dict := none, data := .seq [c1, c2].toArray }) (typeOf (.ref a)) cls := fun A Q E s k q => wpAny_typeOf_ref (k _ _ (Heap.get?_push_of_some _ he3)) (by rw [hz3.1]; exact q)
    have LM := PySem.W.exm_tup2 (M := model X.prog X.w) (tp := h3.objs.size) (J5.kIn) LT (Heap.get?_push_size _ rfl) hcl
    refine LM.here ?_
    refine codeAny_handlers_suite_as ?_
    refine HandSPX.lands_againZ (s := { s' with heap := h3.push { cls := .type "tuple", dict := none, data := .seq [c1, c2].toArray } }) fl5 fun h4 fl4 up4 => ?_
    have J4 : Inv X pins σ' H' { s' with heap := h4 } := J.landed nb fl4.1 (((up.trans up3).trans up5).trans up4) os ag
    obtain ⟨oe4, vs4, he4, hz4, hd4⟩ := fl4.there
    have S4 := J4.suite he4 hd4 na nL nF
    refine store_ok (X := X.suite a ((a, oe4) :: (X.pn ++ pins))) (v := .ref a) S4 hN hi (.inl hln) rfl (fun s5 S5 => ?_) (.inr hln)
    refine wpAny_mono ((hsu a oe4 cls d (X.pn ++ pins) hz4 ⟨_, hd4⟩).run [] s5 _ H' _ S5 (hyes a na)) (fun f s6 hsp => ?_) (fun _ _ z => False.elim z)
    have end_ : ∀ {σ6 : St} {H6 : Hp} {Q : Shared → Prop}, Inv (X.suite a ((a, oe4) :: (X.pn ++ pins))) [] σ6 H6 s6 → (∀ s7, Inv X pins (σ6.set i none) H6 s7 → Q s7) →
        wpAny (model X.prog X.w) X.A (do bindName X.env n .none; unbindBehindTheSuite X.env n pos') (fun _ s7 => Q s7) X.xe s6 := fun {σ6 H6 Q} S6 hq => gone_ok (S6.unsuite ok) hN hi hln hq
    cases f with
    | next => obtain ⟨σ6, H6, S6, q6⟩ := hsp; exact end_ S6 fun s7 J7 => ⟨_, _, J7, q6⟩
    | brk => obtain ⟨σ6, H6, S6, q6⟩ := hsp; exact end_ S6 fun s7 J7 => ⟨_, _, J7, q6⟩
    | cont => obtain ⟨σ6, H6, S6, q6⟩ := hsp; exact end_ S6 fun s7 J7 => ⟨_, _, J7, q6⟩
    | ret u => obtain ⟨v6, σ6, H6, S6, r6, q6⟩ := hsp; exact end_ S6 fun s7 J7 => ⟨_, _, _, J7, r6, q6⟩
  · cases f with
    | next => obtain ⟨σ', H', J', q⟩ := hsp; exact wpAny_execs_nil ⟨σ', H', J'.ofTry ok, q⟩
    | brk => obtain ⟨σ', H', J', q⟩ := hsp; exact ⟨σ', H', J'.ofTry ok, q⟩
    | cont => obtain ⟨σ', H', J', q⟩ := hsp; exact ⟨σ', H', J'.ofTry ok, q⟩
    | ret u => obtain ⟨v, σ', H', J', r, q⟩ := hsp; exact ⟨v, σ', H', J'.ofTry ok, r, q⟩
end
end DL
/-! The data layer, part i: the handled exception over data; try. -/
namespace DL
open PySem L2
/-! ### no exception within -/
mutual
def noX : D → Bool
  | .exc _ _ => false
  | .lst _ xs => noXL xs
  | .tup xs => noXL xs
  | .cst xs => noXL xs
  | .dct kvs => noXK kvs
  | .obj _ fs => noXF fs
  | _ => true
def noXL : List D → Bool
  | [] => true
  | x :: xs => noX x && noXL xs
def noXK : List (D × D) → Bool
  | [] => true
  | (_, x) :: xs => noX x && noXK xs
def noXF : List (Str × D) → Bool
  | [] => true
  | (_, x) :: xs => noX x && noXF xs
end
def noXM : MO → Bool
  | .lst ds => noXL ds
  | .dK kvs => noXK (kvs.map fun p => (keyD p.1, p.2))
  | .dT kvs => noXK (kvs.map fun p => (tkeyD p.1, p.2))
  | .ins _ fs => noXF fs
  | _ => true
abbrev Wd.exs (w : Wd) (e : Option (Addr × Addr × Addr)) : Wd := { w with ex := e }
section
variable {K : PySem.W.Frag} {w : Wd} {e : Option (Addr × Addr × Addr)}
theorem Fr.exs {a : Addr} (h : Fr w a) : Fr (w.exs e) a := ⟨h.m, h.h, h.l⟩
theorem LsAt.exs {r : Nat} {a : Addr} {xs : List V} (h : LsAt w r a xs) : LsAt (w.exs e) r a xs := ⟨h.1, h.2.elim (fun z => .inl ⟨z.1, z.2.exs⟩) fun z => .inr z⟩
theorem TuAt.exs {a : Addr} {xs : List V} (h : TuAt K w a xs) : TuAt K (w.exs e) a xs := h.elim (fun z => .inl ⟨z.1.exs, z.2⟩) fun z => .inr z
mutual
theorem Rp.exs : ∀ {d : D} {v : V}, noX d = true → Rp K w d v → Rp K (w.exs e) d v
  | .non, _, _, h => h
  | .bl _, _, _, h => h
  | .int _, _, _, h => h
  | .str _, _, _, h => h
  | .ref _, _, _, h => h
  | .ty _, _, _, h => h
  | .cls _, _, _, h => h
  | .scr ns, v, _, h => by
    obtain ⟨a, rfl, h1⟩ := h
    exact ⟨a, rfl, h1.elim (fun z => .inl ⟨z.1.exs, z.2⟩) fun z => .inr z⟩
  | .lst _ ds, v, n, h => by
    obtain ⟨a, xs, rfl, hl, hr⟩ := h
    exact ⟨a, xs, rfl, hl.exs, RpL.exs n hr⟩
  | .tup ds, v, n, h => by
    obtain ⟨a, xs, rfl, hl, hr⟩ := h
    exact ⟨a, xs, rfl, hl.exs, RpL.exs n hr⟩
  | .cst ds, v, n, h => by
    obtain ⟨a, xs, rfl, hl, hr⟩ := h
    exact ⟨a, xs, rfl, hl, RpL.exs n hr⟩
  | .dct kvs, v, n, h => by
    obtain ⟨a, rfl, hm, hl⟩ := h
    rcases hl with ⟨hne, ks, h1, h2⟩ | ⟨ks, h1, h2⟩
    · exact ⟨a, rfl, hm.exs, .inl ⟨hne, ks, h1, RpK.exs n h2⟩⟩
    · exact ⟨a, rfl, hm.exs, .inr ⟨ks, h1, RpK.exs n h2⟩⟩
  | .obj C fs, v, n, h => by
    obtain ⟨a, dx, vs, rfl, hm, h1, h2⟩ := h
    exact ⟨a, dx, vs, rfl, hm.exs, h1, RpF.exs n h2⟩
  | .exc C fs, v, n, h => by cases n
theorem RpL.exs : ∀ {ds : List D} {vs : List V}, noXL ds = true → RpL K w ds vs → RpL K (w.exs e) ds vs
  | [], _, _, h => h
  | d :: ds, vs, n, h => by
    obtain ⟨x, r, rfl, h1, h2⟩ := h
    rw [noXL, Bool.and_eq_true] at n
    exact ⟨x, r, rfl, Rp.exs n.1 h1, RpL.exs n.2 h2⟩
theorem RpK.exs : ∀ {ds : List (D × D)} {vs : List (D × V)}, noXK ds = true → RpK K w ds vs → RpK K (w.exs e) ds vs
  | [], _, _, h => h
  | (q, d) :: ds, vs, n, h => by
    obtain ⟨x, r, rfl, h1, h2⟩ := h
    rw [noXK, Bool.and_eq_true] at n
    exact ⟨x, r, rfl, Rp.exs n.1 h1, RpK.exs n.2 h2⟩
theorem RpF.exs : ∀ {ds : List (Str × D)} {vs : List (Str × V)}, noXF ds = true → RpF K w ds vs → RpF K (w.exs e) ds vs
  | [], _, _, h => h
  | (q, d) :: ds, vs, n, h => by
    obtain ⟨x, r, rfl, h1, h2⟩ := h
    rw [noXF, Bool.and_eq_true] at n
    exact ⟨x, r, rfl, Rp.exs n.1 h1, RpF.exs n.2 h2⟩
end
mutual
theorem Rp.noX (hx : w.ex = none) : ∀ {d : D} {v : V}, Rp K w d v → noX d = true
  | .non, _, _ => rfl
  | .bl _, _, _ => rfl
  | .int _, _, _ => rfl
  | .str _, _, _ => rfl
  | .ref _, _, _ => rfl
  | .ty _, _, _ => rfl
  | .cls _, _, _ => rfl
  | .scr ns, v, _ => rfl
  | .lst _ ds, v, h => by obtain ⟨a, xs, rfl, hl, hr⟩ := h; exact RpL.noX hx hr
  | .tup ds, v, h => by obtain ⟨a, xs, rfl, hl, hr⟩ := h; exact RpL.noX hx hr
  | .cst ds, v, h => by obtain ⟨a, xs, rfl, hl, hr⟩ := h; exact RpL.noX hx hr
  | .dct kvs, v, h => by
    obtain ⟨a, rfl, hm, hl⟩ := h
    rcases hl with ⟨_, ks, h1, h2⟩ | ⟨ks, h1, h2⟩
    · exact RpK.noX hx h2
    · exact RpK.noX hx h2
  | .obj C fs, v, h => by obtain ⟨a, dx, vs, rfl, hm, h1, h2⟩ := h; exact RpF.noX hx h2
  | .exc C fs, v, h => by
    obtain ⟨a, dd, vs, _, h1, _⟩ := h
    rw [hx] at h1; cases h1
theorem RpL.noX (hx : w.ex = none) : ∀ {ds : List D} {vs : List V}, RpL K w ds vs → noXL ds = true
  | [], _, _ => rfl
  | d :: ds, vs, h => by
    obtain ⟨x, r, rfl, h1, h2⟩ := h
    rw [noXL, Rp.noX hx h1, RpL.noX hx h2]; rfl
theorem RpK.noX (hx : w.ex = none) : ∀ {ds : List (D × D)} {vs : List (D × V)}, RpK K w ds vs → noXK ds = true
  | [], _, _ => rfl
  | (q, d) :: ds, vs, h => by
    obtain ⟨x, r, rfl, h1, h2⟩ := h
    rw [noXK, Rp.noX hx h1, RpK.noX hx h2]; rfl
theorem RpF.noX (hx : w.ex = none) : ∀ {ds : List (Str × D)} {vs : List (Str × V)}, RpF K w ds vs → noXF ds = true
  | [], _, _ => rfl
  | (q, d) :: ds, vs, h => by
    obtain ⟨x, r, rfl, h1, h2⟩ := h
    rw [noXF, Rp.noX hx h1, RpF.noX hx h2]; rfl
end
theorem Ok.noX (o : Ok K w) (hx : w.ex = none) : ∀ x m, w.M x = some m → noXM m = true := fun x m h => by
  have z := o.mo x m h
  cases m with
  | lst ds => obtain ⟨_, _, r⟩ := z; exact RpL.noX hx r
  | bg k => rfl
  | dK kvs => obtain ⟨_, _, r, _⟩ := z; exact RpK.noX hx r
  | dT kvs => obtain ⟨_, _, r, _⟩ := z; exact RpK.noX hx r
  | ins C fs => obtain ⟨_, _, _, r⟩ := z; exact RpF.noX hx r
theorem Ok.exs (o : Ok K w) (h : ∀ x m, w.M x = some m → noXM m = true) : Ok K (w.exs e) := by
  refine ⟨fun x m q => ?_, o.hid, o.ap, o.len, o.lap, o.lfr, o.hl, o.ll, o.tabs⟩
  have z := o.mo x m q
  have n := h x m q
  cases m with
  | lst ds => obtain ⟨xs, h1, r⟩ := z; exact ⟨xs, h1, RpL.exs n r⟩
  | bg k => obtain ⟨c, cs, i, r, m, tl, h1, h2, h3⟩ := z; exact ⟨c, cs, i, r, m, tl, h1, h2.exs, h3⟩
  | dK kvs => obtain ⟨ks, h1, r, h2⟩ := z; exact ⟨ks, h1, RpK.exs n r, h2⟩
  | dT kvs => obtain ⟨ks, h1, r, h2⟩ := z; exact ⟨ks, h1, RpK.exs n r, h2⟩
  | ins C fs => obtain ⟨dx, vs, h1, r⟩ := z; exact ⟨dx, vs, h1, RpF.exs n r⟩
/-- the world with the exception, and back -/
theorem Kp.exback {w w2 : Wd} (k : Kp (w.exs e) w2) : Kp w (w2.exs w.ex) := ⟨fun a u hf q n => by
  obtain ⟨h1, h2⟩ := k.fr a u hf.exs q n
  exact ⟨h1.exs, h2⟩, k.ln, rfl, k.cl, k.tb, fun a o v hf q => k.fz a o v hf.exs q⟩
end
theorem At.from {K : PySem.W.Frag} {c w w' : Wd} {ρ ρ' : DEnv} {σ σ' : St} (a : At K c w ρ σ) (b : At K w w' ρ' σ') : At K c w' ρ' σ' := ⟨a.kp.trans b.kp, b.re, b.ok, b.hd.trans a.hd, b.ln.trans a.ln⟩
@[simp] def dTry2 (names : List Str) (i len : Nat) (tB : DXK → DS) (tS : DS) : DS := fun D ρ M => tB (fun n fs M' => n ∈ names ∧ tS { nx := fun _ _ => False, rt := fun d M'' => M'' = M' ∧ noX d = true ∧ D.rt d M'' } ((List.replicate len none).set i (some (.exc n fs))) M') D ρ M
section
variable {X : Cx} {c : Wd} {x1 x2 n : Str} {c1 c2 : Value} {i kk : Nat} {body suite : List Stmt} {b₀ : Stmt} {p1 p2 tpos pos pos' : Pos} {names : List Str} {tB : DXK → DS} {tS : DS}
theorem pds_try2 (hcat : ∀ n ∈ names, PySem.W.exmAny X.K (.ref (c.cl n)) [c1, c2] = some true) (hex : c.ex = none) (hN : X.N.Nodup) (h1 : Names X x1 c1) (h2 : Names X x2 c2)
    (hb : ∀ (cb : Wd) (E' : DXK) (pn : List (Addr × Obj)) (xe : Value → Shared → Prop), Kp c cb → Tk cb (X.tr pn xe) E' → PassesOwn (model X.prog X.w) X.A X.env xe → PDSs cb (X.tr pn xe) body (tB E'))
    (hsu : ∀ (c' : Wd) (a : Addr) (oe : Obj) (m : Str) (dd : Addr) (pn : List (Addr × Obj)), c'.cl = c.cl → c'.tb = c.tb → c'.ex = some (a, c'.cl m, dd) → L2N.Zn (.ref (c'.cl m)) (some dd) oe → (∃ vs, oe.data = .fields vs) → PDSs c' (X.suite a ((a, oe) :: pn)) (b₀ :: suite) tS)
    (hs : X.stack = X.env :: X.outer := by rfl) (hf : X.env.frame = some X.env.locals := by rfl) (hi : X.N[i]? = some n := by rfl) (hln : X.env.kindOf n = some .local := by rfl) :
    PDS c X (.Try body [.ExceptHandler (some (.Tuple [.Name x1 p1, .Name x2 p2] kk tpos)) (some n) (b₀ :: suite) pos'] [] [] pos) (dTry2 names i X.N.length tB tS) := by
  refine PS_imp (ps_try_two hs hf hN hi hln h1 h2
    (tb := fun W D σ H => ∃ (cb : Wd) (E' : DXK), Kp c cb ∧ (∀ cls d σ' H', σ'.length = X.N.length → XKof X.K cb E' cls d H' → W cls d σ' H') ∧ liftS X.K cb (tB E') D σ H)
    (ts := fun a cls d D σ H => ∃ (m : Str) (dd : Addr) (c' : Wd), cls = .ref (c'.cl m) ∧ d = some dd ∧ c'.cl = c.cl ∧ c'.tb = c.tb ∧ c'.ex = some (a, c'.cl m, dd) ∧ liftS X.K c' tS D σ H) (fun W pn xe tk hp => ?_) (fun a oe cls d pn hz hv => ?_)) fun D0 σ H ⟨ρ, w, D', hH, a, h, k⟩ => ?_
  · refine ⟨fun pins s σ H D0 I ⟨cb, E', e1, hW, q⟩ => (hb cb E' pn xe e1 (fun u s' ⟨a, B, sI, pins, σ, H, cls, d, e, I, nb, up, sky, na, os, ag, w⟩ => tk u s' ⟨a, B, sI, pins, σ, H, cls, d, e, I, nb, up, sky, na, os, ag, hW cls d σ H I.len w⟩) hp).run pins s σ H D0 I q⟩
  · refine ⟨fun pins s σ H D0 I ⟨m, dd, c', e1, e2, e3, e5, e4, q⟩ => ?_⟩
    subst e1 e2
    exact (hsu c' a oe m dd pn e3 e5 e4 hz hv).run pins s σ H D0 I q
  · have wcl : w.cl = c.cl := a.kp.cl
    have wex : w.ex = none := a.kp.ex.trans hex
    refine ⟨w, fun n fs M' => n ∈ names ∧ tS { nx := fun _ _ => False, rt := fun d M'' => M'' = M' ∧ noX d = true ∧ D'.rt d M'' } ((List.replicate X.N.length none).set i (some (.exc n fs))) M', a.kp, fun cls d σ' H' hl hx => ?_, ρ, w, D', hH, a.self, h, ?_⟩
    · obtain ⟨m, fs, w', dd, vs, rfl, rfl, rfl, b, fr, hx, r, hm, q⟩ := hx
      have w'cl : w'.cl = w.cl := b.kp.cl
      have w'ex : w'.ex = none := b.kp.ex.trans wex
      refine ⟨by rw [wcl]; exact hcat m hm, fun ae hae => ⟨m, dd, w'.exs (some (ae, w.cl m, dd)), by show _ = Value.ref (w'.cl m); rw [w'cl], rfl, w'cl.trans wcl, (b.kp.tb.trans a.kp.tb), by show some (ae, w.cl m, dd) = some (ae, w'.cl m, dd); rw [w'cl], ?_⟩⟩
      have hil : i < X.N.length := (List.getElem?_eq_some_iff.mp hi).1
      refine ⟨_, w'.exs (some (ae, w.cl m, dd)), _, rfl, ⟨Kp.refl _, ⟨by simp [hl], fun j d hj => ?_⟩, b.ok.exs (b.ok.noX w'ex), rfl, rfl⟩, q, ?_⟩
      · by_cases hji : i = j
        · subst hji
          rw [List.getElem?_set_self (by simpa using hil)] at hj
          obtain rfl : D.exc m fs = d := by simpa using hj
          refine ⟨.ref ae, by rw [List.getElem?_set_self (by omega)], ae, dd, vs, rfl, ?_, fr.exs, hx, RpF.exs (RpF.noX w'ex r) r⟩
          show some (ae, w.cl m, dd) = some (ae, w'.cl m, dd)
          rw [w'cl]
        · rw [List.getElem?_set_ne hji, List.getElem?_replicate] at hj
          split at hj <;> cases hj
      · refine { nx := fun _ _ _ q => q.elim, rt := fun d w2 v ⟨q1, q2, q3⟩ b2 r2 => ?_, bk := fun _ _ _ q => q.elim, ct := fun _ _ _ q => q.elim }
        refine k.rt d (w2.exs none) v q3 ?_ (r2.exs q2)
        have kk := b2.kp.exback
        rw [w'ex] at kk
        refine ⟨b.kp.trans kk, b2.ok.exs fun x m' hxm => ?_, b2.hd.trans b.hd, b2.ln.trans b.ln⟩
        have hxm' : w'.M x = some m' := by
          have : w2.M = w'.M := q1
          rw [← this]; exact hxm
        exact b.ok.noX w'ex x m' hxm'
    · exact { nx := fun ρ' w' σ' q b' a' => k.nx ρ' w' σ' q b' (a.from a'), rt := k.rt, bk := fun ρ' w' σ' q b' a' => k.bk ρ' w' σ' q b' (a.from a'), ct := fun ρ' w' σ' q b' a' => k.ct ρ' w' σ' q b' (a.from a') }
/-! ### e.f of the handled exception -/
theorem rpF_lookup {K : PySem.W.Frag} {w : Wd} {f : Str} {d : D} : ∀ {fs : List (Str × D)} {vs : List (Str × V)}, RpF K w fs vs → fs.lookup f = some d → ∃ v, vs.lookup f = some v ∧ Rp K w d v
  | [], vs, r, h => by cases h
  | (g, e) :: fs, vs, r, h => by
    obtain ⟨x, q, rfl, r1, r2⟩ := r
    rw [List.lookup] at h ⊢
    cases hg : f == g with
    | true => rw [hg] at h; cases h; exact ⟨x, rfl, r1⟩
    | false => rw [hg] at h; exact rpF_lookup r2 h
theorem pe_xfP {X : Cx} {a C : Addr} {oe : Obj} {d : Option Addr} {e : Expr} {te : TE} {pos : Pos} {n : Str} (hp : (a, oe) ∈ X.pn) (hz : Zc (.ref C) d oe) (hf : ∃ vs, oe.data = .fields vs) (he : PE X e te) (hb : attributeBase e n X.env (eval e X.env) = eval e X.env := by rfl) :
    PE X (.Attribute e n pos) (fun σ H Q => te σ H fun x H1 => x = .ref a ∧ (XfC X.K C ∧ PySem.W.findIn X.K (.ref C) n = some none) ∧ ∃ (dd : Addr) (fs : List (Str × V)) (v : V), d = some dd ∧ H1 dd = some (.xd fs) ∧ fs.lookup n = some v ∧ Q v H1) := by
  refine ⟨fun pins s σ H Q I h => ?_⟩
  refine attr_of hb (thn (he.run pins s σ H _ I h) fun u s1 hh => ?_)
  obtain ⟨x, H1, I1, rx, ex, ⟨T, hno⟩, dd, fs, v, ed, ea, l, q⟩ := hh
  subst ex
  obtain rfl : u = Value.ref a := rx
  subst ed
  obtain ⟨ha, _⟩ := I1.pin (a, oe) (List.mem_append_left _ hp)
  obtain ⟨vs, hd⟩ := hf
  have hx : ObjOk X.prog X.w H1 s1.heap dd (.xd fs) := I1.hok dd _ ea
  obtain ⟨mA, hns, hr⟩ := hx
  obtain ⟨od, ho, hl⟩ := lookIn_ns hns
  obtain ⟨u, hu, ru⟩ := RelO.some_of (v := v) (o := mA n) (by rw [← l]; exact hr n)
  have J : PySem.W.InstAt s1.heap a oe C (some od) := ⟨ha, hz.1, by unfold PySem.W.notCls; rw [hd] <;> rfl, by rw [hz.2]; exact ho⟩
  exact HandSPX.exc_get I1.kIn J T.ga T.gg T.exC (PySem.W.findObj_own T.hdC hno rfl (by rw [hl, hu])) (handed_of ru) ⟨v, H1, I1.tok _, ru, q⟩
@[simp] def dXf (names : List Str) (f : Str) (te : DE) : DE := fun ρ M Q => te ρ M fun d M1 => match d with
  | .exc n fs => n ∈ names ∧ (match fs.lookup f with | some d' => Q d' M1 | none => False)
  | _ => False
theorem pd_xf {a : Addr} {oe : Obj} {m : Str} {dd : Addr} {e : Expr} {te : DE} {f : Str} (hx : ∀ n ∈ names, XfC X.K (c.cl n) ∧ PySem.W.findIn X.K (.ref (c.cl n)) f = some none) (hex : c.ex = some (a, c.cl m, dd)) (hp : (a, oe) ∈ X.pn) (hz : L2N.Zn (.ref (c.cl m)) (some dd) oe) (hf : ∃ vs, oe.data = .fields vs)
    (he : PD c X e te) (hb : attributeBase e f X.env (eval e X.env) = eval e X.env := by rfl) : PD c X (.Attribute e f pos) (dXf names f te) :=
  PE_imp (pe_xfP hp hz.zc hf he hb) fun σ H Q ⟨ρ, w, Q', hH, a', h, k⟩ => ⟨ρ, w, _, hH, a', h, fun d w1 v q b r => by
    cases d with
    | exc n fs =>
      obtain ⟨hn, q⟩ := q
      obtain ⟨ae, dd', vs, rfl, e1, fr, e2, r2⟩ := r
      have w1ex : w1.ex = some (a, c.cl m, dd) := (b.kp.ex.trans a'.kp.ex).trans hex
      have w1cl : w1.cl = c.cl := b.kp.cl.trans a'.kp.cl
      rw [w1ex, w1cl] at e1
      injection e1 with e1
      injection e1 with e3 e4
      injection e4 with e4 e5
      subst e3 e5
      refine ⟨rfl, by rw [e4]; exact hx n hn, dd, vs, ?_⟩
      cases hl : fs.lookup f with
      | none => rw [hl] at q; exact q.elim
      | some d' =>
        rw [hl] at q
        obtain ⟨v', h1, h2⟩ := rpF_lookup r2 hl
        exact ⟨v', rfl, e2, h1, k d' w1 v' q b h2⟩
    | _ => exact q.elim⟩
end
end DL
/-! The data layer, part j: defs called while an exception is handled. -/
namespace DL
open PySem L2 L2H PyProof.Rows
structure FnHp (P : Program) (w : World) (K : PySem.W.Frag) (mg : Str → Option Value) (base : Heap) (CX : CXT) (k : Nat) (f : Addr) (fd : FuncData) (ps : List Str) (sp : Addr × Obj → Sp) : Prop where
  len : ∀ p vs H Q E, sp p vs H Q E → vs.length = ps.length
  run : ∀ (A : Around) (outer : List Env) (s : Shared) (H : Hp) (args : Args) (us : List Value) (vs : List V) (Q : VK) (E : XK) (p : Addr × Obj), RoomH k A → Hot1 A p → PinOk outer H s p → Env0 P w K mg base A outer s H → BindsTo s fd args (ps.zip us) → Vals vs us → sp p vs H Q E →
    codeAny (model P w) A (.call (.ref f) args) (CR CX outer P w H s Q E) s
theorem fn_ofHp {CX : CXT} {P : Program} {w : World} {K : PySem.W.Frag} {mg : Str → Option Value} {base : Heap} {k : Nat} {f : Addr} {x qual : Str} {params : Arguments} {body : List Stmt} {scope : Scope} {dvs : List V} {kws : List (Str × V)} {fd : FuncData} {N ps : List Str} {sp : Addr × Obj → Sp}
    (F : FunD K x qual params body scope dvs kws f fd) (S : FnScope N ps scope) (len : ∀ p vs H Q E, sp p vs H Q E → vs.length = ps.length)
    (hbody : ∀ (cdv : Value) (A : Around) (outer : List Env) (s : Shared) (H : Hp) (vs : List V) (Q : VK) (E : XK) (p : Addr × Obj), RoomH k (A.deeper (envOfC qual scope s.heap.objs.size f cdv)) → sp p vs H Q E →
      ∃ t, PSs (cxH CX P w K mg base N qual scope f cdv A outer s H E p) body t ∧ t { nx := fun _ H' => Q .non H', rt := Q } (L2.start N vs) H) : FnHp P w K mg base CX (k + 1) f fd ps sp := by
  refine ⟨len, fun A outer s H args us vs Q E p hr hot hpin e0 hb r hsp => ?_⟩
  obtain ⟨oc, od, dV, kV, doc, pm, an, cdv, ct, osl, rfl, lk, hcd, _, _⟩ := F.ex
  have hl := len _ _ _ _ _ hsp
  have KX : K.In s.heap := e0.mod.kin.keeps fun b o e => (e0.bs b o e).1
  have lim : s.heap.NoLimit := e0.mod.nolimit.keeps fun b o e => (e0.bs b o e).1
  have hkind : ∀ y ∈ ps.zip us, scope.names.lookup y.1 = some .local ∨ (scope.names.lookup y.1 = some .cell ∧ ((cellsFrom (s.heap.objs.size + 1) scope.names []).lookup y.1).isSome = true) := fun ⟨n, v⟩ hy => by
    rcases S.par n (List.of_mem_zip hy).1 with q | q
    · exact .inl q
    · exact .inr ⟨q, PySem.W.cellsFrom_some _ _ _ (.inl q)⟩
  refine codeAny_call_function hr.depth (KX _ _ lk) rfl S.co S.gen rfl (PySem.W.codeRec_of KX hcd) (hb _ _ _ _ ?_)
  refine wpAny_newFunctionEnv_cells S.kind hkind fun env he s1 x => ?_
  subst he
  refine ⟨lim.keeps x.toInCall.keep, codeAny_func ?_⟩
  obtain ⟨t, ht, hq⟩ := hbody cdv A outer s H vs Q E p (hr.deeper _) hsp
  have I : Inv (cxH CX P w K mg base N qual scope f cdv A outer s H E p) [] (L2.start N vs) H s1 := inv_startH S hpin e0 hl r x
  refine wpAny_mono (ht.run [] s1 (L2.start N vs) H _ I hq) (fun fl s' hs => ?_) fun e s' hs => hs
  have fin : ∀ {σ' : L2.St} {H' : Hp} {v : V} {u : Value}, Inv (cxH CX P w K mg base N qual scope f cdv A outer s H E p) [] σ' H' s' → RelV v u → Q v H' → CE outer P w H s Q u s' :=
    fun {σ' H' v u} J rv q => ⟨v, H', J.os, J.bare, J.base, J.hok, rv, q⟩
  cases fl with
  | ret u => obtain ⟨v, σ', H', J, rv, q⟩ := hs; exact fin J rv q
  | next => obtain ⟨σ', H', J, q⟩ := hs; exact fin (v := V.non) (u := Value.none) J rfl q
  | brk => obtain ⟨_, _, _, q⟩ := hs; exact False.elim q
  | cont => obtain ⟨_, _, _, q⟩ := hs; exact False.elim q
/-- over data: the exception p is handled -/
def upH (K : PySem.W.Frag) (cl : Str → Addr) (s : DSp) (p : Addr × Obj) : Sp := fun vs H Q _ => ∃ (w : Wd) (ds : List D) (Q' : DK) (m : Str) (dd : Addr), w.H = H ∧ w.cl = cl ∧ w.ex = some (p.1, cl m, dd) ∧ L2N.Zn (.ref (cl m)) (some dd) p.2 ∧ (∃ vs, p.2.data = .fields vs) ∧ Ok K w ∧ RpL K w ds vs ∧ s ds w.M Q' DX0 ∧ Wv K w Q' Q
section
variable {P : Program} {w : World} {K : PySem.W.Frag} {mg : Str → Option Value} {base : Heap} {x qual : Str} {st : Stmt} {dvs : List V} {kws : List (Str × V)} {f : Addr} {fd : FuncData} {cl : Str → Addr}
theorem fnH {N ps : List Str} {k : Nat} {s : DSp} {t : DS} (F : FunD K x qual (defArgs st) (defBody st) (defScope st) dvs kws f fd) (S : FnScope N ps (defScope st))
    (hb : ∀ (cdv : Value) (A : Around) (outer : List Env) (sh : Shared) (H : Hp) (E : XK) (p : Addr × Obj) (c : Wd) (m : Str) (dd : Addr), c.cl = cl → c.ex = some (p.1, c.cl m, dd) → L2N.Zn (.ref (c.cl m)) (some dd) p.2 → (∃ vs, p.2.data = .fields vs) → RoomH k (A.deeper (envOfC qual (defScope st) sh.heap.objs.size f cdv)) →
      PDSs c (cxH CX0 P w K mg base N qual (defScope st) f cdv A outer sh H E p) (defBody st) t)
    (hs : ∀ ds M Q, s ds M Q DX0 → ds.length = ps.length ∧ t { nx := fun _ M' => Q .non M', rt := Q } (startD N ds) M) : FnHp P w K mg base CX0 (k + 1) f fd ps (upH K cl s) := by
  refine fn_ofHp F S (fun p vs H Q E h => ?_) (fun cdv A outer sh H vs Q E p hr h => ?_)
  · obtain ⟨w, ds, Q', m, dd, hH, hcl, hex, hz, hv, ok, r, h, k⟩ := h
    rw [r.length]; exact (hs ds _ Q' h).1
  · obtain ⟨w, ds, Q', m, dd, hH, hcl, hex, hz, hv, ok, r, h, k⟩ := h
    refine ⟨liftS K w t, hb cdv A outer sh H E p w m dd hcl (by rw [hcl]; exact hex) (by rw [hcl]; exact hz) hv hr, startD N ds, w, _, hH, ⟨Kp.refl w, RE.start r, ok, rfl, rfl⟩, (hs ds _ Q' h).2, ?_⟩
    exact { nx := fun ρ' w' σ' q b a => k .non w' .non q b rfl, rt := k, bk := fun _ _ _ q => q.elim, ct := fun _ _ _ q => q.elim }
structure FndH (P : Program) (w : World) (K : PySem.W.Frag) (mg : Str → Option Value) (base : Heap) (cl : Str → Addr) (k : Nat) (x : Str) (st : Stmt) (ps : List Str) (s : DSp) : Prop where
  ex : ∃ f fd, FunD K x x (defArgs st) (defBody st) (defScope st) [] [] f fd ∧ FnHp P w K mg base CX0 k f fd ps (upH K cl s) ∧ mg x = some (.ref f) ∧ Binds K fd ps []
end
section
variable {X : Cx} {c : Wd} {e : Expr} {es : List Expr} {tl : DA} {pos q : Pos} {x : Str} {st : Stmt} {ps : List Str} {s : DSp} {k : Nat}
theorem pd_callH {cl : Str → Addr} (hcl : c.cl = cl) {a : Addr} {oe : Obj} {m : Str} {dd : Addr} (hex : c.ex = some (a, c.cl m, dd)) (hp : (a, oe) ∈ X.pn) (hh : X.A.handled = some (.ref a)) (hz : L2N.Zn (.ref (c.cl m)) (some dd) oe) (hv : ∃ vs, oe.data = .fields vs)
    (G : FndH X.prog X.w X.K X.mg X.base cl k x st ps s) (hr : RoomH k X.A) (ha : PDA c X (e :: es) tl) (hg : Gl X x := by rfl) (hdb : (x == ("__debug__" : Str)) = false := by decide)
    (he : starEach (e :: es) X.env = (false, eval e X.env) :: starEach es X.env := by rfl) (hpl : (backTo pos (starEach es X.env)).any (·.1) = false := by rfl) : PD c X (.Call (.Name x q) (e :: es) [] pos) (dCall s DX0 tl) := by
  obtain ⟨f, fd, F, G, hm, hb⟩ := G.ex
  refine ⟨fun pins sh σ H Q I ⟨ρ, w, Q', hH, a0, h, k⟩ => ?_⟩
  refine wpAny_Call_Name_kw (ld_glob I hg hm ?_ hdb)
  have h1 : liftA X.K c tl σ H (fun vs H1 => upH X.K cl s (a, oe) vs H1 Q E0) := ⟨ρ, w, _, hH, a0, h, fun ds w1 vs q b r => ⟨w1, ds, Q', m, dd, rfl, by rw [b.kp.cl, a0.kp.cl, hcl], by rw [b.kp.ex, a0.kp.ex, hex, hcl], by rw [← hcl]; exact hz, hv, b.ok, r, q, k.back b⟩⟩
  refine PySem.W.callWith_K (h₀ := X.base) I.ok.mod.kin F.kp (thn (ha.run pos pins sh σ H _ I h1) fun us s1 ⟨vs, H1, I1, r, q⟩ => ⟨I1.kIn, ?_⟩) he hpl
  have hl : us.length = ps.length := by rw [← r.length]; exact G.len _ _ _ _ _ q
  have b := hb s1 us I1.kIn (by rw [List.append_nil]; exact hl)
  rw [List.append_nil] at b
  have P1 := I1.pin (a, oe) (List.mem_append_left _ hp)
  have hpin : PinOk X.stack H1 s1 (a, oe) := ⟨P1.1, P1.2.1, fun hm => (List.mem_cons.mp (I1.stkSub a hm)).elim P1.2.2.1 P1.2.2.2.1, P1.2.2.2.2⟩
  have hot : Hot1 X.A (a, oe) := by
    obtain ⟨vs, e⟩ := hv
    exact ⟨hh, vs, e, hz.2.2 vs e⟩
  refine wpAny_call (codeAny_mono (G.run X.A X.stack s1 H1 ⟨us, []⟩ us vs Q E0 (a, oe) hr hot hpin I1.env0 b r q) fun r s' hq => ?_)
  cases r with
  | error e => exact (show False from hq).elim
  | ok fl =>
    cases fl with
    | ret u => exact I1.after hq
    | next => exact False.elim hq
    | brk => exact False.elim hq
    | cont => exact False.elim hq
end
end DL
/-! The data layer, part k: a lambda without parameters, handed to a def that calls it. -/
namespace DL
open PySem PySem.Spec PyProof.Rows L2 LamX
/-- the context of the lambda's body -/
def lamN (X : Cx) (A : Around) (outer : List Env) (s : Shared) (H : Hp) (E : XK) (scope : Scope) (f c' : Addr) : Cx :=
  (lamCx X A outer s H E scope f c').wish fun e s' => wpAny (model X.prog X.w) (A.deeper (lamEnv X scope s.heap.objs.size f c')) (leaving (lamEnv X scope s.heap.objs.size f c') e) (fun _ s'' => L2N.CX X.prog X.w outer H s E e s'') (fun e' s'' => L2N.CX X.prog X.w outer H s E e' s'') s'
section
variable {X : Cx} {pins : List (Addr × Obj)} {σ : L2.St} {H : Hp} {s : Shared}
theorem pe_actN {CXg : CXT} {Eg : XK} {Ng : List Str} {qg : Str} {sg : Scope} {g f c' : Addr} {cdg pm ctv : Value} {params : Arguments} {body : Expr} {scope : Scope} {k i : Nat} {a : Str} {pn : List (Addr × Obj)} {xe : Value → Shared → Prop} {W : WX} {E : XK} {tb : TE} {p1 p2 : Pos}
    (I : Inv X pins σ H s) (L : LamS X.env.scope scope) (hf : s.heap.get? f = some (PySem.W.kla_obj "<lambda>" (X.env.qual ++ "<lambda>") params body scope (cloFrom X.env.cells scope.names []) pm c' ctv)) (hfn : H f = none) (hfr : f ∉ frs X.stack)
    (hbind : bindArgs (PySem.W.kla_fn "<lambda>" (X.env.qual ++ "<lambda>") params body scope (cloFrom X.env.cells scope.names []) pm (.ref c') ctv) ⟨[], []⟩ = pure [])
    (tk : L2N.Takes ((cxOf CXg X.prog X.w X.K X.mg X.base Ng qg sg g cdg X.A X.stack s H Eg).tr pn xe) W) (hW : ∀ cls d σ' H', E cls d H' → W cls d σ' H') (hr : Room (k + 1) (X.A.deeper (envOfC qg sg s.heap.objs.size g cdg)))
    (hbody : ∀ (A : Around) (outer : List Env) (s : Shared) (H : Hp), Room k (A.deeper (lamEnv X scope s.heap.objs.size f c')) → PE (lamN X A outer s H E scope f c') body tb)
    (hN : Ng[i]? = some a) (hv : Vis sg a) (hd : (a == ("__debug__" : Str)) = false) (hcd : (a == ("__classdict__" : Str)) = false) :
    PE ((cxOf CXg X.prog X.w X.K X.mg X.base Ng qg sg g cdg X.A X.stack s H Eg).tr pn xe) (.Call (.Name a p1) [] [] p2)
      (fun σZ HZ Q => σZ[i]? = some (some (.ref f)) ∧ HZ c' = some (CodeO c' (X.env.qual ++ "<lambda>")) ∧ tb σ HZ Q) := by
  refine ⟨fun pinsZ sZ σZ HZ Q IZ h => ?_⟩
  obtain ⟨hs, hc, ht⟩ := h
  refine wpAny_Call_Name_kw (thn ((pe_var (pos := p1) (i := i) hN hv hd hcd).run pinsZ sZ σZ HZ (fun v H1 => v = .ref f ∧ H1 = HZ) IZ ⟨.ref f, hs, rfl, rfl⟩) fun u s1 ⟨v, H1, I1, r1, q1⟩ => ?_)
  obtain ⟨ev, eH⟩ := q1
  subst ev
  rw [eH] at I1
  obtain rfl : u = Value.ref f := r1
  have of1 : s1.heap.get? f = some (PySem.W.kla_obj "<lambda>" (X.env.qual ++ "<lambda>") params body scope (cloFrom X.env.cells scope.names []) pm c' ctv) := I1.base.keep f _ hf hfn hfr (fun z => nomatch (show f ∈ ([] : List Addr) from z))
  refine PySem.W.callWith_F0 ⟨_, _, _, _, of1⟩ ?_
  obtain ⟨⟨oc, vs, t, hoc, hdc, hvc⟩, _, _⟩ := I1.hok c' _ hc
  have rc : codeAny (model X.prog X.w) (X.A.deeper (envOfC qg sg s.heap.objs.size g cdg)) (.call (.ref f) ⟨[], []⟩) (CR (L2N.CX X.prog X.w) (envOfC qg sg s.heap.objs.size g cdg :: X.stack) X.prog X.w HZ s1 Q E) s1 := by
    refine PySem.W.kla_callFunE hr.depth of1 rfl L.co L.gen rfl ⟨c', oc, vs, t, rfl, hoc, hdc, hvc⟩ ?_
    rw [hbind]
    refine wpAny_pure (wpAny_newFunctionEnv (fun y hy => (L.own y hy).2) (fun y hy => absurd hy (by simp)) (fun h₁ hns hsb => ⟨I1.nolimit.fresh _ hsb, ?_⟩) L.kind)
    show codeAny _ _ (.expr body (lamEnv X scope s1.heap.objs.size f c')) _ _
    have kp : ∀ b o, s1.heap.get? b = some o → h₁.get? b = some o := fun b o e => hsb.extBut b o (Nat.ne_of_lt (Heap.lt_size e)) (Heap.get?_push_of_some _ e)
    have J0 := lam_start2 (A := X.A.deeper (envOfC qg sg s.heap.objs.size g cdg)) (outer := envOfC qg sg s.heap.objs.size g cdg :: X.stack) (s1 := s1) (HZ := HZ) (E := E) (scope := scope) (f := f) (c' := c') (tk := s1.toks + ([] : List (Str × Value)).length) I L I1.env0 hr.hd I1.base hns kp
    have J : Inv (lamN X (X.A.deeper (envOfC qg sg s.heap.objs.size g cdg)) (envOfC qg sg s.heap.objs.size g cdg :: X.stack) s1 HZ E scope f c') [] σ HZ { s1 with heap := h₁, toks := s1.toks + ([] : List (Str × Value)).length } := J0.wish _
    refine PySem.W.kla_codeExpr (wpAny_mono ((hbody _ _ s1 HZ (hr.deeper _)).run [] _ _ HZ Q J ht) (fun v s' hq => ?_) fun e s' hq => hq)
    obtain ⟨w', H', J', rv, q⟩ := hq
    exact ⟨w', H', J'.os, J'.bare, J'.base, J'.hok, rv, q⟩
  refine wpAny_call (codeAny_mono rc fun r s' hq => ?_)
  cases r with
  | error e => exact L2N.passes_call tk hW pinsZ σZ HZ s1 e s' I1 hq
  | ok fl =>
    cases fl with
    | ret u => exact I1.after hq
    | next => exact False.elim hq
    | brk => exact False.elim hq
    | cont => exact False.elim hq
end
/-! ### over data -/
theorem tkL {X : Cx} {A : Around} {outer : List Env} {s : Shared} {H : Hp} {E : XK} {scope : Scope} {f c' : Addr} {c : Wd} {E' : DXK} (h : WvX X.K c E' E) : Tk c (lamN X A outer s H E scope f c') E' := by
  refine L2N.Takes.imp (L2N.takes_of (E := E) rfl rfl rfl rfl) fun cls d σ H q => ?_
  obtain ⟨n, fs, w', dd, vs, rfl, rfl, rfl, b, fr, hx, r, e⟩ := q
  exact h n fs w' dd vs e b fr hx r
/-- what the lambda does, as the def that got it sees it -/
abbrev DAct := DXK → Mu → DK → Prop
@[simp] def dAct (f : Addr) (tl : DAct) (E : DXK) : DE := fun ρ M Q => ρ[0]? = some (some (.ref f)) ∧ tl E M Q
@[simp] def dLam (TT : DAct → Mu → DK → Prop) (tL : DXK → DE) : DE := fun ρ M Q => TT (fun E M' Q' => tL E ρ M' Q') M Q
section
variable {X : Cx} {c : Wd} {cl : Str → Addr} {tb : List (Addr × Str)} {x a : Str} {st : Stmt} {g cc Pt : Addr} {fd : FuncData} {Ng : List Str} {k : Nat} {params : Arguments} {body : Expr} {scope : Scope} {tL : DXK → DE} {tG : Addr → DAct → DS} {TT : DAct → Mu → DK → Prop} {p lpos pos : Pos}
theorem pd_lam (hcc : Cc cl tb c) (htb : (Pt, X.env.qual ++ "<lambda>") ∈ tb) (hu : ∀ p ∈ tb, p.1 = Pt → p.2 = X.env.qual ++ "<lambda>") (F : FunD X.K x x (defArgs st) (defBody st) (defScope st) [] [] g fd) (hm : X.mg x = some (.ref g)) (hb : L2.Binds X.K fd [a] []) (Sg : FnScope Ng [a] (defScope st))
    (hG : ∀ (cdv : Value) (s : Shared) (H : Hp) (f : Addr) (cg : Wd) (tl : DAct), Cc cl tb cg → Room (k + 1) (X.A.deeper (envOfC x (defScope st) s.heap.objs.size g cdv)) →
      (∀ (cb : Wd) (E' : DXK) (pn : List (Addr × Obj)) (xe : Value → Shared → Prop) (p1 p2 : Pos), Cc cl tb cb → Kp cg cb → Tk cb ((cxOf CX0 X.prog X.w X.K X.mg X.base Ng x (defScope st) g cdv X.A X.stack s H E0).tr pn xe) E' →
        PD cb ((cxOf CX0 X.prog X.w X.K X.mg X.base Ng x (defScope st) g cdv X.A X.stack s H E0).tr pn xe) (.Call (.Name a p1) [] [] p2) (dAct f tl E')) →
      PDSs cg (cxOf CX0 X.prog X.w X.K X.mg X.base Ng x (defScope st) g cdv X.A X.stack s H E0) (defBody st) (tG f tl))
    (hT : ∀ f tl M Q, TT tl M Q → tG f tl { nx := fun _ M' => Q .non M', rt := Q } (startD Ng [.ref f]) M)
    (TB : TabB X.base X.mg cc Pt) (hcode : X.env.code = .ref cc) (hr : Room (k + 2) X.A) (L : LamS X.env.scope scope)
    (hbody : ∀ (A : Around) (outer : List Env) (s : Shared) (H : Hp) (E : XK) (f c' : Addr) (cL : Wd) (E' : DXK), Cc cl tb cL → Tk cL (lamN X A outer s H E scope f c') E' → Room k (A.deeper (lamEnv X scope s.heap.objs.size f c')) → PD cL (lamN X A outer s H E scope f c') body (tL E'))
    (hdef : defaultsOf params X.env = ([], []) := by rfl) (hbind : ∀ (q : Str) (cl : List (Str × Addr)) (pm cv ctv : Value), bindArgs (PySem.W.kla_fn "<lambda>" q params body scope cl pm cv ctv) ⟨[], []⟩ = pure [] := by intros; rfl)
    (hg : Gl X x := by rfl) (hNg : Ng[0]? = some a := by rfl) (hva : Vis (defScope st) a := by first | exact Or.inl rfl | exact Or.inr (Or.inl rfl) | exact Or.inr (Or.inr rfl)) (hdb : (x == ("__debug__" : Str)) = false := by decide) (hd : (a == ("__debug__" : Str)) = false := by decide) (hcd : (a == ("__classdict__" : Str)) = false := by decide) :
    PD c X (.Call (.Name x p) [.Lambda params body scope lpos] [] pos) (dLam TT tL) := by
  refine ⟨fun pins s σ H Q I ⟨ρ, w, Q', hH, at0, h, kw⟩ => ?_⟩
  subst hH
  obtain ⟨oc, od, dV, kV, doc, pm, an, cdv, ct, osl, rfl, lk, hcg, _, _⟩ := F.ex
  refine wpAny_Call_Name_kw (ld_glob I hg hm ?_ hdb)
  refine PySem.W.callWith_K (h₀ := X.base) I.ok.mod.kin F.kp ?_ (by rfl) (by rfl)
  show wpAny _ _ (spliced ((false, eval (.Lambda params body scope lpos) X.env) :: backTo pos (starEach [] X.env))) _ _ s
  have tbw : w.tb = tb := at0.kp.tb.trans hcc.tb
  refine Calls.spliced_cons (lam_make2 (T := w.tb) I TB hcode (by rw [tbw]; exact htb) (by rw [tbw]; exact hu) at0.ok.tabs hdef (L.has I.ok) fun f c' pm' ctv H1 s' I1 eN T1 hf hfn hfr hco => ?_)
  refine Calls.spliced_nil ⟨I1.kIn, ?_⟩
  -- the world behind
  have kp1 : Kp w (w.at H1) := Kp.of (fun b u hm e n => ⟨hm.at, eN b u e n⟩) (fun r b u e => ⟨e, fun q => by
    obtain ⟨xs, rfl⟩ := at0.ok.ll r b u e
    exact eN b _ q (fun ps z => by cases z)⟩) rfl rfl rfl
  have ok1 : Ok X.K (w.at H1) := ⟨fun b m e => by
      obtain ⟨u, q, n1, _⟩ := at0.ok.plain e
      exact (at0.ok.mo b m e).mono kp1 (by show H1 b = _; rw [eN b u q n1, q]),
    fun b u e => by
      obtain ⟨xs, rfl⟩ := at0.ok.hl b u e
      exact eN b _ (at0.ok.hid b _ e) (fun ps z => by cases z), at0.ok.ap, fun r b u e => by
      obtain ⟨xs, rfl⟩ := at0.ok.ll r b u e
      exact eN b _ (at0.ok.len r b _ e) (fun ps z => by cases z), at0.ok.lap, at0.ok.lfr, at0.ok.hl, at0.ok.ll, T1⟩
  have b1 : Bh X.K w (w.at H1) := ⟨kp1, ok1, rfl, rfl⟩
  have fc' : Fr (w.at H1) c' := by
    have hco' : (w.at H1).H c' = some (.ext _) := hco
    refine ⟨?_, ?_, fun r => ?_⟩
    · cases e : (w.at H1).M c' with
      | none => rfl
      | some m =>
        obtain ⟨u, q, _, n2⟩ := ok1.plain e
        rw [hco'] at q
        exact absurd (Option.some.inj q).symm (n2 _)
    · cases e : (w.at H1).hd c' with
      | none => rfl
      | some u =>
        obtain ⟨xs, rfl⟩ := ok1.hl c' u e
        have q := ok1.hid c' _ e
        rw [hco'] at q; cases q
    · cases e : (w.at H1).ln r c' with
      | none => rfl
      | some u =>
        obtain ⟨xs, rfl⟩ := ok1.ll r c' u e
        have q := ok1.len r c' _ e
        rw [hco'] at q; cases q
  have at1 := at0.next b1
  have w1cc : Cc cl tb (w.at H1) := hcc.sc (at0.kp.trans kp1).sc
  have rc : codeAny (model X.prog X.w) X.A (.call (.ref g) ⟨[.ref f], []⟩) (CR CX0 X.stack X.prog X.w H1 s' Q E0) s' := by
    refine run_ofS (k := k + 1) (N := Ng) (ps := [a]) (us := [.ref f]) (vs := [.ref f]) lk hcg Sg hr I1.env0 (hb s' [.ref f] I1.kIn rfl) (.cons rfl .nil) rfl fun hr' => ?_
    refine ⟨_, hG cdv s' H1 f (w.at H1) (fun E M' Q' => tL E ρ M' Q') w1cc hr' (fun cb E' pn xe p1 p2 bcc bkp btk => ?_), ?_⟩
    · -- the call of the lambda
      have act := pe_actN (E := XKof X.K cb E') (tb := fun σ H Q => ∃ cL : Wd, Cc cl tb cL ∧ Bh X.K cb cL ∧ lift X.K cL (tL E') σ H Q) (p1 := p1) (p2 := p2) (i := 0) I1 L hf hfn hfr (hbind _ _ _ _ _) btk (fun _ _ _ _ h => h) hr'
        (fun A outer s2 H2 hr2 => ⟨fun pins2 s3 σ3 H3 Q3 I3 ⟨cL, e1, e3, q⟩ => (hbody A outer s2 H2 _ f c' cL E' e1 (tkL fun n fs w' dd vs ee b' fr hx r => ⟨n, fs, w', dd, vs, by rw [e3.kp.cl], rfl, rfl, e3.trans b', fr, hx, r, ee⟩) hr2).run pins2 s3 σ3 H3 Q3 I3 q⟩) hNg hva hd hcd
      refine PE_imp act fun σZ HZ QZ ⟨ρZ, wZ, QZ', hHZ, aZ, ⟨h0, hq⟩, kZ⟩ => ?_
      subst hHZ
      have kpZ : Kp (w.at H1) wZ := bkp.trans aZ.kp
      obtain ⟨v0, e0, r0⟩ := aZ.re.2 0 _ h0
      obtain rfl : v0 = .ref f := r0
      refine ⟨e0, ?_, wZ, bcc.sc aZ.kp.sc, aZ.bh, ρ, wZ, QZ', rfl, ⟨Kp.refl _, at1.re.mono kpZ, aZ.ok, rfl, rfl⟩, hq, kZ⟩
      obtain ⟨_, u, q1, q2⟩ := kpZ.fr c' _ fc' hco (fun ps z => by cases (show HO.ext _ = HO.tbl ps from z))
      rw [q1, unl_ext (φ := _) (show unl u = .ext _ from q2)]
      rfl
    · exact ⟨startD Ng [.ref f], w.at H1, _, rfl, ⟨Kp.refl _, RE.start ⟨_, _, rfl, rfl, rfl⟩, ok1, rfl, rfl⟩, hT f _ _ Q' h, { nx := fun ρ' w' σ' q b a => (kw.back b1) .non w' .non q b rfl, rt := kw.back b1, bk := fun _ _ _ q => q.elim, ct := fun _ _ _ q => q.elim }⟩
  refine wpAny_call (codeAny_mono rc fun r s2 hq => ?_)
  cases r with
  | error e => exact (show False from hq).elim
  | ok fl =>
    cases fl with
    | ret u => exact I1.after hq
    | next => exact False.elim hq
    | brk => exact False.elim hq
    | cont => exact False.elim hq
end
end DL
/-! The data layer, part g: built-in functions, methods of texts, ranges, enumerate, zip. -/
namespace DL
open PySem L2
section
variable {X : Cx} {c : Wd} {e o : Expr} {es : List Expr} {te ta tb to' : DE} {tl : DA} {pos p apos : Pos}
@[simp] def lenD : DC := fun ds M Q => match ds with
  | [.lst _ xs] => Q (.int xs.length) M
  | [.tup xs] => Q (.int xs.length) M
  | [.cst xs] => Q (.int xs.length) M
  | [.str z] => z.length ≤ 100000 ∧ Q (.int z.length) M
  | [.ref a] => (match M a with | some (.lst xs) => Q (.int xs.length) M | _ => False)
  | _ => False
theorem one_of {K : PySem.W.Frag} {w : Wd} {d : D} {vs : List V} (r : RpL K w [d] vs) : ∃ v, vs = [v] ∧ Rp K w d v := by
  obtain ⟨x, q, rfl, r1, r2⟩ := r
  obtain rfl : q = [] := r2
  exact ⟨x, rfl, r1⟩
theorem two_of {K : PySem.W.Frag} {w : Wd} {d e : D} {vs : List V} (r : RpL K w [d, e] vs) : ∃ v u, vs = [v, u] ∧ Rp K w d v ∧ Rp K w e u := by
  obtain ⟨x, q, rfl, r1, r2⟩ := r
  obtain ⟨u, rfl, r3⟩ := one_of r2
  exact ⟨x, u, rfl, r1, r3⟩
theorem len_D : CallD X (.builtin "len") lenD := by
  intro pins s σ H vs us Q I rs ⟨w, ds, Q', hH, ok, r, h, k⟩
  subst hH
  match ds, r, h with
  | [d], r, h =>
    obtain ⟨v, rfl, r1⟩ := one_of r
    cases d with
    | lst t xs => obtain ⟨a, ys, rfl, l, s1⟩ := r1; exact call_len pins s σ _ _ us Q I rs ⟨_, ys.length, rfl, .inl ⟨ys, l.sq, rfl⟩, by rw [s1.length]; exact k.here ok h rfl⟩
    | tup xs => obtain ⟨a, ys, rfl, l, s1⟩ := r1; exact call_len pins s σ _ _ us Q I rs ⟨_, ys.length, rfl, .inr ⟨ys, l.sq, rfl⟩, by rw [s1.length]; exact k.here ok h rfl⟩
    | cst xs => obtain ⟨a, ys, rfl, l, s1⟩ := r1; exact call_len pins s σ _ _ us Q I rs ⟨_, ys.length, rfl, .inr ⟨ys, l _, rfl⟩, by rw [s1.length]; exact k.here ok h rfl⟩
    | str z => obtain rfl : v = .str z := r1; exact call_len pins s σ _ _ us Q I rs ⟨_, z.length, rfl, ⟨sz h.1, rfl⟩, k.here ok h.2 rfl⟩
    | ref a =>
      obtain rfl : v = .ref a := r1
      cases em : w.M a with
      | none => simp only [lenD, em] at h
      | some m =>
        cases m with
        | lst xs =>
          simp only [lenD, em] at h
          obtain ⟨ys, hx, s1⟩ := (show ∃ ys, w.H a = some (.lst ys) ∧ RpL X.K w xs ys from ok.mo a _ em)
          exact call_len pins s σ _ _ us Q I rs ⟨_, ys.length, rfl, .inl ⟨ys, SqL.of hx, rfl⟩, by rw [s1.length]; exact k.here ok h rfl⟩
        | _ => simp only [lenD, em] at h
    | _ => exact False.elim h
  | [], r, h => exact False.elim h
  | d :: _ :: _, r, h => cases d <;> exact False.elim h
@[simp] def intD : DC := fun ds M Q => match ds with
  | [.int i] => Q (.int i) M
  | [.bl b] => Q (.int (if b then 1 else 0)) M
  | [.str a] => a.length ≤ 640 ∧ ∃ n, PySem.intText? a = some n ∧ Q (.int n) M
  | _ => False
theorem int_D : CallD X (.type "int") intD := by
  intro pins s σ H vs us Q I rs ⟨w, ds, Q', hH, ok, r, h, k⟩
  subst hH
  match ds, r, h with
  | [d], r, h =>
    obtain ⟨v, rfl, r1⟩ := one_of r
    cases d with
    | int i => obtain rfl : v = .int i := r1; exact call_int1 pins s σ _ _ us Q I rs (.inl ⟨i, rfl, k.here ok h rfl⟩)
    | bl b => obtain rfl : v = .bl b := r1; exact call_int1 pins s σ _ _ us Q I rs (.inr ⟨b, rfl, k.here ok h rfl⟩)
    | str a => obtain rfl : v = .str a := r1; obtain ⟨hl, n, hn, h⟩ := h; exact call_int_str pins s σ _ _ us Q I rs ⟨a, n, rfl, hn, hl, k.here ok h rfl⟩
    | _ => exact False.elim h
  | [], r, h => exact False.elim h
  | d :: _ :: _, r, h => cases d <;> exact False.elim h
@[simp] def tupD : DC := fun ds M Q => match ds with
  | [.lst _ xs] => Q (.tup xs) M
  | [.tup xs] => Q (.tup xs) M
  | _ => False
theorem tup_D : CallD X (.type "tuple") tupD := by
  intro pins s σ H vs us Q I rs ⟨w, ds, Q', hH, ok, r, h, k⟩
  subst hH
  match ds, r, h with
  | [d], r, h =>
    obtain ⟨v, rfl, r1⟩ := one_of r
    cases d with
    | lst t xs => obtain ⟨a, ys, rfl, l, s1⟩ := r1; exact call_tuple_of pins s σ _ _ us Q I rs ⟨a, ys, rfl, .inl ⟨l.sq, fun q hq => k.new ok hq h (rp_tup ok hq s1)⟩⟩
    | tup xs => obtain ⟨a, ys, rfl, l, s1⟩ := r1; exact call_tuple_of pins s σ _ _ us Q I rs ⟨a, ys, rfl, .inr ⟨l.sq, k.here ok h ⟨a, ys, rfl, l, s1⟩⟩⟩
    | _ => exact False.elim h
  | [], r, h => exact False.elim h
  | d :: _ :: _, r, h => cases d <;> exact False.elim h
@[simp] def lstD : DC := fun ds M Q => match ds with
  | [.lst _ xs] => Q (.lst 0 xs) M
  | [.tup xs] => Q (.lst 0 xs) M
  | [.ref a] => (match M a with | some (.lst xs) => Q (.lst 0 xs) M | _ => False)
  | _ => False
theorem lst_D : CallD X (.type "list") lstD := by
  intro pins s σ H vs us Q I rs ⟨w, ds, Q', hH, ok, r, h, k⟩
  subst hH
  match ds, r, h with
  | [d], r, h =>
    obtain ⟨v, rfl, r1⟩ := one_of r
    cases d with
    | lst t xs => obtain ⟨a, ys, rfl, l, s1⟩ := r1; exact call_list_of pins s σ _ _ us Q I rs ⟨a, ys, rfl, .inl l.sq, fun q hq => k.new ok hq h (rp_lst ok hq s1)⟩
    | tup xs => obtain ⟨a, ys, rfl, l, s1⟩ := r1; exact call_list_of pins s σ _ _ us Q I rs ⟨a, ys, rfl, .inr l.sq, fun q hq => k.new ok hq h (rp_lst ok hq s1)⟩
    | ref a =>
      obtain rfl : v = .ref a := r1
      cases em : w.M a with
      | none => simp only [lstD, em] at h
      | some m =>
        cases m with
        | lst xs =>
          simp only [lstD, em] at h
          obtain ⟨ys, hx, s1⟩ := (show ∃ ys, w.H a = some (.lst ys) ∧ RpL X.K w xs ys from ok.mo a _ em)
          exact call_list_of pins s σ _ _ us Q I rs ⟨a, ys, rfl, .inl (SqL.of hx), fun q hq => k.new ok hq h (rp_lst ok hq s1)⟩
        | _ => simp only [lstD, em] at h
    | _ => exact False.elim h
  | [], r, h => exact False.elim h
  | d :: _ :: _, r, h => cases d <;> exact False.elim h
theorem bls_of {K : PySem.W.Frag} {w : Wd} : ∀ {bs : List Bool} {vs : List V}, RpL K w (bs.map D.bl) vs → vs = bs.map V.bl
  | [], vs, r => r
  | b :: bs, vs, r => by
    obtain ⟨x, q, rfl, r1, r2⟩ := r
    rw [bls_of r2, show x = V.bl b from r1]; rfl
@[simp] def allD : DC := fun ds M Q => match ds with
  | [.lst _ xs] => ∃ bs : List Bool, xs = bs.map D.bl ∧ Q (.bl (bs.all id)) M
  | _ => False
theorem all_D (hc : X.calm = true) : CallD X (.builtin "all") allD := by
  intro pins s σ H vs us Q I rs ⟨w, ds, Q', hH, ok, r, h, k⟩
  subst hH
  match ds, r, h with
  | [d], r, h =>
    obtain ⟨v, rfl, r1⟩ := one_of r
    cases d with
    | lst t xs => obtain ⟨a, ys, rfl, l, s1⟩ := r1; obtain ⟨bs, rfl, h⟩ := h; exact cr_all hc pins s σ _ _ us Q I rs ⟨a, bs, rfl, by rw [← bls_of s1]; exact l.sq, k.here ok h rfl⟩
    | _ => exact False.elim h
  | [], r, h => exact False.elim h
  | d :: _ :: _, r, h => cases d <;> exact False.elim h
/-! ### isinstance, built-in classes -/
def tyN : D → Option String
  | .non => some "NoneType"
  | .bl _ => some "bool"
  | .int _ => some "int"
  | .str _ => some "str"
  | .lst _ _ => some "list"
  | .tup _ => some "tuple"
  | .dct _ => some "dict"
  | _ => none
def isA (a b : String) : Bool := a == b || (a == "bool" && b == "int")
theorem kit_all : ∀ a ∈ tyNames, ∀ b ∈ tyNames, kitB a b = some (isA a b) := by decide +kernel
def inst (d : D) (n : String) : Bool := match tyN d with | some a => isA a n | none => false
theorem tyN_mem {d : D} {a : String} (h : tyN d = some a) : a ∈ tyNames := by
  cases d <;> simp only [tyN] at h <;> first | (cases h; done) | (obtain rfl := Option.some.inj h; decide)
theorem kit_D {pins : List (Addr × Obj)} {s : Shared} {σ : St} {w : Wd} {d : D} {v : V} {u : Value} {a : String} (I : Inv X pins σ w.H s) (h : tyN d = some a) (r : Rp X.K w d v) (rx : RelV v u) :
    ∃ P : Heap → Prop, PySem.W.KitX X.K u (.type a) P ∧ P s.heap ∧ u ≠ .builtin "__main__.__loader__#opaque" := by
  cases d with
  | non => obtain rfl : v = .non := r; cases h; exact kit_of I rx (.base .non)
  | bl b => obtain rfl : v = .bl b := r; cases h; exact kit_of I rx (.base (.bl b))
  | int b => obtain rfl : v = .int b := r; cases h; exact kit_of I rx (.base (.int b))
  | str b => obtain rfl : v = .str b := r; cases h; exact kit_of I rx (.base (.str b))
  | lst t xs => obtain ⟨p, ys, rfl, l, _⟩ := r; cases h; exact kit_of I rx (.base (.lst l.1))
  | tup xs =>
    obtain ⟨p, ys, rfl, l, _⟩ := r
    cases h
    rcases l with l | l
    · exact kit_of I rx (.base (.tup l.2))
    · rcases l.2 (fun _ => none) with z | ⟨o, its, n, hk, hc, _⟩
      · rcases z with z | ⟨_, z⟩ <;> cases z
      · exact kit_of I rx (.kTuple hk hc)
  | dct kvs =>
    obtain ⟨p, rfl, hm, hl⟩ := r
    cases h
    rcases hl with ⟨_, ks, ⟨u', e, q⟩, _⟩ | ⟨ks, ⟨u', e, q⟩, _⟩
    · unfold unl at q
      split at q
      · cases q; exact kit_of I rx (.fDict e)
      · cases q
      · subst q; exact kit_of I rx (.base (.dK e))
    · unfold unl at q
      split at q
      · cases q
      · cases q
        rename_i ob
        cases (show u = Value.ref p from rx)
        obtain ⟨_, _, _, xs, _, o, es, ep, h1, h2, _⟩ := (show ObjOk X.prog X.w w.H s.heap p (.frz ob (.dT ks)) from I.hok p _ e)
        exact ⟨_, PySem.W.kitx_dict, ⟨o, h1, h2.1⟩, fun z => nomatch z⟩
      · subst q; exact kit_of I rx (.base (.dT e))
  | _ => cases h
def tysOf : List D → Option (List String)
  | [] => some []
  | .ty n :: r => (tysOf r).map (n :: ·)
  | _ => none
@[simp] def isiD : DC := fun ds M Q => match ds with
  | [x, .ty n] => ((tyN x).isSome = true ∧ n ∈ tyNames) ∧ Q (.bl (inst x n)) M
  | [x, .tup cs] => (match tysOf cs with | some ns => ((tyN x).isSome = true ∧ (∀ n ∈ ns, n ∈ tyNames)) ∧ Q (.bl (ns.any (inst x))) M | none => False)
  | _ => False
theorem tys_vals {K : PySem.W.Frag} {w : Wd} : ∀ {cs : List D} {ns : List String} {vs : List V} {us : List Value}, tysOf cs = some ns → RpL K w cs vs → Vals vs us → us = ns.map Value.type
  | [], ns, vs, us, h, r, q => by
    obtain rfl : vs = [] := r
    cases h; cases q; rfl
  | .ty n :: cs, ns, vs, us, h, r, q => by
    obtain ⟨x, r', rfl, r1, r2⟩ := r
    obtain rfl : x = .ty n := r1
    cases e : tysOf cs with
    | none => simp only [tysOf, e] at h; cases h
    | some ms =>
      simp only [tysOf, e, Option.map_some] at h
      cases h
      cases q with
      | cons q1 q2 =>
        rw [tys_vals e r2 q2]
        cases (show _ = Value.type n from q1)
        rfl
  | .non :: _, _, _, _, h, _, _ => by cases h
  | .bl _ :: _, _, _, _, h, _, _ => by cases h
  | .int _ :: _, _, _, _, h, _, _ => by cases h
  | .str _ :: _, _, _, _, h, _, _ => by cases h
  | .lst _ _ :: _, _, _, _, h, _, _ => by cases h
  | .exc _ _ :: _, _, _, _, h, _, _ => by cases h
  | .cls _ :: _, _, _, _, h, _, _ => by cases h
  | .tup _ :: _, _, _, _, h, _, _ => by cases h
  | .dct _ :: _, _, _, _, h, _, _ => by cases h
  | .obj _ _ :: _, _, _, _, h, _, _ => by cases h
  | .ref _ :: _, _, _, _, h, _, _ => by cases h
  | .scr _ :: _, _, _, _, h, _, _ => by cases h
theorem kit_any {K : PySem.W.Frag} {a : String} (ha : a ∈ tyNames) : ∀ {ns : List String}, (∀ n ∈ ns, n ∈ tyNames) → PySem.W.kitAny K (.type a) (ns.map Value.type) = some (ns.any fun n => isA a n)
  | [], _ => rfl
  | n :: ns, h => by
    refine kitAny_cons (b := isA a n) (kit_ty (kit_all a ha n (h n List.mem_cons_self))) (fun e => ?_) (fun e => ?_)
    · rw [List.any_cons, e, Bool.false_or]; exact kit_any ha fun m hm => h m (List.mem_cons_of_mem _ hm)
    · rw [List.any_cons, e, Bool.true_or]
theorem isi_D : CallD X (.builtin "isinstance") isiD := by
  intro pins s σ H vs us Q I rs ⟨w, ds, Q', hH, ok, r, h, k⟩
  subst hH
  match ds, r, h with
  | [d, t], r, h =>
    obtain ⟨v, v2, rfl, r1, r2⟩ := two_of r
    obtain ⟨u1, u2, rfl, q1, q2⟩ := vals2 rs
    cases t with
    | ty n =>
      obtain rfl : v2 = .ty n := r2
      cases (show u2 = Value.type n from q2)
      obtain ⟨⟨h1, h2⟩, h⟩ := h
      obtain ⟨a, ha⟩ := Option.isSome_iff_exists.mp h1
      obtain ⟨P, Z, pz, hx⟩ := kit_D I ha r1 q1
      refine PySem.W.kia_one (b := isA a n) Z I.kIn pz (kit_ty (kit_all a (tyN_mem ha) n h2)) hx fun tk => ⟨.bl _, _, I.tok tk, rfl, ?_⟩
      have : inst d n = isA a n := by unfold inst; rw [ha]
      rw [← this]; exact k.here ok h rfl
    | tup cs =>
      obtain ⟨tp, xs, rfl, l, s1⟩ := r2
      cases (show u2 = Value.ref tp from q2)
      cases e : tysOf cs with
      | none => simp only [isiD, e] at h
      | some ns =>
        simp only [isiD, e] at h
        obtain ⟨⟨h1, h2⟩, h⟩ := h
        obtain ⟨a, ha⟩ := Option.isSome_iff_exists.mp h1
        obtain ⟨P, Z, pz, hx⟩ := kit_D I ha r1 q1
        obtain ⟨its, rv, ⟨oo, g1, g2, n, g3⟩, hz⟩ := I.tuple l.sq
        have e3 := tys_vals e s1 rv
        subst e3
        obtain ⟨oc, od, dt, sl⟩ := oo
        simp only at g2 g3
        subst g2 g3
        refine PySem.W.kia_tup (b := ns.any fun n => isA a n) Z I.kIn pz g1 (kit_any (tyN_mem ha) h2) hx fun tk => ⟨.bl _, _, I.tok tk, rfl, ?_⟩
        have : (fun n => isA a n) = inst d := by funext n; unfold inst; rw [ha]
        rw [this]; exact k.here ok h rfl
    | _ => exact False.elim h
  | [], r, h => exact False.elim h
  | [_], r, h => exact False.elim h
  | _ :: t :: _ :: _, r, h => cases t <;> exact False.elim h
theorem pd_ty {x : Str} {n : String} (hm : X.mg x = none) (hv : bootBuiltins x = some (.type n)) (hg : Gl X x := by rfl) (hn : x ≠ "__name__" := by decide) (hd : (x == ("__debug__" : Str)) = false := by decide) : PD c X (.Name x pos) (dC (.ty n)) :=
  pd_of (pe_bltn hg hm hv (v := .ty n) rfl hn hd) fun _ => rfl

/-! ### methods of texts with one argument -/
/-! ### ranges, enumerate, zip -/
def rngD (lo : Int) (n : Nat) : List D := (List.range n).map fun (i : Nat) => .int (lo + i)
@[simp] def dRng1 (ta : DA) : DI := fun ρ M Q => ta ρ M fun ds M1 => match ds with | [.int j] => (-100000 ≤ j ∧ j ≤ 100000) ∧ Q (rngD 0 j.toNat) M1 | _ => False
theorem pdi_range1 {tg : Expr} (hm : X.mg "range" = none) (ha : PDA c X [e] tl) (hg : Gl X "range" := by rfl) (hs : starEach [e] X.env = [(false, eval e X.env)] := by rfl) : PDI c X tg (.Call (.Name "range" p) [e] [] pos) (dRng1 tl) :=
  PI_imp (pi_range1 hg hm ha hs) fun σ H R ⟨ρ, w, Q', hH, a, h, k⟩ => ⟨ρ, w, _, hH, a, h, fun ds w1 vs q b r => by
    match ds, r, q with
    | [d], r, q =>
      obtain ⟨v, rfl, r1⟩ := one_of r
      cases d with
      | int j => obtain rfl : v = .int j := r1; exact ⟨j, rfl, by omega, by omega, k _ w1 _ q.2 b isIt_r⟩
      | _ => exact q.elim
    | [], r, q => exact False.elim q
    | d :: _ :: _, r, q => cases d <;> exact False.elim q⟩
def zipD (xs ys : List D) : List D := (xs.zip ys).map fun p => .tup [p.1, p.2]
theorem zip_at {xs ys : List D} {i : Nat} {d : D} (h : (zipD xs ys)[i]? = some d) : ∃ x y, xs[i]? = some x ∧ ys[i]? = some y ∧ d = .tup [x, y] := by
  unfold zipD at h
  rw [List.getElem?_map] at h
  cases e : (xs.zip ys)[i]? with
  | none => rw [e] at h; cases h
  | some q =>
    rw [e] at h
    obtain ⟨h1, h2⟩ := List.getElem?_zip_eq_some.mp e
    exact ⟨q.1, q.2, h1, h2, (Option.some.inj h).symm⟩
theorem isIt_zl {K : PySem.W.Frag} {w : Wd} {ds es : List D} {t t2 : Nat} {a b : Addr} {xs ys : List V} (h : LsAt w t a xs) (h2 : LsAt w t2 b ys) (r : RpL K w ds xs) (r2 : RpL K w es ys) : IsIt K w (zipD ds es) (Itz K a b) := fun w' k ok => by
  have ha := k.lst h
  have hb := k.lst h2
  have r' := r.mono k
  have r2' := r2.mono k
  have hl := r'.length
  have hl2 := r2'.length
  refine ⟨fun i d e => ?_, ⟨xs, ys, ha.sq, hb.sq, ?_⟩⟩
  · obtain ⟨x, y, e1, e2, rfl⟩ := zip_at e
    obtain ⟨v, f1, q1⟩ := r'.at e1
    obtain ⟨u, f2, q2⟩ := r2'.at e2
    refine ⟨⟨xs, ys, v, u, ha.sq, hb.sq, f1, f2⟩, fun z H'' yl => ?_⟩
    obtain ⟨T, v', u', rfl, hT, rfl, y1, y2⟩ := yl
    have z1 := y1 xs ha.sq
    have z2 := y2 ys hb.sq
    rw [f1] at z1; rw [f2] at z2
    cases z1; cases z2
    exact ⟨Bh.new ok hT, rp_tup ok hT ⟨v, [u], rfl, q1, u, [], rfl, q2, rfl⟩⟩
  · unfold zipD
    rw [List.length_map, List.length_zip]; omega
theorem isIt_zt {K : PySem.W.Frag} {w : Wd} {ds es : List D} {a b : Addr} {xs ys : List V} (h : TuAt K w a xs) (h2 : TuAt K w b ys) (r : RpL K w ds xs) (r2 : RpL K w es ys) : IsIt K w (zipD ds es) (RZ.ItzT K a b) := fun w' k ok => by
  have ha := k.tup h
  have hb := k.tup h2
  have r' := r.mono k
  have r2' := r2.mono k
  have hl := r'.length
  have hl2 := r2'.length
  refine ⟨fun i d e => ?_, ⟨xs, ys, ha.sq, hb.sq, ?_⟩⟩
  · obtain ⟨x, y, e1, e2, rfl⟩ := zip_at e
    obtain ⟨v, f1, q1⟩ := r'.at e1
    obtain ⟨u, f2, q2⟩ := r2'.at e2
    refine ⟨⟨xs, ys, v, u, ha.sq, hb.sq, f1, f2⟩, fun z H'' yl => ?_⟩
    obtain ⟨T, v', u', rfl, hT, rfl, y1, y2⟩ := yl
    have z1 := y1 xs ha.sq
    have z2 := y2 ys hb.sq
    rw [f1] at z1; rw [f2] at z2
    cases z1; cases z2
    exact ⟨Bh.new ok hT, rp_tup ok hT ⟨v, [u], rfl, q1, u, [], rfl, q2, rfl⟩⟩
  · unfold zipD
    rw [List.length_map, List.length_zip]; omega
@[simp] def dZip (ta : DA) : DI := fun ρ M Q => ta ρ M fun ds M1 => match ds with
  | [.lst _ xs, .lst _ ys] => Q (zipD xs ys) M1
  | [.tup xs, .tup ys] => Q (zipD xs ys) M1
  | _ => False
theorem pdi_zip {e2 : Expr} {elts : List Expr} {kk : Nat} {tpos : Pos} (hm : X.mg "zip" = none) (ha : PDA c X [e, e2] tl) (hg : Gl X "zip" := by rfl) (hs : starEach [e, e2] X.env = (false, eval e X.env) :: starEach [e2] X.env := by rfl) (hpl : (backTo pos (starEach [e2] X.env)).any (·.1) = false := by rfl) :
    PDI c X (.Tuple elts kk tpos) (.Call (.Name "zip" p) [e, e2] [] pos) (dZip tl) :=
  PI_imp (RZ.pi_zipA hg hm ha hs hpl) fun σ H R ⟨ρ, w, Q', hH, a, h, k⟩ => ⟨ρ, w, _, hH, a, h, fun ds w1 vs q b r => by
    match ds, r, q with
    | [d, d2], r, q =>
      obtain ⟨v, u, rfl, r1, r2⟩ := two_of r
      cases d with
      | lst t xs => cases d2 with
        | lst ys =>
          obtain ⟨pa, as, rfl, l1, s1⟩ := r1
          obtain ⟨pb, bs, rfl, l2, s2⟩ := r2
          exact ⟨pa, pb, as, bs, rfl, .inl ⟨l1.sq, l2.sq, k _ w1 _ q b (isIt_zl l1 l2 s1 s2)⟩⟩
        | _ => exact q.elim
      | tup xs => cases d2 with
        | tup ys =>
          obtain ⟨pa, as, rfl, l1, s1⟩ := r1
          obtain ⟨pb, bs, rfl, l2, s2⟩ := r2
          exact ⟨pa, pb, as, bs, rfl, .inr ⟨l1.sq, l2.sq, k _ w1 _ q b (isIt_zt l1 l2 s1 s2)⟩⟩
        | _ => exact q.elim
      | _ => exact q.elim
    | [], r, q => exact False.elim q
    | [d], r, q => cases d <;> exact False.elim q
    | d :: d2 :: _ :: _, r, q => cases d <;> cases d2 <;> exact False.elim q⟩
def enumD (i : Nat) : List D → List D
  | [] => []
  | x :: xs => .tup [.int i, x] :: enumD (i + 1) xs
theorem enum_at : ∀ {xs : List D} {j i : Nat} {d : D}, (enumD j xs)[i]? = some d → ∃ x, xs[i]? = some x ∧ d = .tup [.int ((j + i : Nat)), x]
  | [], j, i, d, h => by simp [enumD] at h
  | x :: xs, j, 0, d, h => by
    simp only [enumD, List.getElem?_cons_zero, Option.some.injEq] at h
    exact ⟨x, rfl, h.symm⟩
  | x :: xs, j, i + 1, d, h => by
    simp only [enumD, List.getElem?_cons_succ] at h
    obtain ⟨y, h1, h2⟩ := enum_at (j := j + 1) h
    exact ⟨y, by simpa using h1, by rw [h2]; congr 3; omega⟩
theorem enum_len : ∀ (xs : List D) (j : Nat), (enumD j xs).length = xs.length
  | [], _ => rfl
  | x :: xs, j => by simp [enumD, enum_len xs]
theorem isIt_en {K : PySem.W.Frag} {w : Wd} {ds : List D} {t : Nat} {a : Addr} {xs : List V} (h : LsAt w t a xs) (r : RpL K w ds xs) : IsIt K w (enumD 0 ds) (Ite K a) := fun w' k ok => by
  have ha := k.lst h
  have r' := r.mono k
  have hl := r'.length
  refine ⟨fun i d e => ?_, ⟨xs, ha.sq, by rw [enum_len]; omega⟩⟩
  obtain ⟨x, e1, rfl⟩ := enum_at e
  obtain ⟨v, f1, q1⟩ := r'.at e1
  refine ⟨⟨xs, v, ha.sq, f1⟩, fun z H'' yl => ?_⟩
  obtain ⟨T, v', rfl, hT, rfl, y1⟩ := yl
  have z1 := y1 xs ha.sq
  rw [f1] at z1
  cases z1
  refine ⟨Bh.new ok hT, rp_tup ok hT ⟨.int (i : Nat), [v], rfl, ?_, v, [], rfl, q1, rfl⟩⟩
  show V.int _ = V.int _
  rw [Nat.zero_add]
end
end DL
/-! The data layer, part h: owned lists, a law's bag and its draws. -/
namespace DL
open PySem L2
def setM (M : Mu) (a : Addr) (m : MO) : Mu := fun b => if b = a then some m else M b
theorem setM_same {M : Mu} {a : Addr} {m : MO} : setM M a m a = some m := by unfold setM; rw [if_pos rfl]
theorem setM_ne {M : Mu} {a b : Addr} {m : MO} (h : b ≠ a) : setM M a m b = M b := by unfold setM; rw [if_neg h]
theorem setM_set {M : Mu} {a : Addr} {m n : MO} : setM (setM M a m) a n = setM M a n := by funext b; unfold setM; split <;> rfl
section
variable {K : PySem.W.Frag} {w : Wd} {a : Addr} {m : MO} {u : HO}
/-- an owned object changes -/
theorem Bh.own {m' : MO} (ok : Ok K w) (h : w.M a = some m) (hm : ∀ w', w'.H a = some u → Kp w w' → MOk K w' a m') : Bh K w { w with M := setM w.M a m', H := upd w.H a u } := by
  have hd := ok.ap a m h
  have hln : ∀ r b v, w.ln r b = some v → b ≠ a := fun r b v e z => by subst z; rw [(ok.lap r b v e).1] at h; cases h
  have kp : Kp w { w with M := setM w.M a m', H := upd w.H a u } := Kp.of (fun b v hf e _ => by
    have hne : b ≠ a := fun z => by subst z; have := hf.m; rw [h] at this; cases this
    exact ⟨⟨by show setM w.M a m' b = none; rw [setM_ne hne]; exact hf.m, hf.h, hf.l⟩, by show upd w.H a u b = _; rw [upd_ne hne]; exact e⟩) (fun r b v e => ⟨e, fun q => by show upd w.H a u b = _; rw [upd_ne (hln r b v e)]; exact q⟩) rfl rfl rfl
  obtain ⟨u0, e0, n1, n2⟩ := ok.plain h
  refine ⟨kp, ⟨fun b n e => ?_, fun b v e => ?_, fun b n e => ?_, fun r b v e => ?_, fun r b v e => ⟨?_, (ok.lap r b v e).2⟩, ok.lfr, ok.hl, ok.ll, tabs_upd ok.tabs e0 n1 n2⟩, rfl, rfl⟩
  · by_cases hb : b = a
    · subst hb
      have : m' = n := by have := (setM_same (M := w.M) (a := b) (m := m')).symm.trans e; exact Option.some.inj this
      subst this
      exact hm _ upd_same kp
    · have e' : w.M b = some n := by rw [← e]; exact (setM_ne hb).symm
      exact (ok.mo b n e').mono kp (by show upd w.H a u b = _; rw [upd_ne hb])
  · have hne : b ≠ a := fun z => by subst z; have e' : w.hd b = some v := e; rw [hd] at e'; cases e'
    show upd w.H a u b = _; rw [upd_ne hne]; exact ok.hid b v e
  · by_cases hb : b = a
    · subst hb; exact hd
    · have e' : w.M b = some n := by rw [← e]; exact (setM_ne hb).symm
      exact ok.ap b n e'
  · show upd w.H a u b = _; rw [upd_ne (hln r b v e)]; exact ok.len r b v e
  · show setM w.M a m' b = none; rw [setM_ne (hln r b v e)]; exact (ok.lap r b v e).1
/-- a new owned object -/
theorem Bh.newOwn {m' : MO} (ok : Ok K w) (h : w.H a = none) (hm : ∀ w', w'.H a = some u → Kp w w' → MOk K w' a m') : Bh K w { w with M := setM w.M a m', H := upd w.H a u } := by
  have hf := ok.fresh h
  have hln : ∀ r b v, w.ln r b = some v → b ≠ a := fun r b v e z => by subst z; rw [ok.len r b v e] at h; cases h
  have kp : Kp w { w with M := setM w.M a m', H := upd w.H a u } := Kp.of (fun b v hf e _ => by
    have hne : b ≠ a := ne_of_none e h
    exact ⟨⟨by show setM w.M a m' b = none; rw [setM_ne hne]; exact hf.m, hf.h, hf.l⟩, by show upd w.H a u b = _; rw [upd_ne hne]; exact e⟩) (fun r b v e => ⟨e, fun q => by show upd w.H a u b = _; rw [upd_ne (hln r b v e)]; exact q⟩) rfl rfl rfl
  refine ⟨kp, ⟨fun b n e => ?_, fun b v e => ?_, fun b n e => ?_, fun r b v e => ?_, fun r b v e => ⟨?_, (ok.lap r b v e).2⟩, ok.lfr, ok.hl, ok.ll, ok.tabs.ext fun b v q => by show upd w.H a u b = _; rw [upd_ne (ne_of_none q h)]; exact q⟩, rfl, rfl⟩
  · by_cases hb : b = a
    · subst hb
      have : m' = n := by have := (setM_same (M := w.M) (a := b) (m := m')).symm.trans e; exact Option.some.inj this
      subst this
      exact hm _ upd_same kp
    · have e' : w.M b = some n := by rw [← e]; exact (setM_ne hb).symm
      exact (ok.mo b n e').mono kp (by show upd w.H a u b = _; rw [upd_ne hb])
  · have hne : b ≠ a := fun z => by subst z; have e' : w.hd b = some v := e; rw [hf.h] at e'; cases e'
    show upd w.H a u b = _; rw [upd_ne hne]; exact ok.hid b v e
  · by_cases hb : b = a
    · subst hb; exact hf.h
    · have e' : w.M b = some n := by rw [← e]; exact (setM_ne hb).symm
      exact ok.ap b n e'
  · show upd w.H a u b = _; rw [upd_ne (hln r b v e)]; exact ok.len r b v e
  · show setM w.M a m' b = none; rw [setM_ne (hln r b v e)]; exact (ok.lap r b v e).1
end
theorem RpL.set {K : PySem.W.Frag} {w : Wd} {d : D} {v : V} (h : Rp K w d v) : ∀ {ds : List D} {vs : List V} (j : Nat), RpL K w ds vs → RpL K w (ds.set j d) (vs.set j v)
  | [], vs, j, r => by obtain rfl : vs = [] := r; exact rfl
  | e :: ds, vs, 0, r => by
    obtain ⟨x, q, rfl, r1, r2⟩ := r
    exact ⟨v, q, rfl, h, r2⟩
  | e :: ds, vs, j + 1, r => by
    obtain ⟨x, q, rfl, r1, r2⟩ := r
    exact ⟨x, q.set j v, rfl, r1, RpL.set h j r2⟩
section
variable {X : Cx} {c : Wd} {e o i : Expr} {es : List Expr} {te ta tb to' : DE} {tl : DA} {pos p apos : Pos} {vs : List Nat}
/-- [..]: a list that stays owned -/
@[simp] def dLstO (t : DA) : DE := fun ρ M Q => t ρ M fun ds M1 => ds.length ≤ 100000 ∧ ∀ a, M1 a = none → Q (.ref a) (setM M1 a (.lst ds))
theorem pd_lstO (h : PDA c X es tl) : PD c X (.List es pos) (dLstO tl) := PE_imp (pe_lst h) fun σ H Q ⟨ρ, w, Q', hH, a, h, k⟩ =>
  ⟨ρ, w, _, hH, a, h, fun ds w1 us q b1 r => ⟨sz (by rw [r.length]; exact q.1), fun p hp => k (.ref p) { w1 with M := setM w1.M p (.lst ds), H := upd w1.H p (.lst us) } (.ref p) (q.2 p (b1.ok.fresh hp).m)
    (b1.trans (Bh.newOwn b1.ok hp fun w' e k' => ⟨us, e, r.mono k'⟩)) rfl⟩⟩
theorem ints_of {K : PySem.W.Frag} {w : Wd} : ∀ {bs : List Int} {vs : List V}, RpL K w (bs.map D.int) vs → vs = bs.map V.int
  | [], vs, r => r
  | b :: bs, vs, r => by
    obtain ⟨x, q, rfl, r1, r2⟩ := r
    rw [ints_of r2, show x = V.int b from r1]; rfl
/-- [cells, 0, 0, mark, 0]: a bag of five items -/
@[simp] def dBag5 (t : DA) : DE := fun ρ M Q => t ρ M fun ds M1 => (∃ (cs : List Int) (i r m n : Int), ds = [.lst 0 (cs.map D.int), .int i, .int r, .int m, .int n] ∧ cs.length ≤ 63 ∧ 0 ≤ i ∧ 0 ≤ r ∧ 0 ≤ m ∧ m < 4294967296) ∧ ∀ a, M1 a = none → Q (.ref a) (setM M1 a (.bg 1))
theorem bag_of5 {K : PySem.W.Frag} {w : Wd} {a : Addr} {cs : List Int} {i r m n : Int} {us : List V} (e : w.H a = some (.lst us)) (h : RpL K w [.lst 0 (cs.map D.int), .int i, .int r, .int m, .int n] us) (hl : cs.length ≤ 63) (hi : 0 ≤ i) (hr : 0 ≤ r ∧ 0 ≤ m ∧ m < 4294967296) : BagAt w a 1 := by
  obtain ⟨v1, q1, rfl, r1, v2, q2, rfl, r2, v3, q3, rfl, r3, v4, q4, rfl, r4, v5, q5, rfl, r5, r6⟩ := h
  obtain ⟨cp, xs, rfl, l, s1⟩ := r1
  obtain rfl : v2 = .int i := r2
  obtain rfl : v3 = .int r := r3
  obtain rfl : v4 = .int m := r4
  obtain rfl : v5 = .int n := r5
  obtain rfl : q5 = [] := r6
  exact ⟨cp, cs, i, r, m, [n], e, by rw [← ints_of s1]; exact l, hl, hi, rfl, fun _ => hr⟩
theorem pd_bag5 (h : PDA c X es tl) : PD c X (.List es pos) (dBag5 tl) := PE_imp (pe_lst h) fun σ H Q ⟨ρ, w, Q', hH, a, h, k⟩ =>
  ⟨ρ, w, _, hH, a, h, fun ds w1 us q b1 r => by
    obtain ⟨⟨cs, i, rr, m, n, rfl, hl, hi, hr⟩, q⟩ := q
    exact ⟨sz (by rw [r.length]; show 5 ≤ 100000; decide), fun p hp => k (.ref p) { w1 with M := setM w1.M p (.bg 1), H := upd w1.H p (.lst us) } (.ref p) (q p (b1.ok.fresh hp).m)
      (b1.trans (Bh.newOwn b1.ok hp fun w' e k' => bag_of5 e (r.mono k') hl hi hr)) rfl⟩⟩
/-- o[i] = .., an owned list -/
@[simp] def gIx (to ti : DE) : DG := fun d ρ M Q => to ρ M fun x M1 => ti ρ M1 fun y M2 => match x, y with
  | .ref a, .int z => (match M2 a with | some (.lst ds) => (match ixN ds.length z with | some j => Q ρ (setM M2 a (.lst (ds.set j d))) | none => False) | _ => False)
  | _, _ => False
theorem pdg_ix {to ti : DE} (ho : PD c X o to) (hi : PD c X i ti)
    (ha : ∀ v, assign (.Subscript o i pos) X.env v = (do
      let ov ← holding [v] (eval o X.env)
      let iv ← holding [v, ov] (eval i X.env)
      standAt pos
      holding [v, ov, iv] (setItem ov iv v)
      release [v, ov, iv] []) := by intro _; rfl) : PDG c X vs (.Subscript o i pos) (gIx to ti) :=
  PG_imp (pg_sub ho hi set_list ha) fun v σ H Q ⟨d, ρ, w, Q', hH, a, r, h, k⟩ => ⟨ρ, w, _, hH, a, h, fun x w1 vx q b1 r1 => ⟨ρ, w1, _, rfl, a.next b1, q, fun y w2 vy q2 b2 r2 => by
    cases x with
    | ref ad =>
      cases y with
      | int z =>
        obtain rfl : vx = .ref ad := r1
        obtain rfl : vy = .int z := r2
        cases em : w2.M ad with
        | none => simp only [em] at q2
        | some m =>
          cases m with
          | lst ds =>
            simp only [em] at q2
            cases ej : ixN ds.length z with
            | none => simp only [ej] at q2
            | some j =>
              simp only [ej] at q2
              obtain ⟨xs, hx, s1⟩ := (show ∃ xs, w2.H ad = some (.lst xs) ∧ RpL X.K w2 ds xs from b2.ok.mo ad _ em)
              have b3 : Bh X.K w2 { w2 with M := setM w2.M ad (.lst (ds.set j d)), H := upd w2.H ad (.lst (xs.set j v)) } := Bh.own b2.ok em fun w' e k' => ⟨_, e, RpL.set (((r.mono b1.kp).mono b2.kp).mono k') j (s1.mono k')⟩
              exact ⟨ad, xs, z, j, rfl, rfl, hx, by rw [s1.length]; exact ej, k ρ { w2 with M := setM w2.M ad (.lst (ds.set j d)), H := upd w2.H ad (.lst (xs.set j v)) } σ q2 ((b1.trans b2).trans b3) (((a.next b1).next b2).next b3) (Ag.refl _ _)⟩
          | _ => simp only [em] at q2
      | _ => exact q2.elim
    | _ => exact q2.elim⟩⟩
/-- a, b = e1, e2 (two names) -/
theorem pds_par {x y : Str} {j l : Nat} {px py tp vp : Pos} {x1 x2 : Nat} {e1 e2 : Expr} (hN : X.N.Nodup) (ha : PDA c X [e1, e2] tl) (h : PS X (.Assign [.Tuple [.Name x px, .Name y py] x1 tp] (.Tuple [e1, e2] x2 vp) pos) (tPar j l (liftA X.K c tl))) :
    PDS c X (.Assign [.Tuple [.Name x px, .Name y py] x1 tp] (.Tuple [e1, e2] x2 vp) pos) (dPar j l tl) := PS_imp h fun D σ H ⟨ρ, w, D', hH, a, h, k⟩ => ⟨ρ, w, _, hH, a, h, fun ds w1 us q b r => by
    match ds, r, q with
    | [d1, d2], r, q =>
      obtain ⟨v1, v2, rfl, r1, r2⟩ := two_of r
      exact ⟨v1, v2, rfl, k.nx _ w1 _ q b (((a.next b).set r1).set r2)⟩
    | [], r, q => exact False.elim q
    | [_], r, q => exact False.elim q
    | _ :: _ :: _ :: _, r, q => exact False.elim q⟩
end

/-! ### the bag, opened for its own def alone -/
/-- a promise that speaks of the bag as an owned list gives one that keeps it shut -/
theorem open_bag5 {K : PySem.W.Frag} {cl : Str → Addr} {tb : List (Addr × Str)} {s' s : DSp} {vs : List V} {H : Hp} {Q : VK} {E : XK}
    (hs : ∀ ds M Q' E', s ds M Q' E' → ∃ b, M b = some (.bg 1) ∧ ∀ (cs : List Int) (i r m n : Int), cs.length ≤ 63 → 0 ≤ i → 0 ≤ r → 0 ≤ m → m < 4294967296 →
      s' ds (setM M b (.lst [.lst 0 (cs.map D.int), .int i, .int r, .int m, .int n])) (fun d M' => (∃ (i' r' m' n' : Int), 0 ≤ i' ∧ (0 ≤ r' ∧ 0 ≤ m' ∧ m' < 4294967296) ∧ M' = setM M b (.lst [.lst 0 (cs.map D.int), .int i', .int r', .int m', .int n'])) ∧ Q' d M) DX0)
    (h : upX K cl tb s vs H Q E) : upX K cl tb s' vs H Q E := by
  obtain ⟨w, ds, Q', E', hH, hcc, ok, r, h, k, kx⟩ := h
  obtain ⟨b, hb, hs⟩ := hs ds _ _ _ h
  obtain ⟨cp, cs, i, rr, m, tl, e, l, hl, hi, htl, hk⟩ := (show BagAt w b 1 from ok.mo b _ hb)
  obtain ⟨hr0, hm0, hm1⟩ := hk (by decide)
  obtain ⟨n, rfl⟩ := List.length_eq_one_iff.mp htl
  have hs := hs cs i rr m n hl hi hr0 hm0 hm1
  let D0 : List D := [.lst 0 (cs.map D.int), .int i, .int rr, .int m, .int n]
  let w' : Wd := { w with M := setM w.M b (.lst D0) }
  have fr : ∀ x, Fr w x ↔ Fr w' x := fun x => by
    by_cases hx : x = b
    · subst hx
      constructor
      · intro z; have := z.m; rw [hb] at this; cases this
      · intro z; have := z.m; rw [show w'.M x = some (.lst D0) from setM_same] at this; cases this
    · exact ⟨fun z => ⟨(setM_ne hx).trans z.m, z.h, z.l⟩, fun z => ⟨(setM_ne hx).symm.trans z.m, z.h, z.l⟩⟩
  have kp : Kp w w' := Kp.of (fun x u hf e _ => ⟨(fr x).mp hf, e⟩) (fun _ _ _ e => ⟨e, id⟩) rfl rfl rfl
  have rD : RpL K w' D0 [.ref cp, .int i, .int rr, .int m, .int n] := ⟨_, _, rfl, ⟨cp, cs.map V.int, rfl, kp.lst l, ints_rp cs⟩, _, _, rfl, rfl, _, _, rfl, rfl, _, _, rfl, rfl, _, _, rfl, rfl, rfl⟩
  have ok' : Ok K w' := ⟨fun x mo q => by
      by_cases hx : x = b
      · subst hx
        have : mo = .lst D0 := Option.some.inj (q.symm.trans setM_same)
        subst this
        exact ⟨_, e, rD⟩
      · have q' : w.M x = some mo := by rw [← q]; exact (setM_ne hx).symm
        exact (ok.mo x mo q').mono kp rfl, ok.hid, fun x mo q => by
      by_cases hx : x = b
      · subst hx; exact ok.ap x _ hb
      · have q' : w.M x = some mo := by rw [← q]; exact (setM_ne hx).symm
        exact ok.ap x mo q', ok.len, fun r x u q => ⟨by
      have hx : x ≠ b := fun z => by subst z; rw [(ok.lap r x u q).1] at hb; cases hb
      exact (setM_ne hx).trans (ok.lap r x u q).1, (ok.lap r x u q).2⟩, ok.lfr, ok.hl, ok.ll, ok.tabs⟩
  refine ⟨w', ds, _, DX0, hH, ⟨hcc.cl, hcc.ex, hcc.tb⟩, ok', r.mono kp, hs, fun d w2 v q b2 rv => ?_, fun _ _ _ _ _ z => z.elim⟩
  obtain ⟨⟨i', r', m', n', hi', hr', hM⟩, q⟩ := q
  -- the bag is shut again
  let w3 : Wd := { w2 with M := w.M }
  have fr3 : ∀ x, Fr w2 x ↔ Fr w3 x := fun x => by
    by_cases hx : x = b
    · subst hx
      constructor
      · intro z; have z1 := z.m; rw [hM, setM_same] at z1; cases z1
      · intro z; have z1 : w.M x = none := z.m; rw [hb] at z1; cases z1
    · have e : w2.M x = w.M x := by rw [hM]; exact setM_ne hx
      exact ⟨fun z => ⟨e.symm.trans z.m, z.h, z.l⟩, fun z => ⟨e.trans z.m, z.h, z.l⟩⟩
  have kp3 : Kp w2 w3 := Kp.of (fun x u hf e _ => ⟨(fr3 x).mp hf, e⟩) (fun _ _ _ e => ⟨e, id⟩) rfl rfl rfl
  have ok3 : Ok K w3 := ⟨fun x mo q => by
      by_cases hx : x = b
      · subst hx
        have : mo = .bg 1 := by have q' : w.M x = some mo := q; rw [hb] at q'; exact (Option.some.inj q').symm
        subst this
        obtain ⟨us, e1, s1⟩ := (show ∃ us, w2.H x = some (.lst us) ∧ RpL K w2 [.lst 0 (cs.map D.int), .int i', .int r', .int m', .int n'] us from b2.ok.mo x (.lst [.lst 0 (cs.map D.int), .int i', .int r', .int m', .int n']) (by rw [hM]; exact setM_same))
        exact bag_of5 (w := w3) e1 (s1.mono kp3) hl hi' hr'
      · have q' : w2.M x = some mo := by rw [hM, setM_ne hx]; exact q
        exact (b2.ok.mo x mo q').mono kp3 rfl, b2.ok.hid, fun x mo q => by
      have z : w2.hd = w.hd := b2.hd
      show w2.hd x = none
      rw [z]; exact ok.ap x mo q, b2.ok.len, fun r x u q => ⟨by
      have z : w2.ln = w.ln := b2.ln
      have q' : w.ln r x = some u := by rw [← z]; exact q
      exact (ok.lap r x u q').1, (b2.ok.lap r x u q).2⟩, b2.ok.lfr, b2.ok.hl, b2.ok.ll, b2.ok.tabs⟩
  exact k d w3 v q ⟨(kp.trans b2.kp).trans kp3, ok3, b2.hd, b2.ln⟩ (rv.mono kp3)
end DL
/-! The data layer, part i: globals, negative numbers, plain lemmas. -/
namespace DL
open PySem L2 LamX
section
variable {X : Cx} {c : Wd} {e : Expr} {te : DE} {pos : Pos} {x : Str}
@[simp] def dNeg (t : DE) : DE := fun ρ M Q => t ρ M fun d M1 => match d with | .int i => Q (.int (-i)) M1 | _ => False
theorem neg_D : UnR X (unaryOp .USub) (fun x H Q => ∃ w d Q', w.H = H ∧ Ok X.K w ∧ Rp X.K w d x ∧ (match d with | .int i => Q' (.int (-i)) w.M | _ => False) ∧ Wv X.K w Q' Q) := by
  intro pins s σ H x v Q I rx ⟨w, d, Q', hH, ok, r, h, k⟩
  subst hH
  cases d with
  | int i => obtain rfl : x = .int i := r; exact un_neg pins s σ _ _ v Q I rx ⟨i, rfl, k.here ok h rfl⟩
  | _ => exact False.elim h
theorem pd_neg (h : PD c X e te) : PD c X (.UnaryOp .USub e pos) (dNeg te) := PE_imp (pe_un neg_D h) fun σ H Q ⟨ρ, w, Q', hH, a, h, k⟩ =>
  ⟨ρ, w, _, hH, a, h, fun d w1 v q b r => ⟨w1, d, Q', rfl, b.ok, r, q, k.back b⟩⟩
end
/-! ### plain data of bounded size -/
def gd : Nat → D → Bool
  | _, .non => true
  | _, .bl _ => true
  | _, .int _ => true
  | _, .str x => PyData.strOk x && decide (x.length ≤ 50000)
  | n + 1, .lst _ xs => decide (xs.length ≤ 50000) && xs.all (gd n)
  | n + 1, .tup xs => decide (xs.length ≤ 50000) && xs.all (gd n)
  | _, _ => false
theorem gd_str {n : Nat} {z : Str} (h : gd n (.str z) = true) : PyData.strOk z = true ∧ z.length ≤ 50000 := by
  cases n <;> simpa [gd] using h
theorem gd_tup {n : Nat} {xs : List D} (h : gd (n + 1) (.tup xs) = true) : xs.length ≤ 50000 ∧ ∀ x ∈ xs, gd n x = true := by
  simpa [gd] using h
theorem gd_lst {n r : Nat} {xs : List D} (h : gd (n + 1) (.lst r xs) = true) : xs.length ≤ 50000 ∧ ∀ x ∈ xs, gd n x = true := by
  simpa [gd] using h
theorem gd_mono : ∀ {n : Nat} {d : D}, gd n d = true → gd (n + 1) d = true
  | n, .non, _ => rfl
  | n, .bl _, _ => rfl
  | n, .int _, _ => rfl
  | n, .str z, h => by cases n <;> simpa [gd] using h
  | 0, .lst _ xs, h => by simp [gd] at h
  | n + 1, .lst _ xs, h => by
    obtain ⟨h1, h2⟩ := gd_lst h
    simp only [gd, Bool.and_eq_true, decide_eq_true_eq, List.all_eq_true]
    exact ⟨h1, fun x hx => gd_mono (h2 x hx)⟩
  | 0, .tup xs, h => by simp [gd] at h
  | n + 1, .tup xs, h => by
    obtain ⟨h1, h2⟩ := gd_tup h
    simp only [gd, Bool.and_eq_true, decide_eq_true_eq, List.all_eq_true]
    exact ⟨h1, fun x hx => gd_mono (h2 x hx)⟩
  | n, .dct _, h => by cases n <;> simp [gd] at h
  | n, .obj _ _, h => by cases n <;> simp [gd] at h
  | n, .ref _, h => by cases n <;> simp [gd] at h
  | n, .ty _, h => by cases n <;> simp [gd] at h
  | n, .scr _, h => by cases n <;> simp [gd] at h
  | n, .exc _ _, h => by cases n <;> simp [gd] at h
  | n, .cls _, h => by cases n <;> simp [gd] at h
  | n, .cst _, h => by cases n <;> simp [gd] at h
theorem gd_le {n m : Nat} {d : D} (h : gd n d = true) (hm : n ≤ m) : gd m d = true := by
  induction hm with
  | refl => exact h
  | step _ ih => exact gd_mono ih
theorem gd_py : ∀ {n : Nat} {d : D}, gd n d = true → pyN n d = true
  | n, .non, _ => by cases n <;> rfl
  | n, .bl _, _ => by cases n <;> rfl
  | n, .int _, _ => by cases n <;> rfl
  | n, .str z, h => by cases n <;> exact (gd_str h).1
  | 0, .lst _ xs, h => by simp [gd] at h
  | n + 1, .lst _ xs, h => by
    obtain ⟨h1, h2⟩ := gd_lst h
    simp only [pyN, List.all_eq_true]
    exact fun x hx => gd_py (h2 x hx)
  | 0, .tup xs, h => by simp [gd] at h
  | n + 1, .tup xs, h => by
    obtain ⟨h1, h2⟩ := gd_tup h
    simp only [pyN, List.all_eq_true]
    exact fun x hx => gd_py (h2 x hx)
  | n, .dct _, h => by cases n <;> simp [gd] at h
  | n, .obj _ _, h => by cases n <;> simp [gd] at h
  | n, .ref _, h => by cases n <;> simp [gd] at h
  | n, .ty _, h => by cases n <;> simp [gd] at h
  | n, .scr _, h => by cases n <;> simp [gd] at h
  | n, .exc _ _, h => by cases n <;> simp [gd] at h
  | n, .cls _, h => by cases n <;> simp [gd] at h
  | n, .cst _, h => by cases n <;> simp [gd] at h
@[simp] theorem eqB_bl (a b : Bool) : eqB (.bl a) (.bl b) = (a == b) := rfl
@[simp] theorem eqB_int (a b : Int) : eqB (.int a) (.int b) = (a == b) := rfl
@[simp] theorem eqB_str (a b : Str) : eqB (.str a) (.str b) = (a == b) := rfl
@[simp] theorem eqOk_bl (a b : Bool) : eqOk (.bl a) (.bl b) = true := rfl
@[simp] theorem eqOk_int (a b : Int) : eqOk (.int a) (.int b) = true := rfl
@[simp] theorem eqOk_str (a b : Str) : eqOk (.str a) (.str b) = true := rfl
/-! ### a law's own promises -/
/-- a number below many is drawn from the bag at b -/
def spDraw : DSp := fun ds M Q _ => ∃ b many, ds = [.ref b, .int many] ∧ M b = some .bag ∧ (0 < many ∧ many < 1073741824) ∧ ∀ n : Int, 0 ≤ n → n < many → Q (.int n) M
def spLaw : DSp := fun ds M Q _ => ∃ ns : List Int, ds = [.scr ns] ∧ ns.length ≤ 63 ∧ M = (fun _ => none) ∧ ∀ M', Q (.bl true) M'
/-- same of two plain data -/
def spSame (n : Nat) : DSp := fun ds M Q _ => ∃ x y, ds = [x, y] ∧ gd n x = true ∧ gd n y = true ∧ ∀ k : Bool, (k = true ↔ py x = py y) → Q (.bl k) M
theorem atI_some {α : Type} {xs : List α} {i : Int} (h0 : 0 ≤ i) (h1 : i < xs.length) : ∃ x, atI xs i = some x ∧ x ∈ xs := by
  unfold atI ixN
  rw [if_pos h0, if_pos h1]
  have h2 : i.toNat < xs.length := by omega
  exact ⟨xs[i.toNat], by simp [h2], List.getElem_mem h2⟩
/-! ### comprehensions, by what their elements are -/
theorem compi_of {α : Type} {g : DG} {te : DE} {ρ : DEnv} {M : Mu} {h f : α → D} : ∀ (l : List α) (acc : List D) (Q : DK), (∀ a ∈ l, ∀ Q : DK, Q (f a) M → g (h a) ρ M fun ρ1 M1 => te ρ1 M1 Q) → acc.length + l.length ≤ 100000 → Q (.lst 0 (acc ++ l.map f)) M → compi g dYes te ρ (l.map h) acc M Q
  | [], acc, Q, _, hl, q => by simpa [compi] using q
  | x :: xs, acc, Q, hh, hl, q => by
    rw [List.map_cons, compi]
    show g (h x) ρ M fun ρ1 M1 => te ρ1 M1 fun d M3 => acc.length < 100000 ∧ compi g dYes te ρ (xs.map h) (acc ++ [d]) M3 Q
    refine hh x List.mem_cons_self _ ⟨by simp at hl; omega, compi_of xs (acc ++ [f x]) Q (fun y hy => hh y (List.mem_cons_of_mem _ hy)) (by simp at hl ⊢; omega) ?_⟩
    simpa using q
/-- each element is some datum with P -/
theorem compi_any {g : DG} {te : DE} {ρ : DEnv} {M : Mu} {P : D → Prop} : ∀ (xs acc : List D) (Q : DK), (∀ x ∈ xs, ∀ Q : DK, (∀ d, P d → Q d M) → g x ρ M fun ρ1 M1 => te ρ1 M1 Q) → acc.length + xs.length ≤ 100000 →
    (∀ ds : List D, ds.length = xs.length → (∀ d ∈ ds, P d) → Q (.lst 0 (acc ++ ds)) M) → compi g dYes te ρ xs acc M Q
  | [], acc, Q, _, hl, q => by simpa [compi] using q [] rfl (by simp)
  | x :: xs, acc, Q, hh, hl, q => by
    rw [compi]
    show g x ρ M fun ρ1 M1 => te ρ1 M1 fun d M3 => acc.length < 100000 ∧ compi g dYes te ρ xs (acc ++ [d]) M3 Q
    refine hh x List.mem_cons_self _ fun d hd => ⟨by simp at hl; omega, compi_any xs (acc ++ [d]) Q (fun y hy => hh y (List.mem_cons_of_mem _ hy)) (by simp at hl ⊢; omega) fun ds h1 h2 => ?_⟩
    have := q (d :: ds) (by simp [h1]) (by simpa using ⟨hd, h2⟩)
    simpa using this
/-- each element is some datum in a relation to its item -/
theorem compi_rel {g : DG} {te : DE} {ρ : DEnv} {M : Mu} {P : D → D → Prop} : ∀ (xs acc : List D) (Q : DK), (∀ x ∈ xs, ∀ Q : DK, (∀ d, P x d → Q d M) → g x ρ M fun ρ1 M1 => te ρ1 M1 Q) → acc.length + xs.length ≤ 100000 →
    (∀ ds : List D, Paired P xs ds → Q (.lst 0 (acc ++ ds)) M) → compi g dYes te ρ xs acc M Q
  | [], acc, Q, _, hl, q => by simpa [compi] using q [] .nil
  | x :: xs, acc, Q, hh, hl, q => by
    rw [compi]
    show g x ρ M fun ρ1 M1 => te ρ1 M1 fun d M3 => acc.length < 100000 ∧ compi g dYes te ρ xs (acc ++ [d]) M3 Q
    refine hh x List.mem_cons_self _ fun d hd => ⟨by simp at hl; omega, compi_rel xs (acc ++ [d]) Q (fun y hy => hh y (List.mem_cons_of_mem _ hy)) (by simp at hl ⊢; omega) fun ds h1 => ?_⟩
    have := q (d :: ds) (.cons hd h1)
    simpa using this
/-- the answers of same, pair by pair -/
theorem same_all : ∀ {xs ys ds : List D}, xs.length = ys.length → Paired (fun z d => ∀ x y, z = .tup [x, y] → ∃ k : Bool, d = .bl k ∧ (k = true ↔ py x = py y)) (zipD xs ys) ds → ∃ bs : List Bool, ds = bs.map D.bl ∧ (bs.all id = true ↔ xs.map py = ys.map py)
  | [], [], ds, _, h => by cases h; exact ⟨[], rfl, by simp⟩
  | [], _ :: _, _, h, _ => by cases h
  | _ :: _, [], _, h, _ => by cases h
  | x :: xs, y :: ys, ds, hl, h => by
    have e : zipD (x :: xs) (y :: ys) = .tup [x, y] :: zipD xs ys := rfl
    rw [e] at h
    cases h with
    | cons h1 h2 =>
      obtain ⟨k, rfl, hk⟩ := h1 x y rfl
      obtain ⟨bs, rfl, hb⟩ := same_all (by simpa using hl) h2
      refine ⟨k :: bs, rfl, ?_⟩
      simp only [List.all_cons, id, Bool.and_eq_true, List.map_cons, List.cons.injEq]
      rw [hk]
      exact and_congr_right fun _ => hb
def spPrev : Nat → DSp
  | 0 => fun _ _ _ _ => False
  | n + 1 => spSame n
/-! ### texts -/
/-! ### statements, one at a time: what an expression gives, then the rest -/
section
variable {t u : DS} {te : DE} {tt : DT} {ti : DI} {g : DG} {E : DEnds} {ρ : DEnv} {M : Mu} {i j : Nat} {v v' : D} {b : Bool} {ds : List D}
theorem x_set (h : ∀ K : DK, K v M → te ρ M K) (k : E.nx (ρ.set i (some v)) M) : dAsg te (gNm i) E ρ M := h _ k
theorem x_if (h : ∀ K : Bool → Mu → Prop, K b M → tt ρ M K) (h1 : b = true → t E ρ M) (h2 : b = false → u E ρ M) : dIfS tt t u E ρ M := h _ (by
  cases b with
  | true => exact iteT (h1 rfl)
  | false => exact iteF (h2 rfl))
theorem x_ret (h : ∀ K : DK, K v M → te ρ M K) (k : E.rt v M) : dRet te E ρ M := h _ k
theorem x_nil {nx : DEnv → Mu → Prop} {rt : DK} {bk ct : DEnv → Mu → Prop} (k : nx ρ M) : fori g t [] { nx := nx, rt := rt, bk := bk, ct := ct } ρ M := k
theorem x_cons {x : D} {xs : List D} (k : g x ρ M fun ρ1 M1 => t { nx := fori g t xs E, rt := E.rt, bk := E.nx, ct := fori g t xs E } ρ1 M1) : fori g t (x :: xs) E ρ M := k
end
/-! ### the same with what stands behind -/
section
variable {t u w' : DS} {te : DE} {tt : DT} {ti : DI} {g : DG} {E : DEnds} {ρ : DEnv} {M : Mu} {i j : Nat} {v v' : D} {b : Bool} {ds : List D}
theorem s_set (h : ∀ K : DK, K v M → te ρ M K) (k : u E (ρ.set i (some v)) M) : dSeq (dAsg te (gNm i)) u E ρ M := h _ k
theorem s_if (h : ∀ K : Bool → Mu → Prop, K b M → tt ρ M K) (h1 : b = true → t { nx := u E, rt := E.rt, bk := E.bk, ct := E.ct } ρ M) (h2 : b = false → w' { nx := u E, rt := E.rt, bk := E.bk, ct := E.ct } ρ M) : dSeq (dIfS tt t w') u E ρ M := x_if h h1 h2
theorem s_ix {a n : Nat} {z : Int} {p : Addr} {xs : List D} (hρ : ρ[a]? = some (some (.ref p))) (hM : M p = some (.lst xs)) (hj : ixN xs.length z = some n) (h : ∀ K : DK, K v M → te ρ M K) (k : u E ρ (setM M p (.lst (xs.set n v)))) : dSeq (dAsg te (gIx (dVar a) (dC (.int z)))) u E ρ M :=
  h _ (by simp only [gIx, dVar, dC, hρ, hM, hj]; exact k)
theorem x_ix {a n : Nat} {z : Int} {p : Addr} {xs : List D} (hρ : ρ[a]? = some (some (.ref p))) (hM : M p = some (.lst xs)) (hj : ixN xs.length z = some n) (h : ∀ K : DK, K v M → te ρ M K) (k : E.nx ρ (setM M p (.lst (xs.set n v)))) : dAsg te (gIx (dVar a) (dC (.int z))) E ρ M :=
  h _ (by simp only [gIx, dVar, dC, hρ, hM, hj]; exact k)
theorem s_next {nx : DEnv → Mu → Prop} {rt : DK} {bk ct : DEnv → Mu → Prop} (k : nx ρ M) : dNext { nx := nx, rt := rt, bk := bk, ct := ct } ρ M := k
end
/-! ### the law's entry, the bag shut, same at each depth -/
theorem law_in {K : PySem.W.Frag} {H : Hp} {a : Addr} {ns : List Int} {cl : Str → Addr} {tb : List (Addr × Str)} (hl : ns.length ≤ 63) (hS : SqL K H a (ns.map V.int)) (hT : Tabs tb H) : ∃ w : Wd, w.H = H ∧ Cc cl tb w ∧ Ok K w ∧ RpL K w [.scr ns] [.ref a] ∧ w.M = fun _ => none := by
  refine ⟨{ hd := fun _ => none, ln := fun _ _ => none, ex := none, cl := cl, tb := tb, M := fun _ => none, H := H }, rfl, ⟨rfl, rfl, rfl⟩, ⟨fun _ _ e => (by cases e), fun _ _ e => (by cases e), fun _ _ e => (by cases e), fun _ _ _ e => (by cases e), fun _ _ _ e => (by cases e), ⟨0, fun _ _ _ => rfl⟩, fun _ _ e => (by cases e), fun _ _ _ e => (by cases e), hT⟩, ⟨.ref a, [], rfl, ⟨a, rfl, ?_⟩, rfl⟩, rfl⟩
  rcases hS with h | h
  · exact .inl ⟨⟨rfl, rfl, fun _ => rfl⟩, h⟩
  · exact .inr fun H' => .inr h
/-- a promise of the bag's own def, opened -/
def spDraw0 : DSp := fun ds M Q _ => ∃ b many, ∃ (cs : List Int) (i r m : Int), ds = [.ref b, .int many] ∧ M b = some (.lst [.lst 0 (cs.map D.int), .int i, .int r, .int m]) ∧ 0 ≤ i ∧ (0 < many ∧ many < 1073741824) ∧
  ∀ n i' r' : Int, 0 ≤ n → n < many → 0 ≤ i' → Q (.int n) (setM M b (.lst [.lst 0 (cs.map D.int), .int i', .int r', .int m]))
/-- a promise that nobody asks for -/
theorem Fnd.no {P : Program} {w : World} {K : PySem.W.Frag} {mg : Str → Option Value} {base : Heap} {cl : Str → Addr} {tb : List (Addr × Str)} {k : Nat} {x : Str} {st : Stmt} {ps : List Str} {f : Addr} {fd : FuncData} (F : FunD K x x (defArgs st) (defBody st) (defScope st) [] [] f fd) (hm : mg x = some (.ref f)) (hb : Binds K fd ps []) : Fnd P w K mg base cl tb k x st ps (spPrev 0) :=
  ⟨f, fd, F, ⟨fun _ _ _ _ ⟨_, _, _, _, _, _, _, _, h, _⟩ => h.elim, fun _ _ _ _ _ _ _ _ _ _ _ _ _ ⟨_, _, _, _, _, _, _, _, h, _⟩ => h.elim⟩, hm, hb⟩
end DL
/-! The data layer, part o: what the head tells of own exceptions, of tuples and dicts of the module. -/
namespace DL
open PySem L2 LamX
theorem oexB_ok {K : PySem.W.Frag} {C : Addr} (h : oexB K C = true) : OexC K C := by
  unfold oexB at h
  obtain ⟨q, h⟩ := He.ba h
  obtain ⟨h1, h⟩ := He.ba h
  obtain ⟨h2, h⟩ := He.ba h
  obtain ⟨h3, h4⟩ := He.ba h
  refine ⟨?_, He.eqO_ok h1, of_decide_eq_true h2, of_decide_eq_true h3, h4⟩
  split at q
  · rename_i dd cd sl ho
    split at q
    · rename_i C' bm k0 k1 k2 k3 n k5 hm hs
      simp only [Bool.and_eq_true, beq_iff_eq, Bool.not_eq_true'] at q
      obtain ⟨⟨⟨⟨rfl, rfl⟩, hdel⟩, hdi⟩, ht⟩ := q
      obtain ⟨nm, bs, mro, ns, qn, hd, sn, sub, ab, col, del⟩ := cd
      dsimp only at hm hdel hdi
      subst hm hdel hdi
      have hsl : sl = #[k0, k1, k2, k3, some (.builtin "ValueError.__new__"), k5] := by
        obtain ⟨l⟩ := sl
        simp only at hs
        rw [hs]
      subst hsl
      exact ⟨nm, qn, ns, bs, bm, sn, sub, ab, col, dd, k0, k1, k2, k3, k5, ho, ht⟩
    · cases q
  · cases q
theorem iniB_ok {K : PySem.W.Frag} {C : Addr} (h : iniB K C = true) : PySem.W.findIn K (.ref C) "__init__" = some (some (.ref (He.ma K C "__init__"))) ∧ PySem.W.typeIn K (.ref (He.ma K C "__init__")) = some (.type "function") := by
  obtain ⟨h1, h2⟩ := He.ba h
  exact ⟨He.eqO_ok h1, of_decide_eq_true h2⟩
theorem noB_ok {K : PySem.W.Frag} {C : Addr} {fs : List Str} (h : noB K C fs = true) {f : Str} (hf : f ∈ fs) : PySem.W.findIn K (.ref C) f = some none := He.eqO_ok (List.all_eq_true.mp h f hf)
/-! ### constants of the module -/
theorem cst_list {K : PySem.W.Frag} {n : Nat} (ih : ∀ u d, cstB K n u d = true → ∃ v, RelV v u ∧ ∀ w, Rp K w d v) : ∀ (us : List Value) (ds : List D), us.length = ds.length → ((us.zip ds).all fun p => cstB K n p.1 p.2) = true → ∃ vs, Vals vs us ∧ ∀ w, RpL K w ds vs
  | [], [], _, _ => ⟨[], .nil, fun _ => rfl⟩
  | [], _ :: _, h, _ => by cases h
  | _ :: _, [], h, _ => by cases h
  | u :: us, d :: ds, hl, h => by
    rw [List.zip_cons_cons, List.all_cons, Bool.and_eq_true] at h
    obtain ⟨v, r, hv⟩ := ih u d h.1
    obtain ⟨vs, rs, hvs⟩ := cst_list ih us ds (by simpa using hl) h.2
    exact ⟨v :: vs, .cons r rs, fun w => ⟨v, vs, rfl, hv w, hvs w⟩⟩
theorem cst_emp {K : PySem.W.Frag} {n : Nat} {u : Value} {ds : List D} (h : cstB K n u (.tup ds) = true) : ∃ v, RelV v u ∧ ∀ w, Rp K w (.tup ds) v := by
  cases ds with
  | cons d ds => cases u <;> cases n <;> exact (Bool.noConfusion (show false = true from h))
  | nil =>
    cases u with
    | ref a =>
      have h : (match K.lookup a with | some ⟨.type c, _, .seq its _, _⟩ => decide (c = "tuple") && decide (its.toList = []) | _ => false) = true := by cases n <;> exact h
      split at h
      · rename_i c od its k osl q
        simp only [Bool.and_eq_true, decide_eq_true_eq] at h
        obtain ⟨rfl, h2⟩ := h
        have hz : its.size ≤ sizeLine := by
          have : its.toList.length = 0 := by rw [h2]; rfl
          rw [Array.length_toList] at this
          omega
        exact ⟨.ref a, rfl, fun w => ⟨a, [], rfl, .inr ⟨rfl, fun H' => .inr ⟨_, its, k, q, rfl, rfl, hz, by rw [h2]; exact .nil⟩⟩, rfl⟩⟩
      · cases h
    | _ => cases n <;> exact (Bool.noConfusion (show false = true from h))
theorem cst_ok {K : PySem.W.Frag} : ∀ (n : Nat) (u : Value) (d : D), cstB K n u d = true → ∃ v, RelV v u ∧ ∀ w, Rp K w d v := by
  have flat : ∀ (n : Nat) (u : Value) (d : D), (∀ ds, d ≠ .tup ds) → (∀ ds, d ≠ .cst ds) → cstB K n u d = true → ∃ v, RelV v u ∧ ∀ w, Rp K w d v := by
    intro n u d hd hc h
    cases d <;> cases u <;> cases n <;> first
      | exact absurd rfl (hd _)
      | exact absurd rfl (hc _)
      | exact ⟨.non, rfl, fun _ => rfl⟩
      | (obtain rfl := beq_iff_eq.mp (show (_ == _) = true from h); exact ⟨.bl _, rfl, fun _ => rfl⟩)
      | (obtain rfl := of_decide_eq_true (show decide _ = true from h); first | exact ⟨.int _, ⟨_, rfl⟩, fun _ => rfl⟩ | exact ⟨.str _, ⟨_, rfl⟩, fun _ => rfl⟩ | exact ⟨.ty _, rfl, fun _ => rfl⟩)
      | exact (Bool.noConfusion (show false = true from h))
  intro n
  induction n with
  | zero =>
    intro u d h
    cases d with
    | tup ds => exact cst_emp h
    | cst ds => cases u <;> exact (Bool.noConfusion (show false = true from h))
    | _ => exact flat 0 u _ (fun _ z => by cases z) (fun _ z => by cases z) h
  | succ n ih =>
    intro u d h
    cases d with
    | tup ds => exact cst_emp h
    | cst ds =>
      cases u with
      | ref a =>
        simp only [cstB] at h
        split at h
        · rename_i c od its k osl q
          simp only [Bool.and_eq_true, decide_eq_true_eq] at h
          obtain ⟨rfl, h2, h3, h4⟩ := h
          obtain ⟨vs, r, hv⟩ := cst_list ih its.toList ds h3 h4
          exact ⟨.ref a, rfl, fun w => ⟨a, vs, rfl, fun H' => .inr ⟨_, its, k, q, rfl, rfl, h2, r⟩, hv w⟩⟩
        · cases h
      | _ => exact (Bool.noConfusion (show false = true from h))
    | _ => exact flat (n + 1) u _ (fun _ z => by cases z) (fun _ z => by cases z) h
/-- a constant of the module -/
def GC (K : PySem.W.Frag) (mg : Str → Option Value) (x : Str) (d : D) : Prop := ∃ u v, mg x = some u ∧ RelV v u ∧ ∀ w, Rp K w d v
theorem gcB_ok {K : PySem.W.Frag} {h : Heap} {mg : Str → Option Value} (X : K.In h) (G : h.Ns mainGlobals mg) {x : Str} {d : D} (c : gcB K x d = true) : GC K mg x d := by
  unfold gcB at c
  split at c
  · rename_i u q
    obtain ⟨v, r, hv⟩ := cst_ok 6 u d c
    exact ⟨u, v, PySem.W.mg_of X G q, r, hv⟩
  · cases c
theorem pd_globC {X : Cx} {c : Wd} {x : Str} {pos : Pos} {d : D} (h : GC X.K X.mg x d) (hg : Gl X x := by rfl) (hdb : (x == ("__debug__" : Str)) = false := by decide) : PD c X (.Name x pos) (dC d) := by
  obtain ⟨u, v, hm, r, hv⟩ := h
  exact pd_glob hg hm r hv hdb
end DL
/-! The data layer, part p: dicts of the module with text keys. -/
namespace DL
open PySem L2 LamX
/-- at the name x stands a written dict with these keys and data -/
structure KTab (K : PySem.W.Frag) (w : World) (mg : Str → Option Value) (x : Str) (kvs : List (Str × D)) : Prop where
  ex : ∃ a es n, mg x = some (.ref a) ∧ KDict K w a es n ∧ (∀ z, kvs.lookup z = none → PySem.W.nsIn K a z = some none) ∧ ∀ z d, kvs.lookup z = some d → ∃ u v, PySem.W.nsIn K a z = some (some u) ∧ RelV v u ∧ ∀ w, Rp K w d v
theorem find_none : ∀ {l : List DictEntry} {P : Params} {ks : List Str} {z : Str}, l.map He.keyOf = He.keysIn P ks → z ∉ ks → l.find? (·.key.isStr z) = none ∧ l.any (·.refKey) = false
  | [], _, _, _, _, _ => ⟨rfl, rfl⟩
  | e :: r, _, [], _, h, _ => by cases h
  | e :: r, P, k :: ks, z, h, hz => by
    have h1 : He.keyOf e :: r.map He.keyOf = some (k, PyData.keyHash P k) :: He.keysIn P ks := h
    injection h1 with h2 h3
    obtain ⟨i1, i2⟩ := find_none h3 (fun q => hz (List.mem_cons_of_mem _ q))
    unfold He.keyOf at h2
    split at h2
    · rename_i x t q
      obtain ⟨h5, h6⟩ := Prod.mk.inj (Option.some.inj h2)
      subst h5
      have hne : ¬ x = z := fun e => hz (by rw [← e]; exact List.mem_cons_self)
      have e1 : e.key.isStr z = false := by rw [q]; simp [Value.isStr, hne]
      have e2 : e.refKey = false := by unfold DictEntry.refKey; rw [q]
      exact ⟨by rw [List.find?_cons, e1]; exact i1, by rw [List.any_cons, e2, i2]; rfl⟩
    · cases h2
theorem lookup_none_mem {kvs : List (Str × D)} {z : Str} (h : kvs.lookup z = none) : z ∉ kvs.map (·.1) := by
  induction kvs with
  | nil => simp
  | cons p r ih =>
    rw [List.lookup] at h
    cases e : z == p.1 with
    | true => rw [e] at h; cases h
    | false =>
      rw [e] at h
      simp only [List.map_cons, List.mem_cons, not_or]
      exact ⟨by simpa using e, ih h⟩
theorem lookup_mem {kvs : List (Str × D)} {z : Str} {d : D} (h : kvs.lookup z = some d) : (z, d) ∈ kvs := by
  induction kvs with
  | nil => cases h
  | cons p r ih =>
    obtain ⟨k, e⟩ := p
    rw [List.lookup] at h
    cases q : z == k with
    | true => rw [q] at h; cases h; rw [beq_iff_eq.mp q]; exact List.mem_cons_self
    | false => rw [q] at h; exact List.mem_cons_of_mem _ (ih h)
theorem kt_ok {K : PySem.W.Frag} {w : World} {mg : Str → Option Value} {x : Str} {a : Addr} {kvs : List (Str × D)} (hm : mg x = some (.ref a)) (h : He.dicW K a = some (He.keysIn w.params (kvs.map (·.1)))) (c : ktB K a kvs = true) : KTab K w mg x kvs := by
  obtain ⟨es, n, kd⟩ := He.dicW_ok h
  refine ⟨a, es, n, hm, kd, fun z hz => ?_, fun z d hz => ?_⟩
  · have e : es.toList.map He.keyOf = He.keysIn w.params (kvs.map (·.1)) := by
      have h' : (match decide ("dict" = "dict") && ((#[] : Array (Option Value)).isEmpty && !(a == sysModules)) with
          | true => some (es.toList.map He.keyOf)
          | false => none) = some (He.keysIn w.params (kvs.map (·.1))) := by
        unfold He.dicW at h
        rw [kd.at_] at h
        exact h
      split at h'
      · exact Option.some.inj h'
      · cases h'
    obtain ⟨h1, h2⟩ := find_none e (lookup_none_mem hz)
    unfold PySem.W.nsIn
    rw [kd.at_]
    simp only [h1, h2]; rfl
  · have q := List.all_eq_true.mp c _ (lookup_mem hz)
    simp only at q
    split at q
    · rename_i u e
      obtain ⟨v, r, hv⟩ := cst_ok 6 u d q
      exact ⟨u, v, e, r, hv⟩
    · cases q
section
variable {X : Cx} {c : Wd} {e : Expr} {te : DE} {pos p : Pos} {x : Str} {kvs : List (Str × D)}
@[simp] def dIxK (kvs : List (Str × D)) (te : DE) : DE := fun ρ M Q => te ρ M fun d M1 => match d with | .str z => (match kvs.lookup z with | some y => Q y M1 | none => False) | _ => False
theorem pd_ixK (T : KTab X.K X.w X.mg x kvs) (he : PD c X e te) (hs : PlainIx e := by exact fun _ _ => rfl) (hg : Gl X x := by rfl) (hdb : (x == ("__debug__" : Str)) = false := by decide) : PD c X (.Subscript (.Name x p) e pos) (dIxK kvs te) := by
  obtain ⟨a, es, n, hm, kd, h0, h1⟩ := T.ex
  refine PE_imp (pe_ix ix_kdict (pe_glob (v := .ref a) hg hm rfl hdb) he hs) fun σ H Q ⟨ρ, w, Q', hH, a0, h, k⟩ => ?_
  refine ⟨ρ, w, _, hH, a0, h, fun d w1 v q b r => ?_⟩
  cases d with
  | str z =>
    obtain rfl : v = .str z := r
    cases e : kvs.lookup z with
    | none => simp only [e] at q
    | some y =>
      simp only [e] at q
      obtain ⟨u, vy, e1, r1, hv⟩ := h1 z y e
      exact ⟨a, z, vy, rfl, rfl, ⟨es, n, u, kd.at_, kd.lit, e1, r1⟩, k y w1 vy q b (hv w1)⟩
  | _ => exact q.elim
end
end DL
/-! The data layer, part q: defs whose code object is told, an exception's __init__ by its body, the end. -/
namespace DL
open PySem L2 LamX L2H PyProof.Rows
theorem RoomH.units {k : Nat} {A : Around} (r : L2H.RoomH k A) : A.units + 64 < cLine := by have := r.un; omega
theorem roomH_suite {k : Nat} {A : Around} (r : Room k A) (a : Addr) : L2H.RoomH k (A.mark (some (.ref a))) := ⟨r.dp, r.un⟩
section
variable {P : Program} {w : World} {K : PySem.W.Frag} {mg : Str → Option Value} {base : Heap} {x qual : Str} {st : Stmt} {dvs : List V} {kws : List (Str × V)} {fd : FuncData} {cl : Str → Addr} {tb : List (Addr × Str)} {p : Str × Option Str}
/-- a def keeps its promise; its code object is told -/
theorem fnXc {N ps : List Str} {k : Nat} {s : DSp} {t : DXK → DS} (F : FunD K x qual (defArgs st) (defBody st) (defScope st) dvs kws (He.fAd K p) fd) (S : FnScope N ps (defScope st))
    (hb : ∀ (cdv : Value) (A : Around) (outer : List Env) (sh : Shared) (H : Hp) (E : XK) (c : Wd) (E' : DXK), cdv = .ref (He.codeOf K p) → Cc cl tb c → Room k (A.deeper (PyProof.Rows.envOfC qual (defScope st) sh.heap.objs.size (He.fAd K p) cdv)) → Tk c (cxOf (L2N.CX P w) P w K mg base N qual (defScope st) (He.fAd K p) cdv A outer sh H E) E' →
      PDSs c (cxOf (L2N.CX P w) P w K mg base N qual (defScope st) (He.fAd K p) cdv A outer sh H E) (defBody st) (t E'))
    (hs : ∀ ds M Q E', s ds M Q E' → ds.length = ps.length ∧ t E' { nx := fun _ M' => Q .non M', rt := Q } (startD N ds) M) : FnOk P w K mg base (L2N.CX P w) (k + 1) (He.fAd K p) fd ps (upX K cl tb s) := by
  obtain ⟨oc, od, dV, kV, doc, pm, an, cdv, ct, osl, rfl, lk, hcd, _, _⟩ := F.ex
  obtain ⟨cc, ecc⟩ := He.codeIn_ref hcd
  have ec := He.codeOf_eq lk (show (PySem.W.fnOf x qual (defArgs st) (defBody st) (defScope st) dV kV doc pm an cdv ct).code = .ref cc from ecc)
  refine fn_of lk hcd S (fun vs H Q E h => ?_) fun A outer sh H vs Q E hr h => ?_
  · obtain ⟨w, ds, Q', E', hH, hcc, ok, r, h, k, kx⟩ := h
    rw [r.length]; exact (hs ds _ Q' E' h).1
  · obtain ⟨w, ds, Q', E', hH, hcc, ok, r, h, k, kx⟩ := h
    refine ⟨liftS K w (t E'), hb cdv A outer sh H E w E' (by rw [ecc, ec]) hcc hr (tk_of kx), startD N ds, w, _, hH, ⟨Kp.refl w, RE.start r, ok, rfl, rfl⟩, (hs ds _ Q' E' h).2, ?_⟩
    exact { nx := fun ρ' w' σ' q b a => k .non w' .non q b rfl, rt := k, bk := fun _ _ _ q => q.elim, ct := fun _ _ _ q => q.elim }
end
end DL
/-! The data layer, part r: the end for several tables. -/
namespace DL
open PySem L2 LamX L2H PyProof.Rows
theorem law_end2 {K : PySem.W.Frag} {cl : Str → Addr} {tb : List (Addr × Str)} {s : DSp} (hs : ∀ (ns : List Int) (M : Mu), ns.length ≤ 63 → M = (fun _ => none) → s [.scr ns] M (fun d _ => d = .bl true) DX0) (H : Hp) (a : Addr) (ns : List Int) (hl : ns.length ≤ 63) (hT : ∀ p ∈ tb, H p.1 = some (.tbl #[])) (hS : SqL K H a (ns.map V.int)) :
    upX K cl tb s [.ref a] H (fun v _ => v = .bl true) fun _ _ _ => False := by
  obtain ⟨w, hH, hcc, ok, r, hM⟩ := law_in (K := K) (cl := cl) (tb := tb) hl hS (fun p hp => TabS.nil (hT p hp))
  refine ⟨w, [.scr ns], _, DX0, hH, hcc, ok, r, hs ns w.M hl hM, fun d w' v q' b r' => ?_, fun _ _ _ _ _ z => z.elim⟩
  obtain rfl : d = .bl true := q'
  exact r'
/-- no exception leaves the law -/
theorem cx_end (P : Program) (w : World) (H : Hp) (s : Shared) (e : Value) (s' : Shared) (h : L2N.CX P w [] H s (fun _ _ _ => False) e s') : False := by
  obtain ⟨_, _, _, _, _, _, _, _, _, _, _, _, z⟩ := h
  exact z
/-- the tables of the law's defs -/
theorem tb_one {K : PySem.W.Frag} {l : List ((Str × Option Str) × Str)} (hn : (l.map fun p => (He.cT K p.1).2).Nodup) {p : (Str × Option Str) × Str} (hp : p ∈ l) : (((He.cT K p.1).2, p.2) ∈ l.map fun p => ((He.cT K p.1).2, p.2)) ∧ ∀ q ∈ l.map (fun p => ((He.cT K p.1).2, p.2)), q.1 = (He.cT K p.1).2 → q.2 = p.2 := by
  refine ⟨List.mem_map.mpr ⟨p, hp, rfl⟩, fun q hq e => ?_⟩
  obtain ⟨p', hp', rfl⟩ := List.mem_map.mp hq
  have e' : (He.cT K p'.1).2 = (He.cT K p.1).2 := e
  have : p' = p := by
    induction l with
    | nil => cases hp
    | cons z l ih =>
      rw [List.map_cons, List.nodup_cons] at hn
      rcases List.mem_cons.mp hp with h1 | h1 <;> rcases List.mem_cons.mp hp' with h2 | h2
      · rw [h1, h2]
      · exact absurd (List.mem_map.mpr ⟨p', h2, by rw [e', h1]⟩) hn.1
      · exact absurd (List.mem_map.mpr ⟨p, h1, by rw [← e', h2]⟩) hn.1
      · exact ih hn.2 h1 h2 (List.mem_map.mpr ⟨p', h2, rfl⟩)
  rw [this]
theorem tab_at {fa : List He.Fa} {fn : List He.DefD} {ts : List He.Tab} {w : World} {K : PySem.W.Frag} (c : He.SaysT fa fn ts w K) (i : Nat) {t : He.Tab} (h : ts[i]? = some t) : He.dicW K (t.1 K) = some (He.keysIn w.params t.2) := by
  have e : ts.map (fun t => He.dicW K (t.1 K)) = ts.map fun t => some (He.keysIn w.params t.2) := congrArg (fun z : He.AlT => z.2) c
  have e2 : (ts.map fun t => He.dicW K (t.1 K))[i]? = (ts.map fun t => some (He.keysIn w.params t.2))[i]? := by rw [e]
  rw [List.getElem?_map, List.getElem?_map, h] at e2
  exact Option.some.inj e2
end DL
/-! The data layer, part s: tools for what is shown over data alone. -/
namespace DL
open PySem L2
section
variable {g : DG} {t : DS} {E : DEnds} {ρ : DEnv} {M : Mu} {Q : DK} {X : DXK} {b : Addr}
/-- a loop by what stands at each turn -/
theorem fori_inv {P : DEnv → Mu → Prop} : ∀ {ds : List D} {ρ : DEnv} {M : Mu}, (∀ x ∈ ds, ∀ ρ M, P ρ M → ∀ nx : DEnv → Mu → Prop, (∀ ρ' M', P ρ' M' → nx ρ' M') → g x ρ M fun ρ1 M1 => t { nx := nx, rt := E.rt, bk := E.nx, ct := nx } ρ1 M1) →
    P ρ M → (∀ ρ M, P ρ M → E.nx ρ M) → fori g t ds E ρ M
  | [], ρ, M, _, h0, hx => hx ρ M h0
  | x :: xs, ρ, M, h, h0, hx => h x List.mem_cons_self ρ M h0 _ fun ρ' M' p => fori_inv (fun y hy => h y (List.mem_cons_of_mem _ hy)) p hx
theorem same_t {n : Nat} {x y : D} (hx : gd n x = true) (hy : gd n y = true) (e : py x = py y) (q : Q (.bl true) M) : spSame n [x, y] M Q X := ⟨x, y, rfl, hx, hy, fun k hk => by rw [hk.mpr e]; exact q⟩
end
end DL
/-! The data layer, part t: owned things are let go of; lists born owned, appended to. -/
namespace DL
open PySem L2
/-! ### what is owned becomes plain data -/
open Classical in
noncomputable def drop (M : Mu) (dead : Addr → Prop) : Mu := fun a => if dead a then none else M a
open Classical in
noncomputable def rs (M : Mu) (dead : Addr → Prop) : Nat → D → D
  | 0, d => d
  | n + 1, .ref a => if dead a then (match M a with
    | some (.lst xs) => .lst 0 (xs.map (rs M dead n))
    | some (.dK (kv :: kvs)) => .dct ((kv :: kvs).map fun p => (keyD p.1, rs M dead n p.2))
    | some (.dT kvs) => .dct (kvs.map fun p => (tkeyD p.1, rs M dead n p.2))
    | some (.ins c fs) => .obj c (fs.map fun p => (p.1, rs M dead n p.2))
    | _ => .ref a) else .ref a
  | n + 1, .tup xs => .tup (xs.map (rs M dead n))
  | n + 1, .lst r xs => .lst r (xs.map (rs M dead n))
  | n + 1, .obj c fs => .obj c (fs.map fun p => (p.1, rs M dead n p.2))
  | _, d => d
section
variable {K : PySem.W.Frag} {w : Wd} {dead : Addr → Prop}
noncomputable abbrev Wd.dr (w : Wd) (dead : Addr → Prop) : Wd := { w with M := drop w.M dead }
theorem drop_some {M : Mu} {a : Addr} {m : MO} (h : drop M dead a = some m) : M a = some m := by
  unfold drop at h; split at h
  · cases h
  · exact h
theorem drop_none {M : Mu} {a : Addr} (h : M a = none) : drop M dead a = none := by
  unfold drop; split
  · rfl
  · exact h
theorem drop_dead {M : Mu} {a : Addr} (h : dead a) : drop M dead a = none := by unfold drop; rw [if_pos h]
theorem kp_drop : Kp w (w.dr dead) := Kp.of (fun a u hf e _ => ⟨⟨drop_none hf.m, hf.h, hf.l⟩, e⟩) (fun _ _ _ e => ⟨e, id⟩) rfl rfl rfl
theorem ok_drop (o : Ok K w) : Ok K (w.dr dead) where
  mo := fun a m e => (o.mo a m (drop_some e)).mono kp_drop rfl
  hid := o.hid
  ap := fun a m e => o.ap a m (drop_some e)
  len := o.len
  lap := fun r a u e => ⟨drop_none (o.lap r a u e).1, (o.lap r a u e).2⟩
  lfr := o.lfr
  hl := o.hl
  ll := o.ll
  tabs := o.tabs
theorem bh_drop (o : Ok K w) : Bh K w (w.dr dead) := ⟨kp_drop, ok_drop o, rfl, rfl⟩
theorem fr_dead (o : Ok K w) {a : Addr} {m : MO} (h : dead a) (e : w.M a = some m) : Fr (w.dr dead) a := ⟨drop_dead h, o.ap a m e, fun r => by
  cases q : w.ln r a with
  | none => rfl
  | some u => have := (o.lap r a u q).1; rw [e] at this; cases this⟩
theorem rpL_map {w' : Wd} {f : D → D} (h : ∀ d v, Rp K w d v → Rp K w' (f d) v) : ∀ {ds : List D} {vs : List V}, RpL K w ds vs → RpL K w' (ds.map f) vs
  | [], vs, r => r
  | d :: ds, vs, r => by
    obtain ⟨x, q, rfl, r1, r2⟩ := r
    exact ⟨x, q, rfl, h _ _ r1, rpL_map h r2⟩
theorem rpF_map {w' : Wd} {f : D → D} (h : ∀ d v, Rp K w d v → Rp K w' (f d) v) : ∀ {ds : List (Str × D)} {vs : List (Str × V)}, RpF K w ds vs → RpF K w' (ds.map fun p => (p.1, f p.2)) vs
  | [], vs, r => r
  | (q, d) :: ds, vs, r => by
    obtain ⟨x, q, rfl, r1, r2⟩ := r
    exact ⟨x, q, rfl, h _ _ r1, rpF_map h r2⟩
theorem rpK_map {w' : Wd} {f : D → D} (h : ∀ d v, Rp K w d v → Rp K w' (f d) v) : ∀ {ds : List (D × D)} {vs : List (D × V)}, RpK K w ds vs → RpK K w' (ds.map fun p => (p.1, f p.2)) vs
  | [], vs, r => r
  | (q, d) :: ds, vs, r => by
    obtain ⟨x, q, rfl, r1, r2⟩ := r
    exact ⟨x, q, rfl, h _ _ r1, rpK_map h r2⟩
theorem rs_rp (o : Ok K w) : ∀ (n : Nat) (d : D) (v : V), Rp K w d v → Rp K (w.dr dead) (rs w.M dead n d) v := by
  intro n
  induction n with
  | zero => intro d v r; exact r.mono kp_drop
  | succ n ih =>
    intro d v r
    cases d with
    | ref a =>
      obtain rfl : v = .ref a := r
      unfold rs
      split
      · rename_i hd
        cases e : w.M a with
        | none => rfl
        | some m =>
          have z := o.mo a m e
          have f := fr_dead o hd e
          cases m with
          | lst xs => obtain ⟨vs, h1, h2⟩ := z; exact ⟨a, vs, rfl, LsAt.free f h1, rpL_map ih h2⟩
          | bg k => rfl
          | dK kvs =>
            cases kvs with
            | nil => rfl
            | cons kv kvs =>
              obtain ⟨ks, h1, h2, h3⟩ := z
              refine ⟨a, rfl, f, .inl ⟨by simp, ks, ⟨_, h1, rfl⟩, ?_⟩⟩
              have := rpK_map ih h2
              simpa [List.map_map, Function.comp_def] using this
          | dT kvs =>
            obtain ⟨ks, h1, h2, h3⟩ := z
            refine ⟨a, rfl, f, .inr ⟨ks, ⟨_, h1, rfl⟩, ?_⟩⟩
            have := rpK_map ih h2
            simpa [List.map_map, Function.comp_def] using this
          | ins c fs => obtain ⟨dx, vs, h1, h2⟩ := z; exact ⟨a, dx, vs, rfl, f, h1, rpF_map ih h2⟩
      · rfl
    | tup xs => obtain ⟨a, vs, rfl, h1, h2⟩ := r; exact ⟨a, vs, rfl, h1.mono kp_drop, rpL_map ih h2⟩
    | lst t xs => obtain ⟨a, vs, rfl, h1, h2⟩ := r; exact ⟨a, vs, rfl, h1.mono kp_drop, rpL_map ih h2⟩
    | obj c fs =>
      obtain ⟨a, dx, vs, rfl, f, h1, h2⟩ := r
      exact ⟨a, dx, vs, rfl, (kp_drop.ins f h1).1, h1, rpF_map ih h2⟩
    | non => exact r.mono kp_drop
    | bl _ => exact r.mono kp_drop
    | int _ => exact r.mono kp_drop
    | str _ => exact r.mono kp_drop
    | ty _ => exact r.mono kp_drop
    | scr _ => exact r.mono kp_drop
    | dct _ => exact r.mono kp_drop
    | exc _ _ => exact r.mono kp_drop
    | cls _ => exact r.mono kp_drop
    | cst _ => exact r.mono kp_drop
end
section
variable {M M0 : Mu} {dead : Addr → Prop} {n : Nat} {a : Addr}
theorem rs_lstO {xs : List D} (h : dead a) (e : M a = some (.lst xs)) : rs M dead (n + 1) (.ref a) = .lst 0 (xs.map (rs M dead n)) := by rw [rs, if_pos h, e]
@[simp] theorem rs_tup {xs : List D} : rs M dead (n + 1) (.tup xs) = .tup (xs.map (rs M dead n)) := rfl
@[simp] theorem rs_lst {r : Nat} {xs : List D} : rs M dead (n + 1) (.lst r xs) = .lst r (xs.map (rs M dead n)) := rfl
@[simp] theorem rs_obj {c : Str} {fs : List (Str × D)} : rs M dead (n + 1) (.obj c fs) = .obj c (fs.map fun p => (p.1, rs M dead n p.2)) := rfl
@[simp] theorem rs_non : rs M dead n .non = .non := by cases n <;> rfl
@[simp] theorem rs_bl {b : Bool} : rs M dead n (.bl b) = .bl b := by cases n <;> rfl
@[simp] theorem rs_int {i : Int} : rs M dead n (.int i) = .int i := by cases n <;> rfl
@[simp] theorem rs_str {z : Str} : rs M dead n (.str z) = .str z := by cases n <;> rfl
@[simp] theorem rs_dct {kvs : List (D × D)} : rs M dead n (.dct kvs) = .dct kvs := by cases n <;> rfl
/-- no owned things within: d is as it is -/
def plainN : Nat → D → Bool
  | _, .non => true
  | _, .bl _ => true
  | _, .int _ => true
  | _, .str _ => true
  | _, .dct _ => true
  | n + 1, .lst _ xs => xs.all (plainN n)
  | n + 1, .tup xs => xs.all (plainN n)
  | n + 1, .obj _ fs => fs.all fun p => plainN n p.2
  | _, _ => false
theorem rs_plain : ∀ {n k : Nat} {d : D}, plainN k d = true → rs M dead n d = d
  | 0, _, d, _ => rfl
  | n + 1, k, d, h => by
    cases d with
    | non => simp
    | bl _ => simp
    | int _ => simp
    | str _ => simp
    | dct _ => simp
    | lst t xs =>
      cases k with
      | zero => cases h
      | succ k =>
        have h' : ∀ x ∈ xs, plainN k x = true := by simpa [plainN] using h
        rw [rs_lst]
        congr 1
        exact (List.map_congr_left fun x hx => rs_plain (h' x hx)).trans (List.map_id' _)
    | tup xs =>
      cases k with
      | zero => cases h
      | succ k =>
        have h' : ∀ x ∈ xs, plainN k x = true := by simpa [plainN] using h
        rw [rs_tup]
        congr 1
        exact (List.map_congr_left fun x hx => rs_plain (h' x hx)).trans (List.map_id' _)
    | obj c fs =>
      cases k with
      | zero => cases h
      | succ k =>
        have h' : ∀ p ∈ fs, plainN k p.2 = true := by simpa [plainN] using h
        rw [rs_obj]
        congr 1
        refine (List.map_congr_left (g := id) fun p hp => ?_).trans (List.map_id _)
        rw [rs_plain (h' p hp)]; rfl
    | ref _ => cases k <;> cases h
    | ty _ => cases k <;> cases h
    | scr _ => cases k <;> cases h
    | exc _ _ => cases k <;> cases h
    | cls _ => cases k <;> cases h
    | cst _ => cases k <;> cases h
theorem rs_plains {xs : List D} {k : Nat} (h : xs.all (plainN k) = true) : xs.map (rs M dead n) = xs :=
  (List.map_congr_left fun x hx => rs_plain (List.all_eq_true.mp h x hx)).trans (List.map_id' _)
/-- all that is new goes -/
abbrev newIn (M0 : Mu) : Addr → Prop := fun a => M0 a = none
theorem drop_new (h : ∀ a m, M0 a = some m → M a = some m) : drop M (newIn M0) = M0 := by
  funext a
  unfold drop
  split
  · rename_i e; exact e.symm
  · rename_i e
    cases q : M0 a with
    | none => exact absurd q e
    | some m => exact h a m q
/-- the same store, and more -/
def Ex (M0 M : Mu) : Prop := ∀ a m, M0 a = some m → M a = some m
theorem Ex.refl (M : Mu) : Ex M M := fun _ _ h => h
theorem Ex.trans {M1 M2 : Mu} (h : Ex M0 M1) (k : Ex M1 M2) : Ex M0 M2 := fun a m e => k a m (h a m e)
theorem Ex.set {m : MO} (h : Ex M0 M) (e : M0 a = none) : Ex M0 (setM M a m) := fun b n q => by
  rw [setM_ne (fun z => by subst z; rw [e] at q; cases q)]; exact h b n q
end
def fzK (Q : DK) : DK := fun d M => ∃ dead, Q (rs M dead 9 d) (drop M dead)
theorem fz_new {Q : DK} {d : D} {M M0 : Mu} (h : Ex M0 M) (q : Q (rs M (newIn M0) 9 d) M0) : fzK Q d M := ⟨newIn M0, by rw [drop_new h]; exact q⟩
section
variable {X : Cx} {c : Wd} {e o : Expr} {es : List Expr} {te ta tb : DE} {tl : DA} {pos p apos : Pos} {ti : DI} {g : DG} {tt : DT}
/-! ### lists born owned -/
def ownK (Q : DK) : DK := fun d M => match d with | .lst 0 xs => ∀ a, M a = none → Q (.ref a) (setM M a (.lst xs)) | _ => False
/-- a comprehension's list that stays owned -/
@[simp] def dLcO (ti : DI) (g : DG) (tt : DT) (te : DE) (vs : List Nat) : DE := fun ρ M Q => ti ρ M fun ds M1 => compi g tt te (wipeD ρ vs) ds [] M1 (ownK Q)
theorem comp_impG {K : PySem.W.Frag} {tt : DT} {us vs : List Nat} (hsub : ∀ i ∈ us, i ∈ vs) {σ : St} {Q : VK} {Q' : DK} {ρ : DEnv} {w : Wd} (a : At K c w ρ σ) (h : ti ρ w.M fun ds M1 => compi g tt te (wipeD ρ vs) ds [] M1 Q')
    (kend : ∀ (w1 w' : Wd) (L : Addr) (acc : List D) (xs : List V), Bh K w w1 → w1.H L = none → Fr w1 L → w'.hd = upd w1.hd L (.lst xs) → w'.ln = w1.ln → Kp w1 w' → Ok K w' → RpL K w' acc xs → Q' (.lst 0 acc) w'.M → Q (.ref L) w'.H) :
    tLc (liftI K c ti) (liftGB K c us g) (liftTB K c tt) (liftB K c te) vs σ w.H Q := by
  refine ⟨ρ, w, _, rfl, a, h, fun ds w1 J q b1 it L hL => ?_⟩
  have a1 := a.next b1
  have fL := b1.ok.fresh hL
  refine ⟨fun i m H' => m = ds.length - i ∧ i ≤ ds.length ∧ ∃ w' acc xs, w'.H = H' ∧ w'.hd = upd w1.hd L (.lst xs) ∧ w'.ln = w1.ln ∧ Kp w1 w' ∧ Ok K w' ∧ RpL K w' acc xs ∧ compi g tt te (wipeD ρ vs) (ds.drop i) acc w'.M Q',
    ⟨ds.length, by simp, Nat.zero_le _, mk w1 L [], [], [], rfl, rfl, rfl, kp_mk b1.ok (.inl hL), ok_mk b1.ok (.inl hL), rfl, by rw [List.drop_zero]; exact q⟩, ?_⟩
  rintro i m H' ⟨rfl, hi, w', acc, xs, rfl, hhd, hln, kp', ok', racc, hf⟩
  have hdL : w'.hd L = some (.lst xs) := by rw [hhd]; exact upd_same
  obtain ⟨hgo, hst⟩ := it w' kp' ok'
  by_cases hlt : i < ds.length
  · right
    have e0 : ds.drop i = ds[i] :: ds.drop (i + 1) := List.drop_eq_getElem_cons hlt
    have e1 : ds[i]? = some ds[i] := List.getElem?_eq_getElem hlt
    rw [e0] at hf
    obtain ⟨g1, g2⟩ := hgo i _ e1
    refine ⟨g1, fun H2 => ∃ w2 acc2 xs2, w2.H = H2 ∧ w2.hd = upd w1.hd L (.lst xs2) ∧ w2.ln = w1.ln ∧ Kp w1 w2 ∧ Ok K w2 ∧ RpL K w2 acc2 xs2 ∧ compi g tt te (wipeD ρ vs) (ds.drop (i + 1)) acc2 w2.M Q', fun H2 ⟨w2, acc2, xs2, h1, h2, h3, h4, h5, h6, h7⟩ => ⟨ds.length - (i + 1), by omega, rfl, hlt, w2, acc2, xs2, h1, h2, h3, h4, h5, h6, h7⟩, fun x H'' y => ?_⟩
    obtain ⟨b2, r2⟩ := g2 x H'' y
    have at2 : At K (w'.at H'') (w'.at H'') (wipeD ρ vs) (wipe σ vs) := ⟨Kp.refl _, ((a1.re.wipe vs).mono kp').mono b2.kp, b2.ok, rfl, rfl⟩
    have cl2 : SC c (w'.at H'') := ((a1.kp.trans kp').trans b2.kp).sc
    refine ⟨w'.at H'', cl2, ds[i], wipeD ρ vs, w'.at H'', _, rfl, at2, r2, hf, fun ρ3 w3 σ3 q3 b3 a3 g3 => ?_⟩
    have hag : Ag vs (wipe σ vs) σ3 := ⟨g3.1, fun j hj => g3.2 j (fun z => hj (hsub j z))⟩
    refine ⟨by rw [wipe_ag hag, wipe_ag wipe_wipe], w3, cl2.trans b3.kp.sc, ρ3, w3, _, rfl, a3.self, q3, fun b w4 q4 b4 => ?_⟩
    have b24 : Bh K w' w4 := (b2.trans b3).trans b4
    cases b with
    | false =>
      refine iteF ⟨w4, acc, xs, rfl, b24.hd.trans hhd, b24.ln.trans hln, kp'.trans b24.kp, b24.ok, racc.mono b24.kp, ?_⟩
      exact q4
    | true =>
      refine iteT ⟨w4, (cl2.trans b3.kp.sc).trans b4.kp.sc, ρ3, w4, _, rfl, (a3.next b4).self, q4, fun d w5 v q5 b5 r5 => ?_⟩
      have b25 : Bh K w' w5 := b24.trans b5
      have hd5 : w5.hd L = some (.lst xs) := by rw [b25.hd]; exact hdL
      have r5' := racc.mono b25.kp
      refine ⟨xs, b25.ok.hid L _ hd5, szlt (by rw [racc.length]; exact q5.1), mk w5 L (xs ++ [v]), acc ++ [d], xs ++ [v], rfl, ?_, b25.ln.trans hln, (kp'.trans b25.kp).trans (kp_mk b25.ok (.inr ⟨_, hd5⟩)), ok_mk b25.ok (.inr ⟨_, hd5⟩), (r5'.append (RpL.one r5)).mono (kp_mk b25.ok (.inr ⟨_, hd5⟩)), q5.2⟩
      show upd w5.hd L _ = _
      rw [b25.hd, hhd, upd_upd]
  · left
    have e : i = ds.length := by omega
    subst e
    rw [List.drop_length] at hf
    refine ⟨hst, ?_⟩
    exact kend w1 w' L acc xs b1 hL fL hhd hln kp' ok' racc hf
/-- the list is shown, and owned -/
theorem shownO {K : PySem.W.Frag} {w1 w' : Wd} {L : Addr} {xs : List V} {acc : List D} (fL : Fr w1 L) (hhd : w'.hd = upd w1.hd L (.lst xs)) (ok' : Ok K w') (r : RpL K w' acc xs) : Kp w' { w' with hd := w1.hd, M := setM w'.M L (.lst acc) } ∧ Ok K { w' with hd := w1.hd, M := setM w'.M L (.lst acc) } := by
  have hdL : w'.hd L = some (.lst xs) := by rw [hhd]; exact upd_same
  have hl : ∀ r, w'.ln r L = none := fun r => by
    cases e : w'.ln r L with
    | none => rfl
    | some m => have := (ok'.lap r L m e).2; rw [hdL] at this; cases this
  have nh : ∀ x, w'.hd x = none → w1.hd x = none ∧ x ≠ L := fun x z => by
    rw [hhd] at z
    have hne : x ≠ L := fun q => by subst q; rw [upd_same] at z; cases z
    rw [upd_ne hne] at z; exact ⟨z, hne⟩
  have hd6 : ∀ x u, w1.hd x = some u → w'.hd x = some u := fun x u e => by
    have hne : x ≠ L := fun q => by subst q; rw [fL.h] at e; cases e
    rw [hhd, upd_ne hne]; exact e
  have kp6 : Kp w' { w' with hd := w1.hd, M := setM w'.M L (.lst acc) } := Kp.of (fun x u hf e _ => ⟨⟨by show setM w'.M L _ x = none; rw [setM_ne (nh x hf.h).2]; exact hf.m, (nh x hf.h).1, hf.l⟩, e⟩) (fun _ _ _ e => ⟨e, id⟩) rfl rfl rfl
  refine ⟨kp6, ⟨fun x m e => ?_, fun x u e => ok'.hid x u (hd6 x u e), fun x m e => ?_, ok'.len, fun r x u e => ⟨?_, (nh x (ok'.lap r x u e).2).1⟩, ok'.lfr, fun x u e => ok'.hl x u (hd6 x u e), ok'.ll, ok'.tabs⟩⟩
  · by_cases hx : x = L
    · subst hx
      have e' : (MO.lst acc) = m := Option.some.inj ((setM_same (M := w'.M) (a := x) (m := .lst acc)).symm.trans e)
      subst e'
      exact ⟨xs, ok'.hid x _ hdL, r.mono kp6⟩
    · have e' : w'.M x = some m := (setM_ne hx).symm.trans e
      exact (ok'.mo x m e').mono kp6 rfl
  · by_cases hx : x = L
    · subst hx; exact fL.h
    · have e' : w'.M x = some m := (setM_ne hx).symm.trans e
      exact (nh x (ok'.ap x m e')).1
  · show setM w'.M L _ x = none
    rw [setM_ne (fun z => by subst z; rw [hl r] at e; cases e)]; exact (ok'.lap r x u e).1
theorem blkG {scope : Scope} {us : List Nat} {tg : Expr} (hg : ∀ (c' : Wd), SC c c' → ∀ (s : Shared) (H : Hp) (C : Addr) (cl : List (Str × Addr)) (fp : List Addr), PDG c' (X.blk s H scope (compEnvC scope cl C X.env) fp) us tg g) :
    ∀ (s : Shared) (H : Hp) (C : Addr) (cl : List (Str × Addr)) (fp : List Addr), PG (X.blk s H scope (compEnvC scope cl C X.env) fp) tg (liftGB X.K c us g) := fun s H C cl fp => ⟨fun pins sh σ H' v u Q I r ⟨c', e, q⟩ => (hg c' e s H C cl fp).run pins sh σ H' v u Q I r q⟩
theorem blkT {scope : Scope} {ifs : List Expr} (ht : ∀ (c' : Wd), SC c c' → ∀ (s : Shared) (H : Hp) (C : Addr) (cl : List (Str × Addr)) (fp : List Addr), PDTs c' (X.blk s H scope (compEnvC scope cl C X.env) fp) ifs tt) :
    ∀ (s : Shared) (H : Hp) (C : Addr) (cl : List (Str × Addr)) (fp : List Addr), PTs (X.blk s H scope (compEnvC scope cl C X.env) fp) ifs (liftTB X.K c tt) := fun s H C cl fp => ⟨fun pins sh σ H' Q I ⟨c', e, q⟩ => (ht c' e s H C cl fp).run pins sh σ H' Q I q⟩
theorem blkE {scope : Scope} {elt : Expr} (he : ∀ (c' : Wd), SC c c' → ∀ (s : Shared) (H : Hp) (C : Addr) (cl : List (Str × Addr)) (fp : List Addr), PD c' (X.blk s H scope (compEnvC scope cl C X.env) fp) elt te) :
    ∀ (s : Shared) (H : Hp) (C : Addr) (cl : List (Str × Addr)) (fp : List Addr), PE (X.blk s H scope (compEnvC scope cl C X.env) fp) elt (liftB X.K c te) := fun s H C cl fp => ⟨fun pins sh σ H' Q I ⟨c', e, q⟩ => (he c' e s H C cl fp).run pins sh σ H' Q I q⟩
theorem pd_lcO {elt tg iter : Expr} {ifs : List Expr} {scope : Scope} {own : List (Str × Nat)} {us : List Nat} {tt : DT} (hc : X.calm = true) (hN : X.N.Nodup) (hi : PDI c X tg iter ti) (ok : BlkOk X.N X.env.scope scope own)
    (hg : ∀ (c' : Wd), SC c c' → ∀ (s : Shared) (H : Hp) (C : Addr) (cl : List (Str × Addr)) (fp : List Addr), PDG c' (X.blk s H scope (compEnvC scope cl C X.env) fp) us tg g) (ht : ∀ (c' : Wd), SC c c' → ∀ (s : Shared) (H : Hp) (C : Addr) (cl : List (Str × Addr)) (fp : List Addr), PDTs c' (X.blk s H scope (compEnvC scope cl C X.env) fp) ifs tt)
    (he : ∀ (c' : Wd), SC c c' → ∀ (s : Shared) (H : Hp) (C : Addr) (cl : List (Str × Addr)) (fp : List Addr), PD c' (X.blk s H scope (compEnvC scope cl C X.env) fp) elt te) (hsub : ∀ i ∈ us, i ∈ own.map (·.2) := by decide) (hs : ∀ x, foldedSetIterable iter X.env x = pure x := by intro _; rfl) :
    PD c X (.ListComp elt [⟨tg, iter, ifs, 0⟩] scope pos) (dLcO ti g tt te (own.map (·.2))) := PE_imp (pe_lc hc hN hi ok (blkG hg) (blkT ht) (blkE he) hs) fun σ H Q ⟨ρ, w, Q', hH, a, h, k⟩ => by
  subst hH
  refine comp_impG hsub a h fun w1 w' L acc xs b1 hL fL hhd hln kp' ok' racc hf => ?_
  obtain ⟨kp6, ok6⟩ := shownO fL hhd ok' racc
  have hM : w'.M L = none := by
    cases e : w'.M L with
    | none => rfl
    | some m => have := ok'.ap L m e; rw [hhd, upd_same] at this; cases this
  exact k (.ref L) { w' with hd := w1.hd, M := setM w'.M L (.lst acc) } (.ref L) (hf L hM) ⟨(b1.kp.trans kp').trans kp6, ok6, b1.hd, hln.trans b1.ln⟩ rfl
end
end DL
/-! The data layer, part u: owned lists appended to, born of list(..); what is owned is lent to a call. -/
namespace DL
open PySem L2
section
variable {X : Cx} {c : Wd} {e o : Expr} {es : List Expr} {te ta tb : DE} {tl : DA} {pos p apos : Pos}
@[simp] def dApp (to te : DE) : DE := fun ρ M Q => to ρ M fun x M1 => match x with
  | .ref a => (match M1 a with
    | some (.lst _) => te ρ M1 fun d M2 => (match M2 a with | some (.lst xs) => xs.length < 100000 ∧ Q .non (setM M2 a (.lst (xs ++ [d]))) | _ => False)
    | _ => False)
  | _ => False
theorem pd_append (ho : PD c X o ta) (he : PD c X e te) (hbase : attributeBase o "append" X.env (eval o X.env) = eval o X.env := by rfl)
    (hfew : ((backTo pos (starEach [e] X.env)).all (fun x => !x.1) && (backToKw pos (keywordEach [] X.env)).all (fun x => x.1.isSome)
      && decide (([e] : List Expr).length + ([] : List Keyword).length + (if ([] : List Keyword).isEmpty then 0 else 1) < 30)) = true := by rfl)
    (hline : (apos.endLine == pos.line) = true := by rfl) (hs : starEach [e] X.env = (false, eval e X.env) :: starEach [] X.env := by rfl) (hplain : (backTo pos (starEach [] X.env)).any (·.1) = false := by rfl) :
    PD c X (.Call (.Attribute o "append" apos) [e] [] pos) (dApp ta te) :=
  PE_imp (pe_bm PySem.F.plainAttrs_list PySem.F.slot_list_append PySem.F.type_list_append mt_append ho (pda_cons (tl := dNil) he pda_nil (hs := hs)) hbase hfew hline hs hplain) fun σ H Q ⟨ρ, w, Q', hH, a, h, k⟩ => ⟨ρ, w, _, hH, a, h, fun d w1 v q b1 r => by
    cases d with
    | ref l =>
      obtain rfl : v = .ref l := r
      cases em : w1.M l with
      | none => simp only [em] at q
      | some m =>
        cases m with
        | lst ys =>
          simp only [em] at q
          obtain ⟨xs, hx, s1⟩ := (show ∃ xs, w1.H l = some (.lst xs) ∧ RpL X.K w1 ys xs from b1.ok.mo l _ em)
          refine ⟨.inl ⟨rfl, xs, SqL.of hx⟩, ρ, w1, (fun ds M2 => match ds with | [d] => (match M2 l with | some (.lst xs) => xs.length < 100000 ∧ Q' .non (setM M2 l (.lst (xs ++ [d]))) | _ => False) | _ => False), rfl, a.next b1, q, fun ds w2 vs q2 b2 r2 => ?_⟩
          match ds, r2, q2 with
          | [d], r2, q2 =>
            obtain ⟨u, rfl, r3⟩ := one_of r2
            cases em2 : w2.M l with
            | none => simp only [em2] at q2
            | some m2 =>
              cases m2 with
              | lst zs =>
                simp only [em2] at q2
                obtain ⟨xs2, hx2, s2⟩ := (show ∃ xs, w2.H l = some (.lst xs) ∧ RpL X.K w2 zs xs from b2.ok.mo l _ em2)
                refine ⟨l, xs2, u, rfl, rfl, hx2, szlt (by rw [s2.length]; exact q2.1), ?_⟩
                exact k .non { w2 with M := setM w2.M l (.lst (zs ++ [d])), H := upd w2.H l (.lst (xs2 ++ [u])) } .non q2.2 ((b1.trans b2).trans (Bh.own b2.ok em2 fun w' e k' => ⟨_, e, (s2.append (RpL.one r3)).mono k'⟩)) rfl
              | _ => simp only [em2] at q2
        | _ => simp only [em] at q
    | _ => exact q.elim⟩
/-- list(e), owned -/
@[simp] def lstOD : DC := fun ds M Q => match ds with
  | [.lst _ xs] => ∀ a, M a = none → Q (.ref a) (setM M a (.lst xs))
  | [.tup xs] => ∀ a, M a = none → Q (.ref a) (setM M a (.lst xs))
  | _ => False
theorem lstO_D : CallD X (.type "list") lstOD := by
  intro pins s σ H vs us Q I rs ⟨w, ds, Q', hH, ok, r, h, k⟩
  subst hH
  have fin : ∀ (xs : List D) (ys : List V) (q : Addr), RpL X.K w xs ys → w.H q = none → (∀ a, w.M a = none → Q' (.ref a) (setM w.M a (.lst xs))) → Q (.ref q) (upd w.H q (.lst ys)) := fun xs ys q s1 hq h =>
    k (.ref q) { w with M := setM w.M q (.lst xs), H := upd w.H q (.lst ys) } (.ref q) (h q (ok.fresh hq).m) (Bh.newOwn ok hq fun w' e k' => ⟨ys, e, s1.mono k'⟩) rfl
  match ds, r, h with
  | [d], r, h =>
    obtain ⟨v, rfl, r1⟩ := one_of r
    cases d with
    | lst t xs => obtain ⟨a, ys, rfl, l, s1⟩ := r1; exact call_list_of pins s σ _ _ us Q I rs ⟨a, ys, rfl, .inl l.sq, fun q hq => fin xs ys q s1 hq h⟩
    | tup xs => obtain ⟨a, ys, rfl, l, s1⟩ := r1; exact call_list_of pins s σ _ _ us Q I rs ⟨a, ys, rfl, .inr l.sq, fun q hq => fin xs ys q s1 hq h⟩
    | _ => exact False.elim h
  | [], r, h => exact False.elim h
  | d :: _ :: _, r, h => cases d <;> exact False.elim h
end
end DL
/-! The data layer, part v: owned lists are lent to a call, as lists of a region of their own. -/
namespace DL
open PySem L2
mutual
def noR (r : Nat) : D → Bool
  | .lst s xs => decide (s ≠ r) && noRL r xs
  | .tup xs => noRL r xs
  | .cst xs => noRL r xs
  | .dct kvs => noRK r kvs
  | .obj _ fs => noRF r fs
  | .exc _ fs => noRF r fs
  | _ => true
def noRL (r : Nat) : List D → Bool
  | [] => true
  | x :: xs => noR r x && noRL r xs
def noRK (r : Nat) : List (D × D) → Bool
  | [] => true
  | (_, x) :: xs => noR r x && noRK r xs
def noRF (r : Nat) : List (Str × D) → Bool
  | [] => true
  | (_, x) :: xs => noR r x && noRF r xs
end
def noRM (r : Nat) : MO → Bool
  | .lst ds => noRL r ds
  | .dK kvs => noRK r (kvs.map fun p => (keyD p.1, p.2))
  | .dT kvs => noRK r (kvs.map fun p => (tkeyD p.1, p.2))
  | .ins _ fs => noRF r fs
  | _ => true
theorem noRL_all {r : Nat} : ∀ xs : List D, noRL r xs = xs.all (noR r)
  | [] => rfl
  | x :: xs => by rw [noRL, noRL_all xs]; rfl
section
variable {K : PySem.W.Frag} {w w' : Wd} {r : Nat}
/-! the lists of region r are not -/
mutual
theorem Rp.noR (hr : r ≠ 0) (hl : ∀ a, w.ln r a = none) : ∀ {d : D} {v : V}, Rp K w d v → noR r d = true
  | .non, _, _ => rfl
  | .bl _, _, _ => rfl
  | .int _, _, _ => rfl
  | .str _, _, _ => rfl
  | .ref _, _, _ => rfl
  | .ty _, _, _ => rfl
  | .cls _, _, _ => rfl
  | .scr ns, v, _ => rfl
  | .lst s ds, v, h => by
    obtain ⟨a, xs, rfl, hla, hra⟩ := h
    rw [DL.noR, RpL.noR hr hl hra, Bool.and_true]
    refine decide_eq_true fun e => ?_
    subst e
    rcases hla.2 with ⟨e, _⟩ | ⟨_, e⟩
    · exact hr e
    · rw [hl] at e; cases e
  | .tup ds, v, h => by obtain ⟨a, xs, rfl, hla, hra⟩ := h; exact RpL.noR hr hl hra
  | .cst ds, v, h => by obtain ⟨a, xs, rfl, hla, hra⟩ := h; exact RpL.noR hr hl hra
  | .dct kvs, v, h => by
    obtain ⟨a, rfl, hm, hla⟩ := h
    rcases hla with ⟨_, ks, h1, h2⟩ | ⟨ks, h1, h2⟩
    · exact RpK.noR hr hl h2
    · exact RpK.noR hr hl h2
  | .obj C fs, v, h => by obtain ⟨a, dx, vs, rfl, hm, h1, h2⟩ := h; exact RpF.noR hr hl h2
  | .exc C fs, v, h => by obtain ⟨a, dd, vs, _, _, _, _, h2⟩ := h; exact RpF.noR hr hl h2
theorem RpL.noR (hr : r ≠ 0) (hl : ∀ a, w.ln r a = none) : ∀ {ds : List D} {vs : List V}, RpL K w ds vs → noRL r ds = true
  | [], _, _ => rfl
  | d :: ds, vs, h => by
    obtain ⟨x, q, rfl, h1, h2⟩ := h
    rw [noRL, Rp.noR hr hl h1, RpL.noR hr hl h2]; rfl
theorem RpK.noR (hr : r ≠ 0) (hl : ∀ a, w.ln r a = none) : ∀ {ds : List (D × D)} {vs : List (D × V)}, RpK K w ds vs → noRK r ds = true
  | [], _, _ => rfl
  | (q, d) :: ds, vs, h => by
    obtain ⟨x, q, rfl, h1, h2⟩ := h
    rw [noRK, Rp.noR hr hl h1, RpK.noR hr hl h2]; rfl
theorem RpF.noR (hr : r ≠ 0) (hl : ∀ a, w.ln r a = none) : ∀ {ds : List (Str × D)} {vs : List (Str × V)}, RpF K w ds vs → noRF r ds = true
  | [], _, _ => rfl
  | (q, d) :: ds, vs, h => by
    obtain ⟨x, q, rfl, h1, h2⟩ := h
    rw [noRF, Rp.noR hr hl h1, RpF.noR hr hl h2]; rfl
end
theorem Ok.noR (o : Ok K w) (hr : r ≠ 0) (hl : ∀ a, w.ln r a = none) : ∀ x m, w.M x = some m → noRM r m = true := fun x m h => by
  have z := o.mo x m h
  cases m with
  | lst ds => obtain ⟨xs, _, h2⟩ := z; exact RpL.noR hr hl h2
  | bg k => rfl
  | dK kvs => obtain ⟨ks, _, h2, _⟩ := z; exact RpK.noR hr hl h2
  | dT kvs => obtain ⟨ks, _, h2, _⟩ := z; exact RpK.noR hr hl h2
  | ins C fs => obtain ⟨dx, vs, _, h2⟩ := z; exact RpF.noR hr hl h2
/-- what stands out of region r, from w to w' -/
structure Bk (r : Nat) (w w' : Wd) : Prop where
  fr : ∀ a, Fr w a → Fr w' a
  ln : ∀ s a u, s ≠ r → w.ln s a = some u → w'.ln s a = some u
  H : w'.H = w.H
  ex : w'.ex = w.ex
  cl : w'.cl = w.cl
mutual
theorem Rp.bk (b : Bk r w w') : ∀ {d : D} {v : V}, noR r d = true → Rp K w d v → Rp K w' d v
  | .non, _, _, h => h
  | .bl _, _, _, h => h
  | .int _, _, _, h => h
  | .str _, _, _, h => h
  | .ref _, _, _, h => h
  | .ty _, _, _, h => h
  | .cls n, v, _, h => by show v = .ref (w'.cl n); rw [b.cl]; exact h
  | .scr ns, v, _, h => by
    obtain ⟨a, rfl, h1⟩ := h
    exact ⟨a, rfl, h1.elim (fun z => .inl ⟨b.fr a z.1, by rw [b.H]; exact z.2⟩) fun z => .inr z⟩
  | .lst s ds, v, n, h => by
    obtain ⟨a, xs, rfl, hl, hr⟩ := h
    rw [DL.noR, Bool.and_eq_true] at n
    refine ⟨a, xs, rfl, ⟨by rw [b.H]; exact hl.1, ?_⟩, RpL.bk b n.2 hr⟩
    rcases hl.2 with ⟨e, f⟩ | ⟨e, f⟩
    · exact .inl ⟨e, b.fr a f⟩
    · exact .inr ⟨e, b.ln s a _ (of_decide_eq_true n.1) f⟩
  | .tup ds, v, n, h => by
    obtain ⟨a, xs, rfl, hl, hr⟩ := h
    exact ⟨a, xs, rfl, hl.elim (fun z => .inl ⟨b.fr a z.1, by rw [b.H]; exact z.2⟩) fun z => .inr z, RpL.bk b n hr⟩
  | .cst ds, v, n, h => by
    obtain ⟨a, xs, rfl, hl, hr⟩ := h
    exact ⟨a, xs, rfl, hl, RpL.bk b n hr⟩
  | .dct kvs, v, n, h => by
    obtain ⟨a, rfl, hm, hl⟩ := h
    rcases hl with ⟨hne, ks, h1, h2⟩ | ⟨ks, h1, h2⟩
    · exact ⟨a, rfl, b.fr a hm, .inl ⟨hne, ks, by rw [b.H]; exact h1, RpK.bk b n h2⟩⟩
    · exact ⟨a, rfl, b.fr a hm, .inr ⟨ks, by rw [b.H]; exact h1, RpK.bk b n h2⟩⟩
  | .obj C fs, v, n, h => by
    obtain ⟨a, dx, vs, rfl, hm, h1, h2⟩ := h
    exact ⟨a, dx, vs, rfl, b.fr a hm, by rw [b.H, b.cl]; exact h1, RpF.bk b n h2⟩
  | .exc C fs, v, n, h => by
    obtain ⟨a, dd, vs, rfl, he, hm, h1, h2⟩ := h
    exact ⟨a, dd, vs, rfl, by rw [b.ex, b.cl]; exact he, b.fr dd hm, by rw [b.H]; exact h1, RpF.bk b n h2⟩
theorem RpL.bk (b : Bk r w w') : ∀ {ds : List D} {vs : List V}, noRL r ds = true → RpL K w ds vs → RpL K w' ds vs
  | [], _, _, h => h
  | d :: ds, vs, n, h => by
    obtain ⟨x, q, rfl, h1, h2⟩ := h
    rw [noRL, Bool.and_eq_true] at n
    exact ⟨x, q, rfl, Rp.bk b n.1 h1, RpL.bk b n.2 h2⟩
theorem RpK.bk (b : Bk r w w') : ∀ {ds : List (D × D)} {vs : List (D × V)}, noRK r ds = true → RpK K w ds vs → RpK K w' ds vs
  | [], _, _, h => h
  | (k, d) :: ds, vs, n, h => by
    obtain ⟨x, q, rfl, h1, h2⟩ := h
    rw [noRK, Bool.and_eq_true] at n
    exact ⟨x, q, rfl, Rp.bk b n.1 h1, RpK.bk b n.2 h2⟩
theorem RpF.bk (b : Bk r w w') : ∀ {ds : List (Str × D)} {vs : List (Str × V)}, noRF r ds = true → RpF K w ds vs → RpF K w' ds vs
  | [], _, _, h => h
  | (k, d) :: ds, vs, n, h => by
    obtain ⟨x, q, rfl, h1, h2⟩ := h
    rw [noRF, Bool.and_eq_true] at n
    exact ⟨x, q, rfl, Rp.bk b n.1 h1, RpF.bk b n.2 h2⟩
end
theorem MOk.bk (b : Bk r w w') {a : Addr} {m : MO} (hf : ∀ c, Fr w c → Fr w' c) (n : noRM r m = true) (h : MOk K w a m) : MOk K w' a m := by
  cases m with
  | lst ds => obtain ⟨xs, h1, h2⟩ := h; exact ⟨xs, by rw [b.H]; exact h1, RpL.bk b n h2⟩
  | bg kk =>
    obtain ⟨c, cs, i, r', m, tl, h1, h2, h3⟩ := h
    refine ⟨c, cs, i, r', m, tl, by rw [b.H]; exact h1, ⟨by rw [b.H]; exact h2.1, ?_⟩, h3⟩
    rcases h2.2 with ⟨e, f⟩ | ⟨e, f⟩
    · exact .inl ⟨e, b.fr c f⟩
    · exact absurd rfl e
  | dK kvs => obtain ⟨xs, h1, h2, h3⟩ := h; exact ⟨xs, by rw [b.H]; exact h1, RpK.bk b n h2, h3⟩
  | dT kvs => obtain ⟨xs, h1, h2, h3⟩ := h; exact ⟨xs, by rw [b.H]; exact h1, RpK.bk b n h2, h3⟩
  | ins C fs => obtain ⟨dx, vs, h1, h2⟩ := h; exact ⟨dx, vs, by rw [b.H, b.cl]; exact h1, RpF.bk b n h2⟩
end
/-! ### lending -/
open Classical in
noncomputable def ld (M : Mu) (lent : Addr → Prop) (r : Nat) : Nat → D → D
  | 0, d => d
  | n + 1, .ref a => if lent a then (match M a with | some (.lst xs) => .lst r (xs.map (ld M lent r n)) | _ => .ref a) else .ref a
  | n + 1, .tup xs => .tup (xs.map (ld M lent r n))
  | n + 1, .lst s xs => .lst s (xs.map (ld M lent r n))
  | _, d => d
open Classical in
noncomputable def back (M3 M : Mu) (lent : Addr → Prop) : Mu := fun a => if lent a then M a else M3 a
/-- a call to which owned lists are lent -/
def lendSp (s : DSp) : DSp := fun ds M Q E => ∃ lent : Addr → Prop, (∀ a, lent a → ∃ xs, M a = some (.lst xs)) ∧ ∀ r, r ≠ 0 → (∀ a m, M a = some m → noRM r m = true) → noRL r ds = true →
  s (ds.map (ld M lent r 9)) (drop M lent) (fun d M3 => (∀ a, lent a → M3 a = none) → noR r d = true ∧ (∀ a m, M3 a = some m → noRM r m = true) ∧ Q d (back M3 M lent)) (fun n fs M3 => (∀ a, lent a → M3 a = none) → noRF r fs = true ∧ (∀ a m, M3 a = some m → noRM r m = true) ∧ E n fs (back M3 M lent))
section
variable {K : PySem.W.Frag} {w : Wd} {lent : Addr → Prop} {r : Nat}
open Classical in
noncomputable def Wd.le (w : Wd) (lent : Addr → Prop) (r : Nat) : Wd := { w with M := drop w.M lent, ln := fun s a => if s = r ∧ lent a then w.H a else w.ln s a }
theorem le_ln1 {a : Addr} (h : lent a) : (w.le lent r).ln r a = w.H a := by unfold Wd.le; simp [h]
theorem le_ln2 {s : Nat} {a : Addr} (h : ¬ (s = r ∧ lent a)) : (w.le lent r).ln s a = w.ln s a := by unfold Wd.le; simp only; rw [if_neg h]
theorem kp_le (o : Ok K w) (hl : ∀ a, lent a → ∃ xs, w.M a = some (.lst xs)) (hr : ∀ a, w.ln r a = none) : Kp w (w.le lent r) := Kp.of (fun a u hf e _ => ⟨⟨drop_none hf.m, hf.h, fun s => by
  rw [le_ln2 (fun z => by obtain ⟨xs, q⟩ := hl a z.2; rw [hf.m] at q; cases q)]; exact hf.l s⟩, e⟩) (fun s a u e => ⟨by rw [le_ln2 (fun z => by rw [z.1, hr] at e; cases e)]; exact e, id⟩) rfl rfl rfl
theorem ok_le (o : Ok K w) (hl : ∀ a, lent a → ∃ xs, w.M a = some (.lst xs)) (hr : ∀ a, w.ln r a = none) : Ok K (w.le lent r) where
  mo := fun a m e => (o.mo a m (drop_some e)).mono (kp_le o hl hr) rfl
  hid := o.hid
  ap := fun a m e => o.ap a m (drop_some e)
  len := fun s a u e => by
    by_cases h : s = r ∧ lent a
    · rw [h.1, le_ln1 h.2] at e; exact e
    · rw [le_ln2 h] at e; exact o.len s a u e
  lap := fun s a u e => by
    by_cases h : s = r ∧ lent a
    · obtain ⟨xs, q⟩ := hl a h.2
      exact ⟨drop_dead h.2, o.ap a _ q⟩
    · rw [le_ln2 h] at e; exact ⟨drop_none (o.lap s a u e).1, (o.lap s a u e).2⟩
  lfr := by
    obtain ⟨n, h⟩ := o.lfr
    refine ⟨max n (r + 1), fun s hs a => ?_⟩
    rw [le_ln2 (fun z => by have := z.1; omega)]; exact h s (by omega) a
  hl := o.hl
  ll := fun s a u e => by
    by_cases h : s = r ∧ lent a
    · rw [h.1, le_ln1 h.2] at e
      obtain ⟨xs, q⟩ := hl a h.2
      obtain ⟨vs, h1, _⟩ := (show ∃ vs, w.H a = some (.lst vs) ∧ RpL K w xs vs from o.mo a _ q)
      rw [h1] at e; cases e; exact ⟨_, rfl⟩
    · rw [le_ln2 h] at e; exact o.ll s a u e
  tabs := o.tabs
theorem ld_rp (o : Ok K w) (hl : ∀ a, lent a → ∃ xs, w.M a = some (.lst xs)) (hr : ∀ a, w.ln r a = none) (h0 : r ≠ 0) : ∀ (n : Nat) (d : D) (v : V), Rp K w d v → Rp K (w.le lent r) (ld w.M lent r n d) v := by
  have kp := kp_le o hl hr
  intro n
  induction n with
  | zero => intro d v z; exact z.mono kp
  | succ n ih =>
    intro d v z
    cases d with
    | ref a =>
      obtain rfl : v = .ref a := z
      unfold ld
      split
      · rename_i hd
        cases e : w.M a with
        | none => rfl
        | some m =>
          cases m with
          | lst xs =>
            obtain ⟨vs, h1, h2⟩ := (show ∃ vs, w.H a = some (.lst vs) ∧ RpL K w xs vs from o.mo a _ e)
            exact ⟨a, vs, rfl, ⟨h1, .inr ⟨h0, by rw [le_ln1 hd]; exact h1⟩⟩, rpL_map ih h2⟩
          | _ => rfl
      · rfl
    | tup xs => obtain ⟨a, vs, rfl, h1, h2⟩ := z; exact ⟨a, vs, rfl, h1.mono kp, rpL_map ih h2⟩
    | lst t xs => obtain ⟨a, vs, rfl, h1, h2⟩ := z; exact ⟨a, vs, rfl, h1.mono kp, rpL_map ih h2⟩
    | obj c fs => exact z.mono kp
    | non => exact z.mono kp
    | bl _ => exact z.mono kp
    | int _ => exact z.mono kp
    | str _ => exact z.mono kp
    | ty _ => exact z.mono kp
    | scr _ => exact z.mono kp
    | dct _ => exact z.mono kp
    | exc _ _ => exact z.mono kp
    | cls _ => exact z.mono kp
    | cst _ => exact z.mono kp
/-- behind the call: what was lent is owned again -/
noncomputable def Wd.un (w3 w : Wd) (lent : Addr → Prop) : Wd := { w3 with M := back w3.M w.M lent, ln := w.ln }
theorem back_lent {M3 M : Mu} {a : Addr} (h : lent a) : back M3 M lent a = M a := by unfold back; rw [if_pos h]
theorem back_not {M3 M : Mu} {a : Addr} (h : ¬ lent a) : back M3 M lent a = M3 a := by unfold back; rw [if_neg h]
theorem un_all {w3 : Wd} (o : Ok K w) (hl : ∀ a, lent a → ∃ xs, w.M a = some (.lst xs)) (hr : ∀ a, w.ln r a = none) (b : Bh K (w.le lent r) w3) (hn : ∀ a m, w3.M a = some m → noRM r m = true) :
    Bk r w3 (w3.un w lent) ∧ Bh K w (w3.un w lent) := by
  have kp0 := kp_le o hl hr
  have l3 : ∀ s a, w3.ln s a = (w.le lent r).ln s a := fun s a => by rw [b.ln]
  have nl : ∀ a, Fr w3 a → ¬ lent a := fun a f h => by
    obtain ⟨xs, q⟩ := hl a h
    obtain ⟨vs, h1, _⟩ := (show ∃ vs, w.H a = some (.lst vs) ∧ RpL K w xs vs from o.mo a _ q)
    have := f.l r
    rw [l3, le_ln1 h, h1] at this; cases this
  have fr4 : ∀ a, Fr w3 a → Fr (w3.un w lent) a := fun a f => ⟨by show back _ _ _ a = none; rw [back_not (nl a f)]; exact f.m, f.h, fun s => by
    have := f.l s
    show w.ln s a = none
    by_cases e : s = r
    · rw [e]; exact hr a
    · rw [l3, le_ln2 (fun z => e z.1)] at this; exact this⟩
  have bk : Bk r w3 (w3.un w lent) := ⟨fr4, fun s a u hs e => by
    rw [l3, le_ln2 (fun z => hs z.1)] at e; exact e, rfl, rfl, rfl⟩
  have hlent : ∀ a xs vs, lent a → w.M a = some (.lst xs) → w.H a = some (.lst vs) → w3.H a = some (.lst vs) := fun a xs vs h q h1 => (b.kp.ln r a (.lst vs) (by rw [le_ln1 h]; exact h1)).2 h1
  have kp4 : Kp w (w3.un w lent) := ⟨fun a u f e nt => by
    obtain ⟨f1, u1, e1, q1⟩ := kp0.fr a u f e nt
    obtain ⟨f2, u2, e2, q2⟩ := b.kp.fr a u1 f1 e1 (fun ps z => by subst z; exact nt ps (unl_tbl q1.symm))
    exact ⟨fr4 a f2, u2, e2, q2.trans q1⟩, fun s a u e => ⟨e, fun q => by
    have e1 : (w.le lent r).ln s a = some u := (kp0.ln s a u e).1
    exact (b.kp.ln s a u e1).2 q⟩, b.kp.ex, b.kp.cl, b.kp.tb, fun a o v f e => b.kp.fz a o v (kp0.fr a _ f e (fun _ z => nomatch z)).1 (kp0.fz a o v f e)⟩
  refine ⟨bk, kp4, ⟨fun a m e => ?_, b.ok.hid, fun a m e => ?_, fun s a u e => ?_, fun s a u e => ?_, o.lfr, b.ok.hl, o.ll, b.ok.tabs⟩, b.hd, rfl⟩
  · by_cases h : lent a
    · have e' : w.M a = some m := by rw [← e]; exact (back_lent h).symm
      obtain ⟨xs, q⟩ := hl a h
      rw [q] at e'; cases e'
      obtain ⟨vs, h1, h2⟩ := (show ∃ vs, w.H a = some (.lst vs) ∧ RpL K w xs vs from o.mo a _ q)
      exact ⟨vs, hlent a xs vs h q h1, h2.mono kp4⟩
    · have e' : w3.M a = some m := by rw [← e]; exact (back_not h).symm
      exact MOk.bk bk fr4 (hn a m e') (b.ok.mo a m e')
  · by_cases h : lent a
    · have e' : w.M a = some m := by rw [← e]; exact (back_lent h).symm
      show w3.hd a = none; rw [b.hd]; exact o.ap a m e'
    · have e' : w3.M a = some m := by rw [← e]; exact (back_not h).symm
      exact b.ok.ap a m e'
  · exact b.ok.len s a u (by rw [l3]; exact (kp0.ln s a u e).1)
  · have e1 : w3.ln s a = some u := by rw [l3]; exact (kp0.ln s a u e).1
    refine ⟨?_, (b.ok.lap s a u e1).2⟩
    show back _ _ _ a = none
    by_cases h : lent a
    · rw [back_lent h]; exact (o.lap s a u e).1
    · rw [back_not h]; exact (b.ok.lap s a u e1).1
theorem lend_up {cl : Str → Addr} {tb : List (Addr × Str)} {s : DSp} {vs : List V} {H : Hp} {Q : VK} {E : XK} (h : upX K cl tb (lendSp s) vs H Q E) : upX K cl tb s vs H Q E := by
  obtain ⟨w, ds, Q', E', hH, hcc, ok, rp, ⟨lent, hl, h⟩, k, kx⟩ := h
  obtain ⟨n, hn⟩ := ok.lfr
  have hr : ∀ a, w.ln (n + 1) a = none := hn (n + 1) (by omega)
  have h0 : n + 1 ≠ 0 := by omega
  have kp := kp_le ok hl hr
  have none3 : ∀ {w3 : Wd}, Bh K (w.le lent (n + 1)) w3 → ∀ a, lent a → w3.M a = none := fun {w3} b a ha => by
    obtain ⟨xs, q⟩ := hl a ha
    obtain ⟨vs, h1, _⟩ := (show ∃ vs, w.H a = some (.lst vs) ∧ RpL K w xs vs from ok.mo a _ q)
    exact (b.ok.lap (n + 1) a (.lst vs) (by rw [b.ln, le_ln1 ha]; exact h1)).1
  refine ⟨w.le lent (n + 1), ds.map (ld w.M lent (n + 1) 9), _, _, hH, ⟨hcc.cl, hcc.ex, hcc.tb⟩, ok_le ok hl hr, rpL_map (ld_rp ok hl hr h0 9) rp, h (n + 1) h0 (ok.noR h0 hr) (RpL.noR h0 hr rp), fun d w3 v q b r => ?_, fun m fs w3 dd vs q b f hx r => ?_⟩
  · obtain ⟨q1, q2, q3⟩ := q (none3 b)
    obtain ⟨bk, b4⟩ := un_all ok hl hr b q2
    exact k d (w3.un w lent) v q3 b4 (Rp.bk bk q1 r)
  · obtain ⟨q1, q2, q3⟩ := q (none3 b)
    obtain ⟨bk, b4⟩ := un_all ok hl hr b q2
    exact kx m fs (w3.un w lent) dd vs q3 b4 (bk.fr dd f) hx (RpF.bk bk q1 r)
end
theorem FnOk.lend {P : Program} {w : World} {K : PySem.W.Frag} {mg : Str → Option Value} {base : Heap} {CX : CXT} {k : Nat} {f : Addr} {fd : FuncData} {ps : List Str} {cl : Str → Addr} {tb : List (Addr × Str)} {s : DSp} (F : FnOk P w K mg base CX k f fd ps (upX K cl tb s)) : FnOk P w K mg base CX k f fd ps (upX K cl tb (lendSp s)) :=
  ⟨fun vs H Q E h => F.len vs H Q E (lend_up h), fun A outer sh H args us vs Q E hr he hb hv h => F.run A outer sh H args us vs Q E hr he hb hv (lend_up h)⟩
theorem Fnd.lend {P : Program} {w : World} {K : PySem.W.Frag} {mg : Str → Option Value} {base : Heap} {cl : Str → Addr} {tb : List (Addr × Str)} {k : Nat} {x : Str} {st : Stmt} {ps : List Str} {s : DSp} (F : Fnd P w K mg base cl tb k x st ps s) : Fnd P w K mg base cl tb k x st ps (lendSp s) := by
  obtain ⟨f, fd, a, b, c⟩ := F.ex
  exact ⟨f, fd, a, FnOk.lend b, c⟩
end DL
/-! The data layer, part w: instances: fields, methods, new ones; constants and static methods of a class. -/
namespace DL
open PySem L2 PyProof.Rows
/-! ### fields -/
def putD (f : Str) (d : D) : List (Str × D) → List (Str × D)
  | [] => [(f, d)]
  | (g, x) :: r => if g = f then (g, d) :: r else (g, x) :: putD f d r
theorem putD_rp {K : PySem.W.Frag} {w : Wd} {f : Str} {d : D} {v : V} (h : Rp K w d v) : ∀ {fs : List (Str × D)} {vs : List (Str × V)}, RpF K w fs vs → RpF K w (putD f d fs) (putF f v vs)
  | [], vs, r => by obtain rfl : vs = [] := r; exact ⟨v, [], rfl, h, rfl⟩
  | (g, x) :: fs, vs, r => by
    obtain ⟨y, q, rfl, r1, r2⟩ := r
    unfold putD putF
    split
    · exact ⟨v, q, rfl, h, r2⟩
    · exact ⟨y, _, rfl, r1, putD_rp h r2⟩
theorem rpF_len {K : PySem.W.Frag} {w : Wd} : ∀ {fs : List (Str × D)} {vs : List (Str × V)}, RpF K w fs vs → vs.length = fs.length
  | [], vs, r => by obtain rfl : vs = [] := r; rfl
  | (g, x) :: fs, vs, r => by
    obtain ⟨y, q, rfl, r1, r2⟩ := r
    rw [List.length_cons, List.length_cons, rpF_len r2]
theorem rpF_none {K : PySem.W.Frag} {w : Wd} {f : Str} : ∀ {fs : List (Str × D)} {vs : List (Str × V)}, RpF K w fs vs → fs.lookup f = none → vs.lookup f = none
  | [], vs, r, _ => by obtain rfl : vs = [] := r; rfl
  | (g, x) :: fs, vs, r, h => by
    obtain ⟨y, q, rfl, r1, r2⟩ := r
    rw [List.lookup_cons] at h ⊢
    split at h
    · cases h
    · exact rpF_none r2 h
/-- an own class: its fields are no attributes of the class -/
structure ClsD (K : PySem.W.Frag) (cl : Str → Addr) (n : Str) (fl : List Str) : Prop where
  cls : Cls K (cl n)
  no : ∀ f ∈ fl, NoAttr K (cl n) f
/-- the fields of x, an instance of n -/
def insF (n : Str) (x : D) (M : Mu) : Option (List (Str × D)) := match x with
  | .obj m fs => if m = n then some fs else none
  | .ref a => (match M a with | some (.ins m fs) => if m = n then some fs else none | _ => none)
  | _ => none
theorem insF_at {K : PySem.W.Frag} {w : Wd} {n : Str} {x : D} {v : V} {fs : List (Str × D)} (o : Ok K w) (r : Rp K w x v) (h : insF n x w.M = some fs) : ∃ a dx vs, v = .ref a ∧ w.H a = some (.ins (w.cl n) dx vs) ∧ RpF K w fs vs := by
  unfold insF at h
  cases x with
  | obj m gs =>
    obtain ⟨a, dx, vs, rfl, f, h1, h2⟩ := r
    simp only at h
    split at h
    · rename_i e; cases h; subst e; exact ⟨a, dx, vs, rfl, h1, h2⟩
    · cases h
  | ref a =>
    obtain rfl : v = .ref a := r
    simp only at h
    cases em : w.M a with
    | none => rw [em] at h; cases h
    | some m =>
      rw [em] at h
      cases m with
      | ins m gs =>
        simp only at h
        split at h
        · rename_i e; cases h; subst e
          obtain ⟨dx, vs, h1, h2⟩ := (show ∃ dx vs, w.H a = some (.ins (w.cl m) dx vs) ∧ RpF K w _ vs from o.mo a _ em)
          exact ⟨a, dx, vs, rfl, h1, h2⟩
        · cases h
      | _ => cases h
  | _ => cases h
section
variable {X : Cx} {c : Wd} {e o value : Expr} {es : List Expr} {te ta tv : DE} {tl tk : DA} {pos p apos pos' : Pos} {n f m x : Str} {fl : List Str} {cl : Str → Addr} {tb : List (Addr × Str)} {k : Nat} {st : Stmt} {ps : List Str} {s : DSp} {E : DXK}
@[simp] def dFld (n f : Str) (to : DE) : DE := fun ρ M Q => to ρ M fun x M1 => match insF n x M1 with
  | some fs => (match fs.lookup f with | some d => Q d M1 | none => False)
  | none => False
theorem pd_fld (hcl : c.cl = cl) (C : ClsD X.K cl n fl) (he : PD c X e ta) (hf : f ∈ fl := by decide) (hb : attributeBase e f X.env (eval e X.env) = eval e X.env := by rfl) : PD c X (.Attribute e f pos) (dFld n f ta) :=
  PE_imp (pe_fld he hb) fun σ H Q ⟨ρ, w, Q', hH, a, h, k⟩ => ⟨ρ, w, _, hH, a, h, fun d w1 v q b r => by
    cases ei : insF n d w1.M with
    | none => simp only [ei] at q
    | some fs =>
      simp only [ei] at q
      obtain ⟨ad, dx, vs, rfl, h1, h2⟩ := insF_at b.ok r ei
      cases el : fs.lookup f with
      | none => simp only [el] at q
      | some z =>
        simp only [el] at q
        obtain ⟨u, e1, e2⟩ := rpF_lookup h2 el
        have ecl : w1.cl n = cl n := by rw [b.kp.cl, a.kp.cl, hcl]
        exact ⟨ad, w1.cl n, dx, vs, u, rfl, h1, by rw [ecl]; exact C.cls, by rw [ecl]; exact C.no f hf, e1, k z w1 u q b e2⟩⟩
/-- o.f = value, o owned -/
@[simp] def dSetF (n f : Str) (to tv : DE) : DS := fun D ρ M => tv ρ M fun d M1 => to ρ M1 fun x M2 => match x with
  | .ref a => (match M2 a with | some (.ins m fs) => m = n ∧ fs.length < 900 ∧ D.nx ρ (setM M2 a (.ins n (putD f d fs))) | _ => False)
  | _ => False
theorem pds_setF (hcl : c.cl = cl) (C : ClsD X.K cl n fl) (ho : PD c X o ta) (hv : PD c X value tv) (hf : f ∈ fl := by decide) (hs : swapsWith value (some (.Attribute o f pos')) pos.line X.env = pure false := by rfl) : PDS c X (.Assign [.Attribute o f pos'] value pos) (dSetF n f ta tv) :=
  PS_imp (ps_fld ho hv hs) fun D σ H ⟨ρ, w, D', hH, a, h, k⟩ => ⟨ρ, w, _, hH, a, h, fun d w1 v q b1 r1 => ⟨ρ, w1, _, rfl, a.next b1, q, fun x w2 u q2 b2 r2 => by
    cases x with
    | ref l =>
      obtain rfl : u = .ref l := r2
      cases em : w2.M l with
      | none => simp only [em] at q2
      | some mo =>
        cases mo with
        | ins mm fs =>
          simp only [em] at q2
          obtain ⟨rfl, hlen, q2⟩ := q2
          obtain ⟨dx, vs, h1, h2⟩ := (show ∃ dx vs, w2.H l = some (.ins (w2.cl mm) dx vs) ∧ RpF X.K w2 fs vs from b2.ok.mo l _ em)
          have ecl : w2.cl mm = cl mm := by rw [b2.kp.cl, b1.kp.cl, a.kp.cl, hcl]
          refine ⟨l, w2.cl mm, dx, vs, rfl, h1, by rw [ecl]; exact C.cls, by rw [ecl]; exact C.no f hf, by rw [rpF_len h2]; omega, ?_⟩
          have b3 : Bh X.K w2 { w2 with M := setM w2.M l (.ins mm (putD f d fs)), H := upd w2.H l (.ins (w2.cl mm) dx (putF f v vs)) } := Bh.own b2.ok em fun w' e k' => ⟨dx, _, by rw [k'.cl]; exact e, RpF.mono k' (putD_rp (r1.mono b2.kp) h2)⟩
          have b13 := (b1.trans b2).trans b3
          exact k.nx ρ { w2 with M := setM w2.M l (.ins mm (putD f d fs)), H := upd w2.H l (.ins (w2.cl mm) dx (putF f v vs)) } σ q2 b13 (a.next b13)
        | _ => simp only [em] at q2
    | _ => exact q2.elim⟩⟩
/-! ### methods -/
/-- a method of the text that keeps its promise -/
structure Mtd (P : Program) (w : World) (K : PySem.W.Frag) (mg : Str → Option Value) (base : Heap) (cl : Str → Addr) (tb : List (Addr × Str)) (k : Nat) (n m : Str) (ps : List Str) (s : DSp) : Prop where
  ex : ∃ f fd, FnOk P w K mg base (L2N.CX P w) k f fd ps (upX K cl tb s) ∧ Binds K fd ps [] ∧ Meth K (cl n) m f ∧ Cls K (cl n)
theorem Mtd.mono {P : Program} {w : World} {K : PySem.W.Frag} {mg : Str → Option Value} {base : Heap} {j : Nat} (F : Mtd P w K mg base cl tb j n m ps s) (h : j ≤ k) : Mtd P w K mg base cl tb k n m ps s := by
  obtain ⟨f, fd, a, b⟩ := F.ex
  exact ⟨f, fd, a.mono h, b⟩
@[simp] def dMeth (n m : Str) (s : DSp) (E : DXK) (to : DE) (tl : DA) : DE := fun ρ M Q => to ρ M fun x M1 => match insF n x M1 with
  | some fs => fs.lookup m = none ∧ tl ρ M1 fun ds M2 => s (x :: ds) M2 Q E
  | none => False
theorem meth_imp {K : PySem.W.Frag} (hcc : Cc cl tb c) {σ : L2.St} {H : Hp} {Q : VK} (h : lift K c (dMeth n m s E ta tl) σ H Q) : tMeth (cl n) m (upX K cl tb s) [] (XKof K c E) (lift K c ta) (liftA K c tl) σ H Q := by
  obtain ⟨ρ, w, Q', hH, a, h, k⟩ := h
  refine ⟨ρ, w, _, hH, a, h, fun d w1 v q b r => ?_⟩
  cases ei : insF n d w1.M with
  | none => simp only [ei] at q
  | some fs =>
    simp only [ei] at q
    obtain ⟨ad, dx, vs, rfl, h1, h2⟩ := insF_at b.ok r ei
    have ecl : w1.cl n = cl n := by rw [b.kp.cl, a.kp.cl, hcc.cl]
    refine ⟨ad, dx, vs, rfl, by rw [← ecl]; exact h1, rpF_none h2 q.1, ρ, w1, _, rfl, a.next b, q.2, fun ds w2 us q2 b2 r2 => ?_⟩
    show upX K cl tb s (.ref ad :: (us ++ [])) w2.H Q (XKof K c E)
    rw [List.append_nil]
    exact ⟨w2, d :: ds, Q', E, rfl, hcc.sc ((a.kp.trans b.kp).trans b2.kp).sc, b2.ok, ⟨_, _, rfl, r.mono b2.kp, r2⟩, q2, k.back (b.trans b2), wvX_of a (b.trans b2)⟩
theorem pd_meth {pl : Sem Bool} (hcc : Cc cl tb c) (G : Mtd X.prog X.w X.K X.mg X.base cl tb k n m ps s) (hr : Room k X.A) (htk : Tk c X E) (ho : PD c X o ta) (ha : PDA c X (e :: es) tl)
    (hst : starEach (e :: es) X.env = (false, eval e X.env) :: starEach es X.env := by rfl) (hpl : (backTo pos (starEach es X.env)).any (·.1) = false := by rfl)
    (ht : eval (.Call (.Attribute o m apos) (e :: es) [] pos) X.env = (do
      let ov ← eval o X.env
      standAt apos.atName
      let (f, first) ← holding [ov] (getMethod ov m pl)
      callWith pos f first (backTo pos (starEach (e :: es) X.env)) (backToKw pos (keywordEach [] X.env))) := by rfl) : PD c X (.Call (.Attribute o m apos) (e :: es) [] pos) (dMeth n m s E ta tl) := by
  obtain ⟨f, fd, F, hb, hm, hc⟩ := G.ex
  exact PE_imp (pe_meth (pl := pl) ho hc hm F hr hb .nil htk.pass ha hst hpl ht) fun σ H Q h => meth_imp hcc h
theorem pd_meth0 {pl : Sem Bool} (hcc : Cc cl tb c) (G : Mtd X.prog X.w X.K X.mg X.base cl tb k n m ps s) (hr : Room k X.A) (htk : Tk c X E) (ho : PD c X o ta)
    (ht : eval (.Call (.Attribute o m apos) [] [] pos) X.env = (do
      let ov ← eval o X.env
      standAt apos.atName
      let (f, first) ← holding [ov] (getMethod ov m pl)
      callWith pos f first (backTo pos (starEach [] X.env)) (backToKw pos (keywordEach [] X.env))) := by rfl) : PD c X (.Call (.Attribute o m apos) [] [] pos) (dMeth n m s E ta dNil) := by
  obtain ⟨f, fd, F, hb, hm, hc⟩ := G.ex
  refine PE_imp (pe_meth0 (pl := pl) ho hc hm F hr hb .nil htk.pass ht) fun σ H Q h => ?_
  obtain ⟨ρ, w, Q', hH, a, h, k⟩ := h
  refine ⟨ρ, w, _, hH, a, h, fun d w1 v q b r => ?_⟩
  cases ei : insF n d w1.M with
  | none => simp only [ei] at q
  | some fs =>
    simp only [ei] at q
    obtain ⟨ad, dx, vs, rfl, h1, h2⟩ := insF_at b.ok r ei
    have ecl : w1.cl n = cl n := by rw [b.kp.cl, a.kp.cl, hcc.cl]
    exact ⟨ad, dx, vs, rfl, by rw [← ecl]; exact h1, rpF_none h2 q.1, w1, [d], Q', E, rfl, hcc.sc (a.kp.trans b.kp).sc, b.ok, ⟨_, _, rfl, r, rfl⟩, q.2, k.back b, wvX_of a b⟩
/-! ### how arguments come to parameters -/
structure KB (K : PySem.W.Frag) (fd : FuncData) (ps : List Str) (n : Nat) (ks : List Str) (gD : List D → List D → List D) : Prop where
  ex : ∃ g gV, KBn K fd ps n ks g gV ∧ ∀ (w : Wd) (ds es : List D) (vs zs : List V), ds.length = n → es.length = ks.length → RpL K w ds vs → RpL K w es zs → RpL K w (gD ds es) (gV vs zs)
/-! ### new instances -/
/-- a class that is made by its own __init__ -/
structure Mkr (P : Program) (w : World) (K : PySem.W.Frag) (mg : Str → Option Value) (base : Heap) (cl : Str → Addr) (tb : List (Addr × Str)) (k : Nat) (n : Str) (j : Nat) (ks ps : List Str) (gD : List D → List D → List D) (s : DSp) : Prop where
  ex : ∃ f fd, Mk K (cl n) f ∧ FnOk P w K mg base (L2N.CX P w) k f fd ps (upX K cl tb s) ∧ KB K fd ps (j + 1) ks gD ∧ mg n = some (.ref (cl n))
@[simp] def dMake (n : Str) (s : DSp) (E : DXK) (j i : Nat) (gD : List D → List D → List D) (tl tk : DA) : DE := fun ρ M Q => tl ρ M fun ds M1 => tk ρ M1 fun es M2 => ds.length = j ∧ es.length = i ∧ ∀ a, M2 a = none → s (gD (.ref a :: ds) es) (setM M2 a (.ins n [])) (fun d M3 => d = .non ∧ Q (.ref a) M3) E
theorem made {K : PySem.W.Frag} {w : Wd} {x dx : Addr} {n : Str} (ok : Ok K w) (hx : w.H x = none) (hd : w.H dx = none) (hne : dx ≠ x) : Bh K w { w with M := setM w.M x (.ins n []), H := upd (upd w.H dx (.own x)) x (.ins (w.cl n) dx []) } := by
  have b1 : Bh K w (w.at (upd w.H dx (.own x))) := Bh.new ok hd
  exact b1.trans (Bh.newOwn (w := w.at (upd w.H dx (.own x))) (a := x) (u := .ins (w.cl n) dx []) (m' := .ins n []) b1.ok (by show upd w.H dx _ x = none; rw [upd_ne hne.symm]; exact hx) fun w' e k' => ⟨dx, [], by rw [k'.cl]; exact e, rfl⟩)
theorem make_imp {K : PySem.W.Frag} {j i : Nat} {gD : List D → List D → List D} {gV : List V → List V → List V} (hcc : Cc cl tb c) (hg : ∀ (w : Wd) (ds es : List D) (vs zs : List V), ds.length = j + 1 → es.length = i → RpL K w ds vs → RpL K w es zs → RpL K w (gD ds es) (gV vs zs)) {σ : L2.St} {H : Hp} {Q : VK}
    (h : lift K c (dMake n s E j i gD tl tk) σ H Q) : tMakeK (cl n) j i (upX K cl tb s) gV (XKof K c E) (liftA K c tl) (liftA K c tk) σ H Q := by
  obtain ⟨ρ, w, Q', hH, a, h, k⟩ := h
  refine ⟨ρ, w, _, hH, a, h, fun ds w1 vs q b r => ⟨ρ, w1, _, rfl, a.next b, q, fun es w2 zs q2 b2 r2 => ?_⟩⟩
  obtain ⟨l1, l2, q2⟩ := q2
  refine ⟨by rw [r.length]; exact l1, by rw [r2.length]; exact l2, fun x dx hx hd hne => ?_⟩
  have ecl : w2.cl n = cl n := by rw [b2.kp.cl, b.kp.cl, a.kp.cl, hcc.cl]
  have b3 := made (n := n) b2.ok hx hd hne
  have b03 := (b.trans b2).trans b3
  refine ⟨{ w2 with M := setM w2.M x (.ins n []), H := upd (upd w2.H dx (.own x)) x (.ins (w2.cl n) dx []) }, gD (.ref x :: ds) es, _, E, by show upd _ _ _ = _; rw [ecl], hcc.sc (a.kp.trans b03.kp).sc, b3.ok, ?_, q2 x (b2.ok.fresh hx).m, fun d w4 v q4 b4 r4 => ?_, wvX_of a b03⟩
  · exact hg _ _ _ _ _ (by rw [List.length_cons, l1]) l2 ⟨_, _, rfl, rfl, (r.mono b2.kp).mono b3.kp⟩ (r2.mono b3.kp)
  · obtain ⟨rfl, q4⟩ := q4
    exact ⟨r4, k (.ref x) w4 (.ref x) q4 (b03.trans b4) rfl⟩
theorem pd_makeK {kws : List Keyword} {ks : List Str} {j : Nat} {gD : List D → List D → List D} (hcc : Cc cl tb c) (G : Mkr X.prog X.w X.K X.mg X.base cl tb k n j ks ps gD s) (hr : Room (k + 1) X.A) (htk : Tk c X E) (ha : PDA c X (e :: es) tl) (hkw : PDK c X kws tk) (hg : Gl X n := by rfl)
    (hall : (backToKw pos (keywordEach kws X.env)).all (·.1.isSome) = true := by rfl) (hks : (backToKw pos (keywordEach kws X.env)).filterMap (·.1) = ks := by rfl) (hdb : (n == ("__debug__" : Str)) = false := by decide)
    (he : starEach (e :: es) X.env = (false, eval e X.env) :: starEach es X.env := by rfl) (hpl : ((backTo pos (starEach (e :: es) X.env)).any (·.1) || (backToKw pos (keywordEach kws X.env)).any (·.1.isNone)) = false := by rfl) :
    PD c X (.Call (.Name n p) (e :: es) kws pos) (dMake n s E j ks.length gD tl tk) := by
  obtain ⟨f, fd, M, F, ⟨g, gV, hb, hgl⟩, hm⟩ := G.ex
  exact PE_imp (pe_makeK M F hr hg hm hb htk.pass ha hkw hall hks hdb he hpl) fun σ H Q h => make_imp hcc hgl h
/-! ### constants of a class -/
end
end DL
/-! The data layer, part x: defs that tidy up, comprehensions with two clauses, dicts with tuple keys that are owned, more of texts and displays. -/
namespace DL
open PySem L2
/-! ### a def may let go of what is new when it ends -/
def fzX (E : DXK) : DXK := fun n fs M => ∃ dead, E n (fs.map fun p => (p.1, rs M dead 9 p.2)) (drop M dead)
theorem rs_id {M : Mu} : ∀ (n : Nat) (d : D), rs M (fun _ => False) n d = d
  | 0, d => rfl
  | n + 1, d => by
    have h : rs M (fun _ => False) n = id := funext (rs_id n)
    cases d with
    | ref a => simp [rs]
    | tup xs => simp [rs, h]
    | lst t xs => simp [rs, h]
    | obj c fs => simp [rs, h]
    | _ => rfl
theorem drop_id {M : Mu} : drop M (fun _ => False) = M := by funext a; simp [drop]
theorem fz_same {Q : DK} {d : D} {M : Mu} (q : Q d M) : fzK Q d M := ⟨fun _ => False, by rw [rs_id, drop_id]; exact q⟩
theorem fzX_same {E : DXK} {n : Str} {fs : List (Str × D)} {M : Mu} (q : E n fs M) : fzX E n fs M := ⟨fun _ => False, by rw [drop_id]; simpa [rs_id] using q⟩
theorem wv_fz {K : PySem.W.Frag} {w : Wd} {Q' : DK} {Q : VK} (k : Wv K w Q' Q) : Wv K w (fzK Q') Q := fun d w1 v ⟨dead, q⟩ b r => k _ (w1.dr dead) v q (b.trans (bh_drop b.ok)) (rs_rp b.ok 9 d v r)
theorem wvX_fz {K : PySem.W.Frag} {w : Wd} {E' : DXK} {E : XK} (k : WvX K w E' E) : WvX K w (fzX E') E := fun n fs w1 dd vs ⟨dead, q⟩ b f hx r => k n _ (w1.dr dead) dd vs q (b.trans (bh_drop b.ok)) ⟨drop_none f.m, f.h, f.l⟩ hx (rpF_map (rs_rp b.ok 9) r)
section
variable {P : Program} {w : World} {K : PySem.W.Frag} {mg : Str → Option Value} {base : Heap} {x qual : Str} {st : Stmt} {dvs : List V} {kws : List (Str × V)} {f : Addr} {fd : FuncData} {cl : Str → Addr} {tb : List (Addr × Str)}
def tidy (s : DSp) : DSp := fun ds M Q E => ∃ Q0 E0, s ds M Q0 E0 ∧ Q = fzK Q0 ∧ E = fzX E0
theorem tidy_up {s : DSp} {vs : List V} {H : Hp} {Q : VK} {E : XK} (h : upX K cl tb s vs H Q E) : upX K cl tb (tidy s) vs H Q E := by
  obtain ⟨w, ds, Q', E', hH, hcc, ok, rp, h, k, kx⟩ := h
  exact ⟨w, ds, fzK Q', fzX E', hH, hcc, ok, rp, ⟨Q', E', h, rfl, rfl⟩, wv_fz k, wvX_fz kx⟩
theorem FnOk.tidy {CX : CXT} {k : Nat} {ps : List Str} {s : DSp} (F : FnOk P w K mg base CX k f fd ps (upX K cl tb (tidy s))) : FnOk P w K mg base CX k f fd ps (upX K cl tb s) :=
  ⟨fun vs H Q E h => F.len vs H Q E (tidy_up h), fun A outer sh H args us vs Q E hr he hb hv h => F.run A outer sh H args us vs Q E hr he hb hv (tidy_up h)⟩
theorem fnXz {N ps : List Str} {k : Nat} {s : DSp} {t : DXK → DS} (F : FunD K x qual (defArgs st) (defBody st) (defScope st) dvs kws f fd) (S : FnScope N ps (defScope st))
    (hb : ∀ (cdv : Value) (A : Around) (outer : List Env) (sh : Shared) (H : Hp) (E : XK) (c : Wd) (E' : DXK), Cc cl tb c → Room k (A.deeper (PyProof.Rows.envOfC qual (defScope st) sh.heap.objs.size f cdv)) → Tk c (cxOf (L2N.CX P w) P w K mg base N qual (defScope st) f cdv A outer sh H E) E' →
      PDSs c (cxOf (L2N.CX P w) P w K mg base N qual (defScope st) f cdv A outer sh H E) (defBody st) (t E'))
    (hs : ∀ ds M Q E', s ds M Q E' → ds.length = ps.length ∧ t (fzX E') { nx := fun _ M' => fzK Q .non M', rt := fzK Q } (startD N ds) M) : FnOk P w K mg base (L2N.CX P w) (k + 1) f fd ps (upX K cl tb s) :=
  FnOk.tidy (fnX (s := DL.tidy s) F S hb (by rintro ds M Q E ⟨Q0, E0, h, rfl, rfl⟩; exact hs ds M Q0 E0 h))
end
/-! ### two clauses -/
section
variable {X : Cx} {c : Wd} {e : Expr} {te : DE} {pos : Pos} {ti ti1 : DI} {g g1 : DG} {tt tt1 : DT} {vs vs1 : List Nat}
end
end DL
/-! The data layer, part y: dicts with tuple keys. -/
namespace DL
open PySem L2
def toKey : D → Option Key
  | .int i => some (.inl i)
  | .str x => some (.inr x)
  | _ => none
def toKeys : List D → Option (List Key)
  | [] => some []
  | d :: ds => match toKey d, toKeys ds with
    | some k, some ks => some (k :: ks)
    | _, _ => none
def toKeyT : D → Option (List Key)
  | .tup ds => toKeys ds
  | _ => none
theorem toKey_keyD (k : Key) : toKey (keyD k) = some k := by cases k <;> rfl
theorem toKeys_map : ∀ ks : List Key, toKeys (ks.map keyD) = some ks
  | [] => rfl
  | k :: ks => by rw [List.map_cons, toKeys, toKey_keyD, toKeys_map ks]
theorem toKeyT_tkeyD (ks : List Key) : toKeyT (tkeyD ks) = some ks := toKeys_map ks
theorem toKeys_eq : ∀ {ds : List D} {ks : List Key}, toKeys ds = some ks → ds = ks.map keyD
  | [], ks, h => by cases h; rfl
  | d :: ds, ks, h => by
    unfold toKeys at h
    cases e1 : toKey d with
    | none => rw [e1] at h; cases h
    | some k =>
      cases e2 : toKeys ds with
      | none => rw [e1, e2] at h; cases h
      | some l =>
        rw [e1, e2] at h
        cases h
        rw [List.map_cons, toKeys_eq e2]
        congr 1
        cases d <;> cases e1 <;> rfl
/-- what a dict with tuple keys holds -/
def lkT (kvs : List (D × D)) (k : List Key) : Option D := (kvs.find? fun p => decide (toKeyT p.1 = some k)).map (·.2)
theorem keys_rp {K : PySem.W.Frag} {w : Wd} : ∀ {ks : List Key} {vs : List V}, RpL K w (ks.map keyD) vs → vs = ks.map kV
  | [], vs, r => r
  | k :: ks, vs, r => by
    obtain ⟨x, q, rfl, r1, r2⟩ := r
    rw [keys_rp r2, List.map_cons]
    congr 1
    cases k <;> exact r1
theorem lk_rp {K : PySem.W.Frag} {w : Wd} {k : List Key} : ∀ {kvs : List (D × D)} {ks : List (List Key × V)}, RpK K w kvs (ks.map fun p => (tkeyD p.1, p.2)) → (∀ d, lkT kvs k = some d → ∃ v, valV ks k = some v ∧ Rp K w d v) ∧ (lkT kvs k = none → valV ks k = none)
  | [], ks, r => by
    have e : (ks.map fun p => (tkeyD p.1, p.2)) = [] := r
    have e : ks = [] := List.map_eq_nil_iff.mp e
    subst e
    exact ⟨fun d h => by simp [lkT] at h, fun _ => rfl⟩
  | (q, d) :: kvs, ks, r => by
    obtain ⟨x, rest, e, r1, r2⟩ := r
    cases ks with
    | nil => cases e
    | cons p ks =>
      injection e with e1 e2
      injection e1 with e3 e4
      subst e2 e4
      rw [← e3]
      obtain ⟨h1, h2⟩ := lk_rp (k := k) r2
      unfold lkT valV at h1 h2 ⊢
      by_cases hk : p.1 = k
      · simp only [List.find?_cons, toKeyT_tkeyD, hk, decide_true, Option.map_some, Option.some.injEq]
        exact ⟨fun d' hd => ⟨p.2, rfl, by rw [← hd]; exact r1⟩, fun hd => by cases hd⟩
      · simp only [List.find?_cons, toKeyT_tkeyD, Option.some.injEq, hk, decide_false]
        exact ⟨h1, h2⟩
section
variable {X : Cx} {pins : List (Addr × Obj)} {σ : St} {H : Hp} {s : Shared} {a b : Addr} {v : V} {A : Around} {E : Value → Shared → Prop} {kvs : List (List Key × V)} {k : List Key}
theorem key_sq (I : Inv X pins σ H s) (e : SqT X.K H b (k.map kV)) : (tupleKind (mixKind X.prog X.w)).is s.heap k b := by
  obtain ⟨its, r, ⟨o, h1, h2, n, h3⟩, _⟩ := I.tuple e
  exact ⟨o, its.toArray, n, h1, h2, h3, by simpa using items_are r⟩
theorem dT_getItem {Q : Value → Shared → Prop} (hu : A.units + 1 < cLine) (I : Inv X pins σ H s) (e : Rd H a (.dT kvs)) (eb : SqT X.K H b (k.map kV)) (l : valV kvs k = some v) (h : ∀ w' s', Inv X pins σ H s' → RelV v w' → Q w' s') :
    wpAny (model X.prog X.w) A (getItem (.ref a) (.ref b)) Q E s := by
  obtain ⟨z, hd, xs, rel, dd⟩ := dt_rd I.hok e
  obtain ⟨w', hw, rw'⟩ := RelO.some_of (v := v) (o := (atKey xs k).map (·.2)) (by rw [← l]; exact rel.val k)
  obtain ⟨p, hp, hp2⟩ := Option.map_eq_some_iff.mp hw
  refine wpAny_getItem_heap (tupleKind_room_in1 hu) (key_sq I eb) dd hp ?_
  rw [hp2]
  exact h w' _ (I.tok _) rw'
theorem dT_in {Q : Value → Shared → Prop} (hu : A.units + 1 < cLine) (I : Inv X pins σ H s) (e : Rd H a (.dT kvs)) (eb : SqT X.K H b (k.map kV)) (h : ∀ s', Inv X pins σ H s' → Q (.bool (valV kvs k).isSome) s') :
    wpAny (model X.prog X.w) A (compareOp .In (.ref b) (.ref a)) Q E s := by
  obtain ⟨z, hd, xs, rel, dd⟩ := dt_rd I.hok e
  refine wpAny_in_heap (tupleKind_room_in1 hu) (key_sq I eb) hd dd ?_
  have q := (rel.val k).isSome_eq
  rw [Option.isSome_map] at q
  rw [← q]
  exact h _ (I.tok _)
end
/-! ### over data -/
def isTk (d : D) : Bool := (toKeyT d).isSome
/-- the pairs of y, a dict with tuple keys -/
def dctT (y : D) (M : Mu) : Option (List (D × D)) := match y with
  | .dct kvs => if kvs.all (fun p => isTk p.1) = true then some kvs else none
  | .ref a => (match M a with | some (.dT kvs) => some (kvs.map fun p => (tkeyD p.1, p.2)) | _ => none)
  | _ => none
theorem isTk_keyD (k : Key) : isTk (keyD k) = false := by cases k <;> rfl
theorem dctT_at {K : PySem.W.Frag} {w : Wd} {y : D} {v : V} {kvs : List (D × D)} (o : Ok K w) (r : Rp K w y v) (h : dctT y w.M = some kvs) : ∃ a ks, v = .ref a ∧ Rd w.H a (.dT ks) ∧ RpK K w kvs (ks.map fun p => (tkeyD p.1, p.2)) := by
  unfold dctT at h
  cases y with
  | dct l =>
    simp only at h
    split at h
    · rename_i hc
      have h' : l = kvs := Option.some.inj h
      subst h'
      clear h
      obtain ⟨a, rfl, f, ⟨hne, ks, hs, r2⟩ | ⟨ks, hs, r2⟩⟩ := r
      · exfalso
        cases l with
        | nil => exact hne rfl
        | cons p l =>
          obtain ⟨q, d⟩ := p
          obtain ⟨x, rest, e, r1, r3⟩ := r2
          cases ks with
          | nil => cases e
          | cons kk ks =>
            injection e with e1 e2
            injection e1 with e3 e4
            have := hc
            rw [List.all_cons, Bool.and_eq_true] at this
            rw [← e3, isTk_keyD] at this
            cases this.1
      · obtain ⟨u, e1, e2⟩ := hs
        refine ⟨a, ks, rfl, ?_, r2⟩
        unfold unl at e2
        split at e2
        · cases e2
        · cases e2; exact .inr ⟨_, e1⟩
        · cases e2; exact .inl e1
    · cases h
  | ref a =>
    obtain rfl : v = .ref a := r
    simp only at h
    cases em : w.M a with
    | none => rw [em] at h; cases h
    | some m =>
      rw [em] at h
      cases m with
      | dT l =>
        cases h
        obtain ⟨ks, h1, h2, h3⟩ := (show ∃ ks, w.H a = some (.dT ks) ∧ RpK K w (l.map fun p => (tkeyD p.1, p.2)) (ks.map fun p => (tkeyD p.1, p.2)) ∧ ks.map (·.1) = l.map (·.1) from o.mo a _ em)
        exact ⟨a, ks, rfl, .inl h1, h2⟩
      | _ => cases h
  | _ => cases h
@[simp] def inE : D2 := fun x y M Q => match dctT y M with
  | some kvs => (match toKeyT x with | some k => Q (.bl (lkT kvs k).isSome) M | none => False)
  | none => inD x y M Q
@[simp] def ixE : D2 := fun x y M Q => match dctT x M with
  | some kvs => (match toKeyT y with | some k => (match lkT kvs k with | some d => Q d M | none => False) | none => False)
  | none => ixD x y M Q
section
variable {X : Cx} {c : Wd} {e a b o i : Expr} {es : List Expr} {te ta tb : DE} {tl : DA} {pos p apos : Pos} {vs : List Nat}
theorem key_at {K : PySem.W.Frag} {w : Wd} {x : D} {v : V} {k : List Key} (r : Rp K w x v) (h : toKeyT x = some k) : ∃ b, v = .ref b ∧ SqT K w.H b (k.map kV) := by
  cases x with
  | tup ds =>
    obtain ⟨b, xs, rfl, l, s1⟩ := r
    have e := toKeys_eq h
    subst e
    rw [← keys_rp s1]
    exact ⟨b, rfl, l.sq⟩
  | _ => cases h
theorem opD_inE (hu : X.A.units + 64 < cLine) : OpD X (compareOp .In) inE := by
  intro pins s σ H x y v u Q I rx ry ⟨w, dx, dy, Q', hH, ok, r1, r2, h, k⟩
  cases ed : dctT dy w.M with
  | none => simp only [inE, ed] at h; exact opD_in pins s σ H x y v u Q I rx ry ⟨w, dx, dy, Q', hH, ok, r1, r2, h, k⟩
  | some kvs =>
    simp only [inE, ed] at h
    subst hH
    cases ek : toKeyT dx with
    | none => simp only [ek] at h
    | some kk =>
      simp only [ek] at h
      obtain ⟨ad, ks, rfl, hd, hr⟩ := dctT_at ok r2 ed
      obtain ⟨bd, rfl, hb⟩ := key_at r1 ek
      cases (show v = Value.ref bd from rx)
      cases (show u = Value.ref ad from ry)
      obtain ⟨l1, l2⟩ := lk_rp (k := kk) hr
      refine dT_in (by omega) I hd hb fun s' I' => ⟨.bl (lkT kvs kk).isSome, w.H, I', ?_, k.here ok h rfl⟩
      cases el : lkT kvs kk with
      | none => rw [l2 el]; rfl
      | some d => obtain ⟨z, e1, _⟩ := l1 d el; rw [e1]; rfl
theorem dictT_type {pins : List (Addr × Obj)} {σ : St} {H : Hp} {s : Shared} {a : Addr} {kvs : List (List Key × V)} (I : Inv X pins σ H s) (e : Rd H a (.dT kvs)) : s.TypeIs (.ref a) "dict" := by
  obtain ⟨_, _, xs, _, dd⟩ := dt_rd I.hok e
  exact dd.typeIs
theorem tailD {prog : Program} {w : World} {A : Around} {E : Value → Shared → Prop} {s : Shared} {value slice : Expr} {T id : String} {Q : Value → Shared → Prop} {o i : Value}
    (hT : s.TypeIs o T) (hl : typeLookup (.type T) "__getitem__" = pure (some (.builtin id))) (hs : subscripted slice false o i = operate [o, i] (getItem o i)) (h : wpAny (model prog w) A (getItem o i) Q E s) : wpAny (model prog w) A (PyProof.Rows.subscriptTail value slice o i) Q E s := by
  unfold PyProof.Rows.subscriptTail
  refine wpAny_bind ?_
  rw [getitemInPython_of_ne hT.not_modules]
  refine wpAny_bind (wpAny_specialOf hT hl ?_)
  have fin : wpAny (model prog w) A (subscripted slice false o i) (fun r s₃ => wpAny (model prog w) A (letTemporaryGo value o r >>= fun _ => pure r) Q E s₃) E s := by
    rw [hs]
    exact wpAny_operating (wpAny_mono h (fun r s₃ h₃ => wpAny_bind (wpAny_letTemporaryGo (wpAny_pure h₃))) fun _ _ x => x)
  first
    | exact wpAny_pure (wpAny_bind fin)
    | exact wpAny_bind (wpAny_pure (wpAny_bind fin))
    | exact wpAny_bind fin
theorem ixR_E (hu : X.A.units + 64 < cLine) : IxR X (liftO X.K ixE) := by
  intro value slice pins s σ H x y v u Q I rx ry ⟨w, dx, dy, Q', hH, ok, r1, r2, h, k⟩ hs
  cases ed : dctT dx w.M with
  | none => simp only [ixE, ed] at h; exact ixR_D value slice pins s σ H x y v u Q I rx ry ⟨w, dx, dy, Q', hH, ok, r1, r2, h, k⟩ hs
  | some kvs =>
    simp only [ixE, ed] at h
    subst hH
    cases ek : toKeyT dy with
    | none => simp only [ek] at h
    | some kk =>
      simp only [ek] at h
      obtain ⟨ad, ks, rfl, hd, hr⟩ := dctT_at ok r1 ed
      obtain ⟨bd, rfl, hb⟩ := key_at r2 ek
      cases (show v = Value.ref ad from rx)
      cases (show u = Value.ref bd from ry)
      obtain ⟨l1, l2⟩ := lk_rp (k := kk) hr
      cases el : lkT kvs kk with
      | none => simp only [el] at h
      | some d =>
        simp only [el] at h
        obtain ⟨z, e1, e2⟩ := l1 d el
        refine tailD (dictT_type I hd) PySem.F.slot_dict_getitem.lookup hs (dT_getItem (by omega) I hd hb e1 fun w' s' I' rw' => ⟨z, w.H, I', rw', k.here ok h e2⟩)
theorem pd_ixE (hu : X.A.units + 64 < cLine) (ha : PD c X a ta) (hb : PD c X b tb) (hs : PlainIx b := by exact fun _ _ => rfl) : PD c X (.Subscript a b pos) (dOp ixE ta tb) := PE_imp (pe_ix (ixR_E hu) ha hb hs) fun _ _ _ ⟨_, _, _, hH, a, h, k⟩ => op_imp hH a h k
/-! ### {}, d[..] = v -/
def putT (kvs : List (List Key × D)) (k : List Key) (d : D) : List (List Key × D) := if kvs.any (fun p => decide (p.1 = k)) then kvs.map (fun p => if p.1 = k then (p.1, d) else p) else kvs ++ [(k, d)]
end
end DL
/-! The data layer, part z: more of texts, displays, targets. -/
namespace DL
open PySem L2
section
variable {X : Cx} {c : Wd} {e o : Expr} {es : List Expr} {te ta tb : DE} {tl : DA} {pos p apos : Pos}
/-! ### texts -/
/-! ### * of texts, tuples -/
def repS (x : Str) (n : Nat) : Str := ⟨(List.replicate n x.cps).foldl (· ++ ·) #[]⟩
@[simp] def mulE : D2 := fun x y M Q => match x with
  | .str a => (match y with | .int n => 0 ≤ n ∧ n ≤ 1000 ∧ a.length ≤ 100 ∧ Q (.str (repS a n.toNat)) M | _ => False)
  | .tup a => (match y with | .int n => a ≠ [] ∧ 2 ≤ n ∧ n ≤ 1000 ∧ a.length ≤ 1000 ∧ Q (.tup (List.replicate n.toNat a).flatten) M | _ => False)
  | x => mulD x y M Q
theorem post_str {z : Str} {Q : Value → Shared → Prop} {s : Shared} (h1 : z.length ≤ sizeLine) (h2 : Q (.str z s.toks) { s with toks := s.toks + 1 }) : (Made.str z).post Q s := ⟨h1, h2⟩
theorem opD_mulE : OpD X (binaryOp .Mult) mulE := by
  intro pins s σ H x y v u Q I rx ry ⟨w, dx, dy, Q', hH, ok, r1, r2, h, k⟩
  cases dx <;> first | exact opD_mul pins s σ H x y v u Q I rx ry ⟨w, _, dy, Q', hH, ok, r1, r2, h, k⟩ | skip
  case tup a =>
    cases dy <;> first | exact False.elim h | skip
    rename_i n
    subst hH
    obtain ⟨q, xs, rfl, l1, s1⟩ := r1; obtain rfl : y = .int n := r2
    refine op_repT pins s σ _ _ _ v u Q I rx ry ⟨q, n, xs, rfl, rfl, l1.sq, fun z => ?_, h.2.1, h.2.2.1, by rw [s1.length]; exact h.2.2.2.1, fun q2 hq => ?_⟩
    · subst z
      have := s1.length
      exact h.1 (List.length_eq_zero_iff.mp this.symm)
    · exact k.new ok hq h.2.2.2.2 (rp_tup ok hq (rp_flat s1 n.toNat))
  case str a =>
    cases dy <;> first | exact False.elim h | skip
    rename_i n
    subst hH
    obtain rfl : x = .str a := r1; obtain rfl : y = .int n := r2
    obtain ⟨t, rfl⟩ := rx
    obtain ⟨t2, rfl⟩ := ry
    obtain ⟨h0, h1, h2, h⟩ := h
    have hb : ¬ ((a.length : Int) > (2 ^ 63 - 1) / n) ∨ n < 1 := by
      by_cases hn : n < 1
      · exact .inr hn
      · left
        have : (1000 : Int) ≤ (2 ^ 63 - 1) / n := by
          rw [Int.le_ediv_iff_mul_le (by omega)]; omega
        omega
    refine P.mul_str (by simp; omega) (fun hn _ => hb.resolve_right hn) (fun hn _ => ?_) ?_
    · unfold Builtin.Str.tooLong
      have : a.length * n.toNat ≤ 100 * 1000 := Nat.mul_le_mul h2 (by omega)
      have e : (100001 : Nat) ≤ sizeLine := by decide
      simp only [decide_eq_false_iff_not]
      omega
    · have len : ∀ m : Nat, (repS a m).length = a.length * m := by
        intro m
        induction m with
        | zero => rfl
        | succ m ih =>
          have : repS a (m + 1) = ⟨(repS a m).cps ++ a.cps⟩ := by
            unfold repS
            rw [List.replicate_succ', List.foldl_append]; rfl
          rw [this]
          show ((repS a m).cps ++ a.cps).size = _
          rw [Array.size_append]
          have ih' : (repS a m).cps.size = a.length * m := ih
          rw [ih', Nat.mul_succ]; rfl
      by_cases hn : n < 1
      · have e : n = 0 := by omega
        subst e
        simp only [show ((0 : Int) < 1) from by decide, if_true]
        exact ⟨by decide, .str _, w.H, I.tok _, ⟨_, rfl⟩, k.here ok h rfl⟩
      · rw [if_neg hn]
        by_cases h3 : (n == 1 || a.length == 0) = true
        · rw [if_pos h3]
          have e : repS a n.toNat = a := by
            rcases Bool.or_eq_true_iff.mp h3 with z | z
            · have : n = 1 := by simpa using z
              subst this
              unfold repS; simp
            · have z' : a.length = 0 := by simpa using z
              have z2 : (repS a n.toNat).length = 0 := by rw [len, z', Nat.zero_mul]
              cases ha : repS a n.toNat with
              | mk q =>
                cases a with
                | mk q2 =>
                  rw [ha] at z2
                  have e1 : q = #[] := Array.size_eq_zero_iff.mp z2
                  have e2 : q2 = #[] := Array.size_eq_zero_iff.mp z'
                  rw [e1, e2]
          rw [e] at h
          exact ⟨.str a, w.H, I, ⟨t, rfl⟩, k.here ok h rfl⟩
        · rw [if_neg h3]
          refine post_str (z := repS a n.toNat) ?_ ⟨.str (repS a n.toNat), w.H, I.tok _, ⟨_, rfl⟩, k.here ok h rfl⟩
          have := len n.toNat
          have : a.length * n.toNat ≤ 100 * 1000 := Nat.mul_le_mul h2 (by omega)
          have e : (100001 : Nat) ≤ sizeLine := by decide
          show (repS a n.toNat).length ≤ _
          first | omega | skip
/-! ### [*x, ..] -/
/-! ### f'..' -/
/-! ### a, b, c = x, y, z -/
/-! ### *a, b = a list -/
end
end DL
/-! The data layer, part Na: str(o), ==, != by own defs; static methods; isinstance of own classes. -/
namespace DL
open PySem L2
section
variable {prog : Program} {w : World} {A : Around} {E : Value → Shared → Prop} {s : Shared} {K : PySem.W.Frag} {x C f : Addr} {ox : Obj} {odd : Option Obj}
end
section
variable {X : Cx} {c : Wd} {e o : Expr} {es : List Expr} {te ta tb : DE} {tl : DA} {pos p apos : Pos} {n m x : Str} {cl : Str → Addr} {tb' : List (Addr × Str)} {k : Nat} {ps : List Str} {s : DSp} {E : DXK}
/-! ### str(o) -/
end
end DL
/-! The data layer, part Nb: ==, != by an own __eq__; static methods; isinstance of own classes. -/
namespace DL
open PySem L2
section
variable {X : Cx} {c : Wd} {e a b : Expr} {es : List Expr} {te ta tb : DE} {tl tk : DA} {pos p apos : Pos} {n m x : Str} {cl : Str → Addr} {tb' : List (Addr × Str)} {k : Nat} {ps : List Str} {s : DSp} {E : DXK}
@[simp] def eqO (neg : Bool) (n : Str) (s : DSp) (E : DXK) : D2 := fun x y M Q => match insF n x M, insF n y M with
  | some _, some _ => s [x, y] M (fun d M2 => match d with | .bl r => Q (.bl (r != neg)) M2 | _ => False) E
  | _, _ => False
/-! ### static methods -/
@[simp] def dStat (s : DSp) (E : DXK) (j i : Nat) (gD : List D → List D → List D) (tl tk : DA) : DE := fun ρ M Q => tl ρ M fun ds M1 => tk ρ M1 fun es M2 => ds.length = j ∧ es.length = i ∧ s (gD ds es) M2 Q E
theorem stat_imp {K : PySem.W.Frag} {j i : Nat} {gD : List D → List D → List D} {gV : List V → List V → List V} (hcc : Cc cl tb' c) (hg : ∀ (w : Wd) (ds es : List D) (vs zs : List V), ds.length = j → es.length = i → RpL K w ds vs → RpL K w es zs → RpL K w (gD ds es) (gV vs zs)) {σ : St} {H : Hp} {Q : VK}
    (h : lift K c (dStat s E j i gD tl tk) σ H Q) : tCallN j i (upX K cl tb' s) gV (XKof K c E) (liftA K c tl) (liftA K c tk) σ H Q := by
  obtain ⟨ρ, w, Q', hH, a, h, k⟩ := h
  refine ⟨ρ, w, _, hH, a, h, fun ds w1 vs q b r => ⟨ρ, w1, _, rfl, a.next b, q, fun es w2 zs q2 b2 r2 => ?_⟩⟩
  obtain ⟨l1, l2, q2⟩ := q2
  exact ⟨by rw [r.length]; exact l1, by rw [r2.length]; exact l2, w2, gD ds es, Q', E, rfl, hcc.sc ((a.kp.trans b.kp).trans b2.kp).sc, b2.ok, hg _ _ _ _ _ l1 l2 (r.mono b2.kp) r2, q2, k.back (b.trans b2), wvX_of a (b.trans b2)⟩
end
end DL
/-! The data layer, part Nc: isinstance of own classes; str of texts; what the head tells of classes. -/
namespace DL
open PySem L2
section
variable {X : Cx} {c : Wd} {e a b : Expr} {es : List Expr} {te ta tb : DE} {tl tk : DA} {pos p p2 apos : Pos} {n m x : Str} {cl : Str → Addr} {fl : List Str}
/-! ### str of texts -/
end
/-! ### the head's facts of a class -/
/-! ### defs at any address -/
theorem funA {K : PySem.W.Frag} {f : Addr} {d : He.DefD} (e : fnA K f = d.val) (c : okA K f d = true) : ∃ fd, FunD K d.name d.qual d.params d.body d.scope (d.dvs K) (d.kws K) f fd := by
  obtain ⟨kp, c2⟩ := He.ba c
  unfold fnA at e
  cases q : K.lookup f with
  | none =>
    rw [q] at c2
    cases c2
  | some o =>
    obtain ⟨oc, od, dt, osl⟩ := o
    rw [q] at c2 e
    cases dt with
    | func fd =>
      obtain ⟨n1, n2, n3, n4, n5, n6, n7, n8, n9, n10, n11, n12, n13, n14, n15⟩ := fd
      have e2 : (some (n1, n2, n3, n4, n5, n6, n7, n15) : He.FnW) = some (d.name, d.qual, d.params, .stmts d.body, d.scope, mainGlobals, [], builtinsNs) := e
      simp only [Option.some.injEq, Prod.mk.injEq] at e2
      obtain ⟨h1, h2, h3, h4, h5, h6, h7, h8⟩ := e2
      subst h1 h2 h3 h4 h5 h6 h7 h8
      have c3 : (PySem.W.codeIn K n13 d.qual && (He.dflB K n8 (d.dvs K) && He.kwdB K n9 (d.kws K))) = true := c2
      obtain ⟨k1, k2⟩ := He.ba c3
      obtain ⟨k3, k4⟩ := He.ba k2
      exact ⟨_, ⟨oc, od, n8, n9, n10, n11, n12, n13, n14, osl, rfl, q, k1, He.dflB_ok k3, He.kwdB_ok k4⟩, kp⟩
    | _ => cases c2
/-! ### the Hook, with static methods -/
theorem SaysY.def_ {fa : List He.Fa} {fn : List He.DefD} {ts : List He.Tab} {tf : List He.Defn} {sd : List SD} {ex : PySem.W.Frag → Bool} {w : World} {h : Heap} {K : PySem.W.Frag} (c : SaysY fa fn ts tf sd ex w h K) (i : Nat) {d : SD} (hd : sd[i]? = some d) :
    ∃ fd, FunD K d.2.name d.2.qual d.2.params d.2.body d.2.scope (d.2.dvs K) (d.2.kws K) (sdA K d) fd := by
  have h1 := (He.ba c.x.more).2
  have e2 : (sd.map fun d => fnA K (sdA K d))[i]? = (sd.map fun d => d.2.val)[i]? := by rw [c.s]
  rw [List.getElem?_map, List.getElem?_map, hd] at e2
  exact funA (Option.some.inj e2) (List.all_eq_true.mp h1 d (List.mem_of_getElem? hd))
end DL
/-! The data layer, part Nd: how arguments come to parameters; promises lent, by kinds of calls. -/
namespace DL
open PySem L2
section
variable {P : Program} {w : World} {K : PySem.W.Frag} {mg : Str → Option Value} {base : Heap} {cl : Str → Addr} {tb : List (Addr × Str)} {k : Nat} {x qual n m : Str} {params : Arguments} {body : List Stmt} {scope : Scope} {dvs : List V} {kws : List (Str × V)} {f : Addr} {fd : FuncData} {ps ks : List Str} {j : Nat} {s : DSp} {gD : List D → List D → List D}
theorem app_rp (w : Wd) (ds es : List D) (vs zs : List V) (_ : ds.length = j) (_ : es.length = ks.length) (h1 : RpL K w ds vs) (h2 : RpL K w es zs) : RpL K w (ds ++ es) (vs ++ zs) := h1.append h2
/-- no defaults; the keywords stand in the parameters' order -/
theorem kbA (F : FunD K x qual params body scope [] [] f fd) (h : ∀ (kV doc pm : Value) (an : Option Addr) (cdv ct : Value) (us ws : List Value), us.length = j → ws.length = ks.length → bindArgs (PySem.W.fnOf x qual params body scope .none kV doc pm an cdv ct) ⟨us, ks.zip ws⟩ = pure (ps.zip (us ++ ws))) :
    KB K fd ps j ks (fun ds es => ds ++ es) := by
  obtain ⟨oc, od, dV, kV, doc, pm, an, cdv, ct, osl, rfl, lk, hcd, hD, hK⟩ := F.ex
  rcases hD with ⟨_, rfl⟩ | ⟨e, _⟩
  · exact ⟨_, _, ⟨fun s us ws X l1 l2 => .of_eq (h kV doc pm an cdv ct us ws l1 l2), fun r1 r2 => r1.append r2⟩, app_rp⟩
  · exact absurd rfl e
theorem Mkr.lend (F : Mkr P w K mg base cl tb k n j ks ps gD s) : Mkr P w K mg base cl tb k n j ks ps gD (lendSp s) := by
  obtain ⟨f, fd, a, b, c⟩ := F.ex
  exact ⟨f, fd, a, FnOk.lend b, c⟩
theorem Mtd.lend (F : Mtd P w K mg base cl tb k n m ps s) : Mtd P w K mg base cl tb k n m ps (lendSp s) := by
  obtain ⟨f, fd, a, b⟩ := F.ex
  exact ⟨f, fd, FnOk.lend a, b⟩
theorem Mkr.mono {i : Nat} (F : Mkr P w K mg base cl tb i n j ks ps gD s) (h : i ≤ k) : Mkr P w K mg base cl tb k n j ks ps gD s := by
  obtain ⟨f, fd, a, b, c⟩ := F.ex
  exact ⟨f, fd, a, b.mono h, c⟩
end
end DL
/-! The data layer, part Ne: owned lists are lent while an expression is evaluated. -/
namespace DL
open PySem L2
section
variable {X : Cx} {c : Wd} {e : Expr} {te : DE}
theorem re_ld {K : PySem.W.Frag} {w : Wd} {lent : Addr → Prop} {r : Nat} {ρ : DEnv} {σ : St} (o : Ok K w) (hl : ∀ a, lent a → ∃ xs, w.M a = some (.lst xs)) (hr : ∀ a, w.ln r a = none) (h0 : r ≠ 0) (h : RE K w ρ σ) : RE K (w.le lent r) (ρ.map (Option.map (ld w.M lent r 9))) σ := by
  refine ⟨by rw [List.length_map]; exact h.1, fun i d e => ?_⟩
  rw [List.getElem?_map] at e
  cases q : ρ[i]? with
  | none => rw [q] at e; cases e
  | some x =>
    rw [q] at e
    cases x with
    | none => cases e
    | some d0 =>
      cases e
      obtain ⟨v, e1, r1⟩ := h.2 i d0 q
      exact ⟨v, e1, ld_rp o hl hr h0 9 _ _ r1⟩
end
end DL
/-! The data layer, part Nf: the head's Hook, with the interpreter's statics in view (the facts of a class that is read look there). -/
namespace DL
open PySem L2
end DL
/-! The data layer, part n-g: a lambda with one parameter that has a default, called without arguments. -/
namespace DL
open PySem PySem.Spec PyProof.Rows L2 LamX
/-- one parameter of its own; else captured ones and globals -/
structure LamP (N : List Str) (sc scope : Scope) (p : Str) : Prop where
  kind : scope.kind = .function
  co : scope.isCoroutine = false
  gen : scope.isGenerator = false
  own : ∀ y ∈ scope.names, y.2 ≠ .cell ∧ (y.2 = .local → y.1 ∉ N)
  loc : scope.names.lookup p = some .local
  free : ∀ y ∈ scope.names, y.2 = .free → sc.names.lookup y.1 = some .cell ∨ sc.names.lookup y.1 = some .free
def lamPB (N : List Str) (sc scope : Scope) (p : Str) : Bool :=
  decide (scope.kind = .function) && !scope.isCoroutine && !scope.isGenerator && decide (scope.names.lookup p = some .local) && scope.names.all fun y => !decide (y.2 = .cell) && (!decide (y.2 = .local) || !decide (y.1 ∈ N)) && (!decide (y.2 = .free) || decide (sc.names.lookup y.1 = some .cell) || decide (sc.names.lookup y.1 = some .free))
theorem lamP_by {N : List Str} {sc scope : Scope} {p : Str} (h : lamPB N sc scope p = true) : LamP N sc scope p := by
  unfold lamPB at h
  simp only [Bool.and_eq_true, Bool.or_eq_true, Bool.not_eq_true', decide_eq_true_eq, decide_eq_false_iff_not, List.all_eq_true] at h
  obtain ⟨⟨⟨⟨h1, h2⟩, h3⟩, h5⟩, h4⟩ := h
  refine ⟨h1, h2, h3, fun y hy => ⟨(h4 y hy).1.1, fun e => ?_⟩, h5, fun y hy e => ?_⟩
  · rcases (h4 y hy).1.2 with z | z
    · exact absurd e z
    · exact z
  · rcases (h4 y hy).2 with (z | z) | z
    · exact absurd e z
    · exact .inl z
    · exact .inr z
theorem LamP.has {X : Cx} {scope : Scope} {p : Str} (L : LamP X.N X.env.scope scope p) (ok : X.Ok) : ∀ y ∈ scope.names, y.2 = .free → ∃ c, X.env.cells.lookup y.1 = some c := fun y hy e => by
  rcases L.free y hy e with k | k
  · exact ok.has _ (.inl k)
  · exact ok.has _ (.inr k)
abbrev lamO (q : Str) (params : Arguments) (body : Expr) (scope : Scope) (clo : List (Str × Addr)) (dV doc pm : Value) (c' : Addr) (ctv : Value) : Obj := PySem.W.kdv_obj "<lambda>" q params (.expr body) scope clo dV doc pm c' ctv
section
variable {X : Cx} {pins : List (Addr × Obj)} {σ : L2.St} {H HZ : Hp} {s s1 : Shared}
/-- a code object more in the table at P -/
theorem tabs_more {T : List (Addr × Str)} {P c' : Addr} {q : Str} {vs : Array Value} {pos : Pos} (hu : ∀ p ∈ T, p.1 = P → p.2 = q) (hT : Tabs T H) (hP : H P = some (.tbl vs)) (ht : TriplesOk vs.toList) (hn : H c' = none) (hQ : ∀ p' cv, codeAmong p' vs.toList = some cv → ∃ c, cv = .ref c ∧ H c = some (CodeO c q)) :
    ExtN H (upd (upd H P (.tbl (vs ++ #[rawInt pos.line, rawInt pos.col, .ref c']))) c' (CodeO c' q)) ∧ Tabs T (upd (upd H P (.tbl (vs ++ #[rawInt pos.line, rawInt pos.col, .ref c']))) c' (CodeO c' q)) := by
  have ext : ExtN H (upd (upd H P (.tbl (vs ++ #[rawInt pos.line, rawInt pos.col, .ref c']))) c' (CodeO c' q)) := fun x o ex nt => by
    have hxP : x ≠ P := fun z => by subst z; rw [hP] at ex; exact nt vs (Option.some.inj ex).symm
    rw [upd_ne (ne_of_none ex hn), upd_ne hxP]; exact ex
  refine ⟨ext, fun p hp => ?_⟩
  rcases Classical.em (p.1 = P) with same | other
  · have app : (vs ++ #[rawInt pos.line, rawInt pos.col, .ref c']).toList = vs.toList ++ [rawInt pos.line, rawInt pos.col, .ref c'] := by simp
    rw [hu p hp same, same]
    refine ⟨vs ++ #[rawInt pos.line, rawInt pos.col, .ref c'], (upd_ne (ne_of_none hP hn)).trans upd_same, app ▸ PySem.TriplesOk_snoc _ _ _ _ ht, fun p' cv hcv => ?_⟩
    refine (among_app _ ht (app ▸ hcv)).elim (fun old => ?_) fun new => ⟨c', new, upd_same⟩
    exact (hQ p' cv old).imp fun c z => ⟨z.1, ext _ _ z.2 codeO_ne⟩
  · obtain ⟨ws, w1, w2, w3⟩ := hT p hp
    exact ⟨ws, by rw [upd_ne (ne_of_none w1 hn), upd_ne other]; exact w1, w2, fun p' cv hcv => (w3 p' cv hcv).imp fun c z => ⟨z.1, ext _ _ z.2 codeO_ne⟩⟩
theorem lam_start3 {A : Around} {outer : List Env} {E : XK} {scope : Scope} {p : Str} {f c' : Addr} {g : Heap} {tk : Nat} {bs : List (Str × Value)} (V : Inv X pins σ H s) (L : LamP X.N X.env.scope scope p) (e0 : Env0 X.prog X.w X.K X.mg X.base A outer s1 HZ) (hd : A.handled = none)
    (un : Un (frs X.stack) [] H HZ s.heap s1.heap) (loc : g.Ns s1.heap.objs.size fun y => bs.reverse.lookup y) (kp : ∀ b o, s1.heap.get? b = some o → g.get? b = some o) :
    Inv (lamCx X A outer s1 HZ E scope f c') [] σ HZ { s1 with heap := g, toks := tk } := by
  have outC : ∀ {y c}, (cloFrom X.env.cells scope.names []).lookup y = some c → X.env.cells.lookup y = some c := fun {y c} e => by
    rcases cloFrom_mem (PySem.mem_of_lookup e) with z | ⟨z1, z2⟩
    · exact absurd z (by simp)
    · obtain ⟨d, hd⟩ := L.has V.ok _ z1 rfl
      have hd' : X.env.cells.lookup y = some d := hd
      rw [z2, hd'] <;> rfl
  have inC : ∀ {y}, scope.names.lookup y = some .free → ∃ c, (cloFrom X.env.cells scope.names []).lookup y = some c := fun {y} e => mem_lookup (cloFrom_has (cells := X.env.cells) (acc := []) (PySem.mem_of_lookup e : (y, NameKind.free) ∈ scope.names))
  have still : ∀ {c : Addr} {v : Option Value}, H c = none → s.heap.IsCell c v → g.IsCell c v := by
    rintro c v hn ⟨o, ho, hdt⟩
    obtain ⟨sl, e⟩ := un.any ho hn (by simp)
    exact ⟨_, kp _ _ e, hdt⟩
  have none' : ∀ b : Addr, b ∉ (lamCx X A outer s1 HZ E scope f c').ex := fun b => List.not_mem_nil
  exact {
    ok := {
      mod := e0.mod
      kind := L.kind
      glob := rfl
      blt := rfl
      above := Nat.le_refl _
      inj := fun y z c e1 e2 => V.ok.inj y z c (outC e1) (outC e2)
      has := fun y hy => (show scope.names.lookup y = some .cell ∨ scope.names.lookup y = some .free from hy).elim (fun e => absurd rfl (L.own _ (PySem.mem_of_lookup e)).1) inC
      cab := fun y c z => absurd (show false = true from z) (by decide)
      hd := fun _ => hd
      frames := Around.frames_deeper e0.frames
      stk := .inr ⟨rfl, rfl⟩
      exf := fun b z => absurd z (none' b)
      bs := e0.bs
      bsz := e0.bsz
      noex := fun b _ _ => none' b
      exfs := fun b z => absurd z (none' b)
      funs := e0.funs
      frf := e0.frf }
    os := rfl
    bare := e0.bare
    base := Un.kept kp
    loc := ⟨_, loc, fun i y v e1 e2 e3 => by
      rcases (show Vis scope y from e3) with z | z | z
      · exact absurd (List.mem_of_getElem? (show X.N[i]? = some y from e1)) ((L.own _ (PySem.mem_of_lookup z)).2 rfl)
      · exact absurd rfl (L.own _ (PySem.mem_of_lookup z)).1
      · have up := L.free _ (PySem.mem_of_lookup z) rfl
        obtain ⟨m, _, all⟩ := V.loc
        obtain ⟨u, hu, how⟩ := all i y v e1 e2 (up.elim (fun e => .inr (.inl e)) fun e => .inr (.inr e))
        obtain ⟨c, hc⟩ := inC z
        refine ⟨u, hu, .inr ⟨.inr z, c, hc, ?_⟩⟩
        rcases how with ⟨here, _⟩ | ⟨_, d, hd', cell⟩
        · have here : X.env.scope.names.lookup y = some .local := here
          rcases up with e | e <;> (have e : X.env.scope.names.lookup y = _ := e; rw [here] at e; cases e)
        · obtain rfl : c = d := Option.some.inj ((outC hc).symm.trans hd')
          exact still (V.freeC y c (outC hc)) cell⟩
    cell := fun y c e => (V.cell y c (outC e)).imp fun _ z => still (V.freeC y c (outC e)) z
    free := e0.hok.fresh (Nat.le_refl _)
    freeC := fun y c e => by
      obtain ⟨v, o, ho, _⟩ := V.cell y c (outC e)
      exact un.free c o ho (V.freeC y c (outC e)) (by simp)
    pin := fun q hq => absurd (show q ∈ ([] : List (Addr × Obj)) ++ [] from hq) (by simp)
    hok := e0.hok.kept kp
    len := V.len }
end
section
variable {X : Cx} {c : Wd} {cl : Str → Addr} {tb : List (Addr × Str)} {x a : Str} {st : Stmt} {g cc Pt : Addr} {fd : FuncData} {Ng : List Str} {k : Nat} {params : Arguments} {body e0 : Expr} {i0 : Int} {lp : Str} {scope : Scope} {tL : DXK → DE} {tG : Addr → DAct → DS} {TT : DAct → Mu → DK → Prop} {p lpos pos : Pos}
end
end DL
/-! The data layer, part n-h: enumerate over lists and tuples. -/
namespace DL
open PySem PySem.Spec PyProof.Rows L2
abbrev enO (it : Addr) : Obj := { cls := .type "enumerate", data := .fields #[.none, .bool false, .ref it, rawInt 0, .none, .none] }
theorem en_meets {v : Value} {o : Obj} {G : Heap → Prop} (B : Begins v o G) :
    Meets (Builtin.«enumerate.__new__» ⟨[.type "enumerate", v], []⟩) (fun _ R s => G s.heap ∧ R (.ok (.ret (.ref (s.heap.push o).objs.size))) { s with heap := (s.heap.push o).push (enO s.heap.objs.size) }) :=
  .of_wp fun prog w A R s h => by
    obtain ⟨hp, g, d, tk, os⟩ := s
    have hsub := sub_enumerate
    have itr : ∀ {A' : Around} {E : Value → Shared → Prop} {Q : Value → Shared → Prop}, Q (.ref hp.objs.size) ⟨hp.push o, g, d, tk, os⟩ → wpAny (model prog w) A' (pyIter v) Q E ⟨hp, g, d, tk, os⟩ := fun q => B.iter prog w _ _ ⟨hp, g, d, tk, os⟩ _ h.1 q
    wp_walk using itr
    refine wpAny_stack_any fun st => wpAny_pure ?_
    split
    · rename_i c _ _ _ _ _
      cases (c == Value.type "enumerate") <;> (wp_walk using itr; exact ⟨_, rfl, h.2⟩)
    · wp_walk using itr; exact ⟨_, rfl, h.2⟩
section
variable {prog : Program} {w : World} {A : Around} {E : Value → Shared → Prop} {s : Shared}
theorem en_call {v : Value} {o : Obj} {G : Heap → Prop} {Q : Value → Shared → Prop} (B : Begins v o G) (h1 : G s.heap)
    (h : ∀ h', IsEnum h' (s.heap.objs.size + 1) s.heap.objs.size 0 .none → h'.get? s.heap.objs.size = some o → (∀ b o, s.heap.get? b = some o → h'.get? b = some o) → Q (.ref (s.heap.objs.size + 1)) { s with heap := h' }) :
    wpAny (model prog w) A (call (.type "enumerate") [v]) Q E s := by
  refine callType_new F.called_enumerate (by decide) (F.typeCall_enumerate_1 _) (F.newCall_enumerate_1 _) (fun obj => F.args_object_init_2 obj _) F.entry_enumerate_new (en_meets B) ⟨h1, ?_⟩
  have hz : (s.heap.push o).objs.size = s.heap.objs.size + 1 := Heap.size_push ..
  have he : IsEnum ((s.heap.push o).push (enO s.heap.objs.size)) (s.heap.objs.size + 1) s.heap.objs.size 0 .none := by
    have := Heap.get?_push_size (s.heap.push o) (o := enO s.heap.objs.size) rfl
    rw [hz] at this; exact this
  show _ ∧ _
  rw [hz]
  exact ⟨⟨_, he, rfl⟩, h _ he (Heap.get?_push_of_some _ (Heap.get?_push_size _ B.free)) fun b o x => Heap.get?_push_of_some _ (Heap.get?_push_of_some _ x)⟩
end
/-- the tuple at a, each item in a new pair -/
def Itet (K : PySem.W.Frag) (a : Addr) : It :=
  ⟨fun i H => ∃ (xs : List V) (x : V), SqT K H a xs ∧ xs[i]? = some x, fun i H v H' => ∃ T x, v = .ref T ∧ H T = none ∧ H' = upd H T (.tup [.int (i : Nat), x]) ∧ ∀ xs, SqT K H a xs → xs[i]? = some x, fun i H => ∃ xs : List V, SqT K H a xs ∧ xs.length = i⟩
theorem apart {s : Heap} {e a it : Addr} {i : Int} {old : Value} {its : Array Value} (he : IsEnum s e it i old) (p : s.IsTuple a its) : e ≠ a := fun z => by
  obtain ⟨o, ho, hc, _⟩ := p
  subst z
  have he : s.get? e = some _ := he
  rw [he] at ho; cases ho
  exact absurd (show Value.type "enumerate" = Value.type "tuple" from hc) (by decide)
theorem apart2 {s : Heap} {a it : Addr} {i : Nat} {its : Array Value} (hi : s.IsTupleIter it a i) (p : s.IsTuple a its) : a ≠ it := fun z => by
  obtain ⟨o, ho, hc, _⟩ := p
  obtain ⟨o', ho', hc', _⟩ := hi
  subst z
  rw [ho] at ho'; cases ho'; rw [hc] at hc'
  exact absurd hc' (by decide)
theorem turn_et {P : Program} {w : World} {K : PySem.W.Frag} {elts : List Expr} {kk : Nat} {tpos : Pos} (a e it : Addr) :
    Turn P w K (.Tuple elts kk tpos) (Itet K a) [e, it] e (fun i h => (∃ old, IsEnum h e it ((i : Nat) : Int) old) ∧ h.IsTupleIter it a i ∧ e ≠ it) where
  mem := by simp
  obj := fun i h st b hb => by
    obtain ⟨⟨old, he⟩, ⟨o, ho, hc, hd⟩, _⟩ := st
    simp only [List.mem_cons, List.not_mem_nil, or_false] at hb
    rcases hb with rfl | rfl
    · exact ⟨_, he, fun v q => nomatch q⟩
    · exact ⟨o, ho, fun v q => by rw [hd] at q; cases q⟩
  keep := fun i h h' st k => let ⟨⟨old, he⟩, hi, hne⟩ := st; ⟨⟨old, k e (by simp) _ he⟩, hi.at fun o q => k it (by simp) o q, hne⟩
  item := by
    rintro X rfl rfl rfl hc i pins s σ H E I hf ⟨⟨old, he⟩, hit, hne⟩ ⟨xs, x, hq, hx⟩
    obtain ⟨its, rv, p, hz⟩ := I.tuple hq
    have p : s.heap.IsTuple a its.toArray := p
    obtain ⟨u, hu, ru⟩ := rv.get hx
    have hlt : i < its.toArray.size := by
      have := (List.getElem?_eq_some_iff.mp hu).1
      simpa using this
    have D := Draws.tuple (prog := X.prog) (w := X.w) (A := X.A.in1) (show X.A.in1.handled = none from I.ok.hd hc) it a (apart2 hit p) its.toArray
    refine wpAny_pyNext_enum_itemD D he ⟨hit, p⟩ hlt hne (by simp only [List.mem_cons, List.not_mem_nil, or_false]; exact fun z => z.elim hne (apart he p)) fun y h' tk hy ho hit' hT hsz hk => ?_
    obtain rfl : y = u := by
      have hy : its.toArray[i]? = some y := hy
      rw [List.getElem?_toArray, hu] at hy; exact (Option.some.inj hy).symm
    refine ⟨_, rfl, wpAny_letOwnedTupleGo_enum (s := { s with heap := h', toks := tk + 1 }) ho fun h'' he' sb => ?_⟩
    have hel : e < s.heap.objs.size := Heap.lt_size he
    have hil : it < s.heap.objs.size := by obtain ⟨_, q, _⟩ := hit; exact Heap.lt_size q
    have hT2 : h''.get? s.heap.objs.size = some { cls := .type "tuple", data := .seq #[.int i tk, y] } := (sb.2 _ (Nat.ne_of_gt hel)).trans hT
    have I1 := I.turnedNew (t' := tk + 1) (h' := h'') (T := s.heap.objs.size) (ob := .tup [.int (i : Nat), x]) (ch := [e, it]) (fun b ob hb q => (sb.2 b (fun z => hb (by simp [z]))).trans (hk b ob (fun z => hb (by simp [z])) (fun z => hb (by simp [z])) q)) hf (Nat.le_refl _)
      ⟨by show 2 ≤ sizeLine; decide, [.int i tk, y], .cons ⟨_, rfl⟩ (.cons ru .nil), ⟨_, hT2, rfl, _, rfl⟩⟩
    refine ⟨.ref s.heap.objs.size, _, I1, rfl, ⟨_, x, rfl, I.hok.fresh (Nat.le_refl _), rfl, fun ys hy => by rw [I.tuple_inj hy hq]; exact hx⟩, ⟨⟨y, ?_⟩, hit'.1.at fun o q => (sb.2 it (Ne.symm hne)).trans q, hne⟩, fun b hb => ?_⟩
    · rw [show ((i + 1 : Nat) : Int) = (i : Int) + 1 by omega]; exact he'
    · have hf' := (hf b hb).1
      simp only [List.mem_cons, List.not_mem_nil, or_false] at hb
      rw [upd_ne (hb.elim (fun z => by rw [z]; exact Nat.ne_of_lt hel) fun z => by rw [z]; exact Nat.ne_of_lt hil)]
      exact hf'
  done := by
    rintro X rfl rfl rfl hc i pins s σ H E I hf ⟨⟨old, he⟩, hit, hne⟩ ⟨xs, hq, hx⟩
    obtain ⟨its, rv, p, hz⟩ := I.tuple hq
    have p : s.heap.IsTuple a its.toArray := p
    obtain ⟨f0, f1, f2, f3, f4, f5⟩ := hf it (by simp)
    have D := Draws.tuple (prog := X.prog) (w := X.w) (A := X.A.in1) (show X.A.in1.handled = none from I.ok.hd hc) it a (apart2 hit p) its.toArray
    have hl : its.toArray.size = i := by have := rv.length; simp; omega
    exact wpAny_pyNext_enum_endD D he ⟨by rw [hl]; exact hit, p⟩ fun h' eb => ⟨rfl, I.turned (t' := s.toks) (fun b o hb q => eb b o hb q) f0 f1 f3 f4 f5⟩
  self := fun A i s Q E st h => let ⟨⟨_, he⟩, _⟩ := st; wpAny_pyIter_enum he h
def iEnT (K : PySem.W.Frag) (ta : TA) : TI := fun σ H R => ta σ H fun vs H1 => ∃ a xs, vs = [.ref a] ∧ ((SqL K H1 a xs ∧ R (Ite K a) H1) ∨ (SqT K H1 a xs ∧ R (Itet K a) H1))
theorem pi_enT {X : Cx} {e : Expr} {ta : TA} {p pos tpos : Pos} {elts : List Expr} {kk : Nat} (hg : Gl X "enumerate") (hm : X.mg "enumerate" = none) (ha : PA X [e] ta) (hs : starEach [e] X.env = [(false, eval e X.env)] := by rfl) :
    PI X (.Tuple elts kk tpos) (.Call (.Name "enumerate" p) [e] [] pos) (iEnT X.K ta) := by
  refine ⟨fun pins s σ H R I h => ?_⟩
  refine Call_ (ld_blt I hg hm boot_enumerate (PyProof.Rows.callWith_type1 (thn (ha.run pos pins s σ H _ I h) fun us s1 ⟨vs, H1, I1, r1, a, xs, ex, q1⟩ => ?_) hs rfl))
  subst ex
  cases r1 with
  | cons r rr =>
    cases rr
    cases r
    have two : ∀ b ∈ [s1.heap.objs.size + 1, s1.heap.objs.size], FpOk X pins H1 b := fun b hb => by
      have hle : s1.heap.objs.size ≤ b := by simp only [List.mem_cons, List.not_mem_nil, or_false] at hb; omega
      exact I1.fpOk hle (I1.hok.fresh hle)
    rcases q1 with ⟨hq, q⟩ | ⟨hq, q⟩
    · obtain ⟨its, rv, p', hz⟩ := I1.list hq
      refine en_call (begins_list a its.toArray) p'.isList fun h' he hit hk => wpAny_pyIter_enum he ?_
      exact ⟨_, _, _, _, H1, rfl, I1.kept (t' := s1.toks) hk, turn_enum a (s1.heap.objs.size + 1) s1.heap.objs.size, ⟨⟨.none, he⟩, ⟨_, hit, rfl, rfl⟩, Nat.succ_ne_self _⟩, two, q⟩
    · obtain ⟨its, rv, p', hz⟩ := I1.tuple hq
      refine en_call (begins_tuple a its.toArray) p' fun h' he hit hk => wpAny_pyIter_enum he ?_
      exact ⟨_, _, _, _, H1, rfl, I1.kept (t' := s1.toks) hk, turn_et a (s1.heap.objs.size + 1) s1.heap.objs.size, ⟨⟨.none, he⟩, ⟨_, hit, rfl, rfl⟩, Nat.succ_ne_self _⟩, two, q⟩
theorem isIt_et {K : PySem.W.Frag} {w : Wd} {ds : List D} {a : Addr} {xs : List V} (h : TuAt K w a xs) (r : RpL K w ds xs) : IsIt K w (enumD 0 ds) (Itet K a) := fun w' k ok => by
  have ha := h.mono k
  have r' := r.mono k
  have hl := r'.length
  refine ⟨fun i d e => ?_, ⟨xs, ha.sq, by rw [enum_len]; omega⟩⟩
  obtain ⟨x, e1, rfl⟩ := enum_at e
  obtain ⟨v, f1, q1⟩ := r'.at e1
  refine ⟨⟨xs, v, ha.sq, f1⟩, fun z H'' yl => ?_⟩
  obtain ⟨T, v', rfl, hT, rfl, y1⟩ := yl
  have z1 := y1 xs ha.sq
  rw [f1] at z1
  cases z1
  refine ⟨Bh.new ok hT, rp_tup ok hT ⟨.int (i : Nat), [v], rfl, ?_, v, [], rfl, q1, rfl⟩⟩
  show V.int _ = V.int _
  rw [Nat.zero_add]
@[simp] def dEnT (ta : DA) : DI := fun ρ M Q => ta ρ M fun ds M1 => match ds with
  | [.lst _ xs] => Q (enumD 0 xs) M1
  | [.tup xs] => Q (enumD 0 xs) M1
  | _ => False
section
variable {X : Cx} {c : Wd} {e : Expr} {tl : DA} {p pos : Pos}
theorem pdi_enT {elts : List Expr} {kk : Nat} {tpos : Pos} (hm : X.mg "enumerate" = none) (ha : PDA c X [e] tl) (hg : Gl X "enumerate" := by rfl) (hs : starEach [e] X.env = [(false, eval e X.env)] := by rfl) :
    PDI c X (.Tuple elts kk tpos) (.Call (.Name "enumerate" p) [e] [] pos) (dEnT tl) :=
  PI_imp (pi_enT hg hm ha hs) fun σ H R ⟨ρ, w, Q', hH, a, h, k⟩ => ⟨ρ, w, _, hH, a, h, fun ds w1 vs q b r => by
    match ds, r, q with
    | [d], r, q =>
      obtain ⟨v, rfl, r1⟩ := one_of r
      cases d with
      | lst t xs => obtain ⟨pa, as, rfl, l1, s1⟩ := r1; exact ⟨pa, as, rfl, .inl ⟨l1.sq, k _ w1 _ q b (isIt_en l1 s1)⟩⟩
      | tup xs => obtain ⟨pa, as, rfl, l1, s1⟩ := r1; exact ⟨pa, as, rfl, .inr ⟨l1.sq, k _ w1 _ q b (isIt_et l1 s1)⟩⟩
      | _ => exact q.elim
    | [], r, q => exact False.elim q
    | d :: _ :: _, r, q => cases d <;> exact False.elim q⟩
end
end DL
/-! The data layer, part n-i: a display of a dict with texts as keys (owned), its items; count and index of a list of flat values. -/
namespace DL
open PySem PySem.Spec PyProof.Rows L2
def kvs {α : Type} (ks : List Str) (xs : List α) : List (Key × α) := (ks.zip xs).map fun p => (.inr p.1, p.2)
section
variable {X : Cx} {c : Wd} {e a b o i : Expr} {es : List Expr} {te ta tb : DE} {tl : DA} {pos p apos : Pos}
/-! ### o.count(e), o.index(e), o a list of flat values -/
end
end DL
/-! The data layer, part n-j: lambdas that are kept in a list, called by a def of a def. -/
namespace DL
open PySem PySem.Spec PyProof.Rows L2 LamX
def FunO (f : Addr) (o : Obj) : HO := .ext fun h => h.get? f = some o
theorem funO_ok {P : Program} {w : World} {H : Hp} {h : Heap} {f : Addr} {o : Obj} (e : h.get? f = some o) : ObjOk P w H h f (FunO f o) := ⟨e, ⟨o, e⟩, fun _ _ a b => b o a⟩
theorem tabs_new {T : List (Addr × Str)} {H : Hp} {a : Addr} {o : HO} (hn : H a = none) (h : Tabs T H) : Tabs T (upd H a o) := fun p hp => by
  obtain ⟨vs, e, t, k⟩ := h p hp
  exact ⟨vs, by rw [upd_ne (ne_of_none e hn)]; exact e, t, fun p' cv q => (k p' cv q).imp fun c z => ⟨z.1, by rw [upd_ne (ne_of_none z.2 hn)]; exact z.2⟩⟩
theorem extN_new {H : Hp} {a : Addr} {o : HO} (hn : H a = none) : ExtN H (upd H a o) := fun b u e _ => by rw [upd_ne (ne_of_none e hn)]; exact e
theorem ExtN.trans {H H1 H2 : Hp} (a : ExtN H H1) (b : ExtN H1 H2) : ExtN H H2 := fun x o e n => b x o (a x o e n) n
section
variable {X : Cx} {pins : List (Addr × Obj)} {σ : L2.St} {H HZ : Hp} {s s1 : Shared}
theorem lam_tailF {T : List (Addr × Str)} {c P : Addr} {params : Arguments} {body : Expr} {scope : Scope} {pos : Pos} {dV : Value} {E : Value → Shared → Prop} {Q : Value → Shared → Prop} (V : Inv X pins σ H s) (TB : TabB X.base X.mg c P) (hcode : X.env.code = .ref c)
    (hm : (P, X.env.qual ++ "<lambda>") ∈ T) (hu : ∀ p ∈ T, p.1 = P → p.2 = X.env.qual ++ "<lambda>") (hT : Tabs T H) (hfree : ∀ y ∈ scope.names, y.2 = .free → ∃ c, X.env.cells.lookup y.1 = some c)
    (k : ∀ (f c' : Addr) (doc pm ctv : Value) (H1 : Hp) (s' : Shared), Inv X pins σ H1 s' → ExtN H H1 → Tabs T H1 →
      H1 f = some (FunO f (lamO (X.env.qual ++ "<lambda>") params body scope (cloFrom X.env.cells scope.names []) dV doc pm c' ctv)) → H1 c' = some (CodeO c' (X.env.qual ++ "<lambda>")) → Q (.ref f) s') :
    wpAny (model X.prog X.w) X.A (makeTail "<lambda>" (X.env.qual ++ "<lambda>") params (.expr body) scope X.env dV .none none pos pos.line) Q E s := by
  obtain ⟨vs, tab, ord, among⟩ := hT _ hm
  have tabO : s.heap.get? P = some { cls := .none, data := .fields vs } := V.hok P _ tab
  match hc : codeAmong pos vs.toList with
  | some cv =>
    obtain ⟨c', rfl, hco⟩ := among pos cv hc
    refine PySem.W.kdv_makeTailHit (mg := X.mg) (c := c) (P := P) (closure_ok hfree) V.ok.glob (V.mod.glob.keeps V.bk) hcode (TB.code.keeps V.bk) tabO ord hc (TB.bm.keeps V.bk) fun ctv doc g tk keep le => ?_
    have hn : H g.objs.size = none := V.hok.fresh le
    exact k g.objs.size c' doc _ ctv (upd H g.objs.size (FunO _ _)) _ (V.laid (t' := tk) (fun x o ex => Heap.get?_push_of_some _ (keep x o ex)) le (funO_ok (Heap.get?_push_size _ rfl))) (extN_new hn) (tabs_new hn hT) upd_same (by rw [upd_ne (ne_of_none hco hn)]; exact hco)
  | none =>
    refine PySem.W.kdv_makeTail (mg := X.mg) (c := c) (P := P) (closure_ok hfree) V.ok.glob (V.mod.glob.keeps V.bk) hcode (TB.code.keeps V.bk) tabO ord hc TB.gP (TB.bm.keeps V.bk) fun c' ctv doc g tk but ge lt rec' tab' => ?_
    obtain ⟨_, oc, fs, t, ⟨⟩, hoc, hdt, hnm⟩ := rec'
    have cn : H c' = none := V.hok.fresh ge
    obtain ⟨ext, tabs⟩ := tabs_more (pos := pos) hu hT tab ord cn among
    have V1 := inv_table (t' := tk) (more := #[rawInt pos.line, rawInt pos.col, .ref c']) (h' := g) V tab (fun x o hx ex => but x o hx ex) tab' ge ⟨oc, fs, t, hoc, hdt, hnm⟩
    have hn := V1.hok.fresh (Nat.le_refl g.objs.size)
    have V2 := V1.laid (t' := tk) (h' := g.push (lamO (X.env.qual ++ "<lambda>") params body scope (cloFrom X.env.cells scope.names []) dV doc ((X.mg "__name__").getD .none) c' ctv)) (fun x o ex => Heap.get?_push_of_some _ ex) (Nat.le_refl g.objs.size) (funO_ok (o := lamO (X.env.qual ++ "<lambda>") params body scope (cloFrom X.env.cells scope.names []) dV doc ((X.mg "__name__").getD .none) c' ctv) (Heap.get?_push_size _ rfl))
    exact k g.objs.size c' doc _ ctv _ _ V2 (ext.trans (extN_new hn)) (tabs_new hn tabs) upd_same (by rw [upd_ne (Nat.ne_of_lt lt)]; exact upd_same)
end
/-! ### a lambda as a value -/
/-- a lambda: its parameters, its text, its names, its default -/
structure Lm where
  params : Arguments
  body : Expr
  scope : Scope
  df : Option Int
/-- at f stands this lambda, made in the frame of X -/
def LamH (X : Cx) (H : Hp) (l : Lm) (f : Addr) : Prop := ∃ (c' : Addr) (dV doc pm ctv : Value), H f = some (FunO f (lamO (X.env.qual ++ "<lambda>") l.params l.body l.scope (cloFrom X.env.cells l.scope.names []) dV doc pm c' ctv)) ∧ H c' = some (CodeO c' (X.env.qual ++ "<lambda>")) ∧
  (match l.df with | none => dV = .none | some i => ∃ t0, dV = .ref t0 ∧ H t0 = some (.tup [.int i]))
def tLamV (X : Cx) (T : List (Addr × Str)) (l : Lm) : TE := fun _ H Q => Tabs T H ∧ ∀ f H1, ExtN H H1 → Tabs T H1 → LamH X H1 l f → Q (.ref f) H1
section
variable {X : Cx} {T : List (Addr × Str)} {cc Pt : Addr} {l : Lm} {pos : Pos}
theorem pe_lamV (TB : TabB X.base X.mg cc Pt) (hcode : X.env.code = .ref cc) (hm : (Pt, X.env.qual ++ "<lambda>") ∈ T) (hu : ∀ p ∈ T, p.1 = Pt → p.2 = X.env.qual ++ "<lambda>") (hfree : X.Ok → ∀ y ∈ l.scope.names, y.2 = .free → ∃ c, X.env.cells.lookup y.1 = some c)
    (hl : l.df = none) (hdef : defaultsOf l.params X.env = ([], [])) : PE X (.Lambda l.params l.body l.scope pos) (tLamV X T l) := by
  refine ⟨fun pins s σ H Q I ⟨hT, k⟩ => ?_⟩
  refine PySem.W.kla_eval hdef ?_
  rw [makeFunction_eq]
  simp only [List.zip_nil_right, List.filterMap_nil, List.isEmpty_nil, if_true, pure_bind]
  refine lam_tailF I TB hcode hm hu hT (hfree I.ok) fun f c' doc pm ctv H1 s' I1 eN T1 hf hco => ?_
  exact ⟨.ref f, H1, I1, rfl, k f H1 eN T1 ⟨c', _, doc, pm, ctv, hf, hco, by rw [hl]⟩⟩
theorem pe_lamVD {e0 : Expr} {i0 : Int} (TB : TabB X.base X.mg cc Pt) (hcode : X.env.code = .ref cc) (hm : (Pt, X.env.qual ++ "<lambda>") ∈ T) (hu : ∀ p ∈ T, p.1 = Pt → p.2 = X.env.qual ++ "<lambda>") (hfree : X.Ok → ∀ y ∈ l.scope.names, y.2 = .free → ∃ c, X.env.cells.lookup y.1 = some c)
    (hl : l.df = some i0) (he0 : PE X e0 (tC (.int i0))) (hd1 : l.params.defaults = [e0]) (hk0 : l.params.kw_defaults = []) : PE X (.Lambda l.params l.body l.scope pos) (tLamV X T l) := by
  refine ⟨fun pins s σ H Q I ⟨hT, k⟩ => ?_⟩
  refine PySem.W.kdv_lam (by rw [hd1]; rfl) hk0 ?_
  rw [hd1]
  refine PySem.W.kdv_all1 (thn (he0.run pins s σ H (fun v H1 => v = .int i0 ∧ H1 = H) I ⟨rfl, rfl⟩) fun u0 s0 ⟨v, H1, I0, r1, q1⟩ => ?_)
  obtain ⟨ev, eH⟩ := q1
  subst ev
  rw [eH] at I0
  refine PySem.W.kdv_all0 ?_
  rw [makeFunction_eq]
  simp only [List.zip_nil_right, List.filterMap_nil, List.isEmpty_nil, if_true, pure_bind, List.isEmpty_cons, Bool.false_eq_true, if_false]
  refine wpAny_bind (wpAny_newTextTuple ?_)
  have t0n : H s0.heap.objs.size = none := I0.hok.fresh (Nat.le_refl _)
  have t0g : (s0.heap.push (PySem.W.kdv_tup [u0])).get? s0.heap.objs.size = some (PySem.W.kdv_tup [u0]) := Heap.get?_push_size _ rfl
  have I1 : Inv X pins σ (upd H s0.heap.objs.size (.tup [.int i0])) { s0 with heap := s0.heap.push (PySem.W.kdv_tup [u0]) } := I0.laid (t' := s0.toks) (fun b o e => Heap.get?_push_of_some _ e) (Nat.le_refl _) ⟨sz (by simp), [u0], .cons r1 .nil, ⟨_, t0g, ⟨rfl, ⟨_, rfl⟩⟩⟩⟩
  refine lam_tailF I1 TB hcode hm hu (tabs_new t0n hT) (hfree I0.ok) fun f c' doc pm ctv H2 s' I2 hE T1 hf hco => ?_
  exact ⟨.ref f, H2, I2, rfl, k f H2 ((extN_new t0n).trans hE) T1 ⟨c', _, doc, pm, ctv, hf, hco, by rw [hl]; exact ⟨_, rfl, hE _ _ upd_same (fun ps z => by cases z)⟩⟩⟩
end
end DL
/-! The data layer, part n-k: the call of a lambda that is kept, from deep below. -/
namespace DL
open PySem PySem.Spec PyProof.Rows L2 LamX
theorem Un.then {fs fs' : List Addr} {H H1 H2 : Hp} {h h1 h2 : Heap} (a : Un fs [] H H1 h h1) (b : Un fs' [] H1 H2 h1 h2) (sub : ∀ x o, h.get? x = some o → x ∉ fs → x ∉ fs') : Un fs [] H H2 h h2 where
  keep := fun c ob q n hc hx => b.keep c ob (a.keep c ob q n hc hx) (a.free c ob q n hx) (sub c ob q hc) hx
  slot := fun c ob q n hc hx => by
    obtain ⟨sl, e1⟩ := a.slot c ob q n hc hx
    obtain ⟨sl', e2⟩ := b.any e1 (a.free c ob q n hx) hx
    exact ⟨sl', e2⟩
  free := fun c ob q n hx => by
    obtain ⟨o', e1⟩ := a.there c ob q hx
    exact b.free c o' e1 (a.free c ob q n hx) hx
  there := fun c ob q hx => by
    obtain ⟨o', e1⟩ := a.there c ob q hx
    exact b.there c o' e1 hx
  tups := fun c xs q => b.tups c xs (a.tups c xs q)
  frzs := fun c o u q => b.frzs c o u (a.frzs c o u q)
  tbls := fun c ps q => by
    obtain ⟨m1, e1⟩ := a.tbls c ps q
    obtain ⟨m2, e2⟩ := b.tbls c _ e1
    exact ⟨m1 ++ m2, by rw [e2, Array.append_assoc]⟩
/-- what a lambda's names must be -/
def LmOk (X : Cx) (l : Lm) : Prop := match l.df with
  | none => LamS X.env.scope l.scope ∧ ∀ (q : Str) (cl : List (Str × Addr)) (doc pm cv ctv : Value), bindArgs (PySem.W.kdv_fn "<lambda>" q l.params (.expr l.body) l.scope cl .none doc pm cv ctv) ⟨[], []⟩ = pure []
  | some _ => ∃ p, LamP X.N X.env.scope l.scope p ∧ ∀ (q : Str) (cl : List (Str × Addr)) (t0 : Addr) (doc pm cv ctv : Value), ∃ k, bindArgs (PySem.W.kdv_fn "<lambda>" q l.params (.expr l.body) l.scope cl (.ref t0) doc pm cv ctv) ⟨[], []⟩ = (seqItems? (.ref t0) >>= k) ∧ ∀ u : Value, k (some [u].toArray) = pure [(p, u)]
theorem lmOk_s {X : Cx} {ps : Arguments} {b : Expr} {sc : Scope} (L : LamS X.env.scope sc) (hb : ∀ (q : Str) (cl : List (Str × Addr)) (doc pm cv ctv : Value), bindArgs (PySem.W.kdv_fn "<lambda>" q ps (.expr b) sc cl .none doc pm cv ctv) ⟨[], []⟩ = pure [] := by intros; rfl) : LmOk X ⟨ps, b, sc, none⟩ := ⟨L, hb⟩
theorem lmOk_d {X : Cx} {ps : Arguments} {b : Expr} {sc : Scope} {i : Int} {p : Str} (L : LamP X.N X.env.scope sc p) (hb : ∀ (q : Str) (cl : List (Str × Addr)) (t0 : Addr) (doc pm cv ctv : Value), ∃ k, bindArgs (PySem.W.kdv_fn "<lambda>" q ps (.expr b) sc cl (.ref t0) doc pm cv ctv) ⟨[], []⟩ = (seqItems? (.ref t0) >>= k) ∧ ∀ u : Value, k (some [u].toArray) = pure [(p, u)] := by intros; exact ⟨_, rfl, fun _ => rfl⟩) : LmOk X ⟨ps, b, sc, some i⟩ := ⟨p, L, hb⟩
section
variable {X : Cx} {pins : List (Addr × Obj)} {σ : L2.St} {H : Hp} {s : Shared}
theorem pe_actT {CXg : CXT} {Eg : XK} {Ng : List Str} {qg : Str} {sg : Scope} {g f : Addr} {cdg : Value} {AY : Around} {stY : List Env} {sY : Shared} {HY : Hp} {l : Lm} {k i : Nat} {a : Str} {pn : List (Addr × Obj)} {xe : Value → Shared → Prop} {W : WX} {E : XK} {tb : TE} {p1 p2 : Pos}
    (I : Inv X pins σ H s) (L : LmOk X l) (un0 : Un (frs X.stack) [] H HY s.heap sY.heap) (hst : ∀ x o, s.heap.get? x = some o → x ∉ frs X.stack → x ∉ frs stY)
    (tk : L2N.Takes ((cxOf CXg X.prog X.w X.K X.mg X.base Ng qg sg g cdg AY stY sY HY Eg).tr pn xe) W) (hW : ∀ cls d σ' H', E cls d H' → W cls d σ' H') (hr : Room (k + 1) (AY.deeper (envOfC qg sg sY.heap.objs.size g cdg)))
    (hbody : ∀ (A : Around) (outer : List Env) (s : Shared) (H : Hp) (c' : Addr), Room k (A.deeper (lamEnv X l.scope s.heap.objs.size f c')) → PE (lamN X A outer s H E l.scope f c') l.body tb)
    (hN : Ng[i]? = some a) (hv : Vis sg a) (hd : (a == ("__debug__" : Str)) = false) (hcd : (a == ("__classdict__" : Str)) = false) :
    PE ((cxOf CXg X.prog X.w X.K X.mg X.base Ng qg sg g cdg AY stY sY HY Eg).tr pn xe) (.Call (.Name a p1) [] [] p2)
      (fun σZ HZ Q => σZ[i]? = some (some (.ref f)) ∧ LamH X HZ l f ∧ tb σ HZ Q) := by
  refine ⟨fun pinsZ sZ σZ HZ Q IZ h => ?_⟩
  obtain ⟨hs, ⟨c', dV, doc, pm, ctv, hf, hc, hdf⟩, ht⟩ := h
  refine wpAny_Call_Name_kw (thn ((pe_var (pos := p1) (i := i) hN hv hd hcd).run pinsZ sZ σZ HZ (fun v H1 => v = .ref f ∧ H1 = HZ) IZ ⟨.ref f, hs, rfl, rfl⟩) fun u s1 ⟨v, H1, I1, r1, q1⟩ => ?_)
  obtain ⟨ev, eH⟩ := q1
  subst ev
  rw [eH] at I1
  obtain rfl : u = Value.ref f := r1
  have of1 : s1.heap.get? f = some (lamO (X.env.qual ++ "<lambda>") l.params l.body l.scope (cloFrom X.env.cells l.scope.names []) dV doc pm c' ctv) := (I1.hok f _ hf).1
  have un : Un (frs X.stack) [] H HZ s.heap s1.heap := Un.then un0 I1.base hst
  refine PySem.W.callWith_F0 ⟨_, _, _, _, of1⟩ ?_
  obtain ⟨⟨oc, vs, t, hoc, hdc, hvc⟩, _, _⟩ := I1.hok c' _ hc
  have rc : codeAny (model X.prog X.w) (AY.deeper (envOfC qg sg sY.heap.objs.size g cdg)) (.call (.ref f) ⟨[], []⟩) (CR (L2N.CX X.prog X.w) (envOfC qg sg sY.heap.objs.size g cdg :: stY) X.prog X.w HZ s1 Q E) s1 := by
    cases e : l.df with
    | none =>
      simp only [LmOk, e] at L
      simp only [e] at hdf
      subst hdf
      obtain ⟨L, hb⟩ := L
      refine PySem.W.kla_callFunE hr.depth of1 rfl L.co L.gen rfl ⟨c', oc, vs, t, rfl, hoc, hdc, hvc⟩ ?_
      rw [hb]
      refine wpAny_pure (wpAny_newFunctionEnv (fun y hy => (L.own y hy).2) (fun y hy => absurd hy (by simp)) (fun h₁ hns hsb => ⟨I1.nolimit.fresh _ hsb, ?_⟩) L.kind)
      show codeAny _ _ (.expr l.body (lamEnv X l.scope s1.heap.objs.size f c')) _ _
      have kp : ∀ b o, s1.heap.get? b = some o → h₁.get? b = some o := fun b o e => hsb.extBut b o (Nat.ne_of_lt (Heap.lt_size e)) (Heap.get?_push_of_some _ e)
      have J0 := lam_start2 (A := AY.deeper (envOfC qg sg sY.heap.objs.size g cdg)) (outer := envOfC qg sg sY.heap.objs.size g cdg :: stY) (s1 := s1) (HZ := HZ) (E := E) (scope := l.scope) (f := f) (c' := c') (tk := s1.toks + ([] : List (Str × Value)).length) I L I1.env0 hr.hd un hns kp
      have J : Inv (lamN X (AY.deeper (envOfC qg sg sY.heap.objs.size g cdg)) (envOfC qg sg sY.heap.objs.size g cdg :: stY) s1 HZ E l.scope f c') [] σ HZ { s1 with heap := h₁, toks := s1.toks + ([] : List (Str × Value)).length } := J0.wish _
      refine PySem.W.kla_codeExpr (wpAny_mono ((hbody _ _ s1 HZ c' (hr.deeper _)).run [] _ _ HZ Q J ht) (fun v s' hq => ?_) fun e s' hq => hq)
      obtain ⟨w', H', J', rv, q⟩ := hq
      exact ⟨w', H', J'.os, J'.bare, J'.base, J'.hok, rv, q⟩
    | some i0 =>
      simp only [LmOk, e] at L
      simp only [e] at hdf
      obtain ⟨t0, rfl, ht0⟩ := hdf
      obtain ⟨p, L, hb⟩ := L
      obtain ⟨_, its, rv0, ot, eo, _, n0, hdo⟩ := I1.hok t0 _ ht0
      obtain ⟨u0, rfl⟩ : ∃ u0, its = [u0] := by
        cases rv0 with
        | cons r t => cases t with | nil => exact ⟨_, rfl⟩
      obtain ⟨kk, hb1, hb2⟩ := hb (X.env.qual ++ "<lambda>") (cloFrom X.env.cells l.scope.names []) t0 doc pm (.ref c') ctv
      refine PySem.W.kla_callFunE hr.depth of1 rfl L.co L.gen rfl ⟨c', oc, vs, t, rfl, hoc, hdc, hvc⟩ ?_
      refine (BindsTo.of_defaults (s := s1) (binds := [(p, u0)]) rfl eo hdo hb1 (hb2 u0)) _ _ _ _ ?_
      refine wpAny_newFunctionEnv (fun y hy => (L.own y hy).1) (fun y hy => by rw [List.mem_singleton] at hy; rw [hy]; exact L.loc) (fun h₁ hns hsb => ⟨I1.nolimit.fresh _ hsb, ?_⟩) L.kind
      show codeAny _ _ (.expr l.body (lamEnv X l.scope s1.heap.objs.size f c')) _ _
      have kp : ∀ b o, s1.heap.get? b = some o → h₁.get? b = some o := fun b o e => hsb.extBut b o (Nat.ne_of_lt (Heap.lt_size e)) (Heap.get?_push_of_some _ e)
      have J0 := lam_start3 (A := AY.deeper (envOfC qg sg sY.heap.objs.size g cdg)) (outer := envOfC qg sg sY.heap.objs.size g cdg :: stY) (s1 := s1) (HZ := HZ) (E := E) (scope := l.scope) (f := f) (c' := c') (tk := s1.toks + [(p, u0)].length) I L I1.env0 hr.hd un hns kp
      have J : Inv (lamN X (AY.deeper (envOfC qg sg sY.heap.objs.size g cdg)) (envOfC qg sg sY.heap.objs.size g cdg :: stY) s1 HZ E l.scope f c') [] σ HZ { s1 with heap := h₁, toks := s1.toks + [(p, u0)].length } := J0.wish _
      refine PySem.W.kla_codeExpr (wpAny_mono ((hbody _ _ s1 HZ c' (hr.deeper _)).run [] _ _ HZ Q J ht) (fun v s' hq => ?_) fun e s' hq => hq)
      obtain ⟨w', H', J', rv, q⟩ := hq
      exact ⟨w', H', J'.os, J'.bare, J'.base, J'.hok, rv, q⟩
  refine wpAny_call (codeAny_mono rc fun r s' hq => ?_)
  cases r with
  | error e => exact L2N.passes_call tk hW pinsZ σZ HZ s1 e s' I1 hq
  | ok fl =>
    cases fl with
    | ret u => exact I1.after hq
    | next => exact False.elim hq
    | brk => exact False.elim hq
    | cont => exact False.elim hq
end
end DL
/-! The data layer, part n-l: a list of lambdas is laid, handed to a def that hands each to a def that calls it. -/
namespace DL
open PySem PySem.Spec PyProof.Rows L2 LamX
/-! ### worlds -/
section
variable {K : PySem.W.Frag} {w w' : Wd} {H1 : Hp} {a : Addr}
theorem bh_ext (ok : Ok K w) (eN : ExtN w.H H1) (T1 : Tabs w.tb H1) : Bh K w (w.at H1) := by
  have kp1 : Kp w (w.at H1) := Kp.of (fun b u hm e n => ⟨hm.at, eN b u e n⟩) (fun r b u e => ⟨e, fun q => by
    obtain ⟨xs, rfl⟩ := ok.ll r b u e
    exact eN b _ q (fun ps z => by cases z)⟩) rfl rfl rfl
  exact ⟨kp1, ⟨fun b m e => by
      obtain ⟨u, q, n1, _⟩ := ok.plain e
      exact (ok.mo b m e).mono kp1 (by show H1 b = _; rw [eN b u q n1, q]),
    fun b u e => by
      obtain ⟨xs, rfl⟩ := ok.hl b u e
      exact eN b _ (ok.hid b _ e) (fun ps z => by cases z), ok.ap, fun r b u e => by
      obtain ⟨xs, rfl⟩ := ok.ll r b u e
      exact eN b _ (ok.len r b _ e) (fun ps z => by cases z), ok.lap, ok.lfr, ok.hl, ok.ll, T1⟩, rfl, rfl⟩
theorem fr_ext (ok : Ok K w) {φ : Heap → Prop} (h : w.H a = some (.ext φ)) : Fr w a := by
  refine ⟨?_, ?_, fun r => ?_⟩
  · cases e : w.M a with
    | none => rfl
    | some m =>
      obtain ⟨u, q, _, n2⟩ := ok.plain e
      rw [h] at q
      exact absurd (Option.some.inj q).symm (n2 _)
  · cases e : w.hd a with
    | none => rfl
    | some u =>
      obtain ⟨xs, rfl⟩ := ok.hl a u e
      have q := ok.hid a _ e
      rw [h] at q; cases q
  · cases e : w.ln r a with
    | none => rfl
    | some u =>
      obtain ⟨xs, rfl⟩ := ok.ll r a u e
      have q := ok.len r a _ e
      rw [h] at q; cases q
theorem fr_tup (ok : Ok K w) {xs : List V} (h : w.H a = some (.tup xs)) : Fr w a := by
  refine ⟨?_, ?_, fun r => ?_⟩
  · cases e : w.M a with
    | none => rfl
    | some m =>
      have z := ok.mo a m e
      cases m with
      | lst ds => obtain ⟨xs, h1, _⟩ := z; rw [h] at h1; cases h1
      | bg k => obtain ⟨_, _, _, _, _, _, h1, _⟩ := z; rw [h] at h1; cases h1
      | dK kvs => obtain ⟨_, h1, _⟩ := z; rw [h] at h1; cases h1
      | dT kvs => obtain ⟨_, h1, _⟩ := z; rw [h] at h1; cases h1
      | ins C fs => obtain ⟨_, _, h1, _⟩ := z; rw [h] at h1; cases h1
  · cases e : w.hd a with
    | none => rfl
    | some u =>
      obtain ⟨xs, rfl⟩ := ok.hl a u e
      have q := ok.hid a _ e
      rw [h] at q; cases q
  · cases e : w.ln r a with
    | none => rfl
    | some u =>
      obtain ⟨xs, rfl⟩ := ok.ll r a u e
      have q := ok.len r a _ e
      rw [h] at q; cases q
end
theorem LamH.mono {X : Cx} {K : PySem.W.Frag} {w w' : Wd} {l : Lm} {f : Addr} (ok : Ok K w) (k : Kp w w') (h : LamH X w.H l f) : LamH X w'.H l f := by
  obtain ⟨c', dV, doc, pm, ctv, h1, h2, h3⟩ := h
  have ex : ∀ {a : Addr} {φ : Heap → Prop}, w.H a = some (.ext φ) → w'.H a = some (.ext φ) := fun {a φ} e => by
    obtain ⟨_, u, q1, q2⟩ := k.fr a _ (fr_ext ok e) e (fun ps z => by cases z)
    rw [q1, unl_ext (φ := φ) (show unl u = .ext φ from q2)]
  have tu : ∀ {a : Addr} {xs : List V}, w.H a = some (.tup xs) → w'.H a = some (.tup xs) := fun {a xs} e => by
    obtain ⟨_, u, q1, q2⟩ := k.fr a _ (fr_tup ok e) e (fun ps z => by cases z)
    rw [q1, unl_tup (show unl u = .tup xs from q2)]
  refine ⟨c', dV, doc, pm, ctv, ex h1, ex h2, ?_⟩
  split at h3
  · exact h3
  · obtain ⟨t0, e, q⟩ := h3
    exact ⟨t0, e, tu q⟩
/-- the lambdas stand there, one behind the other -/
def LamsH (X : Cx) (H : Hp) : List Lm → List Addr → Prop
  | [], fs => fs = []
  | l :: ls, fs => ∃ f r, fs = f :: r ∧ LamH X H l f ∧ LamsH X H ls r
theorem LamsH.mono {X : Cx} {K : PySem.W.Frag} {w w' : Wd} (ok : Ok K w) (k : Kp w w') : ∀ {ls : List Lm} {fs : List Addr}, LamsH X w.H ls fs → LamsH X w'.H ls fs
  | [], _, h => h
  | l :: ls, _, ⟨f, r, e, h, t⟩ => ⟨f, r, e, h.mono ok k, LamsH.mono ok k t⟩
theorem LamsH.len {X : Cx} {H : Hp} : ∀ {ls : List Lm} {fs : List Addr}, LamsH X H ls fs → fs.length = ls.length
  | [], _, h => by rw [show _ = [] from h]; rfl
  | l :: ls, _, ⟨f, r, e, h, t⟩ => by rw [e, List.length_cons, List.length_cons, LamsH.len t]
def tLams (X : Cx) (T : List (Addr × Str)) : List Lm → TA
  | [] => tNil
  | l :: ls => tCons (tLamV X T l) (tLams X T ls)
theorem lams_run {X : Cx} {σ : L2.St} : ∀ (ls : List Lm) (w : Wd) (Qn : List V → Hp → Prop), Ok X.K w → (∀ fs H1, Bh X.K w (w.at H1) → LamsH X H1 ls fs → Qn (fs.map V.ref) H1) → tLams X w.tb ls σ w.H Qn
  | [], w, Qn, ok, k => by
    have := k [] w.H (by exact Bh.refl ok) rfl
    exact this
  | l :: ls, w, Qn, ok, k => by
    refine ⟨ok.tabs, fun f H1 eN T1 hl => ?_⟩
    have b1 := bh_ext ok eN T1
    refine lams_run ls (w.at H1) _ b1.ok fun fs H2 b2 h2 => ?_
    have b : Bh X.K w (w.at H2) := b1.trans b2
    have := k (f :: fs) H2 b ⟨f, fs, rfl, LamH.mono (w := w.at H1) (w' := w.at H2) b1.ok b2.kp hl, h2⟩
    exact this
theorem rp_refs {K : PySem.W.Frag} {w : Wd} : ∀ (fs : List Addr), RpL K w (fs.map D.ref) (fs.map V.ref)
  | [] => rfl
  | f :: r => ⟨_, _, rfl, rfl, rp_refs r⟩
@[simp] def dAsks (i n : Nat) (tR : List Addr → DS) : DS := fun D ρ M => ∀ fs : List Addr, fs.length = n → tR fs D (ρ.set i (some (.lst 0 (fs.map DL.D.ref)))) M
section
variable {X : Cx} {c : Wd} {cl : Str → Addr} {tb : List (Addr × Str)}
theorem pdss_asks {ls : List Lm} {es : List Expr} {i : Nat} {x : Str} {p p' pos : Pos} {rest : List Stmt} {tR : List Addr → DS} (hcc : Cc cl tb c) (hN : X.N.Nodup) (hA : PA X es (tLams X tb ls)) (hn : ls.length ≤ 1000)
    (hR : ∀ (c1 : Wd) (fs : List Addr), Cc cl tb c1 → Ok X.K c1 → LamsH X c1.H ls fs → PDSs c1 X rest (tR fs)) (hi : X.N[i]? = some x := by rfl) (hx : Loc X.env.scope x := by first | exact Or.inl rfl | exact Or.inr rfl) (hs : swapsWith (.List es p) (some (.Name x p')) pos.line X.env = pure false := by rfl) (hf : X.fn x = true ∨ X.env.scope.names.lookup x = some .local := by first | exact .inl rfl | exact .inr rfl) :
    PDSs c X (.Assign [.Name x p'] (.List es p) pos :: rest) (dAsks i ls.length tR) := by
  have hu : PSs X rest (fun D σ H => ∃ c1 fs, Cc cl tb c1 ∧ Ok X.K c1 ∧ LamsH X c1.H ls fs ∧ liftS X.K c1 (tR fs) D σ H) := ⟨fun pins s σ H D I ⟨c1, fs, h1, h2, h3, q⟩ => (hR c1 fs h1 h2 h3).run pins s σ H D I q⟩
  refine PSs_imp (pss_cons (ps_set hN hi hx (pe_lst hA) hs hf) hu) fun D σ H ⟨ρ, w, D', hH, a, h, k⟩ => ?_
  subst hH
  have tbw : w.tb = tb := a.kp.tb.trans hcc.tb
  show tLams X tb ls σ w.H _
  have key : ∀ T, T = w.tb → ∀ Qn, tLams X w.tb ls σ w.H Qn → tLams X T ls σ w.H Qn := fun T e Qn q => by rw [e]; exact q
  refine key tb tbw.symm _ ?_
  refine lams_run ls w _ a.ok fun fs H1 b1 hl => ?_
  have hfl := hl.len
  refine ⟨by rw [List.length_map, hfl]; exact sz (by omega), fun q hq => ?_⟩
  have b2 : Bh X.K (w.at H1) ((w.at H1).at (upd H1 q (.lst (fs.map V.ref)))) := Bh.new b1.ok hq
  have b := b1.trans b2
  have at2 := a.next b
  have rr : RpL X.K (w.at H1) (fs.map DL.D.ref) (fs.map V.ref) := rp_refs _
  have rl := rp_lst (K := X.K) (w := w.at H1) b1.ok hq rr
  refine ⟨(w.at H1).at (upd H1 q (.lst (fs.map V.ref))), fs, hcc.sc (a.kp.trans b.kp).sc, b.ok, LamsH.mono (w := w.at H1) b1.ok b2.kp hl, ρ.set i (some (.lst 0 (fs.map DL.D.ref))), (w.at H1).at (upd H1 q (.lst (fs.map V.ref))), D', rfl, ⟨Kp.refl _, (at2.set rl).re, b.ok, rfl, rfl⟩, h fs hfl, ?_⟩
  have lift : ∀ {w' : Wd} {ρ' : DEnv} {σ' : L2.St}, At X.K ((w.at H1).at (upd H1 q (.lst (fs.map V.ref)))) w' ρ' σ' → At X.K c w' ρ' σ' := fun z => ⟨(a.kp.trans b.kp).trans z.kp, z.re, z.ok, z.hd.trans at2.hd, z.ln.trans at2.ln⟩
  exact { nx := fun ρ' w' σ' q1 b' a' => k.nx ρ' w' σ' q1 (b.trans b') (lift a'), rt := k.rt.back b, bk := fun ρ' w' σ' q1 b' a' => k.bk ρ' w' σ' q1 (b.trans b') (lift a'), ct := fun ρ' w' σ' q1 b' a' => k.ct ρ' w' σ' q1 (b.trans b') (lift a') }
end
end DL
/-! The data layer, part n-m: the def that hands each lambda on, and its call. -/
namespace DL
open PySem PySem.Spec PyProof.Rows L2 LamX
/-- the call of the name a in the frame Y does this -/
def ActIn (cl : Str → Addr) (tb : List (Addr × Str)) (cg : Wd) (Y : Cx) (a : Str) (f : Addr) (tl : DAct) : Prop :=
  ∀ (cb : Wd) (E' : DXK) (pn : List (Addr × Obj)) (xe : Value → Shared → Prop) (p1 p2 : Pos), Cc cl tb cb → Kp cg cb → Tk cb (Y.tr pn xe) E' → PD cb (Y.tr pn xe) (.Call (.Name a p1) [] [] p2) (dAct f tl E')
/-- in each frame of the def x that is called from X, these lambdas act -/
def ActsIn (cl : Str → Addr) (tb : List (Addr × Str)) (k : Nat) (c : Wd) (X : Cx) (Ng : List Str) (x : Str) (st : Stmt) (g : Addr) (a : Str) (acts : List (Addr × DAct)) : Prop :=
  ∀ f tl, (f, tl) ∈ acts → ∀ (w : Wd) (pins : List (Addr × Obj)) (σ : L2.St) (s : Shared), Ok X.K w → Kp c w → Inv X pins σ w.H s → ∀ cdv : Value, Room (k + 1) (X.A.deeper (envOfC x (defScope st) s.heap.objs.size g cdv)) →
    ActIn cl tb w (cxOf CX0 X.prog X.w X.K X.mg X.base Ng x (defScope st) g cdv X.A X.stack s w.H E0) a f tl
@[simp] def dTryA (TT : DAct → Mu → DK → Prop) (acts : List (Addr × DAct)) (te : DE) : DE := fun ρ M Q => te ρ M fun d M1 => ∃ f tl, d = .ref f ∧ (f, tl) ∈ acts ∧ TT tl M1 Q
section
variable {X : Cx} {c : Wd} {cl : Str → Addr} {tb : List (Addr × Str)} {x a y : Str} {st : Stmt} {g : Addr} {fd : FuncData} {Ng : List Str} {k : Nat} {te : DE} {tG : Addr → DAct → DS} {TT : DAct → Mu → DK → Prop} {acts : List (Addr × DAct)} {p p' pos : Pos}
theorem pd_callA (hcc : Cc cl tb c) (F : FunD X.K x x (defArgs st) (defBody st) (defScope st) [] [] g fd) (hm : X.mg x = some (.ref g)) (hb : L2.Binds X.K fd [a] []) (Sg : FnScope Ng [a] (defScope st))
    (hG : ∀ (cdv : Value) (s : Shared) (H : Hp) (f : Addr) (cg : Wd) (tl : DAct), Cc cl tb cg → Room (k + 1) (X.A.deeper (envOfC x (defScope st) s.heap.objs.size g cdv)) →
      (∀ (cb : Wd) (E' : DXK) (pn : List (Addr × Obj)) (xe : Value → Shared → Prop) (p1 p2 : Pos), Cc cl tb cb → Kp cg cb → Tk cb ((cxOf CX0 X.prog X.w X.K X.mg X.base Ng x (defScope st) g cdv X.A X.stack s H E0).tr pn xe) E' →
        PD cb ((cxOf CX0 X.prog X.w X.K X.mg X.base Ng x (defScope st) g cdv X.A X.stack s H E0).tr pn xe) (.Call (.Name a p1) [] [] p2) (dAct f tl E')) →
      PDSs cg (cxOf CX0 X.prog X.w X.K X.mg X.base Ng x (defScope st) g cdv X.A X.stack s H E0) (defBody st) (tG f tl))
    (hT : ∀ f tl M Q, TT tl M Q → tG f tl { nx := fun _ M' => Q .non M', rt := Q } (startD Ng [.ref f]) M)
    (hact : ActsIn cl tb k c X Ng x st g a acts) (hr : Room (k + 2) X.A) (he : PD c X (.Name y p') te)
    (hg : Gl X x := by rfl) (hdb : (x == ("__debug__" : Str)) = false := by decide) :
    PD c X (.Call (.Name x p) [.Name y p'] [] pos) (dTryA TT acts te) := by
  refine ⟨fun pins s σ H Q I ⟨ρ, w, Q', hH, at0, h, kw⟩ => ?_⟩
  subst hH
  obtain ⟨oc, od, dV, kV, doc, pm, an, cdv, ct, osl, rfl, lk, hcg, _, _⟩ := F.ex
  refine wpAny_Call_Name_kw (ld_glob I hg hm ?_ hdb)
  refine PySem.W.callWith_K (h₀ := X.base) I.ok.mod.kin F.kp ?_ (by rfl) (by rfl)
  show wpAny _ _ (spliced ((false, eval (.Name y p') X.env) :: backTo pos (starEach [] X.env))) _ _ s
  refine Calls.spliced_cons (thn (he.run pins s σ w.H (fun v H1 => ∃ f tl w1, v = .ref f ∧ H1 = w1.H ∧ (f, tl) ∈ acts ∧ Bh X.K w w1 ∧ TT tl w1.M Q') I ⟨ρ, w, _, rfl, at0, h, fun d w' v ⟨f, tl, e, hf, q⟩ b r => by
    subst e
    obtain rfl : v = .ref f := r
    exact ⟨f, tl, w', rfl, rfl, hf, b, q⟩⟩) fun u s1 ⟨v, H1, I1, r1, f, tl, w1, ev, eH, hf, b1, ht⟩ => ?_)
  subst ev eH
  obtain rfl : u = Value.ref f := r1
  refine Calls.spliced_nil ⟨I1.kIn, ?_⟩
  have w1cc : Cc cl tb w1 := hcc.sc (at0.kp.trans b1.kp).sc
  have rc : codeAny (model X.prog X.w) X.A (.call (.ref g) ⟨[.ref f], []⟩) (CR CX0 X.stack X.prog X.w w1.H s1 Q E0) s1 := by
    refine run_ofS (k := k + 1) (N := Ng) (ps := [a]) (us := [.ref f]) (vs := [.ref f]) lk hcg Sg hr I1.env0 (hb s1 [.ref f] I1.kIn rfl) (.cons rfl .nil) rfl fun hr' => ?_
    refine ⟨_, hG cdv s1 w1.H f w1 tl w1cc hr' (hact f tl hf w1 pins σ s1 b1.ok (at0.kp.trans b1.kp) I1 cdv hr'), ?_⟩
    exact ⟨startD Ng [.ref f], w1, _, rfl, ⟨Kp.refl _, RE.start ⟨_, _, rfl, rfl, rfl⟩, b1.ok, rfl, rfl⟩, hT f tl _ Q' ht, { nx := fun ρ' w' σ' q b a => (kw.back b1) .non w' .non q b rfl, rt := kw.back b1, bk := fun _ _ _ q => q.elim, ct := fun _ _ _ q => q.elim }⟩
  refine wpAny_call (codeAny_mono rc fun r s2 hq => ?_)
  cases r with
  | error e => exact (show False from hq).elim
  | ok fl =>
    cases fl with
    | ret u => exact I1.after hq
    | next => exact False.elim hq
    | brk => exact False.elim hq
    | cont => exact False.elim hq
end
/-- the same, by what stands since the call of the frame ahead -/
def ActsAt (cl : Str → Addr) (tb : List (Addr × Str)) (k : Nat) (c : Wd) (X : Cx) (s : Shared) (H : Hp) (A2 : Around) (st2 : List Env) (Ng : List Str) (x : Str) (st : Stmt) (g : Addr) (a : Str) (acts : List (Addr × DAct)) : Prop :=
  ∀ f tl, (f, tl) ∈ acts → ∀ (w : Wd) (s2 : Shared), Ok X.K w → Kp c w → Un (frs X.stack) [] H w.H s.heap s2.heap → ∀ cdv : Value, Room (k + 1) (A2.deeper (envOfC x (defScope st) s2.heap.objs.size g cdv)) →
    ActIn cl tb w (cxOf CX0 X.prog X.w X.K X.mg X.base Ng x (defScope st) g cdv A2 st2 s2 w.H E0) a f tl
@[simp] def dTries (fs : List Addr) (tLs : List (DXK → DE)) (TTs : List DAct → Mu → DK → Prop) (te : DE) : DE := fun ρ M Q => te ρ M fun d M1 => ∃ r, d = .lst r (fs.map D.ref) ∧ TTs (tLs.map fun tL => fun E M' Q' => tL E ρ M' Q') M1 Q
theorem frs_new {X : Cx} {s : Shared} {qg : Str} {sg : Scope} {g : Addr} {cdg : Value} : ∀ x o, s.heap.get? x = some o → x ∉ frs X.stack → x ∉ frs (envOfC qg sg s.heap.objs.size g cdg :: X.stack) := fun x o e h z => by
  rcases List.mem_filterMap.mp z with ⟨n, hn, q⟩
  rcases List.mem_cons.mp hn with rfl | hn
  · have : s.heap.objs.size = x := Option.some.inj q
    exact Nat.lt_irrefl _ (this ▸ Heap.lt_size e)
  · exact h (List.mem_filterMap.mpr ⟨n, hn, q⟩)
section
variable {X : Cx} {c : Wd} {cl : Str → Addr} {tb : List (Addr × Str)} {x a y xt b : Str} {st stt : Stmt} {g gt : Addr} {fdt : FuncData} {Ng Nt : List Str} {k : Nat} {te : DE} {tGt : List (Addr × DAct) → DS} {TTs : List DAct → Mu → DK → Prop} {fs : List Addr} {ls : List Lm} {tLs : List (DXK → DE)} {p p' pos : Pos}
/-- one lambda of the list acts, deep below -/
theorem act_deep {pins : List (Addr × Obj)} {σ : L2.St} {s : Shared} {ρ : DEnv} {w1 : Wd} {l : Lm} {f : Addr} {tL : DXK → DE} {cdt : Value} (w1cc : Cc cl tb w1) (ok1 : Ok X.K w1) (re1 : RE X.K w1 ρ σ) (I : Inv X pins σ w1.H s) (L : LmOk X l) (hl : LamH X w1.H l f)
    (hbody : ∀ (A : Around) (outer : List Env) (s : Shared) (H : Hp) (E : XK) (f c' : Addr) (cL : Wd) (E' : DXK), Cc cl tb cL → Tk cL (lamN X A outer s H E l.scope f c') E' → Room k (A.deeper (lamEnv X l.scope s.heap.objs.size f c')) → PD cL (lamN X A outer s H E l.scope f c') l.body (tL E'))
    (hNg : Ng[0]? = some a) (hva : Vis (defScope st) a) (hd : (a == ("__debug__" : Str)) = false) (hcd : (a == ("__classdict__" : Str)) = false)
    {w : Wd} {s2 : Shared} (okw : Ok X.K w) (kw : Kp w1 w) (un : Un (frs X.stack) [] w1.H w.H s.heap s2.heap) {cdv : Value}
    (hr : Room (k + 1) ((X.A.deeper (envOfC xt (defScope stt) s.heap.objs.size gt cdt)).deeper (envOfC x (defScope st) s2.heap.objs.size g cdv))) :
    ActIn cl tb w (cxOf CX0 X.prog X.w X.K X.mg X.base Ng x (defScope st) g cdv (X.A.deeper (envOfC xt (defScope stt) s.heap.objs.size gt cdt)) (envOfC xt (defScope stt) s.heap.objs.size gt cdt :: X.stack) s2 w.H E0) a f (fun E M' Q' => tL E ρ M' Q') := by
  intro cb E' pn xe p1 p2 bcc bkp btk
  have act := pe_actT (E := XKof X.K cb E') (tb := fun σ H Q => ∃ cL : Wd, Cc cl tb cL ∧ Bh X.K cb cL ∧ lift X.K cL (tL E') σ H Q) (p1 := p1) (p2 := p2) (i := 0) (f := f) (l := l) I L un frs_new btk (fun _ _ _ _ h => h) hr
    (fun A outer s2 H2 c' hr2 => ⟨fun pins2 s3 σ3 H3 Q3 I3 ⟨cL, e1, e3, q⟩ => (hbody A outer s2 H2 _ f c' cL E' e1 (tkL fun n fs w' dd vs ee b' fr hx r => ⟨n, fs, w', dd, vs, by rw [e3.kp.cl], rfl, rfl, e3.trans b', fr, hx, r, ee⟩) hr2).run pins2 s3 σ3 H3 Q3 I3 q⟩) hNg hva hd hcd
  refine PE_imp act fun σZ HZ QZ ⟨ρZ, wZ, QZ', hHZ, aZ, ⟨h0, hq⟩, kZ⟩ => ?_
  subst hHZ
  have kpZ : Kp w1 wZ := (kw.trans bkp).trans aZ.kp
  obtain ⟨v0, e0, r0⟩ := aZ.re.2 0 _ h0
  obtain rfl : v0 = .ref f := r0
  exact ⟨e0, LamH.mono ok1 kpZ hl, wZ, bcc.sc aZ.kp.sc, aZ.bh, ρ, wZ, QZ', rfl, ⟨Kp.refl _, re1.mono kpZ, aZ.ok, rfl, rfl⟩, hq, kZ⟩
def LamsB (cl : Str → Addr) (tb : List (Addr × Str)) (k : Nat) (X : Cx) : List Lm → List (DXK → DE) → Prop
  | [], ts => ts = []
  | l :: ls, ts => ∃ tL r, ts = tL :: r ∧ LmOk X l ∧ (∀ (A : Around) (outer : List Env) (s : Shared) (H : Hp) (E : XK) (f c' : Addr) (cL : Wd) (E' : DXK), Cc cl tb cL → Tk cL (lamN X A outer s H E l.scope f c') E' → Room k (A.deeper (lamEnv X l.scope s.heap.objs.size f c')) → PD cL (lamN X A outer s H E l.scope f c') l.body (tL E')) ∧ LamsB cl tb k X ls r
theorem lams_mem {H : Hp} {ρ : DEnv} : ∀ {ls : List Lm} {fs : List Addr} {ts : List (DXK → DE)}, LamsH X H ls fs → LamsB cl tb k X ls ts → ∀ f tl, (f, tl) ∈ fs.zip (ts.map fun tL => fun E M' Q' => tL E ρ M' Q') → ∃ (l : Lm) (tL : DXK → DE), tl = (fun E M' Q' => tL E ρ M' Q') ∧ LmOk X l ∧ LamH X H l f ∧
    (∀ (A : Around) (outer : List Env) (s : Shared) (H : Hp) (E : XK) (f c' : Addr) (cL : Wd) (E' : DXK), Cc cl tb cL → Tk cL (lamN X A outer s H E l.scope f c') E' → Room k (A.deeper (lamEnv X l.scope s.heap.objs.size f c')) → PD cL (lamN X A outer s H E l.scope f c') l.body (tL E'))
  | [], fs, ts, h, _, f, tl, hm => by rw [show fs = [] from h] at hm; cases hm
  | l :: ls, fs, ts, ⟨f0, r, e, h1, h2⟩, ⟨tL, r', e', o, hb, t⟩, f, tl, hm => by
    subst e e'
    rw [List.map_cons, List.zip_cons_cons] at hm
    rcases List.mem_cons.mp hm with q | q
    · cases q; exact ⟨l, tL, rfl, o, h1, hb⟩
    · exact lams_mem h2 t f tl q
theorem LamsB.len : ∀ {ls : List Lm} {ts : List (DXK → DE)}, LamsB cl tb k X ls ts → ts.length = ls.length
  | [], _, h => by rw [show _ = [] from h]; rfl
  | l :: ls, _, ⟨_, r, e, _, _, t⟩ => by rw [e, List.length_cons, List.length_cons, LamsB.len t]
theorem pd_tries (hcc : Cc cl tb c) (okc : Ok X.K c) (F : FunD X.K xt xt (defArgs stt) (defBody stt) (defScope stt) [] [] gt fdt) (hm : X.mg xt = some (.ref gt)) (hb : L2.Binds X.K fdt [b] []) (Sg : FnScope Nt [b] (defScope stt))
    (hlh : LamsH X c.H ls fs) (hlb : LamsB cl tb k X ls tLs)
    (hG : ∀ (cdv : Value) (s : Shared) (H : Hp) (cg : Wd) (acts : List (Addr × DAct)), Cc cl tb cg → Room (k + 2) (X.A.deeper (envOfC xt (defScope stt) s.heap.objs.size gt cdv)) →
      ActsAt cl tb k cg X s H (X.A.deeper (envOfC xt (defScope stt) s.heap.objs.size gt cdv)) (envOfC xt (defScope stt) s.heap.objs.size gt cdv :: X.stack) Ng x st g a acts → PDSs cg (cxOf CX0 X.prog X.w X.K X.mg X.base Nt xt (defScope stt) gt cdv X.A X.stack s H E0) (defBody stt) (tGt acts))
    (hT : ∀ (acts : List (Addr × DAct)) r M Q, TTs (acts.map (·.2)) M Q → tGt acts { nx := fun _ M' => Q .non M', rt := Q } (startD Nt [.lst r (acts.map fun q => .ref q.1)]) M)
    (hNg : Ng[0]? = some a) (hva : Vis (defScope st) a) (hd : (a == ("__debug__" : Str)) = false) (hcd : (a == ("__classdict__" : Str)) = false)
    (hr : Room (k + 3) X.A) (he : PD c X (.Name y p') te) (hg : Gl X xt := by rfl) (hdb : (xt == ("__debug__" : Str)) = false := by decide) :
    PD c X (.Call (.Name xt p) [.Name y p'] [] pos) (dTries fs tLs TTs te) := by
  refine ⟨fun pins s σ H Q I ⟨ρ, w, Q', hH, at0, h, kw⟩ => ?_⟩
  subst hH
  obtain ⟨oc, od, dV, kV, doc, pm, an, cdv, ct, osl, rfl, lk, hcg, _, _⟩ := F.ex
  refine wpAny_Call_Name_kw (ld_glob I hg hm ?_ hdb)
  refine PySem.W.callWith_K (h₀ := X.base) I.ok.mod.kin F.kp ?_ (by rfl) (by rfl)
  show wpAny _ _ (spliced ((false, eval (.Name y p') X.env) :: backTo pos (starEach [] X.env))) _ _ s
  refine Calls.spliced_cons (thn (he.run pins s σ w.H (fun v H1 => ∃ r w1, Rp X.K w1 (.lst r (fs.map D.ref)) v ∧ H1 = w1.H ∧ Bh X.K w w1 ∧ TTs (tLs.map fun tL => fun E M' Q' => tL E ρ M' Q') w1.M Q') I ⟨ρ, w, _, rfl, at0, h, fun d w' v ⟨r, e, q⟩ b rr => by
    subst e
    exact ⟨r, w', rr, rfl, b, q⟩⟩) fun u s1 ⟨v, H1, I1, r1, r, w1, rv, eH, b1, ht⟩ => ?_)
  subst eH
  refine Calls.spliced_nil ⟨I1.kIn, ?_⟩
  have at1 := at0.next b1
  have w1cc : Cc cl tb w1 := hcc.sc at1.kp.sc
  have hl1 : LamsH X w1.H ls fs := hlh.mono okc at1.kp
  have hzl : fs.length = tLs.length := by rw [hl1.len, hlb.len]
  have rc : codeAny (model X.prog X.w) X.A (.call (.ref gt) ⟨[u], []⟩) (CR CX0 X.stack X.prog X.w w1.H s1 Q E0) s1 := by
    refine run_ofS (k := k + 2) (N := Nt) (ps := [b]) (us := [u]) (vs := [v]) lk hcg Sg hr I1.env0 (hb s1 [u] I1.kIn rfl) (.cons r1 .nil) rfl fun hr' => ?_
    refine ⟨_, hG cdv s1 w1.H w1 (fs.zip (tLs.map fun tL => fun E M' Q' => tL E ρ M' Q')) w1cc hr' (fun f tl hmem w2 s2 ok2 kp2 un2 cdv2 hr2 => ?_), ?_⟩
    · obtain ⟨l, tL, rfl, lo, lh, lb⟩ := lams_mem hl1 hlb f tl hmem
      exact act_deep w1cc b1.ok at1.re I1 lo lh lb hNg hva hd hcd ok2 kp2 un2 hr2
    · have ez : (fs.zip (tLs.map fun tL => fun E M' Q' => tL E ρ M' Q')).map (·.2) = tLs.map fun tL => fun E M' Q' => tL E ρ M' Q' := by
        rw [List.map_snd_zip]; simp [hzl]
      have ef : (fs.zip (tLs.map fun tL => fun E M' Q' => tL E ρ M' Q')).map (fun q => D.ref q.1) = fs.map D.ref := by
        rw [show (fun q : Addr × DAct => D.ref q.1) = D.ref ∘ Prod.fst from rfl, ← List.map_map, List.map_fst_zip]; simp [hzl]
      have hq := hT (fs.zip (tLs.map fun tL => fun E M' Q' => tL E ρ M' Q')) r w1.M Q' (by rw [ez]; exact ht)
      rw [ef] at hq
      exact ⟨startD Nt [.lst r (fs.map D.ref)], w1, _, rfl, ⟨Kp.refl _, RE.start ⟨_, _, rfl, rv, rfl⟩, b1.ok, rfl, rfl⟩, hq, { nx := fun ρ' w' σ' q b a => (kw.back b1) .non w' .non q b rfl, rt := kw.back b1, bk := fun _ _ _ q => q.elim, ct := fun _ _ _ q => q.elim }⟩
  refine wpAny_call (codeAny_mono rc fun r s2 hq => ?_)
  cases r with
  | error e => exact (show False from hq).elim
  | ok fl =>
    cases fl with
    | ret u => exact I1.after hq
    | next => exact False.elim hq
    | brk => exact False.elim hq
    | cont => exact False.elim hq
end
end DL
/-! The data layer, part n-n: a comprehension whose element knows from where its block was entered. -/
namespace DL
open PySem PySem.Spec PyProof.Rows L2 LamX
/-- the block's entry: a state of the frame X; what turns there is younger than the frame -/
def Entry (X : Cx) (t : Shared) (G : Hp) (fp : List Addr) : Prop := (∃ pins σ, Inv X pins σ G t) ∧ ∀ b ∈ fp, b ∈ X.ex ∨ X.s_0.heap.objs.size ≤ b
section
variable {X : Cx} {tg iter elt : Expr} {scope : Scope} {own : List (Str × Nat)} {wi : TI} {g : TG} {te : TE} {pos : Pos}
def tYes : TT := fun _ H Q => Q true H
theorem pe_lcI (hc : X.calm = true) (hN : X.N.Nodup) (hi : PI X tg iter wi) (ok : BlkOk X.N X.env.scope scope own) (hg : ∀ (t : Shared) (G : Hp) (C : Addr) (cs : List (Str × Addr)) (fp : List Addr), PG (X.blk t G scope (compEnvC scope cs C X.env) fp) tg g)
    (he : ∀ (t : Shared) (G : Hp) (C : Addr) (cs : List (Str × Addr)) (fp : List Addr), Entry X t G fp → PE (X.blk t G scope (compEnvC scope cs C X.env) fp) elt te) (hs : ∀ x, foldedSetIterable iter X.env x = pure x := by intro _; rfl) :
    PE X (.ListComp elt [⟨tg, iter, [], 0⟩] scope pos) (tLc wi g tYes te (own.map (·.2))) := by
  refine ⟨fun pins s σ H Q I want => ?_⟩
  have hasC : ∀ y ∈ scope.names, y.2 = .free → ∃ c, X.env.cells.lookup y.1 = some c := fun y hy e => (ok.free y hy e).elim (fun k => I.ok.has _ (.inl k)) fun k => I.ok.has _ (.inr k)
  rw [eval_ListComp]
  refine wpAny_comprehension_free (use := none) rfl hs (closure_ok hasC) ok.kind (fun y hy e => (ok.uniq y hy).trans (congrArg some e)) (thn (hi.run pins s σ H _ I want) fun _ _ first => thn first fun itv a2 came => ?_)
  obtain ⟨it, fp, tn, J, Ha, rfl, Ia, T, begun, young, mk⟩ := came
  refine wpAny_newObj_type (newEnv_comp ?_) (by show 0 ≤ sizeLine; decide)
  obtain ⟨W, ⟨m0, w0⟩, turn⟩ := mk a2.heap.objs.size (Ia.hok.fresh (Nat.le_refl _))
  -- the list that is made
  have Ib : Inv X pins σ (upd Ha a2.heap.objs.size (.lst [])) { a2 with heap := a2.heap.push { cls := .type "list", data := .seq ([] : List Value).toArray } } :=
    Ia.laid (t' := a2.toks) (fun _ _ e => Heap.get?_push_of_some _ e) (Nat.le_refl _) ⟨Nat.zero_le _, [], 0, .nil, Heap.get?_push_size _ rfl⟩
  have older : ∀ b ∈ fp, b < a2.heap.objs.size := fun b hb => (T.obj _ _ begun b hb).elim fun _ z => Heap.lt_size z.1
  generalize hL : a2.heap.objs.size = L at *
  generalize hb : ({ a2 with heap := a2.heap.push { cls := .type "list", data := .seq ([] : List Value).toArray } } : Shared) = b0 at *
  have hbh : b0.heap = a2.heap.push { cls := .type "list", data := .seq ([] : List Value).toArray } := by rw [← hb]
  generalize hG : upd Ha L (.lst []) = G at *
  have youngB : ∀ b ∈ fp, FpOk X pins G b ∧ b < b0.heap.objs.size := fun b hb' => by
    obtain ⟨y1, y2⟩ := young b hb'
    refine ⟨⟨?_, y2⟩, by rw [hbh, Heap.size_push, hL]; exact Nat.lt_succ_of_lt (older b hb')⟩
    rw [← hG, upd_ne (Nat.ne_of_lt (older b hb'))]; exact y1
  have Ic := block_start Ib ok hN youngB
  have entry : Entry X b0 G fp := ⟨⟨pins, σ, Ib⟩, fun b hb' => (youngB b hb').1.2.2.2.1⟩
  have peS := he b0 G b0.heap.objs.size (cellsFrom (b0.heap.objs.size + 1) scope.names (cloFrom X.env.cells scope.names [])) fp entry
  have pgS := hg b0 G b0.heap.objs.size (cellsFrom (b0.heap.objs.size + 1) scope.names (cloFrom X.env.cells scope.names [])) fp
  show codeAny _ _ (.compStart (.ListComp elt [⟨tg, iter, [], 0⟩] scope pos) 0 (.ref it) (.ref L) (compEnvC scope (cellsFrom (b0.heap.objs.size + 1) scope.names (cloFrom X.env.cells scope.names [])) b0.heap.objs.size X.env)) (compPost (model X.prog X.w) X.A X.xe none (EP X pins σ Q) (.ref L) b0.heap.objs.size) { b0 with heap := pushCells (b0.heap.push { cls := .type "dict", data := .dict #[] }) scope.names }
  generalize hE : compEnvC scope (cellsFrom (b0.heap.objs.size + 1) scope.names (cloFrom X.env.cells scope.names [])) b0.heap.objs.size X.env = E at *
  have locE : E.locals = b0.heap.objs.size := by rw [← hE]; rfl
  generalize hb1 : ({ b0 with heap := pushCells (b0.heap.push { cls := .type "dict", data := .dict #[] }) scope.names } : Shared) = b1 at *
  have begun1 : tn 0 b1.heap := by
    refine T.keep _ _ _ begun fun b _ o e => ?_
    rw [← hb1]
    refine pushCells_keeps _ _ _ _ (Heap.get?_push_of_some _ ?_)
    rw [hbh]; exact Heap.get?_push_of_some _ e
  have turnsOk : ∀ {τ : L2.St} {G' : Hp} {t : Shared}, Inv (X.blk b0 G scope E fp) [] τ G' t → (∀ b ∈ fp, G' b = none) → ∀ b ∈ fp, FpOk (X.blk b0 G scope E fp) [] G' b := fun V n b hb' =>
    ⟨n b hb', (V.ok.exf b hb').1, V.ok.exfs b hb', .inl hb', (V.ok.exf b hb').2, fun p hp => by cases hp⟩
  have run : codeAny (model X.prog X.w) X.A (.compLoop (.ListComp elt [⟨tg, iter, [], 0⟩] scope pos) 0 (.ref it) (.ref L) E) (compPost (model X.prog X.w) X.A X.xe none (EP X pins σ Q) (.ref L) b0.heap.objs.size) b1 := by
    refine compLoop_any (fun n t => ∃ i G', Inv (X.blk b0 G scope E fp) [] (wipe σ (own.map (·.2))) G' t ∧ tn i t.heap ∧ (∀ b ∈ fp, G' b = none) ∧ W i n G') (fun n t ⟨i, G', V, here, none', w⟩ => ?_) m0 ⟨0, G, Ic, begun1, fun b hb' => (youngB b hb').1.1, w0⟩
    rcases turn i n G' w with ⟨stop, fin⟩ | ⟨go, Nx, onward, step⟩
    · refine thnF (T.done (X.blk b0 G scope E fp) rfl rfl rfl hc i [] t _ G' (fun _ _ => False) V (turnsOk V none') here stop) fun r t' ⟨hr, V'⟩ => ?_
      subst hr
      have back : Inv X pins σ G' t' := Ib.call' (ch := fp) V'.os V'.base V'.hok V'.bare fun b hb' => ⟨(youngB b hb').1.2.2.2.1, (youngB b hb').1.2.1, (youngB b hb').1.2.2.2.2.1, (youngB b hb').1.2.2.2.2.2⟩
      have freeE : G' b0.heap.objs.size = none := locE ▸ (show G' E.locals = none from V'.free)
      obtain ⟨m, ns, _⟩ := V'.loc
      have ns' : t'.heap.Ns E.locals m := ns
      rw [locE] at ns'
      obtain ⟨f0, f1, f2, f3, f4, f5⟩ := Ib.fpOk (Nat.le_refl _) freeE
      exact ⟨m, ns', fun h'' sb => ⟨.ref L, G', back.turned (t' := t'.toks) (fun b o hne e => (sb.2 b hne).trans e) f0 f1 f3 f4 f5, rfl, fin⟩⟩
    · refine thnF (T.item (X.blk b0 G scope E fp) rfl rfl rfl hc i [] t _ G' (fun _ _ => False) V (turnsOk V none') here go) fun r t' ⟨u, hr, got⟩ => ?_
      subst hr
      refine thnF got fun _ t2 ⟨x, G2, V2, rx, yx, here2, none2⟩ => ?_
      have V2p := V2.pinned (turnsOk V2 none2) (T.obj _ _ here2)
      refine thnF (pgS.run _ t2 _ G2 x u _ V2p rx (step x G2 yx)) fun _ t3 ⟨τ, G3, V3, hw, q3⟩ => ?_
      have next : ∀ {t' : Shared} {G' : Hp}, Inv (X.blk b0 G scope E fp) ([] ++ pinsAt fp t2.heap) τ G' t' → Nx G' → ∃ m, m < n ∧ ∃ i G', Inv (X.blk b0 G scope E fp) [] (wipe σ (own.map (·.2))) G' t' ∧ tn i t'.heap ∧ (∀ b ∈ fp, G' b = none) ∧ W i m G' := fun {t' G'} V' nx => by
        obtain ⟨m, lt, w'⟩ := onward G' nx
        have still : ∀ b ∈ fp, ∀ o, t2.heap.get? b = some o → t'.heap.get? b = some o ∧ G' b = none := fun b hb' o e => by
          have z := V'.pin (b, o) (List.mem_append_right _ (List.mem_append_right _ (mem_pinsAt hb' e)))
          exact ⟨z.1, z.2.1⟩
        refine ⟨m, lt, i + 1, G', (V'.unpinned (pins := [])).weak (by rw [← hw, wipe_length]) (fun j v e => (wipe_some (hw ▸ e)).1), T.keep _ _ _ here2 fun b hb' o e => (still b hb' o e).1, fun b hb' => ?_, w'⟩
        obtain ⟨o, e, _⟩ := T.obj _ _ here2 b hb'
        exact (still b hb' o e).2
      show wpAny _ _ (forIn [] true _) _ _ _
      refine wpAny_pure ?_
      simp only [if_true]
      have q3 : te τ G3 _ := q3
      refine thnF (peS.run _ t3 τ G3 _ V3 q3) fun z t4 ⟨yv, G4, V4, ry, acc, hacc, hz, nx⟩ => ?_
      exact app_ok (X := X.blk b0 G scope E fp) V4 hacc hz ry fun t5 V5 => next V5 nx
  exact codeAny_compStart_list run (T.self X.A 0 _ _ _ begun1 run)
end
end DL
/-! The data layer, part n-o: a comprehension that hands each lambda of a list to a def. -/
namespace DL
open PySem PySem.Spec PyProof.Rows L2 LamX
theorem Un.then' {fs fs' ex : List Addr} {H H1 H2 : Hp} {h h1 h2 : Heap} (a : Un fs [] H H1 h h1) (b : Un fs' ex H1 H2 h1 h2) (sub : ∀ x o, h.get? x = some o → x ∉ fs → x ∉ fs') (nex : ∀ x o, h.get? x = some o → x ∉ ex) : Un fs [] H H2 h h2 where
  keep := fun c ob q n hc hx => b.keep c ob (a.keep c ob q n hc hx) (a.free c ob q n hx) (sub c ob q hc) (nex c ob q)
  slot := fun c ob q n hc hx => by
    obtain ⟨sl, e1⟩ := a.slot c ob q n hc hx
    obtain ⟨sl', e2⟩ := b.any e1 (a.free c ob q n hx) (nex c ob q)
    exact ⟨sl', e2⟩
  free := fun c ob q n hx => by
    obtain ⟨o', e1⟩ := a.there c ob q hx
    exact b.free c o' e1 (a.free c ob q n hx) (nex c ob q)
  there := fun c ob q hx => by
    obtain ⟨o', e1⟩ := a.there c ob q hx
    exact b.there c o' e1 (nex c ob q)
  tups := fun c xs q => b.tups c xs (a.tups c xs q)
  frzs := fun c o u q => b.frzs c o u (a.frzs c o u q)
  tbls := fun c ps q => by
    obtain ⟨m1, e1⟩ := a.tbls c ps q
    obtain ⟨m2, e2⟩ := b.tbls c _ e1
    exact ⟨m1 ++ m2, by rw [e2, Array.append_assoc]⟩
section
variable {X : Cx} {cl : Str → Addr} {tb : List (Addr × Str)} {k : Nat} {cg c' : Wd} {s : Shared} {H : Hp} {Ng Nt : List Str} {x a xt : Str} {st stt : Stmt} {g gt : Addr} {cdt : Value} {acts : List (Addr × DAct)}
theorem acts_blk {t : Shared} {G : Hp} {fp : List Addr} {scope : Scope} {E : Env} (h : ActsAt cl tb k cg X s H (X.A.deeper (envOfC xt (defScope stt) s.heap.objs.size gt cdt)) (envOfC xt (defScope stt) s.heap.objs.size gt cdt :: X.stack) Ng x st g a acts) (kp : Kp cg c')
    (en : Entry (cxOf CX0 X.prog X.w X.K X.mg X.base Nt xt (defScope stt) gt cdt X.A X.stack s H E0) t G fp) :
    ActsIn cl tb k c' ((cxOf CX0 X.prog X.w X.K X.mg X.base Nt xt (defScope stt) gt cdt X.A X.stack s H E0).blk t G scope E fp) Ng x st g a acts := by
  intro f tl hm w pins σ s2 okw kpw I cdv hr
  obtain ⟨⟨pins1, σ1, I1⟩, yo⟩ := en
  refine h f tl hm w s2 okw (kp.trans kpw) (Un.then' I1.base I.base frs_new fun y o e z => ?_) cdv hr
  rcases yo y z with q | q
  · cases q
  · exact Nat.lt_irrefl _ (Nat.lt_of_lt_of_le (Heap.lt_size e) q)
end
/-! ### the comprehension over data -/
def liftBK (K : PySem.W.Frag) (c0 : Wd) (t : DE) : TE := fun σ H Q => ∃ c, Kp c0 c ∧ lift K c t σ H Q
section
variable {X : Cx} {c : Wd} {ti : DI} {g : DG} {te : DE} {vs : List Nat} {pos : Pos}
theorem comp_impK {K : PySem.W.Frag} {us : List Nat} (hsub : ∀ i ∈ us, i ∈ vs) {σ : L2.St} {H : Hp} {Q : VK} (h : lift K c (dLc ti g dYes te vs) σ H Q) : tLc (liftI K c ti) (liftGB K c us g) tYes (liftBK K c te) vs σ H Q := by
  obtain ⟨ρ, w, Q', hH, a, h, k⟩ := h
  refine ⟨ρ, w, _, hH, a, h, fun ds w1 J q b1 it L hL => ?_⟩
  have a1 := a.next b1
  have fL := b1.ok.fresh hL
  refine ⟨fun i m H' => m = ds.length - i ∧ i ≤ ds.length ∧ ∃ w' acc xs, w'.H = H' ∧ w'.hd = upd w1.hd L (.lst xs) ∧ w'.ln = w1.ln ∧ Kp w1 w' ∧ Ok K w' ∧ RpL K w' acc xs ∧ compi g dYes te (wipeD ρ vs) (ds.drop i) acc w'.M Q',
    ⟨ds.length, by simp, Nat.zero_le _, mk w1 L [], [], [], rfl, rfl, rfl, kp_mk b1.ok (.inl hL), ok_mk b1.ok (.inl hL), rfl, by rw [List.drop_zero]; exact q⟩, ?_⟩
  rintro i m H' ⟨rfl, hi, w', acc, xs, rfl, hhd, hln, kp', ok', racc, hf⟩
  have hdL : w'.hd L = some (.lst xs) := by rw [hhd]; exact upd_same
  obtain ⟨hgo, hst⟩ := it w' kp' ok'
  by_cases hlt : i < ds.length
  · right
    have e0 : ds.drop i = ds[i] :: ds.drop (i + 1) := List.drop_eq_getElem_cons hlt
    have e1 : ds[i]? = some ds[i] := List.getElem?_eq_getElem hlt
    rw [e0] at hf
    obtain ⟨g1, g2⟩ := hgo i _ e1
    refine ⟨g1, fun H2 => ∃ w2 acc2 xs2, w2.H = H2 ∧ w2.hd = upd w1.hd L (.lst xs2) ∧ w2.ln = w1.ln ∧ Kp w1 w2 ∧ Ok K w2 ∧ RpL K w2 acc2 xs2 ∧ compi g dYes te (wipeD ρ vs) (ds.drop (i + 1)) acc2 w2.M Q', fun H2 ⟨w2, acc2, xs2, h1, h2, h3, h4, h5, h6, h7⟩ => ⟨ds.length - (i + 1), by omega, rfl, hlt, w2, acc2, xs2, h1, h2, h3, h4, h5, h6, h7⟩, fun x H'' y => ?_⟩
    obtain ⟨b2, r2⟩ := g2 x H'' y
    have at2 : At K (w'.at H'') (w'.at H'') (wipeD ρ vs) (wipe σ vs) := ⟨Kp.refl _, ((a1.re.wipe vs).mono kp').mono b2.kp, b2.ok, rfl, rfl⟩
    have kp2 : Kp c (w'.at H'') := (a1.kp.trans kp').trans b2.kp
    refine ⟨w'.at H'', kp2.sc, ds[i], wipeD ρ vs, w'.at H'', _, rfl, at2, r2, hf, fun ρ3 w3 σ3 q3 b3 a3 g3 => ?_⟩
    have hag : Ag vs (wipe σ vs) σ3 := ⟨g3.1, fun j hj => g3.2 j (fun z => hj (hsub j z))⟩
    refine ⟨by rw [wipe_ag hag, wipe_ag wipe_wipe], ?_⟩
    have b23 : Bh K w' w3 := b2.trans b3
    refine ⟨w3, kp2.trans b3.kp, ρ3, w3, _, rfl, a3.self, q3, fun d w5 v q5 b5 r5 => ?_⟩
    have b25 : Bh K w' w5 := b23.trans b5
    have hd5 : w5.hd L = some (.lst xs) := by rw [b25.hd]; exact hdL
    have r5' := racc.mono b25.kp
    refine ⟨xs, b25.ok.hid L _ hd5, szlt (by rw [racc.length]; exact q5.1), mk w5 L (xs ++ [v]), acc ++ [d], xs ++ [v], rfl, ?_, b25.ln.trans hln, (kp'.trans b25.kp).trans (kp_mk b25.ok (.inr ⟨_, hd5⟩)), ok_mk b25.ok (.inr ⟨_, hd5⟩), (r5'.append (RpL.one r5)).mono (kp_mk b25.ok (.inr ⟨_, hd5⟩)), q5.2⟩
    show upd w5.hd L _ = _
    rw [b25.hd, hhd, upd_upd]
  · left
    have e : i = ds.length := by omega
    subst e
    rw [List.drop_length] at hf
    refine ⟨hst, ?_⟩
    obtain ⟨kp6, ok6, f6⟩ := shown fL hhd ok'
    exact k (.lst 0 acc) { w' with hd := w1.hd } (.ref L) hf ⟨(b1.kp.trans kp').trans kp6, ok6, b1.hd, hln.trans b1.ln⟩ ⟨L, xs, rfl, LsAt.free f6 (ok'.hid L _ hdL), racc.mono kp6⟩
theorem pd_lcA {elt tg iter : Expr} {scope : Scope} {own : List (Str × Nat)} {us : List Nat} (hc : X.calm = true) (hN : X.N.Nodup) (hi : PDI c X tg iter ti) (ok : BlkOk X.N X.env.scope scope own)
    (hg : ∀ (c' : Wd), SC c c' → ∀ (s : Shared) (H : Hp) (C : Addr) (cl : List (Str × Addr)) (fp : List Addr), PDG c' (X.blk s H scope (compEnvC scope cl C X.env) fp) us tg g)
    (he : ∀ (c' : Wd), Kp c c' → ∀ (s : Shared) (H : Hp) (C : Addr) (cl : List (Str × Addr)) (fp : List Addr), Entry X s H fp → PD c' (X.blk s H scope (compEnvC scope cl C X.env) fp) elt te) (hsub : ∀ i ∈ us, i ∈ own.map (·.2) := by decide) (hs : ∀ x, foldedSetIterable iter X.env x = pure x := by intro _; rfl) :
    PD c X (.ListComp elt [⟨tg, iter, [], 0⟩] scope pos) (dLc ti g dYes te (own.map (·.2))) := PE_imp (pe_lcI hc hN hi ok (fun s H C cl fp => ⟨fun pins sh σ H' v u Q I r ⟨c', e, q⟩ => (hg c' e s H C cl fp).run pins sh σ H' v u Q I r q⟩) (fun s H C cl fp en => ⟨fun pins sh σ H' Q I ⟨c', e, q⟩ => (he c' e s H C cl fp en).run pins sh σ H' Q I q⟩) hs) fun σ H Q h => comp_impK hsub h
end
end DL
/-! The data layer, part n-p: a dict is walked, listed, counted; sorted. -/
namespace DL
open PySem L2
/-! ### a dict that is walked is locked from then on -/
section
variable {K : PySem.W.Frag} {w : Wd} {a : Addr}
end
section
variable {X : Cx} {c : Wd} {e o : Expr} {es : List Expr} {te ta tb : DE} {tl : DA} {pos p apos : Pos} {n m x : Str} {cl : Str → Addr} {tb' : List (Addr × Str)} {k : Nat} {ps : List Str} {s : DSp} {E : DXK}
/-! ### list(d), len(d) -/
end
end DL
/-! The data layer, part n-q: sorted. -/
namespace DL
open PySem L2
section
variable {X : Cx} {c : Wd} {e o : Expr} {es : List Expr} {te ta tb : DE} {tl : DA} {pos p apos : Pos}
/-! ### sorted -/
def dLe (x y : D) : Bool := PySem.W.dataLe false py x y
def sortOk (xs : List D) : Prop := (∀ x ∈ xs, pyN 30 x = true) ∧ (∀ x ∈ xs, ∀ y ∈ xs, PySem.W.alike (py x) (py y) = true) ∧ ((∀ x ∈ xs, ∃ y r, py x = .tuple (y :: r)) ∨ ∀ x ∈ xs, py x ≠ .none ∧ ∀ l, py x ≠ .tuple l) ∧ xs.length ≤ 100000
@[simp] def sortD : DC := fun ds M Q => match ds with
  | [.lst _ xs] => sortOk xs ∧ Q (.lst 0 (xs.mergeSort dLe)) M
  | _ => False
theorem each_rp {K : PySem.W.Frag} {w : Wd} : ∀ {ds : List D} {vs : List V} {us : List Value}, RpL K w ds vs → Vals vs us → PySem.W.EachIs (fun u d => ∃ v, RelV v u ∧ Rp K w d v) us ds
  | [], vs, us, r, q => by
    obtain rfl : vs = [] := r
    cases q; exact .nil
  | d :: ds, vs, us, r, q => by
    obtain ⟨x, rest, rfl, r1, r2⟩ := r
    cases q with
    | cons q1 q2 => exact .cons ⟨x, q1, r1⟩ (each_rp r2 q2)
theorem rp_each {K : PySem.W.Frag} {w : Wd} : ∀ {ds : List D} {us : List Value}, PySem.W.EachIs (fun u d => ∃ v, RelV v u ∧ Rp K w d v) us ds → ∃ vs, RpL K w ds vs ∧ Vals vs us := by
  intro ds us h
  induction h with
  | nil => exact ⟨[], rfl, .nil⟩
  | cons h t ih =>
    obtain ⟨v, h1, h2⟩ := h
    obtain ⟨vs, i1, i2⟩ := ih
    exact ⟨v :: vs, ⟨v, vs, rfl, h2, i1⟩, .cons h1 i2⟩
theorem mem_rp {K : PySem.W.Frag} {w : Wd} : ∀ {ds : List D} {vs : List V} {d : D}, RpL K w ds vs → d ∈ ds → ∃ v, Rp K w d v
  | [], _, _, _, h => by cases h
  | d :: ds, vs, d', r, h => by
    obtain ⟨x, rest, rfl, r1, r2⟩ := r
    rcases List.mem_cons.mp h with rfl | h
    · exact ⟨x, r1⟩
    · exact mem_rp r2 h
theorem sort_D (hu : X.A.units + 64 < cLine) : CallD X (.builtin "sorted") sortD := by
  intro pins s σ H vs us Q I rs ⟨w, ds, Q', hH, ok, r, h, k⟩
  subst hH
  cases ds with
  | nil => exact False.elim h
  | cons d ds =>
  cases ds with
  | cons _ _ => cases d <;> exact False.elim h
  | nil =>
  cases d with
  | lst t xs =>
    obtain ⟨⟨h1, h2, h3, h4⟩, h⟩ := h
    obtain ⟨v, rfl, r1⟩ := one_of r
    obtain ⟨a, ys, rfl, l, s1⟩ := r1
    obtain ⟨u, rfl, ru⟩ := vals1 rs
    obtain rfl : u = Value.ref a := ru
    obtain ⟨its, rv, p, hz⟩ := I.list l.sq
    have ee := each_rp s1 rv
    have er : PySem.W.EachIs (fun v b => ∃ as, PySem.Reads s.heap v (py b) as) its xs := by
      have em := PySem.W.each_mem ee
      exact em.mono fun u d ⟨⟨v, r1, r2⟩, hd⟩ => Dp.reads I (py d) v u (shaped_of (h1 d hd) r2).1 r1
    have hdep : ∀ b, b ∈ xs → X.A.units + 2 + (py b).depth < cLine := fun b hb => by
      obtain ⟨v, r2⟩ := mem_rp s1 hb
      have := (dp_of 30 b v (h1 b hb) r2).2.2
      omega
    refine PySem.W.sorted_data (enc := py) p.isList ee er (fun d hd d' hd' => ?_) ?_ (by rw [← s1.length]; exact hz) hdep fun out ho hout => ?_
    · obtain ⟨x, hx, rfl⟩ := List.mem_map.mp hd
      obtain ⟨y, hy, rfl⟩ := List.mem_map.mp hd'
      exact h2 x hx y hy
    · rcases h3 with h3 | h3
      · exact .inl fun d hd => by obtain ⟨x, hx, rfl⟩ := List.mem_map.mp hd; exact h3 x hx
      · exact .inr fun d hd => by obtain ⟨x, hx, rfl⟩ := List.mem_map.mp hd; exact h3 x hx
    · obtain ⟨ws, rw1, rw2⟩ := rp_each hout
      obtain ⟨n, hn⟩ := PyProof.Rows.sortedAll_at s.heap its (List.toArray out)
      have hlen : ws.length ≤ sizeLine := by rw [rw1.length, List.length_mergeSort]; exact sz h4
      have new : ObjOk X.prog X.w (upd w.H (s.heap.objs.size + 1) (.lst ws)) (PyProof.Rows.sortedAll s.heap its (List.toArray out)) (s.heap.objs.size + 1) (.lst ws) := ⟨hlen, out, n, rw2, hn⟩
      have I2 : Inv X pins σ (upd w.H (s.heap.objs.size + 1) (.lst ws)) { s with heap := PyProof.Rows.sortedAll s.heap its (List.toArray out) } := I.laid (t' := s.toks) (fun b o e => PyProof.Rows.sortedAll_old e) (Nat.le_succ _) new
      refine ⟨.ref (s.heap.objs.size + 1), _, I2, rfl, ?_⟩
      have hq : w.H (s.heap.objs.size + 1) = none := I.hok.fresh (Nat.le_succ _)
      exact k.new ok hq h (rp_lst ok hq rw1)
  | _ => exact False.elim h
end
end DL
/-! The data layer, part n-r: in, len, repr by own defs. -/
namespace DL
open PySem L2
section
variable {prog : Program} {w : World} {A : Around} {E : Value → Shared → Prop} {s : Shared} {K : PySem.W.Frag} {x C f : Addr} {ox : Obj} {odd : Option Obj} {v : Value}
end
section
variable {X : Cx} {c : Wd} {e a b : Expr} {es : List Expr} {te ta tb : DE} {tl tk : DA} {pos p apos : Pos} {n m x : Str} {cl : Str → Addr} {tb' : List (Addr × Str)} {k : Nat} {ps : List Str} {s : DSp} {E : DXK}
/-! ### x in o, x not in o by an own __contains__ -/
/-! ### len(o), repr(o) by own defs -/
end
end DL
/-! The data layer, part n-s: a list is unpacked, bool(a list), == of an instance and a flat value, d[t] = v, defaults that are used. -/
namespace DL
open PySem L2
section
variable {X : Cx} {c : Wd} {e a b o i : Expr} {es : List Expr} {te ta tb : DE} {tl tk : DA} {pos p apos : Pos} {n m x : Str} {cl : Str → Addr} {tb' : List (Addr × Str)} {k : Nat} {ps : List Str} {s : DSp} {E : DXK} {vs : List Nat}
/-! ### o == z, z no instance -/
/-! ### d[t] = v, t a tuple -/
end
/-! ### defaults that are used -/
def sg {α : Type} (i : Nat) (l : List α) : List α := (l.drop i).take 1
section
variable {P : Program} {w : World} {K : PySem.W.Frag} {x qual : Str} {params : Arguments} {body : List Stmt} {scope : Scope} {dvs : List V} {kws : List (Str × V)} {f : Addr} {fd : FuncData} {ps ks : List Str} {j : Nat}
end
end DL
/-! The data layer, part n-t: o.m(k = v, ..). -/
namespace DL
open PySem L2
section
variable {X : Cx} {c : Wd} {o : Expr} {ta : DE} {tk : DA} {pos apos : Pos} {n m : Str} {cl : Str → Addr} {tb : List (Addr × Str)} {k : Nat} {ps ks : List Str} {s : DSp} {E : DXK} {kws : List Keyword} {gD : List D → List D → List D}
end
end DL
/-! The data layer, part n-u: comprehensions with two clauses, born owned; list(d) that stays owned; d[t] = v. -/
namespace DL
open PySem L2
section
variable {X : Cx} {c : Wd} {e : Expr} {te : DE} {pos : Pos} {ti ti1 : DI} {g g1 : DG} {tt tt1 : DT} {vs vs1 : List Nat}
end
section
variable {X : Cx} {c : Wd}
end
end DL
/-! The data layer: own exceptions over LookupError. -/
namespace DL
open PySem L2 PySem.Calls PyProof.Rows PySem.Spec
open PySem.HandSPX (store_in_new)
open PySem.Builtin.ObjectAttr (storeInOwnDict ownDictForStores)
section
variable {X : Cx} {pins : List (Addr × Obj)} {σ : L2.St} {H : Hp} {s : Shared} {a C dx : Addr} {f : Str} {y : V} {u : Value} {fs : List (Str × V)} {Q : Unit → Shared → Prop} {E : Value → Shared → Prop} {A : Around}
end
section
variable {K : PySem.W.Frag} {C a d : Addr} {f : Str} {te : TE} {y : V} {D : Ends} {σ : L2.St} {H : Hp} {fs : List (Str × V)}
end
/-! ### such an exception made -/
section
variable {X : Cx} {e : Expr} {es : List Expr} {ta : TA} {p pos : Pos}
end
section
variable {X : Cx} {c : Wd} {e : Expr} {es : List Expr} {tl : DA} {p pos : Pos} {n : Str} {m : Nat} {fl : List (Str × (Sum Str Nat))} {E : DXK}
end
/-! ### what the head tells -/
end DL
/-! The data layer: d[t] = v, t a tuple that is not of the module. -/
namespace DL
open PySem L2
section
variable {X : Cx} {c : Wd} {o i : Expr} {pos : Pos} {vs : List Nat} {to ti : DE}
end
end DL
/-! The data layer: zip of a list with a tuple, the call. -/
namespace DL
open PySem PySem.Calls PyProof.Rows PySem.Spec
section
variable (h : Heap) (l t : Addr)
abbrev zmI (T : String) (a : Addr) : Obj := { cls := .type T, data := .fields #[.ref a, .int 0 0] }
abbrev zm1 : Heap := h.push (zmI "list_iterator" l)
abbrev zm2 : Heap := (zm1 h l).push (zmI "tuple_iterator" t)
abbrev zm3 : Heap := (zm2 h l t).push { cls := .type "tuple", data := .seq #[.ref h.objs.size, .ref (zm1 h l).objs.size] }
abbrev zm4 : Heap := (zm3 h l t).push { cls := .type "tuple", data := .seq #[.none, .none] }
abbrev zm5 : Heap := (zm4 h l t).push { cls := .type "zip", data := .fields #[.none, .bool false, .bool false, .ref (zm2 h l t).objs.size, .ref (zm3 h l t).objs.size] }
end
theorem meets_zipM (l t : Addr) (xs ys : Array Value) : Meets (Builtin.«zip.__new__» ⟨[.type "zip", .ref l, .ref t], []⟩) (fun _ R s => s.heap.IsList l xs ∧ s.heap.IsTuple t ys ∧ R (.ok (.ret (.ref (zm4 s.heap l t).objs.size))) { s with heap := zm5 s.heap l t }) :=
  .of_wp fun prog w A R s h => by
    obtain ⟨hp, g, d, tk, os⟩ := s
    obtain ⟨a1, a2, h⟩ := h
    have hsub := sub_zip
    have b1 : Heap.IsList (Shared.heap ⟨hp, g, d, tk, os⟩) l xs := a1
    have b2 : Heap.IsTuple (Shared.heap ⟨zm1 hp l, g, d, tk, os⟩) t ys := Heap.IsTuple.push a2 _
    wp_walk using wpAny_pyIter_list b1, wpAny_pyIter_tuple b2
    exact ⟨_, rfl, h⟩
section
variable {prog : Program} {w : World} {A : Around} {E : Value → Shared → Prop} {s : Shared}
theorem call_zipM {l t : Addr} {xs ys : Array Value} {Q : Value → Shared → Prop} (a1 : s.heap.IsList l xs) (a2 : s.heap.IsTuple t ys)
    (h : ∀ h' n, n = s.heap.objs.size → IsZip h' (n + 4) (n + 2) (n + 3) .none → IsPair h' (n + 2) (.ref n) (.ref (n + 1)) → IsPair h' (n + 3) .none .none → h'.IsListIter n l 0 → h'.IsTupleIter (n + 1) t 0 → (∀ c o, s.heap.get? c = some o → h'.get? c = some o) → Q (.ref (n + 4)) { s with heap := h' }) :
    wpAny (model prog w) A (call (.type "zip") [.ref l, .ref t]) Q E s := by
  refine callType_new F.called_zip (by decide) (F.typeCall_zip_2 _ _) (F.newCall_zip_2 _ _) (fun obj => F.args_object_init_3 obj _ _) F.entry_zip_new (meets_zipM l t xs ys) ⟨a1, a2, ?_⟩
  have z1 : (zm1 s.heap l).objs.size = s.heap.objs.size + 1 := Heap.size_push ..
  have z2 : (zm2 s.heap l t).objs.size = s.heap.objs.size + 2 := by rw [Heap.size_push, z1]
  have z3 : (zm3 s.heap l t).objs.size = s.heap.objs.size + 3 := by rw [Heap.size_push, z2]
  have z4 : (zm4 s.heap l t).objs.size = s.heap.objs.size + 4 := by rw [Heap.size_push, z3]
  have up1 : ∀ {c o}, (zm4 s.heap l t).get? c = some o → (zm5 s.heap l t).get? c = some o := fun x => Heap.get?_push_of_some _ x
  have up2 : ∀ {c o}, (zm3 s.heap l t).get? c = some o → (zm5 s.heap l t).get? c = some o := fun x => up1 (Heap.get?_push_of_some _ x)
  have up3 : ∀ {c o}, (zm2 s.heap l t).get? c = some o → (zm5 s.heap l t).get? c = some o := fun x => up2 (Heap.get?_push_of_some _ x)
  have up4 : ∀ {c o}, (zm1 s.heap l).get? c = some o → (zm5 s.heap l t).get? c = some o := fun x => up3 (Heap.get?_push_of_some _ x)
  have up5 : ∀ {c o}, s.heap.get? c = some o → (zm5 s.heap l t).get? c = some o := fun x => up4 (Heap.get?_push_of_some _ x)
  have g5 : (zm5 s.heap l t).get? (zm4 s.heap l t).objs.size = some _ := Heap.get?_push_size _ rfl
  have g4 : (zm5 s.heap l t).get? (zm3 s.heap l t).objs.size = some _ := up1 (Heap.get?_push_size _ rfl)
  have g3 : (zm5 s.heap l t).get? (zm2 s.heap l t).objs.size = some _ := up2 (Heap.get?_push_size _ rfl)
  have g2 : (zm5 s.heap l t).get? (zm1 s.heap l).objs.size = some _ := up3 (Heap.get?_push_size _ rfl)
  have g1 : (zm5 s.heap l t).get? s.heap.objs.size = some _ := up4 (Heap.get?_push_size _ rfl)
  show _ ∧ _
  rw [z2, z3, z4] at g5
  rw [z1, z2] at g3
  rw [z3] at g4
  rw [z1] at g2
  rw [z4]
  exact ⟨⟨_, g5, rfl⟩, h _ _ rfl g5 g3 g4 ⟨_, g1, rfl, rfl⟩ ⟨_, g2, rfl, rfl⟩ fun c o x => up5 x⟩
end
end DL
/-! The data layer: zip of a list with a tuple, its turns. -/
namespace DL
open PySem L2 PyProof.Rows PySem.Spec
/-- the list at a and the tuple at b as they stand at each turn, the items in new pairs -/
def ItzM (K : PySem.W.Frag) (a b : Addr) : It :=
  ⟨fun i H => ∃ (xs ys : List V) (x y : V), SqL K H a xs ∧ SqT K H b ys ∧ xs[i]? = some x ∧ ys[i]? = some y,
    fun i H v H' => ∃ T x y, v = .ref T ∧ H T = none ∧ H' = upd H T (.tup [x, y]) ∧ (∀ xs, SqL K H a xs → xs[i]? = some x) ∧ ∀ ys, SqT K H b ys → ys[i]? = some y,
    fun i H => ∃ xs ys : List V, SqL K H a xs ∧ SqT K H b ys ∧ i ≤ xs.length ∧ i ≤ ys.length ∧ (xs.length ≤ i ∨ ys.length ≤ i)⟩
end DL
/-! The data layer: zip of a list with a tuple, its cells lie apart. -/
namespace DL
open PySem L2 PyProof.Rows PySem.Spec
theorem sep_of {a b z TI TO i1 i2 : Addr} (D : ZipApart z TI TO i1 i2 a b) : PySem.ZipSep2 z TI TO i1 i2 [i1, a] [i2, b] where
  TIz := D.TIz
  TOz := D.TOz
  TITO := D.TITO
  TIi1 := D.TIi1
  mem1 := by simp
  zf1 := by simp; exact ⟨fun e => D.i1z e.symm, fun e => D.l1z e.symm⟩
  Tf1 := by simp; exact ⟨D.TOi1, fun e => D.l1TO e.symm⟩
  TIi2 := D.TIi2
  mem2 := by simp
  zf2 := by simp; exact ⟨fun e => D.i2z e.symm, fun e => D.l2z e.symm⟩
  Tf2 := by simp; exact ⟨D.TOi2, fun e => D.l2TO e.symm⟩
  sep1_2 := by simp; exact ⟨D.i12, fun e => D.l2i1 e.symm⟩
  sep2_1 := by simp; exact ⟨fun e => D.i12 e.symm, fun e => D.l1i2 e.symm⟩
end DL
/-! The data layer: zip of a list with a tuple, its turns. -/
namespace DL
open PySem L2 PyProof.Rows PySem.Spec
theorem turn_zipM {P : Program} {w : World} {K : PySem.W.Frag} {elts : List Expr} {kk : Nat} {tpos : Pos} {a b z TI TO i1 i2 : Addr} (D : ZipApart z TI TO i1 i2 a b) :
    Turn P w K (.Tuple elts kk tpos) (ItzM K a b) [z, TI, TO, i1, i2] z (fun i h => IsZip h z TI TO .none ∧ IsPair h TI (.ref i1) (.ref i2) ∧ (∃ x y, IsPair h TO x y) ∧ h.IsListIter i1 a i ∧ h.IsTupleIter i2 b i) where
  mem := by simp
  obj := fun i h st c hc => by
    obtain ⟨hz, hTI, ⟨x, y, hTO⟩, ⟨o1, e1, _, d1⟩, ⟨o2, e2, _, d2⟩⟩ := st
    simp only [List.mem_cons, List.not_mem_nil, or_false] at hc
    rcases hc with rfl | rfl | rfl | rfl | rfl
    · exact ⟨_, hz, fun v q => nomatch q⟩
    · exact ⟨_, hTI, fun v q => nomatch q⟩
    · exact ⟨_, hTO, fun v q => nomatch q⟩
    · exact ⟨o1, e1, fun v q => by rw [d1] at q; cases q⟩
    · exact ⟨o2, e2, fun v q => by rw [d2] at q; cases q⟩
  keep := fun i h h' st k => by
    obtain ⟨hz, hTI, ⟨x, y, hTO⟩, h1, h2⟩ := st
    exact ⟨k z (by simp) _ hz, k TI (by simp) _ hTI, ⟨x, y, k TO (by simp) _ hTO⟩, h1.at fun o q => k i1 (by simp) o q, h2.at fun o q => k i2 (by simp) o q⟩
  item := by
    intro X hP hw hK hc i pins s σ H E I hf st hg
    subst hP hw hK
    obtain ⟨hz, hTI, ⟨x0, y0, hTO⟩, h1, h2⟩ := st
    obtain ⟨xs, ys, x, y, hqx, hqy, hx, hy⟩ := hg
    obtain ⟨its, rv, p, _⟩ := I.list hqx
    obtain ⟨its2, rv2, p2, _⟩ := I.tuple hqy
    obtain ⟨u, hu, ru⟩ := rv.get hx
    obtain ⟨u2, hu2, ru2⟩ := rv2.get hy
    have hzl : z < s.heap.objs.size := Heap.lt_size hz
    have hh : X.A.in1.handled = none := I.ok.hd hc
    refine PySem.wpAny_pyNext_zipD2_item (sep_of D) (Draws.list hh i1 a D.l1i1 its.toArray) (Draws.tuple hh i2 b D.l2i2 its2.toArray) hz hTI hTO ⟨h1, p.isList⟩ ⟨h2, p2⟩ (by have := (List.getElem?_eq_some_iff.mp hu).1; simpa using this) (by have := (List.getElem?_eq_some_iff.mp hu2).1; simpa using this) fun x1 x2 h' tk y1 y2 z' TO' s1' s2' hT hsz hk => ?_
    have q1 : x1 = u := by have := y1; simp only [List.getElem?_toArray, hu] at this; exact (Option.some.inj this).symm
    have q2 : x2 = u2 := by have := y2; simp only [List.getElem?_toArray, hu2] at this; exact (Option.some.inj this).symm
    subst q1 q2
    refine ⟨_, rfl, wpAny_letOwnedTupleGo_zip (s := { s with heap := h', toks := tk }) z' fun h'' z'' sb => ?_⟩
    have hT2 : h''.get? s.heap.objs.size = some { cls := .type "tuple", data := .seq #[x1, x2] } := (sb.2 _ (Nat.ne_of_gt hzl)).trans hT
    have new : ObjOk X.prog X.w (upd H s.heap.objs.size (.tup [x, y])) h'' s.heap.objs.size (.tup [x, y]) := ⟨by show 2 ≤ sizeLine; decide, [x1, x2], .cons ru (.cons ru2 .nil), ⟨_, hT2, rfl, _, rfl⟩⟩
    have lt : ∀ c ∈ [z, TI, TO, i1, i2], c < s.heap.objs.size := fun c hcm => by
      simp only [List.mem_cons, List.not_mem_nil, or_false] at hcm
      rcases hcm with rfl | rfl | rfl | rfl | rfl
      · exact hzl
      · exact Heap.lt_size hTI
      · exact Heap.lt_size hTO
      · obtain ⟨_, e1, _⟩ := h1; exact Heap.lt_size e1
      · obtain ⟨_, e2, _⟩ := h2; exact Heap.lt_size e2
    have I1 : Inv X pins σ (upd H s.heap.objs.size (.tup [x, y])) { s with heap := h'', toks := tk } :=
      I.turnedNew (t' := tk) (ch := [z, TI, TO, i1, i2]) (fun c o hb q => (sb.2 c (fun q' => hb (by simp [q']))).trans (hk c o (fun q' => hb (by simp [q'])) (fun q' => hb (by simp [q'])) (fun q' => hb (by simp [q'])) (fun q' => hb (by simp [q'])) q)) hf (Nat.le_refl _) new
    refine ⟨.ref s.heap.objs.size, _, I1, rfl, ⟨_, x, y, rfl, I.hok.fresh (Nat.le_refl _), rfl, fun l hl => by rw [I.list_inj hl hqx]; exact hx, fun l hl => by rw [I.tuple_inj hl hqy]; exact hy⟩, ⟨z'', ?_, ⟨x1, x2, ?_⟩, ?_, ?_⟩, fun c hcm => ?_⟩
    · exact (sb.2 _ D.TIz).trans (hk _ _ D.TIz D.TITO D.TIi1 D.TIi2 hTI)
    · exact (sb.2 _ D.TOz).trans TO'
    · exact s1'.1.at fun o q => (sb.2 _ D.i1z).trans q
    · exact s2'.1.at fun o q => (sb.2 _ D.i2z).trans q
    · rw [upd_ne (Nat.ne_of_lt (lt c hcm))]
      exact (hf c hcm).1
  done := by
    intro X hP hw hK hc i pins s σ H E I hf st hg
    subst hP hw hK
    obtain ⟨hz, hTI, ⟨x0, y0, hTO⟩, h1, h2⟩ := st
    obtain ⟨xs, ys, hqx, hqy, l1, l2, hend⟩ := hg
    obtain ⟨its, rv, p, _⟩ := I.list hqx
    obtain ⟨its2, rv2, p2, _⟩ := I.tuple hqy
    have e1 := rv.length
    have e2 := rv2.length
    have hh : X.A.in1.handled = none := I.ok.hd hc
    refine PySem.wpAny_pyNext_zipD2_end (sep_of D) (Draws.list hh i1 a D.l1i1 its.toArray) (Draws.tuple hh i2 b D.l2i2 its2.toArray) hz hTI hTO ⟨h1, p.isList⟩ ⟨h2, p2⟩ (by simp; omega) (by simp; omega) (by simp; omega) fun h' tk hk => ⟨rfl, I.turnedL (t' := tk) (ch := [z, TI, TO, i1, i2]) (fun c o hb q =>
      hk c o (fun q' => hb (by simp [q'])) (fun q' => hb (by simp [q'])) (fun q' => hb (by simp [q'])) (fun q' => hb (by simp [q'])) q) hf⟩
  self := fun A i s Q E st h => wpAny_pyIter_zip st.1 h
end DL
/-! The data layer: for .. in zip(list, tuple). -/
namespace DL
open PySem L2 PyProof.Rows PySem.Spec
def iZipM (K : PySem.W.Frag) (ta : TA) : TI := fun σ H R => ta σ H fun vs H1 => ∃ a b xs ys, vs = [.ref a, .ref b] ∧ SqL K H1 a xs ∧ SqT K H1 b ys ∧ R (ItzM K a b) H1
theorem pi_zipM {X : Cx} {e e2 : Expr} {ta : TA} {p pos tpos : Pos} {elts : List Expr} {kk : Nat} (hg : Gl X "zip") (hm : X.mg "zip" = none) (ha : PA X [e, e2] ta)
    (hs : starEach [e, e2] X.env = (false, eval e X.env) :: starEach [e2] X.env := by rfl) (hpl : (backTo pos (starEach [e2] X.env)).any (·.1) = false := by rfl) :
    PI X (.Tuple elts kk tpos) (.Call (.Name "zip" p) [e, e2] [] pos) (iZipM X.K ta) := by
  refine ⟨fun pins s σ H R I h => ?_⟩
  refine Call_ (ld_blt I hg hm PyProof.Rows.boot_zip (PyProof.Rows.callWith_type1 (L2.thn (ha.run pos pins s σ H _ I h) fun us s1 ⟨vs, H1, I1, r1, a, b, xs, ys, ex, hqx, hqy, q⟩ => ?_) hs hpl))
  subst ex
  cases r1 with
  | cons r rr =>
    cases rr with
    | cons r' rr =>
      cases rr
      cases r
      cases r'
      obtain ⟨its, rv, p1, _⟩ := I1.list hqx
      obtain ⟨its2, rv2, p2, _⟩ := I1.tuple hqy
      obtain ⟨o2, ho2, _⟩ := id p2
      refine call_zipM p1.isList p2 fun h' n hn hz hTI hTO h1 h2 hk => wpAny_pyIter_zip hz ?_
      subst hn
      have I2 : Inv X pins σ H1 { s1 with heap := h' } := I1.kept (t' := s1.toks) hk
      have fresh5 : ∀ c, c ∈ [s1.heap.objs.size + 4, s1.heap.objs.size + 2, s1.heap.objs.size + 3, s1.heap.objs.size, s1.heap.objs.size + 1] → FpOk X pins H1 c := fun c hcm => by
        have hle : s1.heap.objs.size ≤ c := by
          simp only [List.mem_cons, List.not_mem_nil, or_false] at hcm
          omega
        exact I1.fpOk hle (I1.hok.fresh hle)
      exact ⟨s1.heap.objs.size + 4, [s1.heap.objs.size + 4, s1.heap.objs.size + 2, s1.heap.objs.size + 3, s1.heap.objs.size, s1.heap.objs.size + 1], _, _, H1, rfl, I2, turn_zipM (PySem.W.ktu_apart s1.heap.objs.size a b p1.lt (Heap.lt_size ho2)), ⟨hz, hTI, ⟨_, _, hTO⟩, h1, h2⟩, fresh5, q⟩
section
variable {X : Cx} {c : Wd} {e : Expr} {tl : DA} {p pos : Pos}
end
end DL
/-! The data layer: max, min, abs, lists turned round, isinstance of what is owned, d.get(k, x), insert, range(a, b), x += n, while. -/
namespace DL
open PySem L2
section
variable {X : Cx} {c : Wd} {e o f : Expr} {es : List Expr} {te to tx ta tb : DE} {tl : DA} {pos p apos cpos : Pos}
/-! ### max, min, abs -/
def intsOf : List D → Option (List Int)
  | [] => some []
  | .int i :: r => (intsOf r).map (i :: ·)
  | _ => none
theorem intsO_rp {K : PySem.W.Frag} {w : Wd} : ∀ {xs : List D} {l : List Int} {vs : List V}, intsOf xs = some l → RpL K w xs vs → vs = l.map V.int
  | [], l, vs, h, r => by
    cases h
    exact r
  | d :: xs, l, vs, h, r => by
    cases d with
    | int i =>
      rw [intsOf] at h
      cases e : intsOf xs with
      | none => rw [e] at h; cases h
      | some m =>
        rw [e] at h
        cases h
        obtain ⟨x, q, rfl, r1, r2⟩ := r
        obtain rfl : x = .int i := r1
        rw [intsO_rp e r2]; rfl
    | _ => cases h
@[simp] def maxD : DC := fun ds M Q => match ds with
  | [.lst _ xs] => (match intsOf xs with | some l => 0 < l.length ∧ ∀ m, m ∈ l → (∀ y, y ∈ l → y ≤ m) → Q (.int m) M | none => False)
  | [.int i, .int j] => Q (.int (if j > i then j else i)) M
  | _ => False
@[simp] def minD : DC := fun ds M Q => match ds with
  | [.lst _ xs] => (match intsOf xs with | some l => 0 < l.length ∧ ∀ m, m ∈ l → (∀ y, y ∈ l → m ≤ y) → Q (.int m) M | none => False)
  | [.int i, .int j] => Q (.int (if j < i then j else i)) M
  | _ => False
@[simp] def absD : DC := fun ds M Q => match ds with
  | [.int i] => Q (.int (if i < 0 then -i else i)) M
  | _ => False
theorem max_D (hc : X.calm = true) : CallD X (.builtin "max") maxD := by
  intro pins s σ H vs us Q I rs ⟨w, ds, Q', hH, ok, r, h, k⟩
  subst hH
  match ds, r, h with
  | [d], r, h =>
    obtain ⟨v, rfl, r1⟩ := one_of r
    cases d with
    | lst t xs =>
      obtain ⟨a, ys, rfl, l, s1⟩ := r1
      cases ei : intsOf xs with
      | none => simp only [maxD, ei] at h
      | some ns =>
        simp only [maxD, ei] at h
        have := intsO_rp ei s1
        subst this
        exact cr_max hc pins s σ _ _ us Q I rs ⟨a, ns, rfl, l.sq, h.1, fun m h1 h2 => k.here ok (h.2 m h1 h2) rfl⟩
    | _ => exact False.elim h
  | [d, d2], r, h =>
    obtain ⟨v, u, rfl, r1, r2⟩ := two_of r
    cases d with
    | int i => cases d2 with
      | int j =>
        obtain rfl : v = .int i := r1
        obtain rfl : u = .int j := r2
        exact call_max2 hc pins s σ _ _ us Q I rs ⟨i, j, rfl, k.here ok h rfl⟩
      | _ => exact False.elim h
    | _ => cases d2 <;> exact False.elim h
  | [], r, h => exact False.elim h
  | d :: d2 :: _ :: _, r, h => cases d <;> cases d2 <;> exact False.elim h
theorem min_D (hc : X.calm = true) : CallD X (.builtin "min") minD := by
  intro pins s σ H vs us Q I rs ⟨w, ds, Q', hH, ok, r, h, k⟩
  subst hH
  match ds, r, h with
  | [d], r, h =>
    obtain ⟨v, rfl, r1⟩ := one_of r
    cases d with
    | lst t xs =>
      obtain ⟨a, ys, rfl, l, s1⟩ := r1
      cases ei : intsOf xs with
      | none => simp only [minD, ei] at h
      | some ns =>
        simp only [minD, ei] at h
        have := intsO_rp ei s1
        subst this
        exact cr_min hc pins s σ _ _ us Q I rs ⟨a, ns, rfl, l.sq, h.1, fun m h1 h2 => k.here ok (h.2 m h1 h2) rfl⟩
    | _ => exact False.elim h
  | [d, d2], r, h =>
    obtain ⟨v, u, rfl, r1, r2⟩ := two_of r
    cases d with
    | int i => cases d2 with
      | int j =>
        obtain rfl : v = .int i := r1
        obtain rfl : u = .int j := r2
        exact call_min2 hc pins s σ _ _ us Q I rs ⟨i, j, rfl, k.here ok h rfl⟩
      | _ => exact False.elim h
    | _ => cases d2 <;> exact False.elim h
  | [], r, h => exact False.elim h
  | d :: d2 :: _ :: _, r, h => cases d <;> cases d2 <;> exact False.elim h
theorem abs_D : CallD X (.builtin "abs") absD := by
  intro pins s σ H vs us Q I rs ⟨w, ds, Q', hH, ok, r, h, k⟩
  subst hH
  match ds, r, h with
  | [d], r, h =>
    obtain ⟨v, rfl, r1⟩ := one_of r
    cases d with
    | int i =>
      obtain rfl : v = .int i := r1
      exact call_abs pins s σ _ _ us Q I rs ⟨i, rfl, k.here ok h rfl⟩
    | _ => exact False.elim h
  | [], r, h => exact False.elim h
  | d :: d2 :: _, r, h => cases d <;> exact False.elim h
/-! ### a list turned round -/
/-! ### isinstance of what is owned -/
/-! ### d.get(k, x) -/
/-! ### x += n -/
/-! ### while -/
/-! ### range(a, b) -/
/-! ### o.insert(i, e), o owned -/
end
end DL
/-! The data layer: dict comprehensions whose keys are tuples; the new dict is owned while it is made. -/
namespace DL
open PySem L2
open PyProof.Rows hiding St
/-! ### one pair is put -/
/-! ### the reading over values -/
section
variable {X : Cx} {kx vx tg iter : Expr} {ifs : List Expr} {scope : Scope} {own : List (Str × Nat)} {pos : Pos} {wi : TI} {g : TG} {tt : TT} {tk tv : TE}
end
end DL
/-! The data layer: dict comprehensions over data; d = {t: v}; d.clear(). -/
namespace DL
open PySem L2
section
variable {X : Cx} {c : Wd} {e o f : Expr} {te tk tv : DE} {pos p apos cpos : Pos} {ti : DI} {g : DG} {tt : DT}
end
end DL
/-! The data layer: {t: v}; d.clear(), keys tuples. -/
namespace DL
open PySem L2
open PyProof.Rows hiding St
section
variable {X : Cx} {k v : Expr} {tk tv : TE} {pos : Pos}
/-- {k: v}, k a tuple; the new dict at T -/
def tOne (tk tv : TE) : TE := fun σ H Q => ∀ T, H T = none → tk σ (upd H T (.dT [])) fun y H1 => tv σ H1 fun z H2 =>
  ∃ key p, y = .ref p ∧ H2 p = some (.tup (key.map kV)) ∧ H2 T = some (.dT []) ∧ Q (.ref T) (upd H2 T (.dT [(key, z)]))
theorem pe_one (hu : X.A.units + 64 < cLine) (hk : PE X k tk) (hv : PE X v tv) : PE X (.Dict [some k] [v] pos) (tOne tk tv) := by
  refine ⟨fun pins s σ H Q I h => ?_⟩
  have room : (tupleKind (mixKind X.prog X.w)).room X.A := show X.A.units < cLine by omega
  rw [arm_eval_Dict, zip_pairTrees [some k] [v] X.env pos rfl rfl, dictDisplay_pairs _ (by simp [pairTrees]) (by simp [pairTrees])]
  refine wpAny_bind (wpAny_standAt (wpAny_bind (wpAny_subDictH (knd := tupleKind (mixKind X.prog X.w)) (Q := fun d s' => wpAny (model X.prog X.w) X.A (pure (Value.ref d)) (EP X pins σ Q) X.xe s') room (by simp [pairTrees]) ?_)))
  have freeT : H s.heap.objs.size = none := I.hok.fresh (Nat.le_refl _)
  have I0 : Inv X pins σ (upd H s.heap.objs.size (.dT [])) { s with heap := s.heap.push { cls := .type "dict", data := .dict #[] } } :=
    I.laid (t' := s.toks) (fun _ _ e => Heap.get?_push_of_some _ e) (Nat.le_refl _) (dt_empty s.heap I.big)
  refine pairTrees_cons_walk (thn (hk.run pins _ σ _ _ I0 (h _ freeT)) fun uy s1 ⟨y, H1, I1, ry, q1⟩ => thn (hv.run pins _ σ _ _ I1 q1) fun uz s2 ⟨z, H2, I2, rz, key, p, ey, ep, eT, q2⟩ => pairTrees_nil_walk ?_)
  subst ey
  cases (show uy = Value.ref p from ry)
  obtain ⟨l0, nsys, raw, rel, holds⟩ := dt_of I2.hok eT
  cases rel
  refine ⟨[(key, p, uz)], ⟨rfl, rfl, key_of I2.hok ep, trivial⟩, holds, fun h' t' made same => wpAny_pure ⟨.ref s.heap.objs.size, _, ?_, rfl, q2⟩⟩
  obtain ⟨ob, ents, epo, g1, g2, g3, g4, _, g5⟩ := made
  have stay : ∀ c ys, H2 c = some (.tup ys) → upd H2 s.heap.objs.size (.dT [(key, z)]) c = some (.tup ys) := fun c ys ec => (upd_ne (ne_of ec eT (fun z => nomatch z))).trans ec
  have kt : KT (upd H2 s.heap.objs.size (.dT [(key, z)])) [(key, z)] [(key, p, uz)] := .cons ⟨rfl, stay _ _ ep, rz⟩ .nil
  refine d_write I2 (by rw [eT]; exact True.intro) same ⟨ob, g1⟩ ⟨by rw [sizeLine_eq]; show 1 ≤ 16777216; omega, nsys, _, kt, ob, ents, epo, g1, g2, g3, g4, g5⟩
end
section
variable {X : Cx} {c : Wd} {k v o : Expr} {tk tv to : DE} {pos apos cpos : Pos}
end
end DL
/-! The data layer: x in l where l is a list or a tuple of data (else as inE). -/
namespace DL
open PySem L2
section
variable {X : Cx}
/-- owned lists are lent while a test is made -/
def dLdT (tt : DT) : DT := fun ρ M Q => ∃ lent : Addr → Prop, (∀ a, lent a → ∃ xs, M a = some (.lst xs)) ∧ ∀ r, r ≠ 0 → (∀ a m, M a = some m → noRM r m = true) →
  tt (ρ.map (Option.map (ld M lent r 9))) (drop M lent) (fun k M3 => (∀ a m, M3 a = some m → noRM r m = true) ∧ Q k (back M3 M lent))
theorem pdt_ld {c : Wd} {e : Expr} {tt : DT} (h : ∀ c', SC c c' → PDT c' X e tt) : PDT c X e (dLdT tt) := by
  refine ⟨fun pins s σ H Q I ⟨ρ, w, Q', hH, a, ⟨lent, hl, h1⟩, k⟩ => ?_⟩
  obtain ⟨n, hn⟩ := a.ok.lfr
  have h0 : n + 1 ≠ 0 := by omega
  have hr : ∀ b, w.ln (n + 1) b = none := fun b => hn (n + 1) (by omega) b
  have z := h1 (n + 1) h0 (a.ok.noR h0 hr)
  have okl := ok_le a.ok hl hr
  have kpl := kp_le a.ok hl hr
  refine (h (w.le lent (n + 1)) (a.kp.trans kpl).sc).run pins s σ H Q I ⟨_, w.le lent (n + 1), _, hH, ⟨Kp.refl _, re_ld a.ok hl hr h0 a.re, okl, rfl, rfl⟩, z, fun b w3 q bb => ?_⟩
  obtain ⟨hm, q⟩ := q
  obtain ⟨bk, bh⟩ := un_all a.ok hl hr bb hm
  exact k b (w3.un w lent) q bh
end
end DL
/-! The data layer: a def that hands each lambda on, called with a list of lambdas that is written there. -/
namespace DL
open PySem PySem.Spec PyProof.Rows L2 LamX
section
variable {X : Cx} {c : Wd} {cl : Str → Addr} {tb : List (Addr × Str)} {x a xt b : Str} {st stt : Stmt} {g gt : Addr} {fdt : FuncData} {Ng Nt : List Str} {k : Nat} {tGt : List (Addr × DAct) → DS} {TTs : List DAct → Mu → DK → Prop} {ls : List Lm} {es : List Expr} {tLs : List (DXK → DE)} {p p' pos : Pos}
theorem LamsH.snoc {H : Hp} {l : Lm} {f : Addr} : ∀ {ls : List Lm} {fs : List Addr}, LamsH X H ls fs → LamH X H l f → LamsH X H (ls ++ [l]) (fs ++ [f])
  | [], fs, h, hl => by
    rw [show fs = [] from h]
    exact ⟨f, [], rfl, hl, rfl⟩
  | l0 :: ls, fs, ⟨f0, r, e, h0, t⟩, hl => by
    subst e
    exact ⟨f0, r ++ [f], rfl, h0, LamsH.snoc t hl⟩
theorem LamsH.ext {H : Hp} : ∀ {ls : List Lm} {fs : List Addr}, LamsH X H ls fs → ∀ f ∈ fs, ∃ φ, H f = some (.ext φ)
  | [], fs, h, f, hf => by rw [show fs = [] from h] at hf; cases hf
  | l0 :: ls, fs, ⟨f0, r, e, h0, t⟩, f, hf => by
    subst e
    rcases List.mem_cons.mp hf with rfl | hf
    · obtain ⟨c', dV, doc, pm, ctv, h1, h2, h3⟩ := h0
      first | exact ⟨_, h1⟩ | exact ⟨_, h2⟩
    · exact LamsH.ext t f hf
end
end DL
/-! The data layer: a comprehension that hands each lambda on, its list stays owned. -/
namespace DL
open PySem PySem.Spec PyProof.Rows L2 LamX
section
variable {X : Cx} {c : Wd} {ti : DI} {g : DG} {te : DE} {vs : List Nat} {pos : Pos}
end
end DL
/-! The data layer: dict(pairs) with tuple keys, the new dict is owned; all that is owned (but for what is told) is let go of ahead of a statement. -/
namespace DL
open PySem L2
open PyProof.Rows hiding St
/-! ### dict(pairs) -/
section
variable {X : Cx} {pins : List (Addr × Obj)} {σ : St} {H : Hp} {s : Shared}
end
/-! ### over data -/
section
variable {K : PySem.W.Frag} {w : Wd}
end
/-! ### what is owned is let go of, ahead of a statement -/
/-! ### o[k] by an own __getitem__ -/
section
variable {X : Cx} {c : Wd} {a b : Expr} {ta tb : DE} {pos : Pos} {n : Str} {cl : Str → Addr} {tb' : List (Addr × Str)} {k : Nat} {ps : List Str} {s : DSp} {E : DXK}
end
end DL
/-! The data layer: a list of lambdas, two more put behind. -/
namespace DL
open PySem PySem.Spec PyProof.Rows L2 LamX
section
variable {X : Cx} {c : Wd} {cl : Str → Addr} {tb : List (Addr × Str)} {x a xt b : Str} {st stt : Stmt} {g gt : Addr} {fdt : FuncData} {Ng Nt : List Str} {k : Nat} {tGt : List (Addr × DAct) → DS} {TTs : List DAct → Mu → DK → Prop} {ls : List Lm} {es : List Expr} {tLs : List (DXK → DE)} {p p' pos : Pos}
end
end DL
/-! The data layer: x | y by an own __or__; for k, v in d.items() with tuple keys; two dicts with tuple keys compared. -/
namespace DL
open PySem L2 PySem.Spec
open PyProof.Rows hiding St
/-! ### x | y by an own def -/
section
variable {X : Cx} {c : Wd} {e a b : Expr} {te ta tb : DE} {pos p apos : Pos} {n m x : Str} {cl : Str → Addr} {tb' : List (Addr × Str)} {k : Nat} {ps : List Str} {s : DSp} {E : DXK} {op : Operator}
end
/-! ### d.items() -/
section
variable {X : Cx} {tg e : Expr} {td : TE} {apos cpos : Pos}
end
section
variable {X : Cx} {c : Wd} {e : Expr} {te : DE} {apos cpos : Pos}
end
end DL
/-! The data layer: two dicts with tuple keys compared. -/
namespace DL
open PySem L2 PySem.Spec
open PyProof.Rows hiding St
section
variable {prog : Program} {w : World} {K : Type} [DecidableEq K] {knd : HeapKind prog w K} {A : Around} {E : Value → Shared → Prop} {s : Shared}
end
section
variable {X : Cx}
end
/-! ### over data -/
section
variable {K : PySem.W.Frag} {w : Wd}
end
end DL
/-! The data layer: a list of lambdas, a second one put behind by +. -/
namespace DL
open PySem PySem.Spec PyProof.Rows L2 LamX
theorem LamsH.app {X : Cx} {H : Hp} {ls2 : List Lm} {fs2 : List Addr} (h2 : LamsH X H ls2 fs2) : ∀ {ls : List Lm} {fs : List Addr}, LamsH X H ls fs → LamsH X H (ls ++ ls2) (fs ++ fs2)
  | [], fs, h => by rw [show fs = [] from h]; exact h2
  | l :: ls, _, ⟨f, r, e, h, t⟩ => by subst e; exact ⟨f, r ++ fs2, rfl, h, LamsH.app h2 t⟩
section
variable {X : Cx} {c : Wd} {cl : Str → Addr} {tb : List (Addr × Str)} {ls ls2 : List Lm} {es es2 : List Expr} {p p' p2 p2' q1 pos pos2 pos3 : Pos}
end
end DL
/-! The data layer: calls of defs that have positional defaults alone, or keyword-only ones alone. -/
namespace DL
open PySem L2
section
variable {K : PySem.W.Frag} {x qual : Str} {params : Arguments} {body : List Stmt} {scope : Scope} {dvs : List V} {kws : List (Str × V)} {f : Addr} {fd : FuncData} {ps ks : List Str} {j : Nat}
end
end DL
/-! The data layer: own exceptions raised with no argument. -/
namespace DL
open PySem L2
section
variable {X : Cx} {e : Expr} {es : List Expr} {ta : TA} {p pos : Pos}
end
section
variable {X : Cx} {c : Wd} {p pos : Pos} {n : Str} {m : Nat} {fl : List (Str × (Sum Str Nat))} {E : DXK}
end
end DL
/-! The data layer: the run of the start, looked at in parts (each part runs anew: memory). -/
namespace DL
open PySem L2
/-! the same, the addresses being given -/
end DL
/-! The data layer: dict(d) with tuple keys, bool(o) by an own __bool__, o == a list, l.clear(), an owned list + a list. -/
namespace PySem
open Sem (wp)
section
variable {prog : Program} {w : World} {K : Type} [DecidableEq K] {knd : HeapKind prog w K} {A : Around} {E : Value → Shared → Prop} {s : Shared}
end
end PySem

namespace DL
open PySem L2
open PyProof.Rows hiding St
/-! ### dict(d) -/
/-! ### l.clear(), l owned -/
section
variable {X : Cx} {c : Wd} {a b e o : Expr} {ta tb te to : DE} {pos p apos cpos : Pos} {n : Str} {cl : Str → Addr} {tb' : List (Addr × Str)} {k : Nat} {ps : List Str} {s : DSp} {E : DXK}
/-! ### an owned list + a list: a new owned list -/
@[simp] def addO : D2 := fun x y M Q => match x, y with
  | .ref a, .lst _ ys => (match M a with | some (.lst xs) => xs.length + ys.length ≤ 100000 ∧ ∀ p, M p = none → Q (.ref p) (setM M p (.lst (xs ++ ys))) | _ => False)
  | _, _ => False
theorem opD_addO {X : Cx} : OpD X (binaryOp .Add) addO := by
  intro pins s σ H x y v u Q I rx ry ⟨w, dx, dy, Q', hH, ok, r1, r2, h, k⟩
  subst hH
  cases dx with
  | ref l =>
    cases dy with
    | lst t ys =>
      obtain rfl : x = .ref l := r1
      obtain ⟨p2, zs, rfl, l2, s2⟩ := r2
      cases em : w.M l with
      | none => simp only [addO, em] at h
      | some m =>
        cases m with
        | lst xs =>
          simp only [addO, em] at h
          obtain ⟨vs, hx, s1⟩ := (show ∃ vs, w.H l = some (.lst vs) ∧ RpL X.K w xs vs from ok.mo l _ em)
          refine op_cat pins s σ _ _ _ v u Q I rx ry ⟨l, p2, vs, zs, rfl, rfl, hx, l2.1, by rw [s1.length, s2.length]; exact sz h.1, fun q hq => ?_⟩
          have b0 : Bh X.K w { w with M := setM w.M q (.lst (xs ++ ys)), H := upd w.H q (.lst (vs ++ zs)) } := Bh.newOwn ok hq fun w' e k' => ⟨_, e, (s1.append s2).mono k'⟩
          exact k (.ref q) _ (.ref q) (h.2 q (ok.fresh hq).m) b0 rfl
        | _ => simp only [addO, em] at h
    | _ => exact False.elim h
  | _ => exact False.elim h
/-! ### bool(o) by an own __bool__ -/
/-! ### o == a list -/
end
section
variable {K : PySem.W.Frag} {x qual : Str} {params : Arguments} {body : List Stmt} {scope : Scope} {f : Addr} {fd : FuncData} {ps ks : List Str} {j : Nat}
end
end DL
/-! The data layer: sorted({x for x in xs}), xs tuples of whole numbers. -/
namespace DL
open PySem L2 PpSet
section
variable {X : Cx}
theorem addT_ok {pins : List (Addr × Obj)} {σ : L2.St} {H : Hp} {s : Shared} {E : Value → Shared → Prop} {D y : Addr} {L : List (Addr × List Int)} {k : List Int} {Q : Value → Shared → Prop} (I : Inv X pins σ H s) (hD : H D = some (SetTO X.prog X.w D L))
    (hL : ∀ p ∈ L, SqT X.K H p.1 (p.2.map V.int)) (hy : SqT X.K H y (k.map V.int)) (hfew : L.length + 1 < 64) (hu : X.A.units + 64 < cLine)
    (h : ∀ s' L', (k ∈ L.map (·.2) → L' = L) → (k ∉ L.map (·.2) → L'.Perm ((y, k) :: L)) → Inv X pins σ (upd H D (SetTO X.prog X.w D L')) s' → Q .none s') : wpAny (model X.prog X.w) X.A (call (.builtin "set.add") [.ref D, .ref y]) Q E s := by
  have R0 : SetT0 X.prog X.w s.heap D L := (I.hok D _ hD).1
  obtain ⟨es, ep, t, R⟩ := R0.full fun p hp => I.isT (hL p hp)
  have hx := I.isT hy
  have hT : s.TypeIs (.ref D) "set" := by
    obtain ⟨o, ho, hc, _⟩ := R.ob
    exact ⟨o, ho, hc.1⟩
  refine wpAny_call_entry F.slot_set_add hT F.entry_set_add ?_ (F.args_set_add_2 _ _)
  unfold Builtin.«set.add» Builtin.Frozenset.oneOther
  simp only [List.isEmpty_nil, bind_assoc]
  unfold Builtin.Frozenset.addrOf setAdd
  refine wpAny_bind (wpAny_pure ?_)
  try dsimp only
  refine wpAny_bind (wpAny_pure ?_)
  try dsimp only
  have hu1 : X.A.in1.units < cLine := by
    have : X.A.in1.units ≤ X.A.units + 64 := by first | exact Nat.le_add_right _ _ | (unfold Around.in1; simp; done) | (unfold Around.in1; simp; omega)
    omega
  refine wpAny_bind (wpAny_holding (wpAny_bind (wpAny_pyHash_tuple hu1 hx ?_)))
  refine add_at (s := { s with toks := s.toks + (k.length + 1) }) R hx hu1 hfew fun b h' L' es' ep' t' sb R' c1 c2 => ?_
  show wpAny _ _ (ret Value.none) _ _ _
  refine wpAny_pure ⟨_, rfl, h _ L' c1 c2 ?_⟩
  obtain ⟨o, ho, _⟩ := R'.ob
  exact I.write (e := D) (t' := s.toks + (k.length + 1)) (by rw [hD]; trivial) (.inl rfl) (fun b u hb hu => (sb.2 b hb).trans hu) ⟨o, ho⟩ (setTO_new R'.t0)
/-- {elt for target in iter if ..}, elt a tuple of whole numbers: D the new set -/
def tScT (P : Program) (K : PySem.W.Frag) (w : World) (wi : TI) (g : TG) (tt : TT) (te : TE) (vs : List Nat) : TE := fun σ H Q => wi σ H fun J H1 => ∀ D, H1 D = none → ∃ W : Nat → Nat → Hp → Prop, (∃ m, W 0 m (upd H1 D (SetTO P w D []))) ∧ ∀ i m H, W i m H →
  (J.stop i H ∧ Q (.ref D) H) ∨ (J.go i H ∧ ∃ Nx : Hp → Prop, (∀ H', Nx H' → ∃ m', m' < m ∧ W (i + 1) m' H') ∧ ∀ x H', J.yld i H x H' → g x (wipe σ vs) H' fun σ2 H2 => wipe σ2 vs = wipe σ vs ∧ tt σ2 H2 fun b H3 =>
    if b = true then te σ2 H3 fun y H4 => ∃ (c : Addr) (k : List Int) (L : List (Addr × List Int)), y = .ref c ∧ H4 D = some (SetTO P w D L) ∧ (∀ p ∈ L, SqT K H4 p.1 (p.2.map V.int)) ∧ SqT K H4 c (k.map V.int) ∧ L.length + 1 < 64 ∧ ∀ L' : List (Addr × List Int), (k ∈ L.map (·.2) → L' = L) → (k ∉ L.map (·.2) → L'.Perm ((c, k) :: L)) → Nx (upd H4 D (SetTO P w D L')) else Nx H3)
theorem scT_core {pins : List (Addr × Obj)} {s : Shared} {σ : L2.St} {H : Hp} {Q : VK} {elt tg iter : Expr} {ifs : List Expr} {scope : Scope} {own : List (PySem.Str × Nat)} {pos pos' : Pos} {wi : TI} {g : TG} {tt : TT} {te : TE} {use : Option (Value → Sem Unit)} {Qf : Value → Shared → Prop}
    (hu : X.A.units + 64 < cLine) (hc : X.calm = true) (hN : X.N.Nodup) (I : Inv X pins σ H s) (hi : PI X tg iter wi) (ok : BlkOk X.N X.env.scope scope own)
    (hg : ∀ (s : Shared) (H : Hp) (C : Addr) (cl : List (PySem.Str × Addr)) (fp : List Addr), PG (X.blk s H scope (compEnvC scope cl C X.env) fp) tg g) (ht : ∀ (s : Shared) (H : Hp) (C : Addr) (cl : List (PySem.Str × Addr)) (fp : List Addr), PTs (X.blk s H scope (compEnvC scope cl C X.env) fp) ifs tt)
    (he : ∀ (s : Shared) (H : Hp) (C : Addr) (cl : List (PySem.Str × Addr)) (fp : List Addr), PE (X.blk s H scope (compEnvC scope cl C X.env) fp) elt te) (hs : ∀ x, foldedSetIterable iter X.env x = pure x)
    (h : tScT X.prog X.K X.w wi g tt te (own.map (·.2)) σ H Q)
    (hRR : ∀ D C s' m H', Inv X pins σ H' s' → Q (.ref D) H' → s'.heap.Ns C m → FpOk X pins H' C → compPost (model X.prog X.w) X.A X.xe use Qf (.ref D) C (.ok .next) s') :
    wpAny (model X.prog X.w) X.A (comprehension (.SetComp elt [⟨tg, iter, ifs, 0⟩] scope pos) scope X.env pos' (newSet (.type "set")) false (eval iter X.env) use) Qf X.xe s := by
  have hfree : ∀ y ∈ scope.names, y.2 = .free → ∃ c, X.env.cells.lookup y.1 = some c := fun y hy e => by
    rcases ok.free y hy e with k | k
    · exact I.ok.has _ (.inl k)
    · exact I.ok.has _ (.inr k)
  refine wpAny_comprehension_free (use := use) rfl hs (closure_ok hfree) ok.kind (fun y hy e => by rw [ok.uniq y hy, e])
    (thn (hi.run pins s σ H _ I h) fun xv s1 hx => thn hx fun itv s2 h2 => ?_)
  obtain ⟨it, fp, tn, J, H2, e, I2, T, st2, f2, q⟩ := h2
  subst e
  refine newSet_ok (newEnv_comp ?_)
  generalize hD : s2.heap.objs.size = D
  have hDn : H2 D = none := I2.hok.fresh (Nat.le_of_eq hD)
  obtain ⟨W, ⟨m0, w0⟩, turn⟩ := q D hDn
  -- the new list
  generalize hs3 : ({ s2 with heap := s2.heap.push { cls := .type "set", dict := none, data := .set #[] 0 (.fresh 0 0 (!X.w.params.followText "set-order")) } } : Shared) = s3
  have I3 : Inv X pins σ (upd H2 D (SetTO X.prog X.w D [])) s3 := by
    rw [← hs3]
    refine I2.laid (t' := s2.toks) (fun b o e => Heap.get?_push_of_some _ e) (Nat.le_of_eq hD) ?_
    rw [← hD]
    exact setTO_new (SetTR.t0 (setTR_fresh (Heap.get?_push_size _ rfl)))
  have h3 : s3.heap = s2.heap.push { cls := .type "set", dict := none, data := .set #[] 0 (.fresh 0 0 (!X.w.params.followText "set-order")) } := by rw [← hs3]
  have sz : ∀ b ∈ fp, b < s2.heap.objs.size := fun b hb => by
    obtain ⟨o, e, _⟩ := T.obj _ _ st2 b hb
    exact Heap.lt_size e
  have f3 : ∀ b ∈ fp, FpOk X pins (upd H2 D (SetTO X.prog X.w D [])) b ∧ b < s3.heap.objs.size := fun b hb => by
    have hlt := sz b hb
    refine ⟨⟨?_, (f2 b hb).2⟩, by rw [h3, Heap.size_push]; exact Nat.lt_succ_of_lt hlt⟩
    rw [upd_ne (by rw [← hD]; exact Nat.ne_of_lt hlt)]
    exact (f2 b hb).1
  have st3 : tn 0 s3.heap := T.keep _ _ _ st2 fun b _ o e => by rw [h3]; exact Heap.get?_push_of_some _ e
  have I4 := block_start I3 ok hN f3
  have pg := hg s3 (upd H2 D (SetTO X.prog X.w D [])) s3.heap.objs.size (cellsFrom (s3.heap.objs.size + 1) scope.names (cloFrom X.env.cells scope.names [])) fp
  have pt := ht s3 (upd H2 D (SetTO X.prog X.w D [])) s3.heap.objs.size (cellsFrom (s3.heap.objs.size + 1) scope.names (cloFrom X.env.cells scope.names [])) fp
  have pe := he s3 (upd H2 D (SetTO X.prog X.w D [])) s3.heap.objs.size (cellsFrom (s3.heap.objs.size + 1) scope.names (cloFrom X.env.cells scope.names [])) fp
  show codeAny _ _ (.compStart (.SetComp elt [⟨tg, iter, ifs, 0⟩] scope pos) 0 (.ref it) (.ref D) (compEnvC scope (cellsFrom (s3.heap.objs.size + 1) scope.names (cloFrom X.env.cells scope.names [])) s3.heap.objs.size X.env)) (compPost (model X.prog X.w) X.A X.xe use Qf (.ref D) s3.heap.objs.size) { s3 with heap := pushCells (s3.heap.push { cls := .type "dict", data := .dict #[] }) scope.names }
  have nfp : ∀ b ∈ fp, (upd H2 D (SetTO X.prog X.w D [])) b = none := fun b hb => (f3 b hb).1.1
  generalize hce : compEnvC scope (cellsFrom (s3.heap.objs.size + 1) scope.names (cloFrom X.env.cells scope.names [])) s3.heap.objs.size X.env = ce at I4 pg pt pe ⊢
  have cL : ce.locals = s3.heap.objs.size := by subst hce; rfl
  generalize hH3 : upd H2 D (SetTO X.prog X.w D []) = H3 at I3 I4 pg pt pe w0 nfp f3
  generalize hs4 : ({ s3 with heap := pushCells (s3.heap.push { cls := .type "dict", data := .dict #[] }) scope.names } : Shared) = s4 at I4 ⊢
  have st4 : tn 0 s4.heap := T.keep _ _ _ st3 fun b _ o e => by rw [← hs4]; exact pushCells_keeps _ _ _ _ (Heap.get?_push_of_some _ e)
  have stat : ∀ {σ' : L2.St} {H' : Hp} {s' : Shared}, Inv (X.blk s3 H3 scope ce fp) [] σ' H' s' → (∀ b ∈ fp, H' b = none) → ∀ b ∈ fp, FpOk (X.blk s3 H3 scope ce fp) [] H' b := fun {σ' H' s'} I' hn b hb =>
    ⟨hn b hb, (I'.ok.exf b hb).1, I'.ok.exfs b hb, .inl hb, fun x c e => (I'.ok.exf b hb).2 x c e, fun p hp => absurd (show p ∈ ([] : List (Addr × Obj)) ++ [] from hp) (by simp)⟩
  have loop : codeAny (model X.prog X.w) X.A (.compLoop (.SetComp elt [⟨tg, iter, ifs, 0⟩] scope pos) 0 (.ref it) (.ref D) ce) (compPost (model X.prog X.w) X.A X.xe use Qf (.ref D) s3.heap.objs.size) s4 := by
    refine compLoopS_any (fun n s' => ∃ i H', Inv (X.blk s3 H3 scope ce fp) [] (wipe σ (own.map (·.2))) H' s' ∧ tn i s'.heap ∧ (∀ b ∈ fp, H' b = none) ∧ W i n H') ?_ m0 ⟨0, H3, I4, st4, nfp, w0⟩
    rintro n s5 ⟨i, H5, I5, st5, n5, w5⟩
    rcases turn i n H5 w5 with ⟨stop, qq⟩ | ⟨go, Nx, hNx, step⟩
    · have td := T.done (X.blk s3 H3 scope ce fp) rfl rfl rfl hc i [] s5 _ H5 (fun _ _ => False) I5 (stat I5 n5) st5 stop
      refine thnF td fun r s6 ⟨hr, I6⟩ => ?_
      subst hr
      -- back in the def's context
      have I7 : Inv X pins σ H5 s6 := I3.call' (ch := fp) I6.os I6.base I6.hok I6.bare fun b hb => ⟨(f3 b hb).1.2.2.2.1, (f3 b hb).1.2.1, (f3 b hb).1.2.2.2.2.1, (f3 b hb).1.2.2.2.2.2⟩
      have nC : H5 s3.heap.objs.size = none := by
        have z : H5 ce.locals = none := I6.free
        rw [cL] at z
        exact z
      obtain ⟨m, hn, _⟩ := I6.loc
      have hn : s6.heap.Ns ce.locals m := hn
      rw [cL] at hn
      exact hRR D s3.heap.objs.size s6 m H5 I7 qq hn (I3.fpOk (Nat.le_refl _) nC)
    · have ti := T.item (X.blk s3 H3 scope ce fp) rfl rfl rfl hc i [] s5 _ H5 (fun _ _ => False) I5 (stat I5 n5) st5 go
      refine thnF ti fun r s6 ⟨u, hr, h6⟩ => ?_
      subst hr
      refine thnF h6 fun _ s7 ⟨x, H7, I7, r7, y7, st7, n7⟩ => ?_
      have I7' := I7.pinned (stat I7 n7) (T.obj _ _ st7)
      refine thnF (pg.run _ s7 _ H7 x u _ I7' r7 (step x H7 y7)) fun _ s8 ⟨σ8, H8, I8, hw8, q8⟩ => ?_
      refine thnF (pt.run _ s8 σ8 H8 _ I8 q8) fun b s9 ⟨H9, I9, q9⟩ => ?_
      -- the turn's end
      have fin : ∀ {s' : Shared} {H' : Hp}, Inv (X.blk s3 H3 scope ce fp) ([] ++ pinsAt fp s7.heap) σ8 H' s' → Nx H' → ∃ m, m < n ∧ ∃ i H', Inv (X.blk s3 H3 scope ce fp) [] (wipe σ (own.map (·.2))) H' s' ∧ tn i s'.heap ∧ (∀ b ∈ fp, H' b = none) ∧ W i m H' := fun {s' H'} I' nx => by
        obtain ⟨m', hm, w'⟩ := hNx H' nx
        have pin' : ∀ b ∈ fp, ∀ o, s7.heap.get? b = some o → s'.heap.get? b = some o ∧ H' b = none := fun b hb o e =>
          let z := I'.pin (b, o) (List.mem_append_right _ (List.mem_append_right _ (mem_pinsAt hb e)))
          ⟨z.1, z.2.1⟩
        have hl : (wipe σ (own.map (·.2))).length = σ8.length := by rw [← hw8, wipe_length]
        refine ⟨m', hm, i + 1, H', (I'.unpinned (pins := [])).weak hl (fun j v e => ?_), T.keep _ _ _ st7 fun b hb o e => (pin' b hb o e).1, fun b hb => ?_, w'⟩
        · rw [← hw8] at e
          exact (wipe_some e).1
        · obtain ⟨o, e, _⟩ := T.obj _ _ st7 b hb
          exact (pin' b hb o e).2
      cases b with
      | false =>
        simp only [Bool.false_eq_true, if_false] at q9 ⊢
        exact fin I9 q9
      | true =>
        simp only [if_true] at q9 ⊢
        refine thnF (pe.run _ s9 σ8 H9 _ I9 q9) fun z s10 ⟨yv, H10, I10, r10, cb, k0, L0, ey, hD10, hL10, hy10, hz10, nx⟩ => ?_
        subst ey
        cases (show z = Value.ref cb from r10)
        exact addT_ok (X := X.blk s3 H3 scope ce fp) I10 hD10 hL10 hy10 hz10 hu fun s11 L' c1 c2 I11 => fin I11 (nx L' c1 c2)
  exact codeAny_compStart_set loop (T.self X.A 0 _ _ _ st4 loop)
/-- as a value -/
theorem pe_scT {elt tg iter : Expr} {ifs : List Expr} {scope : Scope} {own : List (PySem.Str × Nat)} {pos : Pos} {wi : TI} {g : TG} {tt : TT} {te : TE} (hu : X.A.units + 64 < cLine) (hc : X.calm = true) (hN : X.N.Nodup) (hi : PI X tg iter wi) (ok : BlkOk X.N X.env.scope scope own)
    (hg : ∀ (s : Shared) (H : Hp) (C : Addr) (cl : List (PySem.Str × Addr)) (fp : List Addr), PG (X.blk s H scope (compEnvC scope cl C X.env) fp) tg g) (ht : ∀ (s : Shared) (H : Hp) (C : Addr) (cl : List (PySem.Str × Addr)) (fp : List Addr), PTs (X.blk s H scope (compEnvC scope cl C X.env) fp) ifs tt)
    (he : ∀ (s : Shared) (H : Hp) (C : Addr) (cl : List (PySem.Str × Addr)) (fp : List Addr), PE (X.blk s H scope (compEnvC scope cl C X.env) fp) elt te) (hs : ∀ x, foldedSetIterable iter X.env x = pure x := by intro _; rfl) :
    PE X (.SetComp elt [⟨tg, iter, ifs, 0⟩] scope pos) (tScT X.prog X.K X.w wi g tt te (own.map (·.2))) := by
  refine ⟨fun pins s σ H Q I h => ?_⟩
  rw [eval_SetComp]
  refine scT_core hu hc hN I hi ok hg ht he hs h fun D C s' m H' I' q hn f => ⟨m, hn, fun h'' sb => ?_⟩
  obtain ⟨f0, f1, f2, f3, f4, f5⟩ := f
  exact ⟨.ref D, H', I'.turned (t' := s'.toks) (fun b o hb e => (sb.2 b hb).trans e) f0 f1 f3 f4 f5, rfl, q⟩
end
section
variable {P : Program} {w : World} {K : PySem.W.Frag}
theorem rd_upd {H : Hp} {b D : Addr} {u v : HO} (hD : H D = none) (h : Rd H b v) : Rd (upd H D u) b v := by
  rcases h with h | ⟨o, h⟩
  · exact .inl ((upd_ne (fun z => by rw [z, hD] at h; cases h)).trans h)
  · exact .inr ⟨o, (upd_ne (fun z => by rw [z, hD] at h; cases h)).trans h⟩
theorem sqT_upd {H : Hp} {b D : Addr} {u : HO} {ys : List V} (hD : H D = none) (h : SqT K H b ys) : SqT K (upd H D u) b ys := h.imp (rd_upd hD) id
theorem sqL_upd {H : Hp} {b D : Addr} {u : HO} {ys : List V} (hD : H D = none) (h : SqL K H b ys) : SqL K (upd H D u) b ys := h.imp (rd_upd hD) id
/-- what a fixed iterator gives -/
structure Fixed (J : It) (H1 : Hp) (D : Addr) (ks : List (Addr × List Int)) : Prop where
  go : ∀ u i, i < ks.length → J.go i (upd H1 D u)
  yld : ∀ u i p x H', ks[i]? = some p → J.yld i (upd H1 D u) x H' → H' = upd H1 D u ∧ x = .ref p.1
  stop : ∀ u, J.stop ks.length (upd H1 D u)
theorem fixed_l {H1 : Hp} {D a : Addr} {ks : List (Addr × List Int)} (hD : H1 D = none) (h : SqL K H1 a (ks.map fun p => V.ref p.1)) : Fixed (Itl K a) H1 D ks where
  go u i hi := ⟨_, _, sqL_upd hD h, by rw [List.getElem?_map, List.getElem?_eq_getElem hi]; rfl⟩
  yld u i p x H' e y := ⟨y.1, by
    have := y.2 _ (sqL_upd hD h)
    rw [List.getElem?_map, e] at this
    exact (Option.some.inj this).symm⟩
  stop u := ⟨_, sqL_upd hD h, by simp⟩
theorem fixed_t {H1 : Hp} {D a : Addr} {ks : List (Addr × List Int)} (hD : H1 D = none) (h : SqT K H1 a (ks.map fun p => V.ref p.1)) : Fixed (Itt K a) H1 D ks where
  go u i hi := ⟨_, _, sqT_upd hD h, by rw [List.getElem?_map, List.getElem?_eq_getElem hi]; rfl⟩
  yld u i p x H' e y := ⟨y.1, by
    have := y.2 _ (sqT_upd hD h)
    rw [List.getElem?_map, e] at this
    exact (Option.some.inj this).symm⟩
  stop u := ⟨_, sqT_upd hD h, by simp⟩
theorem scT_fix {J : It} {H1 : Hp} {D : Addr} {ks : List (Addr × List Int)} {i : Nat} {σ : L2.St} {Qd : Hp → Prop} (f : Fixed J H1 D ks) (hD : H1 D = none) (hk : ∀ p ∈ ks, SqT K H1 p.1 (p.2.map V.int)) (hl : ks.length < 63) (hi : i < σ.length)
    (q : ∀ L : List (Addr × List Int), (∀ p ∈ L, p ∈ ks) → (∀ p ∈ ks, p.2 ∈ L.map (·.2)) → Qd (upd H1 D (SetTO P w D L))) :
    ∃ W : Nat → Nat → Hp → Prop, (∃ m, W 0 m (upd H1 D (SetTO P w D []))) ∧ ∀ j m H, W j m H →
      (J.stop j H ∧ Qd H) ∨ (J.go j H ∧ ∃ Nx : Hp → Prop, (∀ H', Nx H' → ∃ m', m' < m ∧ W (j + 1) m' H') ∧ ∀ x H', J.yld j H x H' → gName i x (wipe σ [i]) H' fun σ2 H2 => wipe σ2 [i] = wipe σ [i] ∧ tYes σ2 H2 fun b H3 =>
        if b = true then tVar i σ2 H3 fun y H4 => ∃ (c : Addr) (k : List Int) (L : List (Addr × List Int)), y = .ref c ∧ H4 D = some (SetTO P w D L) ∧ (∀ p ∈ L, SqT K H4 p.1 (p.2.map V.int)) ∧ SqT K H4 c (k.map V.int) ∧ L.length + 1 < 64 ∧
          ∀ L' : List (Addr × List Int), (k ∈ L.map (·.2) → L' = L) → (k ∉ L.map (·.2) → L'.Perm ((c, k) :: L)) → Nx (upd H4 D (SetTO P w D L')) else Nx H3) := by
  refine ⟨fun j m H => m = ks.length - j ∧ j ≤ ks.length ∧ ∃ L, Got ks j L ∧ H = upd H1 D (SetTO P w D L), ⟨_, rfl, Nat.zero_le _, [], Got.zero ks, rfl⟩, ?_⟩
  rintro j m H ⟨rfl, hj, L, g, rfl⟩
  by_cases hlt : j < ks.length
  · refine .inr ⟨f.go _ j hlt, fun H' => ∃ L', Got ks (j + 1) L' ∧ H' = upd H1 D (SetTO P w D L'), fun H' ⟨L', g', e⟩ => ⟨ks.length - (j + 1), by omega, rfl, hlt, L', g', e⟩, fun x H' y => ?_⟩
    have e := List.getElem?_eq_getElem hlt
    obtain ⟨e1, e2⟩ := f.yld _ j _ x H' e y
    subst e1 e2
    refine ⟨by simp [wipe], ?_⟩
    unfold tYes
    refine iteT ⟨.ref ks[j].1, by simp [wipe, hi], ks[j].1, ks[j].2, L, rfl, upd_same, fun p hp => sqT_upd hD (hk p (List.mem_of_mem_take (g.sub p hp))), sqT_upd hD (hk _ (List.getElem_mem hlt)), by have := g.len; omega, fun L' c1 c2 => ?_⟩
    refine ⟨L', ?_, by rw [upd_upd]⟩
    rcases Classical.em (ks[j].2 ∈ L.map (·.2)) with c | c
    · rw [c1 c]; exact g.same e c
    · exact g.more e (c2 c)
  · have ej : j = ks.length := by omega
    subst ej
    refine .inl ⟨f.stop _, q L (fun p hp => List.mem_of_mem_take (g.sub p hp)) fun p hp => g.all p ?_⟩
    rw [List.take_length]; exact hp
end
def tupI (k : List Int) : D := .tup (k.map .int)
def seqL : D → Option (List D)
  | .lst _ xs => some xs
  | .tup xs => some xs
  | _ => none
theorem ints_back {K : PySem.W.Frag} {w : Wd} : ∀ {k : List Int} {zs : List V}, RpL K w (k.map .int) zs → zs = k.map V.int
  | [], zs, r => r
  | i :: k, zs, r => by
    obtain ⟨v, q, rfl, r1, r2⟩ := r
    rw [show v = V.int i from r1, ints_back r2]
    rfl
theorem tups_back {K : PySem.W.Frag} {w : Wd} : ∀ {ks : List (List Int)} {xs : List V}, RpL K w (ks.map tupI) xs → ∃ kl : List (Addr × List Int), xs = kl.map (fun p => V.ref p.1) ∧ kl.map (·.2) = ks ∧ ∀ p ∈ kl, SqT K w.H p.1 (p.2.map V.int) ∧ Rp K w (tupI p.2) (.ref p.1)
  | [], xs, r => ⟨[], r, rfl, fun p hp => by cases hp⟩
  | k :: ks, xs, r => by
    obtain ⟨v, q, rfl, r1, r2⟩ := r
    obtain ⟨kl, rfl, e, h⟩ := tups_back r2
    obtain ⟨a, zs, rfl, l, s1⟩ := id r1
    cases ints_back s1
    refine ⟨(a, k) :: kl, rfl, by rw [List.map_cons, e], fun p hp => ?_⟩
    rcases List.mem_cons.mp hp with rfl | hp
    · exact ⟨l.sq, r1⟩
    · exact h p hp
theorem tups_rp {K : PySem.W.Frag} {w : Wd} : ∀ {kl : List (Addr × List Int)}, (∀ p ∈ kl, Rp K w (tupI p.2) (.ref p.1)) → RpL K w ((kl.map (·.2)).map tupI) (kl.map fun p => V.ref p.1)
  | [], _ => rfl
  | p :: kl, h => ⟨_, _, rfl, h p List.mem_cons_self, tups_rp fun q hq => h q (List.mem_cons_of_mem _ hq)⟩
/-- sorted({x for x in xs}), xs tuples of n whole numbers in [0, B) -/
@[simp] def dSortSc (i : Nat) (te : DE) : DE := fun ρ M Q => te ρ M fun d M1 => i < ρ.length ∧ ∃ (ks : List (List Int)) (n : Nat) (B : Int), seqL d = some (ks.map tupI) ∧ ks.length < 63 ∧ 1 ≤ n ∧ (∀ k ∈ ks, k.length = n ∧ TS.Bd B k) ∧
  ∀ ls : List (List Int), (∀ k, k ∈ ls ↔ k ∈ ks) → ls.Nodup → ls.Pairwise (fun a b => TS.code B a ≤ TS.code B b) → Q (.lst 0 (ls.map tupI)) M1
section
variable {X : Cx} {c : Wd} {te : DE} {iter : Expr} {x : Str} {p px py pos pos2 : Pos} {scope : Scope} {i : Nat}
theorem pd_sortSc (hu : X.A.units + 64 < cLine) (hc : X.calm = true) (hN : X.N.Nodup) (he : PD c X iter te) (ok : BlkOk X.N X.env.scope scope [(x, i)])
    (hgg : ∀ (s : Shared) (H : Hp) (C : Addr) (cl : List (Str × Addr)) (fp : List Addr), PG (X.blk s H scope (compEnvC scope cl C X.env) fp) (.Name x py) (gName i))
    (hee : ∀ (s : Shared) (H : Hp) (C : Addr) (cl : List (Str × Addr)) (fp : List Addr), PE (X.blk s H scope (compEnvC scope cl C X.env) fp) (.Name x px) (tVar i))
    (hm : X.mg "sorted" = none) (hg : Gl X "sorted" := by rfl) (hs : ∀ v, foldedSetIterable iter X.env v = pure v := by intro _; rfl)
    (hst : starEach [.SetComp (.Name x px) [⟨.Name x py, iter, [], 0⟩] scope pos] X.env = (false, eval (.SetComp (.Name x px) [⟨.Name x py, iter, [], 0⟩] scope pos) X.env) :: starEach [] X.env := by rfl) :
    PD c X (.Call (.Name "sorted" p) [.SetComp (.Name x px) [⟨.Name x py, iter, [], 0⟩] scope pos] [] pos2) (dSortSc i te) :=
  PE_imp (pe_callB (cr_sortedT hc) hg hm (by decide +kernel) (pa_cons (pe_scT hu hc hN (pi_any he) ok hgg (fun _ _ _ _ _ => pts_nil) hee hs) pa_nil hst) (by decide) (by decide) hst (by rfl)) fun σ H Q ⟨ρ, w, Q', hH, a, h, k⟩ => by
    refine ⟨ρ, w, _, hH, a, h, fun d w1 v q b r => ?_⟩
    obtain ⟨hi, ks, n, B, es, hl, hn, hB, q⟩ := q
    have hi' : i < σ.length := by have := a.re.1; omega
    have key : ∀ {xs : List V} {J : It}, RpL X.K w1 (ks.map tupI) xs → (∀ D (kl : List (Addr × List Int)), w1.H D = none → xs = kl.map (fun p => V.ref p.1) → Fixed J w1.H D kl) → ∀ D, w1.H D = none →
        ∃ W : Nat → Nat → Hp → Prop, (∃ m, W 0 m (upd w1.H D (SetTO X.prog X.w D []))) ∧ ∀ j m H, W j m H → (J.stop j H ∧ tNil σ H fun vs H1 => rSortedT X.K X.prog X.w (.ref D :: vs) H1 Q) ∨ (J.go j H ∧ ∃ Nx : Hp → Prop, (∀ H', Nx H' → ∃ m', m' < m ∧ W (j + 1) m' H') ∧ ∀ x H', J.yld j H x H' → gName i x (wipe σ [i]) H' fun σ2 H2 => wipe σ2 [i] = wipe σ [i] ∧ tYes σ2 H2 fun b H3 =>
        if b = true then tVar i σ2 H3 fun y H4 => ∃ (c : Addr) (k : List Int) (L : List (Addr × List Int)), y = .ref c ∧ H4 D = some (SetTO X.prog X.w D L) ∧ (∀ p ∈ L, SqT X.K H4 p.1 (p.2.map V.int)) ∧ SqT X.K H4 c (k.map V.int) ∧ L.length + 1 < 64 ∧
          ∀ L' : List (Addr × List Int), (k ∈ L.map (·.2) → L' = L) → (k ∉ L.map (·.2) → L'.Perm ((c, k) :: L)) → Nx (upd H4 D (SetTO X.prog X.w D L')) else Nx H3) := fun {xs J} rl fx D hD => by
      obtain ⟨kl, rfl, ek, hk⟩ := tups_back rl
      have hkl : kl.length = ks.length := by rw [← ek, List.length_map]
      refine scT_fix (Qd := fun H => tNil σ H fun vs H1 => rSortedT X.K X.prog X.w (.ref D :: vs) H1 Q) (fx D kl hD rfl) hD (fun p hp => (hk p hp).1) (by omega) hi' fun L h1 h2 => ?_
      have mem : ∀ p ∈ kl, p.2 ∈ ks := fun p hp => by rw [← ek]; exact List.mem_map.mpr ⟨p, hp, rfl⟩
      refine ⟨D, L, n, B, rfl, upd_same, fun p hp => sqT_upd hD (hk p (h1 p hp)).1, hn, fun p hp => hB _ (mem p (h1 p hp)), fun L' t pm nd fw pw ht => ?_⟩
      have b1 : Bh X.K w1 (w1.at (upd w1.H D (SetTO X.prog X.w D L))) := Bh.new b.ok hD
      have hsub : ∀ p ∈ L', p ∈ kl := fun p hp => h1 p (pm.mem_iff.mp hp)
      have q1 := q (L'.map (·.2)) (fun kk => by
        constructor
        · intro z
          obtain ⟨p, hp, rfl⟩ := List.mem_map.mp z
          exact mem p (hsub p hp)
        · intro z
          rw [← ek] at z
          obtain ⟨p, hp, rfl⟩ := List.mem_map.mp z
          have := h2 p hp
          rw [(pm.map (·.2)).mem_iff]
          exact this) nd (List.pairwise_map.mpr pw)
      have rr : RpL X.K (w1.at (upd w1.H D (SetTO X.prog X.w D L))) ((L'.map (·.2)).map tupI) (L'.map fun p => V.ref p.1) := tups_rp fun p hp => (hk p (hsub p hp)).2.mono b1.kp
      have b2 : Bh X.K (w1.at (upd w1.H D (SetTO X.prog X.w D L))) ((w1.at (upd w1.H D (SetTO X.prog X.w D L))).at (upd (upd w1.H D (SetTO X.prog X.w D L)) t (.lst (L'.map fun p => V.ref p.1)))) := Bh.new b1.ok ht
      exact k _ ((w1.at (upd w1.H D (SetTO X.prog X.w D L))).at (upd (upd w1.H D (SetTO X.prog X.w D L)) t (.lst (L'.map fun p => V.ref p.1)))) _ q1 ((b.trans b1).trans b2) (rp_lst b1.ok ht rr)
    cases d with
    | lst t ds =>
      cases es
      obtain ⟨a2, xs, rfl, l, s1⟩ := r
      exact .inl ⟨a2, rfl, ⟨xs, l.sq⟩, key s1 fun D kl hD e => fixed_l hD (by rw [← e]; exact l.sq)⟩
    | tup ds =>
      cases es
      obtain ⟨a2, xs, rfl, l, s1⟩ := r
      exact .inr (.inl ⟨a2, rfl, ⟨xs, l.sq⟩, key s1 fun D kl hD e => fixed_t hD (by rw [← e]; exact l.sq)⟩)
    | _ => cases es
end
end DL
/-! The data layer: f(e, .., k = v, ..), f a def of the text, with defaults of keyword-only parameters (used or not). -/
namespace DL
open PySem L2
section
variable {K : PySem.W.Frag} {x qual : Str} {params : Arguments} {body : List Stmt} {scope : Scope} {dvs : List V} {kws : List (Str × V)} {f : Addr} {fd : FuncData} {ps ks : List Str} {j : Nat}
/-- defaults of keyword-only parameters alone; ms: those that are used -/
theorem kbQ (F : FunD K x qual params body scope [] kws f fd) (ms : List (Str × V)) (kD : List D) (g : {α : Type} → List α → List α → List α → List α) (hk : kws ≠ []) (hms : ∀ q ∈ ms, q ∈ kws)
    (hrel : ∀ {vs mz zs : List V} {us mv ws : List Value}, Vals vs us → Vals mz mv → Vals zs ws → Vals (g vs mz zs) (g us mv ws))
    (hrp : ∀ {w : Wd} {ds mz zs : List D} {vs vm vz : List V}, RpL K w ds vs → RpL K w mz vm → RpL K w zs vz → RpL K w (g ds mz zs) (g vs vm vz))
    (rk : ∀ w, RpL K w kD (ms.map (·.2)))
    (h : ∀ (D : Addr) (doc pm : Value) (an : Option Addr) (cdv ct : Value) (us mv ws : List Value), us.length = j → mv.length = ms.length → ws.length = ks.length →
      KwChain D ((ms.map (·.1)).zip mv) (bindArgs (PySem.W.fnOf x qual params body scope .none (.ref D) doc pm an cdv ct) ⟨us, ks.zip ws⟩) (ps.zip (g us mv ws))) :
    KB K fd ps j ks (fun ds es => g ds kD es) := by
  obtain ⟨mv, hB⟩ := F.kbinds0 (ps := ps) j ks ms g hk hms hrel h
  exact ⟨_, _, hB, fun w ds es vs zs _ _ r1 r2 => hrp r1 (rk w) r2⟩
end
/-- a def of the text that keeps its promise, called with j positional values and the keywords ks -/
structure FndK (P : Program) (w : World) (K : PySem.W.Frag) (mg : Str → Option Value) (base : Heap) (cl : Str → Addr) (tb : List (Addr × Str)) (k : Nat) (x : Str) (j : Nat) (ks ps : List Str) (gD : List D → List D → List D) (s : DSp) : Prop where
  ex : ∃ f fd, FnOk P w K mg base (L2N.CX P w) k f fd ps (upX K cl tb s) ∧ KB K fd ps j ks gD ∧ mg x = some (.ref f) ∧ PySem.W.keepIn K (.ref f) = true
section
variable {X : Cx} {c : Wd} {e : Expr} {es : List Expr} {tl tk : DA} {pos p : Pos} {n : Str} {cl : Str → Addr} {tb' : List (Addr × Str)} {k : Nat} {ps : List Str} {s : DSp} {E : DXK}
theorem pd_callG {kws : List Keyword} {ks : List Str} {j : Nat} {gD : List D → List D → List D} (hcc : Cc cl tb' c) (G : FndK X.prog X.w X.K X.mg X.base cl tb' k n j ks ps gD s) (hr : Room k X.A) (htk : Tk c X E) (ha : PDA c X (e :: es) tl) (hkw : PDK c X kws tk) (hg : Gl X n := by rfl)
    (hall : (backToKw pos (keywordEach kws X.env)).all (·.1.isSome) = true := by rfl) (hks : (backToKw pos (keywordEach kws X.env)).filterMap (·.1) = ks := by rfl) (hdb : (n == ("__debug__" : Str)) = false := by decide)
    (hst : starEach (e :: es) X.env = (false, eval e X.env) :: starEach es X.env := by rfl) (hpl : ((backTo pos (starEach (e :: es) X.env)).any (·.1) || (backToKw pos (keywordEach kws X.env)).any (·.1.isNone)) = false := by rfl) :
    PD c X (.Call (.Name n p) (e :: es) kws pos) (dStat s E j ks.length gD tl tk) := by
  obtain ⟨f, fd, F, ⟨g, gV, hb, hgl⟩, hm, hkp⟩ := G.ex
  refine ⟨fun pins sh σ H Q I h => ?_⟩
  have h2 : liftA X.K c tl σ H (fun vs H1 => liftA X.K c tk σ H1 fun zs H2 => vs.length = j ∧ zs.length = ks.length ∧ upX X.K cl tb' s (gV vs zs) H2 Q (XKof X.K c E)) := stat_imp hcc hgl h
  refine wpAny_Call_Name_kw (ld_glob I hg hm ?_ hdb)
  refine PySem.W.callWith_KW (first := []) (h₀ := X.base) I.ok.mod.kin hkp hall (thn (ha.run pos pins sh σ H _ I h2) fun us s1 ⟨vs, H1, I1, r, q⟩ => ?_) hpl hst
  refine thn (hkw.run pos pins s1 σ H1 _ I1 q) fun ws s3 ⟨zs, H2, I3, rz, l1, l2, q2⟩ => ⟨I3.kIn, ?_⟩
  rw [hks]
  exact run_fnN F hr hb htk.pass I3 r rz l1 l2 q2
end
end DL
/-! The data layer: sorted(set(xs)), xs a list of tuples of whole numbers. -/
namespace DL
open PySem L2 PpSet
/-- sorted(set(xs)), xs tuples of n whole numbers in [0, B) -/
@[simp] def dSortSet (te : DE) : DE := fun ρ M Q => te ρ M fun d M1 => ∃ (t : Nat) (ks : List (List Int)) (n : Nat) (B : Int), d = .lst t (ks.map tupI) ∧ ks.length < 64 ∧ 1 ≤ n ∧ (∀ k ∈ ks, k.length = n ∧ TS.Bd B k) ∧
  ∀ ls : List (List Int), (∀ k, k ∈ ls ↔ k ∈ ks) → ls.Nodup → ls.Pairwise (fun a b => TS.code B a ≤ TS.code B b) → Q (.lst 0 (ls.map tupI)) M1
section
variable {X : Cx} {c : Wd} {te : DE} {e : Expr} {p p2 pos1 pos2 : Pos}
theorem pd_sortSet (hu : X.A.units + 64 < cLine) (hc : X.calm = true) (he : PD c X e te) (hm : X.mg "sorted" = none) (hm2 : X.mg "set" = none) (hg : Gl X "sorted" := by rfl) (hg2 : Gl X "set" := by rfl)
    (hs2 : starEach [e] X.env = (false, eval e X.env) :: starEach [] X.env := by rfl)
    (hst : starEach [.Call (.Name "set" p2) [e] [] pos1] X.env = (false, eval (.Call (.Name "set" p2) [e] [] pos1) X.env) :: starEach [] X.env := by rfl) :
    PD c X (.Call (.Name "sorted" p) [.Call (.Name "set" p2) [e] [] pos1] [] pos2) (dSortSet te) :=
  PE_imp (pe_callB (cr_sortedT hc) hg hm (by decide +kernel) (pa_cons (pe_callTy (cr_setOfT hc hu) hg2 hm2 (by decide +kernel) (pa_cons he pa_nil hs2) (by decide) (by decide) hs2 (by rfl)) pa_nil hst) (by decide) (by decide) hst (by rfl)) fun σ H Q ⟨ρ, w, Q', hH, a, h, k⟩ => by
    refine ⟨ρ, w, _, hH, a, h, fun d w1 v q b r => ?_⟩
    obtain ⟨t, ks, n, B, rfl, hl, hn, hB, q⟩ := q
    obtain ⟨a2, xs, rfl, l, s1⟩ := r
    obtain ⟨kl, rfl, ek, hk⟩ := tups_back s1
    have hkl : kl.length = ks.length := by rw [← ek, List.length_map]
    have mem : ∀ p ∈ kl, p.2 ∈ ks := fun p hp => by rw [← ek]; exact List.mem_map.mpr ⟨p, hp, rfl⟩
    refine ⟨a2, kl, rfl, l.sq, fun p hp => (hk p hp).1, by omega, fun D L hD h1 h2 => ?_⟩
    refine ⟨D, L, n, B, rfl, upd_same, fun p hp => sqT_upd hD (hk p (h1 p hp)).1, hn, fun p hp => hB _ (mem p (h1 p hp)), fun L' t pm nd fw pw ht => ?_⟩
    have b1 : Bh X.K w1 (w1.at (upd w1.H D (SetTO X.prog X.w D L))) := Bh.new b.ok hD
    have hsub : ∀ p ∈ L', p ∈ kl := fun p hp => h1 p (pm.mem_iff.mp hp)
    have q1 := q (L'.map (·.2)) (fun kk => by
      constructor
      · intro z
        obtain ⟨p, hp, rfl⟩ := List.mem_map.mp z
        exact mem p (hsub p hp)
      · intro z
        rw [← ek] at z
        obtain ⟨p, hp, rfl⟩ := List.mem_map.mp z
        have := h2 p hp
        rw [(pm.map (·.2)).mem_iff]
        exact this) nd (List.pairwise_map.mpr pw)
    have rr : RpL X.K (w1.at (upd w1.H D (SetTO X.prog X.w D L))) ((L'.map (·.2)).map tupI) (L'.map fun p => V.ref p.1) := tups_rp fun p hp => (hk p (hsub p hp)).2.mono b1.kp
    have b2 : Bh X.K (w1.at (upd w1.H D (SetTO X.prog X.w D L))) ((w1.at (upd w1.H D (SetTO X.prog X.w D L))).at (upd (upd w1.H D (SetTO X.prog X.w D L)) t (.lst (L'.map fun p => V.ref p.1)))) := Bh.new b1.ok ht
    exact k _ ((w1.at (upd w1.H D (SetTO X.prog X.w D L))).at (upd (upd w1.H D (SetTO X.prog X.w D L)) t (.lst (L'.map fun p => V.ref p.1)))) _ q1 ((b.trans b1).trans b2) (rp_lst b1.ok ht rr)
end
end DL
/-! The data layer: zip of a list with a tuple of the module. -/
namespace DL
open PySem L2
theorem isIt_zc {K : PySem.W.Frag} {w : Wd} {ds es : List D} {t : Nat} {a b : Addr} {xs ys : List V} (h : LsAt w t a xs) (h2 : ∀ H', SqT K H' b ys) (r : RpL K w ds xs) (r2 : RpL K w es ys) : IsIt K w (zipD ds es) (ItzM K a b) := fun w' k ok => by
  have ha := k.lst h
  have r' := r.mono k
  have r2' := r2.mono k
  have hl := r'.length
  have hl2 := r2'.length
  refine ⟨fun i d e => ?_, ⟨xs, ys, ha.sq, h2 _, by unfold zipD; rw [List.length_map, List.length_zip]; omega, by unfold zipD; rw [List.length_map, List.length_zip]; omega, by unfold zipD; rw [List.length_map, List.length_zip]; omega⟩⟩
  obtain ⟨x, y, e1, e2, rfl⟩ := zip_at e
  obtain ⟨v, f1, q1⟩ := r'.at e1
  obtain ⟨u, f2, q2⟩ := r2'.at e2
  refine ⟨⟨xs, ys, v, u, ha.sq, h2 _, f1, f2⟩, fun z H'' yl => ?_⟩
  obtain ⟨T, v', u', rfl, hT, rfl, y1, y2⟩ := yl
  have z1 := y1 xs ha.sq
  have z2 := y2 ys (h2 _)
  rw [f1] at z1; rw [f2] at z2
  cases z1; cases z2
  exact ⟨Bh.new ok hT, rp_tup ok hT ⟨v, [u], rfl, q1, u, [], rfl, q2, rfl⟩⟩
section
variable {X : Cx} {c : Wd} {e : Expr} {tl : DA} {p pos : Pos}
@[simp] def dZipC (ta : DA) : DI := fun ρ M Q => ta ρ M fun ds M1 => match ds with
  | [.lst _ xs, .cst ys] => Q (zipD xs ys) M1
  | _ => False
theorem pdi_zipC {e2 : Expr} {elts : List Expr} {kk : Nat} {tpos : Pos} (hm : X.mg "zip" = none) (ha : PDA c X [e, e2] tl) (hg : Gl X "zip" := by rfl) (hs : starEach [e, e2] X.env = (false, eval e X.env) :: starEach [e2] X.env := by rfl) (hpl : (backTo pos (starEach [e2] X.env)).any (·.1) = false := by rfl) :
    PDI c X (.Tuple elts kk tpos) (.Call (.Name "zip" p) [e, e2] [] pos) (dZipC tl) :=
  PI_imp (pi_zipM hg hm ha hs hpl) fun σ H R ⟨ρ, w, Q', hH, a, h, k⟩ => ⟨ρ, w, _, hH, a, h, fun ds w1 vs q b r => by
    match ds, r, q with
    | [d, d2], r, q =>
      obtain ⟨v, u, rfl, r1, r2⟩ := two_of r
      cases d with
      | lst t xs => cases d2 with
        | cst ys =>
          obtain ⟨pa, as, rfl, l1, s1⟩ := r1
          obtain ⟨pb, bs, rfl, l2, s2⟩ := r2
          exact ⟨pa, pb, as, bs, rfl, l1.sq, l2 _, k _ w1 _ q b (isIt_zc l1 l2 s1 s2)⟩
        | _ => exact q.elim
      | _ => cases d2 <;> exact q.elim
    | [], r, q => exact False.elim q
    | [d], r, q => cases d <;> exact False.elim q
    | d :: d2 :: _ :: _, r, q => cases d <;> cases d2 <;> exact False.elim q⟩
end
end DL
/-! The data layer: a tuple turned round (t[::-1]). -/
namespace HT
open PySem PySem.Spec PyProof.Rows
section
variable {prog : Program} {w : World} {A : Around} {E : Value → Shared → Prop} {s : Shared}
end
end HT
namespace DL
open PySem L2 PySem.Spec PyProof.Rows
section
variable {X : Cx} {c : Wd} {e : Expr} {te : DE} {pos : Pos}
end
end DL
/-! The data layer: o == z by an own __eq__, z a number, a text, None, a list or a tuple. -/
namespace DL
open PySem L2
section
variable {X : Cx} {c : Wd} {a b : Expr} {ta tb : DE} {pos : Pos} {n : Str} {cl : Str → Addr} {tb' : List (Addr × Str)} {k : Nat} {ps : List Str} {s : DSp} {E : DXK}
end
end DL
/-! The data layer: a star before an owned list; isinstance, zip of a tuple of the module. -/
namespace DL
open PySem L2
section
variable {X : Cx} {c : Wd} {e : Expr} {es : List Expr} {te : DE} {tl : DA} {p pos : Pos}
end
end DL
/-! Shared by the laws: constants. Printed by a program of mine. -/
namespace HS
open PySem L2 DL
end HS
/-! What each shared def promises, over data. -/
namespace HS
open PySem L2 DL
abbrev ty (d : D) : Prop := (tyN d).isSome = true
def isNum : D → Int → Int → Bool
  | .int i, lo, hi => decide (lo ≤ i) && decide (i ≤ hi)
  | _, _, _ => false
/-- items of which isinstance may be asked -/
def tys (xs : List D) : Prop := xs.length ≤ 50000 ∧ ∀ x ∈ xs, ty x
def ty1 (d : D) : Prop := ty d ∧ ∀ xs, d = .tup xs → tys xs
def sp_is_number : DSp := fun ds M Q _ => ∃ v lo hi, ds = [v, .int lo, .int hi] ∧ ty v ∧ Q (.bl (isNum v lo hi)) M
def sp__law_draw : DSp := spDraw
def sp0__law_draw : DSp := spDraw0
def sp__law_same : DSp := spSame 6
abbrev fld (fs : List (Str × D)) (x : Str) : Option D := fs.lookup x
/-- the attributes of an error beside its code -/
def attrs (fs : List (Str × D)) (code : Str) : Option (List D) :=
  if code = "InvalidChart" then (match fld fs "row", fld fs "column" with | some a, some b => some [a, b] | _, _ => none)
  else if code = "InvalidText" then (match fld fs "line", fld fs "why" with | some a, some b => some [a, b] | _, _ => none)
  else if code ∈ (["InvalidWind", "InvalidRegion", "InvalidPath", "InvalidSquall"] : List Str) then (match fld fs "at" with | some a => some [a] | _ => none)
  else if code = "TooMany" then (match fld fs "most" with | some a => some [a] | _ => none)
  else if code ∈ (["InvalidHeights", "OtherChart", "Ended"] : List Str) then some []
  else (match fld fs "value" with | some a => some [a] | _ => none)
def sp__law_field (xn : List Str) : DSp := fun ds M Q _ => ∃ n fs code l, ds = [.exc n fs] ∧ n ∈ xn ∧ fld fs "code" = some (.str code) ∧ PyData.strOk code = true ∧ attrs fs code = some l ∧ Q (.tup l) M
/-- what a call told, or the error it raised -/
def errT (n : Str) (fs : List (Str × D)) (d : D) : Prop := ∃ code l, fld fs "code" = some (.str code) ∧ PyData.strOk code = true ∧ attrs fs code = some l ∧ noXL l = true ∧ l.length ≤ 5 ∧ d = .tup (.str "no" :: .str code :: l)
def TT__law_try (xn : List Str) : DAct → Mu → DK → Prop := fun tl M Q => ∀ (E0 : DXK) (Q0 : DK), (∀ n fs M' d, n ∈ xn → errT n fs d → Q d M' → E0 n fs M') → (∀ d M', Q (.tup [.str "told", d]) M' → Q0 d M') → tl E0 M Q0
def toll (d : D) : Prop := d = .non ∨ ∃ i : Int, d = .int i ∧ 0 ≤ i ∧ i ≤ 99
def gust (ts : List D) : Prop := ts.length = 5 ∧ ∀ t ∈ ts, toll t
end HS
/-! Shared by the laws: readings. Printed by a program of mine. -/
namespace HS
open PySem L2 DL
def t_is_number : DS := (dRet (dAndV (dCB isiD (dCons (dVar 0) (dCons (dC (.ty "int")) dNil))) (dAndV (dNotV (dCB isiD (dCons (dVar 0) (dCons (dC (.ty "bool")) dNil)))) (dChain leD leD (dVar 1) (dVar 0) (dVar 2)))))
def t__law_draw : DS := (dSeq (dIfS (dB (dOp ltD (dOp ixD (dVar 0) (dC (.int 2))) (dC (.int 2)))) (dSeq (dAsg (dOp addD (dOp ixD (dVar 0) (dC (.int 1))) (dC (.int 1))) (gIx (dVar 0) (dC (.int 1)))) (dSeq (dAsg (dOp addD (dOp ixD (dVar 0) (dC (.int 3))) (dOp mulD (dOp ixD (dVar 0) (dC (.int 1))) (dC (.int 9241)))) (gNm 2)) (dSeq (dIfS (dB (dOp leD (dOp ixD (dVar 0) (dC (.int 1))) (dCB lenD (dCons (dOp ixD (dVar 0) (dC (.int 0))) dNil)))) (dAsg (dOp ixD (dOp ixD (dVar 0) (dC (.int 0))) (dOp subD (dOp ixD (dVar 0) (dC (.int 1))) (dC (.int 1)))) (gNm 2)) dNext) (dSeq (dIfS (dOr (dB (dOp gtD (dOp ixD (dVar 0) (dC (.int 1))) (dCB lenD (dCons (dOp ixD (dVar 0) (dC (.int 0))) dNil)))) (dB (dOp ltD (dVar 2) (dOp powD (dC (.int 10)) (dC (.int 18)))))) (dSeq (dAsg (dOp modD (dCB intD (dCons (dOp addD (dOp addD (dOp mulD (dVar 2) (dC (.int 43051))) (dOp mulD (dOp ixD (dVar 0) (dC (.int 1))) (dC (.int 39119)))) (dOp ixD (dVar 0) (dC (.int 3)))) dNil)) (dC (.int 2147483587))) (gNm 3)) (dSeq (dAsg (dOp modD (dCB intD (dCons (dOp addD (dOp mulD (dVar 3) (dVar 3)) (dOp mulD (dOp ixD (dVar 0) (dC (.int 1))) (dC (.int 60607)))) dNil)) (dC (.int 998244353))) (gNm 4)) (dRet (dOp modD (dOp fdivD (dOp modD (dCB intD (dCons (dOp addD (dOp mulD (dVar 4) (dC (.int 46819))) (dVar 3)) dNil)) (dC (.int 2147483549))) (dC (.int 23))) (dVar 1))))) dNext) (dAsg (dVar 2) (gIx (dVar 0) (dC (.int 2)))))))) dNext) (dSeq (dAsg (dOp modD (dCB intD (dCons (dOp ixD (dVar 0) (dC (.int 2))) dNil)) (dVar 1)) (gNm 5)) (dSeq (dAsg (dOp fdivD (dCB intD (dCons (dOp ixD (dVar 0) (dC (.int 2))) dNil)) (dVar 1)) (gIx (dVar 0) (dC (.int 2)))) (dRet (dVar 5)))))
def t__law_same (sp__law_same : DSp) : DS := (dSeq (dIfS (dOr (dB (dOp isND (dVar 1) (dC .non))) (dB (dOp isND (dVar 0) (dC .non)))) (dRet (dAndV (dOp isND (dVar 1) (dC .non)) (dOp isND (dVar 0) (dC .non)))) dNext) (dSeq (dIfS (dOr (dB (dCB isiD (dCons (dVar 1) (dCons (dTup (dCons (dC (.ty "list")) (dCons (dC (.ty "tuple")) dNil))) dNil)))) (dB (dCB isiD (dCons (dVar 0) (dCons (dTup (dCons (dC (.ty "list")) (dCons (dC (.ty "tuple")) dNil))) dNil))))) (dSeq (dIfS (dOr (dB (dOp neD (dCB isiD (dCons (dVar 1) (dCons (dC (.ty "list")) dNil))) (dCB isiD (dCons (dVar 0) (dCons (dC (.ty "list")) dNil))))) (dB (dOp neD (dCB isiD (dCons (dVar 1) (dCons (dC (.ty "tuple")) dNil))) (dCB isiD (dCons (dVar 0) (dCons (dC (.ty "tuple")) dNil)))))) (dRet (dC (.bl false))) dNext) (dRet (dAndV (dOp eqD (dCB lenD (dCons (dVar 0) dNil)) (dCB lenD (dCons (dVar 1) dNil))) (dCB allD (dCons (dLc (dZip (dCons (dVar 0) (dCons (dVar 1) dNil))) (gTp (gsCons (gNm 2) (gsCons (gNm 3) gsNil)) 2) dYes (dCall sp__law_same DX0 (dCons (dVar 2) (dCons (dVar 3) dNil))) [2, 3]) dNil))))) dNext) (dSeq (dIfS (dOr (dB (dOp neD (dCB isiD (dCons (dVar 1) (dCons (dC (.ty "bool")) dNil))) (dCB isiD (dCons (dVar 0) (dCons (dC (.ty "bool")) dNil))))) (dB (dOp neD (dCB isiD (dCons (dVar 1) (dCons (dC (.ty "str")) dNil))) (dCB isiD (dCons (dVar 0) (dCons (dC (.ty "str")) dNil)))))) (dRet (dC (.bl false))) dNext) (dRet (dAndV (dOp eqD (dCB isiD (dCons (dVar 1) (dCons (dC (.ty "int")) dNil))) (dCB isiD (dCons (dVar 0) (dCons (dC (.ty "int")) dNil)))) (dOp eqD (dVar 0) (dVar 1)))))))
def t__law_field (xn : List Str) : DS := (dSeq (dIfS (dB (dOp eqD (dXf xn "code" (dVar 0)) (dC (.str "InvalidChart")))) (dRet (dTup (dCons (dXf xn "row" (dVar 0)) (dCons (dXf xn "column" (dVar 0)) dNil)))) dNext) (dSeq (dIfS (dB (dOp eqD (dXf xn "code" (dVar 0)) (dC (.str "InvalidText")))) (dRet (dTup (dCons (dXf xn "line" (dVar 0)) (dCons (dXf xn "why" (dVar 0)) dNil)))) dNext) (dSeq (dIfS (dB (dOp inD (dXf xn "code" (dVar 0)) (dTup (dCons (dC (.str "InvalidWind")) (dCons (dC (.str "InvalidRegion")) (dCons (dC (.str "InvalidPath")) (dCons (dC (.str "InvalidSquall")) dNil))))))) (dRet (dTup (dCons (dXf xn "at" (dVar 0)) dNil))) dNext) (dSeq (dIfS (dB (dOp eqD (dXf xn "code" (dVar 0)) (dC (.str "TooMany")))) (dRet (dTup (dCons (dXf xn "most" (dVar 0)) dNil))) dNext) (dRet (dIf (dB (dOp inD (dXf xn "code" (dVar 0)) (dTup (dCons (dC (.str "InvalidHeights")) (dCons (dC (.str "OtherChart")) (dCons (dC (.str "Ended")) dNil)))))) (dTup dNil) (dTup (dCons (dXf xn "value" (dVar 0)) dNil))))))))
def t__law_try (xn : List Str) (f : Addr) (tl : DAct) : DS := (dTry2 xn 1 2 (fun E' => (dRet (dTup (dCons (dC (.str "told")) (dCons (dAct f tl E') dNil))))) (dRet (dOp addD (dTup (dCons (dC (.str "no")) (dCons (dXf xn "code" (dVar 1)) dNil))) (dCall (sp__law_field xn) DX0 (dCons (dVar 1) dNil)))))
end HS
/-! The shared defs keep their promises, over data. -/
namespace HS
open PySem L2 DL
theorem pure_is_number : ∀ ds M Q E, sp_is_number ds M Q E → ds.length = (["value", "least", "most"] : List Str).length ∧ t_is_number { nx := fun _ M' => Q .non M', rt := Q } (startD ["value", "least", "most"] ds) M := by
  rintro ds M Q E ⟨v, lo, hi, rfl, hty, q⟩
  refine ⟨rfl, ?_⟩
  cases v <;> first | (cases (show false = true from hty); done) | skip
  all_goals simp [t_is_number, inst, tyN, isA, tyNames]
  all_goals simp [isNum] at q
  all_goals first | exact q | skip
  case int i =>
    split
    · rename_i h; simpa [h] using q
    · rename_i h; simpa [h] using q
theorem cut_all {α : Type} {xs : List α} {n : Nat} (h : xs.length ≤ n) : cut xs none (some (n : Int)) = xs := by
  unfold cut
  rw [HT.sIx_nat, HT.sIx_none, List.drop_zero, Nat.min_eq_right h, Nat.sub_zero, List.take_length]
theorem at0 {α : Type} {a b c d : α} : atI [a, b, c, d] 0 = some a := rfl
theorem at1 {α : Type} {a b c d : α} : atI [a, b, c, d] 1 = some b := rfl
theorem at2 {α : Type} {a b c d : α} : atI [a, b, c, d] 2 = some c := rfl
theorem at3 {α : Type} {a b c d : α} : atI [a, b, c, d] 3 = some d := rfl
theorem ix1 {α : Type} {a b c d : α} : ixN [a, b, c, d].length 1 = some 1 := rfl
theorem ix2 {α : Type} {a b c d : α} : ixN [a, b, c, d].length 2 = some 2 := rfl
theorem pure__law_draw : ∀ ds M Q E, sp0__law_draw ds M Q E → ds.length = (["_law_bag_here", "_law_many"] : List Str).length ∧ t__law_draw { nx := fun _ M' => Q .non M', rt := Q } (startD ["_law_bag_here", "_law_many", "_law_cell_z", "_law_mixed", "_law_second", "_law_digit"] ds) M := by
  rintro ds M Q E ⟨b, many, cs, i, r, m, rfl, hM, hi, ⟨h1, h2⟩, q⟩
  refine ⟨rfl, ?_⟩
  unfold t__law_draw
  have fin : ∀ (i' : Int) (z : Int) (o : Option D) (M1 : Mu), M1 = setM M b (.lst [.lst 0 (cs.map D.int), .int i', .int z, .int m]) → 0 ≤ i' →
      dSeq (dAsg (dOp modD (dCB intD (dCons (dOp ixD (dVar 0) (dC (.int 2))) dNil)) (dVar 1)) (gNm 5))
        (dSeq (dAsg (dOp fdivD (dCB intD (dCons (dOp ixD (dVar 0) (dC (.int 2))) dNil)) (dVar 1)) (gIx (dVar 0) (dC (.int 2)))) (dRet (dVar 5)))
        { nx := fun _ M' => Q .non M', rt := Q } [some (.ref b), some (.int many), o, none, none, none] M1 := by
    intro i' z o M1 e hi'
    have hM1 : M1 b = some (.lst [.lst 0 (cs.map D.int), .int i', .int z, .int m]) := by rw [e]; exact setM_same
    refine s_set (v := .int (z % many)) (fun K hK => by simp [hM1, at2]; exact ⟨h1, hK⟩) ?_
    refine s_ix rfl hM1 rfl (v := .int (z / many)) (fun K hK => by simp [hM1, at2]; exact ⟨⟨h1, h2⟩, hK⟩) ?_
    refine x_ret (v := .int (z % many)) (fun K hK => by simpa using hK) ?_
    show Q _ _
    rw [e, setM_set]
    exact q _ _ _ (Int.emod_nonneg _ (by omega)) (Int.emod_lt_of_pos _ h1) hi'
  refine s_if (b := decide (r < 2)) (fun K hK => ?_) (fun hr => ?_) (fun hr => ?_)
  · simp [hM, at2]; exact hK
  · refine s_ix rfl hM rfl (v := .int (i + 1)) (fun K hK => by simp [hM, at1]; exact hK) ?_
    show dSeq _ _ _ _ (setM M b (.lst [.lst 0 (cs.map D.int), .int (i + 1), .int r, .int m]))
    generalize hM1 : setM M b (.lst [.lst 0 (cs.map D.int), .int (i + 1), .int r, .int m]) = M1
    have e1 : M1 b = some (.lst [.lst 0 (cs.map D.int), .int (i + 1), .int r, .int m]) := by rw [← hM1]; exact setM_same
    refine s_set (v := .int (m + (i + 1) * 9241)) (fun K hK => by simp [e1, at1, at3]; exact ⟨.inr ⟨by decide, by decide⟩, hK⟩) ?_
    -- the cell: one of the script, or a mixed one
    have rest : ∀ (cell : Int), dSeq (dIfS (dOr (dB (dOp gtD (dOp ixD (dVar 0) (dC (.int 1))) (dCB lenD (dCons (dOp ixD (dVar 0) (dC (.int 0))) dNil)))) (dB (dOp ltD (dVar 2) (dOp powD (dC (.int 10)) (dC (.int 18))))))
        (dSeq (dAsg (dOp modD (dCB intD (dCons (dOp addD (dOp addD (dOp mulD (dVar 2) (dC (.int 43051))) (dOp mulD (dOp ixD (dVar 0) (dC (.int 1))) (dC (.int 39119)))) (dOp ixD (dVar 0) (dC (.int 3)))) dNil)) (dC (.int 2147483587))) (gNm 3))
          (dSeq (dAsg (dOp modD (dCB intD (dCons (dOp addD (dOp mulD (dVar 3) (dVar 3)) (dOp mulD (dOp ixD (dVar 0) (dC (.int 1))) (dC (.int 60607)))) dNil)) (dC (.int 998244353))) (gNm 4))
            (dRet (dOp modD (dOp fdivD (dOp modD (dCB intD (dCons (dOp addD (dOp mulD (dVar 4) (dC (.int 46819))) (dVar 3)) dNil)) (dC (.int 2147483549))) (dC (.int 23))) (dVar 1))))) dNext)
        (dAsg (dVar 2) (gIx (dVar 0) (dC (.int 2))))
        { nx := (dSeq (dAsg (dOp modD (dCB intD (dCons (dOp ixD (dVar 0) (dC (.int 2))) dNil)) (dVar 1)) (gNm 5)) (dSeq (dAsg (dOp fdivD (dCB intD (dCons (dOp ixD (dVar 0) (dC (.int 2))) dNil)) (dVar 1)) (gIx (dVar 0) (dC (.int 2)))) (dRet (dVar 5))) { nx := fun _ M' => Q .non M', rt := Q }), rt := Q } [some (.ref b), some (.int many), some (.int cell), none, none, none] M1 := by
      intro cell
      refine s_if (b := decide ((cs.length : Int) < i + 1) || decide (cell < 10 ^ 18)) (fun K hK => ?_) (fun _ => ?_) (fun _ => ?_)
      · simp [e1, at1, at0]
        have hp : CPow 10 18 := ⟨by decide, by decide, by decide⟩
        split
        · rename_i h; simpa [h] using hK
        · rename_i h; exact ⟨hp, by simpa [h] using hK⟩
      · refine s_set (v := .int ((cell * 43051 + (i + 1) * 39119 + m) % 2147483587)) (fun K hK => by simp [e1, at1, at3]; exact ⟨.inr ⟨by decide, by decide⟩, .inr ⟨by decide, by decide⟩, hK⟩) ?_
        generalize hx : (cell * 43051 + (i + 1) * 39119 + m) % 2147483587 = x
        have hx1 : 0 ≤ x ∧ x < 2147483587 := by omega
        refine s_set (v := .int ((x * x + (i + 1) * 60607) % 998244353)) (fun K hK => by simp [e1, at1, at3]; exact ⟨.inl ⟨by omega, by omega⟩, .inr ⟨by decide, by decide⟩, hK⟩) ?_
        generalize hy : (x * x + (i + 1) * 60607) % 998244353 = y
        refine x_ret (v := .int ((y * 46819 + x) % 2147483549 / 23 % many)) (fun K hK => by simp; exact ⟨.inr ⟨by decide, by decide⟩, h1, hK⟩) ?_
        show Q _ _
        rw [← hM1]
        exact q _ (i + 1) r (Int.emod_nonneg _ (by omega)) (Int.emod_lt_of_pos _ h1) (by omega)
      · refine s_next ?_
        refine x_ix rfl e1 rfl (v := .int cell) (fun K hK => by simpa using hK) ?_
        refine fin (i + 1) cell _ _ ?_ (by omega)
        rw [← hM1, setM_set]; rfl
    refine s_if (b := decide (i + 1 ≤ (cs.length : Int))) (fun K hK => by simp [e1, at1, at0]; exact hK) (fun h => ?_) (fun _ => s_next (rest _))
    have h' : i + 1 ≤ (cs.length : Int) := by simpa using h
    have hc : atI (cs.map D.int) i = some (.int (cs[i.toNat]'(by omega))) := by
      unfold atI ixN
      rw [if_pos hi, if_pos (by simp; omega)]
      show (cs.map D.int)[i.toNat]? = _
      rw [List.getElem?_map, List.getElem?_eq_getElem (by omega)]; rfl
    refine x_set (v := .int (cs[i.toNat]'(by omega))) (fun K hK => by simp only [dOp, dVar, dC, ixD, subD, List.set, startD, List.map, List.getElem?_cons_zero, e1, at0, at1]; simp [e1, at0, at1, hc]; exact hK) ?_
    exact rest _
  · refine s_next ?_
    refine fin i r none M ?_ hi
    funext x
    unfold setM
    split
    · rename_i h; rw [h, hM]
    · rfl
theorem pyL_map : ∀ xs : List D, pyL xs = xs.map py
  | [] => rfl
  | x :: xs => by rw [pyL, pyL_map xs]; rfl
theorem pure__law_same (n : Nat) : ∀ ds M Q E, spSame n ds M Q E → ds.length = (["_law_found", "_law_due"] : List Str).length ∧ t__law_same (spPrev n) { nx := fun _ M' => Q .non M', rt := Q } (startD ["_law_found", "_law_due", "_law_one", "_law_two"] ds) M := by
  rintro ds M Q E ⟨x, y, rfl, hx, hy, q⟩
  refine ⟨rfl, ?_⟩
  cases x <;> cases y <;> first
    | (exfalso; cases n <;> exact Bool.noConfusion (show false = true from hx))
    | (exfalso; cases n <;> exact Bool.noConfusion (show false = true from hy))
    | skip
  all_goals simp [t__law_same, inst, tyN, isA, tyNames, tysOf, DL.isNon]
  all_goals first
    | exact q _ (by simp [py])
    | (refine q _ ?_; rw [beq_iff_eq]; exact ⟨fun h => by rw [h], fun h => by simpa [py] using h⟩)
    | skip
  case lst.lst r1 xs r2 ys =>
    cases n with
    | zero => cases (show false = true from hx)
    | succ n =>
      obtain ⟨h1, h2⟩ := gd_lst hx
      obtain ⟨h3, h4⟩ := gd_lst hy
      split
      · rename_i hl
        have hl' : xs.length = ys.length := by omega
        refine compi_rel (P := fun z d => ∀ x y, z = .tup [x, y] → ∃ k : Bool, d = .bl k ∧ (k = true ↔ py x = py y)) _ _ _ (fun z hz Q hQ => ?_) (by simp [zipD]; omega) (fun ds hp => ?_)
        · unfold zipD at hz
          obtain ⟨p, hp, rfl⟩ := List.mem_map.mp hz
          obtain ⟨m1, m2⟩ := List.of_mem_zip hp
          simp [wipeD]
          exact ⟨_, _, rfl, h2 _ m1, h4 _ m2, fun k hk => hQ _ fun x y e => by
            injection e with e; injection e with e1 e2; injection e2 with e2 _
            exact ⟨k, rfl, by rw [hk, e1, e2]⟩⟩
        · obtain ⟨bs, rfl, hb⟩ := same_all hl' hp
          exact ⟨bs, by simp, q _ (by rw [hb]; simp [py, pyL_map])⟩
      · rename_i hl
        refine q _ ?_
        simp [py, pyL_map]
        intro e
        exact hl (by have := congrArg List.length e; simp at this; omega)
  case tup.tup xs ys =>
    cases n with
    | zero => cases (show false = true from hx)
    | succ n =>
      obtain ⟨h1, h2⟩ := gd_tup hx
      obtain ⟨h3, h4⟩ := gd_tup hy
      split
      · rename_i hl
        have hl' : xs.length = ys.length := by omega
        refine compi_rel (P := fun z d => ∀ x y, z = .tup [x, y] → ∃ k : Bool, d = .bl k ∧ (k = true ↔ py x = py y)) _ _ _ (fun z hz Q hQ => ?_) (by simp [zipD]; omega) (fun ds hp => ?_)
        · unfold zipD at hz
          obtain ⟨p, hp, rfl⟩ := List.mem_map.mp hz
          obtain ⟨m1, m2⟩ := List.of_mem_zip hp
          simp [wipeD]
          exact ⟨_, _, rfl, h2 _ m1, h4 _ m2, fun k hk => hQ _ fun x y e => by
            injection e with e; injection e with e1 e2; injection e2 with e2 _
            exact ⟨k, rfl, by rw [hk, e1, e2]⟩⟩
        · obtain ⟨bs, rfl, hb⟩ := same_all hl' hp
          exact ⟨bs, by simp, q _ (by rw [hb]; simp [py, pyL_map])⟩
      · rename_i hl
        refine q _ ?_
        simp [py, pyL_map]
        intro e
        exact hl (by have := congrArg List.length e; simp at this; omega)
theorem pure__law_field (xn : List Str) : ∀ ds M Q, sp__law_field xn ds M Q DX0 → ds.length = (["_law_e"] : List Str).length ∧ t__law_field xn { nx := fun _ M' => Q .non M', rt := Q } (startD ["_law_e"] ds) M := by
  rintro ds M Q ⟨n, fs, code, l, rfl, hn, hc, ok, ha, q⟩
  refine ⟨rfl, ?_⟩
  have hc' : fs.lookup (Str.ofString "code") = some (.str code) := hc
  unfold t__law_field
  have eqc : ∀ (z : Str) (K : Bool → Mu → Prop), K (code == z) M → dB (dOp eqD (dXf xn "code" (dVar 0)) (dC (.str z))) [some (.exc n fs)] M K := by
    intro z K hK
    simp [hn, hc']; exact hK
  have inc : ∀ (zs : List Str) (K : DK), K (.bl (decide (code ∈ zs))) M → inD (.str code) (.tup (zs.map D.str)) M K := by
    intro zs K hK
    refine ⟨⟨rfl, by simp [flatD]⟩, ?_⟩
    have e : inB (.str code) (zs.map D.str) = decide (code ∈ zs) := by
      simp only [inB, List.any_map]
      rw [Bool.eq_iff_iff]
      simp
    rw [e]; exact hK
  have xf : ∀ (f : Str) (d : D) (K : DK), fs.lookup f = some d → K d M → dXf xn f (dVar 0) [some (.exc n fs)] M K := by
    intro f d K hf hK
    simp [hn, hf]; exact hK
  unfold attrs at ha
  refine s_if (b := code == "InvalidChart") (fun K hK => eqc _ K hK) (fun h => ?_) (fun h => s_next ?_)
  · rw [if_pos (by simpa using h)] at ha
    split at ha
    · rename_i a b h1 h2
      cases ha
      have h1' : fs.lookup (Str.ofString "row") = some a := h1
      have h2' : fs.lookup (Str.ofString "column") = some b := h2
      exact x_ret (v := .tup [a, b]) (fun K hK => by simp [hn, h1', h2']; exact hK) q
    · cases ha
  rw [if_neg (by simpa using h)] at ha
  refine s_if (b := code == "InvalidText") (fun K hK => eqc _ K hK) (fun h => ?_) (fun h => s_next ?_)
  · rw [if_pos (by simpa using h)] at ha
    split at ha
    · rename_i a b h1 h2
      cases ha
      have h1' : fs.lookup (Str.ofString "line") = some a := h1
      have h2' : fs.lookup (Str.ofString "why") = some b := h2
      exact x_ret (v := .tup [a, b]) (fun K hK => by simp [hn, h1', h2']; exact hK) q
    · cases ha
  rw [if_neg (by simpa using h)] at ha
  refine s_if (b := decide (code ∈ (["InvalidWind", "InvalidRegion", "InvalidPath", "InvalidSquall"] : List Str))) (fun K hK => xf "code" _ _ hc ⟨by simp, inc ["InvalidWind", "InvalidRegion", "InvalidPath", "InvalidSquall"] _ hK⟩) (fun h => ?_) (fun h => s_next ?_)
  · rw [if_pos (by simpa using h)] at ha
    split at ha
    · rename_i a h1
      cases ha
      refine xf "at" a _ h1 ?_
      exact ⟨by simp, q⟩
    · cases ha
  rw [if_neg (by simpa using h)] at ha
  refine s_if (b := code == "TooMany") (fun K hK => eqc _ K hK) (fun h => ?_) (fun h => s_next ?_)
  · rw [if_pos (by simpa using h)] at ha
    split at ha
    · rename_i a h1
      cases ha
      refine xf "most" a _ h1 ?_
      exact ⟨by simp, q⟩
    · cases ha
  rw [if_neg (by simpa using h)] at ha
  refine xf "code" _ _ hc ⟨by simp, inc ["InvalidHeights", "OtherChart", "Ended"] _ ?_⟩
  show if decide _ = true then _ else _
  split
  · rename_i h
    rw [if_pos (by simpa using h)] at ha
    cases ha
    exact ⟨by simp, q⟩
  · rename_i h
    rw [if_neg (by simpa using h)] at ha
    split at ha
    · rename_i a h1
      cases ha
      refine xf "value" a _ h1 ?_
      exact ⟨by simp, q⟩
    · cases ha
theorem pure__law_try (xn : List Str) : ∀ f tl M Q, TT__law_try xn tl M Q → t__law_try xn f tl { nx := fun _ M' => Q .non M', rt := Q } (startD ["_law_ask", "_law_e"] [.ref f]) M := by
  intro f tl M Q h
  unfold t__law_try
  refine ⟨rfl, h _ _ (fun n fs M' d hn he hq => ⟨hn, ?_⟩) (fun d M' hq => ⟨by simp, hq⟩)⟩
  obtain ⟨code, l, hc, ok, ha, hx, hl, rfl⟩ := he
  have hc' : fs.lookup (Str.ofString "code") = some (.str code) := hc
  simp [hn, hc']
  refine ⟨n, fs, code, l, rfl, hn, hc, ok, ha, ?_⟩
  refine ⟨by simp; omega, rfl, ?_, hq⟩
  simp [noX, noXL, hx]
end HS
/-! Shared by the laws of charts: what each def promises. -/
namespace HS
open PySem L2 DL
def seq : D → Option (List D)
  | .lst _ xs => some xs
  | .tup xs => some xs
  | _ => none
def water (rows : List (List D)) : Bool := rows.any fun r => r.any fun t => !isNon t
structure GdR (rows : List (List D)) : Prop where
  lo : 1 ≤ rows.length
  hi : rows.length ≤ 6
  wd : ∃ k, 1 ≤ k ∧ k ≤ 6 ∧ ∀ r ∈ rows, r.length = k
  tl : ∀ r ∈ rows, ∀ t ∈ r, toll t
  wat : water rows = true
structure Gd (rows winds : List (List D)) (top : Int) : Prop where
  r : GdR rows
  wn : winds.length ≤ 8
  wg : ∀ g ∈ winds, gust g
  t0 : 1 ≤ top
  t1 : top ≤ 99
def rowsD (r : Nat) (rows : List (List D)) : D := .lst r (rows.map (.lst r))
def windsD (r : Nat) (ws : List (List D)) : D := .lst r (ws.map .tup)
def chartF (rows winds : List (List D)) (top : Int) (d : D) : List (Str × D) := [("top", .int top), ("last", .int winds.length), ("held_rows", rowsD 0 rows), ("held_winds", windsD 0 winds), ("drags", d)]
def fit (v : D) : Prop := ty v ∧ ∀ xs, seq v = some xs → tys xs
/-! ### cells, places -/
def rowL (m : Nat) : Nat → List D → List ((Nat × Nat) × D)
  | _, [] => []
  | k, t :: ts => if isNon t then rowL m (k + 1) ts else ((m, k), t) :: rowL m (k + 1) ts
def dragsL : Nat → List (List D) → List ((Nat × Nat) × D)
  | _, [] => []
  | m, r :: rs => rowL m 0 r ++ dragsL (m + 1) rs
def cellsL (rows : List (List D)) : List (Nat × Nat) := (dragsL 0 rows).map (·.1)
def keyC (p : Nat × Nat) : List Key := [.inl p.1, .inl p.2]
/-- what stands at a cell -/
def dragAt (rows : List (List D)) (p : Nat × Nat) : Option D := match rows[p.1]? with
  | some r => (match r[p.2]? with | some t => if isNon t then none else some t | none => none)
  | none => none
def dragI (rows : List (List D)) (i j : Int) : Option D := if 0 ≤ i ∧ 0 ≤ j then dragAt rows (i.toNat, j.toNat) else none
/-- the cell that a value is -/
def cellOf : D → Option (Int × Int)
  | .tup [.int i, .int j] => if 0 ≤ i ∧ i ≤ 5 ∧ 0 ≤ j ∧ j ≤ 5 then some (i, j) else none
  | _ => none
def placeD (h : Nat) (p : Nat × Nat) : D := .tup [.int h, .int p.1, .int p.2]
/-- the place that a value is -/
def placeOf : D → Option (Int × Int × Int)
  | .tup [.int h, .int i, .int j] => if 0 ≤ h ∧ h ≤ 8 ∧ 0 ≤ i ∧ i ≤ 5 ∧ 0 ≤ j ∧ j ≤ 5 then some (h, i, j) else none
  | _ => none
/-! ### promises -/
def isCell (v : D) : Bool := (cellOf v).isSome
def isPlace (v : D) : Bool := (placeOf v).isSome
def sp_is_cell : DSp := fun ds M Q _ => ∃ v, ds = [v] ∧ ty1 v ∧ Q (.bl (isCell v)) M
def sp_is_place : DSp := fun ds M Q _ => ∃ v, ds = [v] ∧ ty1 v ∧ Q (.bl (isPlace v)) M
/-! ### the law's own -/
/-! ### steps -/
def forw : List (Nat × Int × Int) := [(1, -1, 0), (4, 0, -1), (0, 0, 0), (2, 0, 1), (3, 1, 0)]
end HS
/-! Shared by the laws of charts: readings. -/
namespace HS
open PySem L2 DL
/- is_cell(value); slots: 0:value -/
def t_is_cell_1 : DS := (dRet (dAndV (dCall sp_is_number DX0 (dCons (dOp ixE (dVar 0) (dC (.int 0))) (dCons (dC (.int 0)) (dCons (dC (.int 5)) dNil)))) (dCall sp_is_number DX0 (dCons (dOp ixE (dVar 0) (dC (.int 1))) (dCons (dC (.int 0)) (dCons (dC (.int 5)) dNil))))))
def t_is_cell : DS := (dSeq (dIfS (dOr (dNot (dB (dCB isiD (dCons (dVar 0) (dCons (dC (.ty "tuple")) dNil))))) (dB (dOp neD (dCB lenD (dCons (dVar 0) dNil)) (dC (.int 2))))) (dRet (dC (.bl false))) dNext) t_is_cell_1)
/- is_place(value); slots: 0:value -/
def t_is_place_1 : DS := (dRet (dAndV (dCall sp_is_number DX0 (dCons (dOp ixE (dVar 0) (dC (.int 0))) (dCons (dC (.int 0)) (dCons (dC (.int 8)) dNil)))) (dCall sp_is_cell DX0 (dCons (dSl (dVar 0) (dPart (dC (.int 1))) dNoPart) dNil))))
def t_is_place : DS := (dSeq (dIfS (dOr (dNot (dB (dCB isiD (dCons (dVar 0) (dCons (dC (.ty "tuple")) dNil))))) (dB (dOp neD (dCB lenD (dCons (dVar 0) dNil)) (dC (.int 3))))) (dRet (dC (.bl false))) dNext) t_is_place_1)
/- _law_parted(_law_ground, _law_gusts, _law_roof_here); slots: 0:_law_ground 1:_law_gusts 2:_law_roof_here 3:_law_water 4:_law_m 5:_law_k -/
/- _law_world(_law_bag_here, _law_most_z, _law_late); slots: 0:_law_bag_here 1:_law_most_z 2:_law_late 3:_law_tall 4:_law_wide 5:_law_ground 6:_law_k 7:_law_m 8:_law_item 9:_law_items 10:_law_spot -/
/- _law_sized(_law_bag_here); slots: 0:_law_bag_here -/
/- _law_chart(_law_world_here); slots: 0:_law_world_here 1:_law_ground 2:_law_gusts 3:_law_items 4:_law_made -/
/- _law_rooms(_law_world_here); slots: 0:_law_world_here -/
/- _law_spots(_law_world_here); slots: 0:_law_world_here 1:_law_found 2:_law_when 3:_law_room -/
/- _law_net(_law_world_here); slots: 0:_law_world_here 1:_law_net_here 2:_law_spot 3:_law_found 4:_law_gust_here 5:_law_move 6:_law_cost 7:_law_room -/
/- _law_strays(_law_world_here); slots: 0:_law_world_here 1:_law_late 2:_law_room 3:_law_found 4:_law_m 5:_law_k -/
/- _law_backs(_law_net_here); slots: 0:_law_net_here 1:_law_found 2:_law_spot 3:_law_here 4:_law_other 5:_law_loss 6:_law_items -/
/- Chart___init__(self, rows, winds, top); slots: 0:self 1:rows 2:winds 3:top 4:row 5:items 6:column 7:drag -/
/- Chart_check_place(self, place); slots: 0:self 1:place -/
/- Chart_steps_from(self, place); slots: 0:self 1:place 2:hour 3:row 4:column 5:wind 6:found 7:at 8:down 9:right 10:other -/
/- Chart_steps_to(self, place); slots: 0:self 1:place 2:hour 3:row 4:column 5:wind 6:drag 7:found 8:at 9:down 10:right 11:other -/
/- Chart___contains__(self, value); slots: 0:self 1:value -/
end HS
/-! Shared by the laws of charts: promises kept. -/
namespace HS
open PySem L2 DL
theorem seq_len {d : D} {xs : List D} (h : seq d = some xs) : (∃ r, d = .lst r xs) ∨ d = .tup xs := by
  cases d <;> first | (cases h; done) | skip
  · cases h; exact .inl ⟨_, rfl⟩
  · cases h; exact .inr rfl
theorem putT_len (kvs : List (List Key × D)) (k : List Key) (d : D) : (putT kvs k d).length ≤ kvs.length + 1 := by
  unfold putT; split <;> simp
theorem putT_pl {kvs : List (List Key × D)} {k : List Key} {d : D} (h : ∀ p ∈ kvs, toll p.2) (hd : toll d) : ∀ p ∈ putT kvs k d, toll p.2 := by
  intro p hp
  unfold putT at hp
  split at hp
  · obtain ⟨q, hq, rfl⟩ := List.mem_map.mp hp
    split
    · exact hd
    · exact h q hq
  · simp only [List.mem_append, List.mem_singleton] at hp
    rcases hp with hp | rfl
    · exact h p hp
    · exact hd
structure Lay (M M' : Mu) (a b : Addr) (fs : List (Str × D)) (n : Nat) : Prop where
  ia : M' a = some (.ins "Chart" fs)
  ib : ∃ kvs, M' b = some (.dT kvs) ∧ kvs.length ≤ n ∧ ∀ p ∈ kvs, toll p.2
  io : ∀ x, x ≠ a → x ≠ b → M' x = M x
theorem Lay.put {M M' : Mu} {a b : Addr} {fs : List (Str × D)} {n : Nat} {kvs : List (List Key × D)} {k : List Key} {d : D} (h : Lay M M' a b fs n) (hab : a ≠ b) (e : M' b = some (.dT kvs)) (hd : toll d) : Lay M (setM M' b (.dT (putT kvs k d))) a b fs (n + 1) := by
  obtain ⟨kvs', e', hl, hp⟩ := h.ib
  rw [e] at e'; cases e'
  refine ⟨by rw [setM_ne hab]; exact h.ia, ⟨_, setM_same, ?_, putT_pl hp hd⟩, fun x hx hy => by rw [setM_ne hy]; exact h.io x hx hy⟩
  have := putT_len kvs k d
  omega
theorem Lay.mono {M M' : Mu} {a b : Addr} {fs : List (Str × D)} {n m : Nat} (h : Lay M M' a b fs n) (hn : n ≤ m) : Lay M M' a b fs m := by
  obtain ⟨kvs, e, hl, hp⟩ := h.ib
  exact ⟨h.ia, ⟨kvs, e, by omega, hp⟩, h.io⟩
theorem p1 {t : D} : putD "top" t [] = ([("top", t)] : List (Str × D)) := rfl
theorem p2 {t d : D} : putD "last" d [("top", t)] = ([("top", t), ("last", d)] : List (Str × D)) := rfl
theorem p3 {t d e : D} : putD "held_rows" e [("top", t), ("last", d)] = ([("top", t), ("last", d), ("held_rows", e)] : List (Str × D)) := rfl
theorem p4 {t d e f : D} : putD "held_winds" f [("top", t), ("last", d), ("held_rows", e)] = ([("top", t), ("last", d), ("held_rows", e), ("held_winds", f)] : List (Str × D)) := rfl
theorem atI_nat {α : Type} {xs : List α} {i : Nat} (h : i < xs.length) : atI xs (i : Int) = some xs[i] := by
  have e : (i : Int) < xs.length := by omega
  simp [atI, ixN, h]
theorem rng_mem {n : Nat} {d : D} (h : d ∈ rngD 0 n) : ∃ i : Nat, i < n ∧ d = .int i := by
  simp only [rngD, List.mem_map, List.mem_range] at h
  obtain ⟨i, hi, rfl⟩ := h
  exact ⟨i, hi, by simp⟩
structure Own (M M' : Mu) (refs : List Addr) (rows : List (List D)) : Prop where
  ln : refs.length = rows.length
  it : ∀ (i : Nat) (a : Addr) (xs : List D), refs[i]? = some a → rows[i]? = some xs → M' a = some (.lst xs)
  fn : ∀ a ∈ refs, M a = none
  nd : refs.Nodup
  ot : ∀ x, x ∉ refs → M' x = M x
theorem Own.nil {M : Mu} : Own M M [] [] := ⟨rfl, fun i a xs h => by simp at h, by simp, List.nodup_nil, fun _ _ => rfl⟩
theorem Own.snoc {M M' : Mu} {refs : List Addr} {rows : List (List D)} {a : Addr} {xs : List D} (h : Own M M' refs rows) (ha : M' a = none) : Own M (setM M' a (.lst xs)) (refs ++ [a]) (rows ++ [xs]) := by
  have hn : a ∉ refs := fun z => by
    obtain ⟨i, hi⟩ := List.mem_iff_getElem?.mp z
    have hl : i < rows.length := by rw [← h.ln]; exact (List.getElem?_eq_some_iff.mp hi).1
    rw [h.it i a rows[i] hi (List.getElem?_eq_getElem hl)] at ha; cases ha
  refine ⟨by simp [h.ln], fun i b ys e1 e2 => ?_, fun b hb => ?_, ?_, fun x hx => ?_⟩
  · by_cases hi : i < refs.length
    · rw [List.getElem?_append_left hi] at e1
      rw [List.getElem?_append_left (by rw [← h.ln]; exact hi)] at e2
      have hb : b ∈ refs := List.mem_of_getElem? e1
      rw [setM_ne (show b ≠ a from fun z => by subst z; exact hn hb)]
      exact h.it i b ys e1 e2
    · rw [List.getElem?_append_right (by omega)] at e1
      rw [List.getElem?_append_right (by rw [← h.ln]; omega)] at e2
      have h0 : i - refs.length = 0 := by
        have := (List.getElem?_eq_some_iff.mp e1).1
        simp at this; omega
      rw [h0] at e1
      rw [← h.ln, h0] at e2
      simp at e1 e2
      subst e1 e2
      exact setM_same
  · simp at hb
    rcases hb with hb | rfl
    · exact h.fn b hb
    · rw [h.ot b hn] at ha; exact ha
  · rw [List.nodup_append]
    exact ⟨h.nd, by simp, fun x hx y hy => by simp at hy; subst hy; intro z; subst z; exact hn hx⟩
  · simp at hx
    rw [setM_ne hx.2]
    exact h.ot x hx.1
theorem Own.mem {M M' : Mu} {refs : List Addr} {rows : List (List D)} (h : Own M M' refs rows) {a : Addr} (ha : a ∈ refs) : ∃ xs ∈ rows, M' a = some (.lst xs) := by
  obtain ⟨i, hi⟩ := List.mem_iff_getElem?.mp ha
  have hl : i < rows.length := by rw [← h.ln]; exact (List.getElem?_eq_some_iff.mp hi).1
  exact ⟨rows[i], List.getElem_mem hl, h.it i a rows[i] hi (List.getElem?_eq_getElem hl)⟩
theorem Own.map {α : Type} {M M' : Mu} {refs : List Addr} {rows : List (List D)} (h : Own M M' refs rows) (f : Addr → α) (g : List D → α) (e : ∀ a xs, a ∈ refs → xs ∈ rows → M' a = some (.lst xs) → f a = g xs) : refs.map f = rows.map g := by
  refine List.ext_getElem? fun i => ?_
  rw [List.getElem?_map, List.getElem?_map]
  by_cases hi : i < refs.length
  · have hl : i < rows.length := by rw [← h.ln]; exact hi
    rw [List.getElem?_eq_getElem hi, List.getElem?_eq_getElem hl]
    simp only [Option.map_some]
    rw [e refs[i] rows[i] (List.getElem_mem hi) (List.getElem_mem hl) (h.it i _ _ (List.getElem?_eq_getElem hi) (List.getElem?_eq_getElem hl))]
  · rw [List.getElem?_eq_none (by omega), List.getElem?_eq_none (by rw [← h.ln]; omega)]; rfl
theorem Own.set {M M' : Mu} {refs : List Addr} {rows : List (List D)} (h : Own M M' refs rows) {i : Nat} {a : Addr} {ys : List D} (e : refs[i]? = some a) : Own M (setM M' a (.lst ys)) refs (rows.set i ys) := by
  have hi : i < refs.length := (List.getElem?_eq_some_iff.mp e).1
  refine ⟨by simp [h.ln], fun j b xs e1 e2 => ?_, h.fn, h.nd, fun x hx => ?_⟩
  · by_cases hij : i = j
    · subst hij
      rw [e] at e1; cases e1
      rw [List.getElem?_set_self (by rw [← h.ln]; exact hi)] at e2
      cases e2; exact setM_same
    · rw [List.getElem?_set_ne hij] at e2
      have hj := (List.getElem?_eq_some_iff.mp e1)
      have hne : b ≠ a := fun z => by
        subst z
        have e3 := (List.getElem?_eq_some_iff.mp e).2
        exact hij ((List.getElem_inj h.nd).mp (e3.trans hj.2.symm))
      rw [setM_ne hne]
      exact h.it j b xs e1 e2
  · have : x ≠ a := fun z => by subst z; exact hx (List.mem_of_getElem? e)
    rw [setM_ne this]; exact h.ot x hx
theorem Own.ex {M M' : Mu} {refs : List Addr} {rows : List (List D)} (h : Own M M' refs rows) : Ex M M' := fun a m e => by
  have : a ∉ refs := fun z => by rw [h.fn a z] at e; cases e
  rw [h.ot a this]; exact e
theorem map_same {f : D → D} {xs : List D} (h : ∀ t ∈ xs, f t = t) : xs.map f = xs := (List.map_congr_left h).trans (List.map_id' _)
theorem back_drop {M : Mu} {lent : Addr → Prop} : back (drop M lent) M lent = M := by
  funext a
  unfold back drop
  split <;> simp_all
theorem Own.bag {M M' : Mu} {refs : List Addr} {rows : List (List D)} {b : Addr} {m : MO} (h : Own M M' refs rows) (hb : M b = some m) : M' b = some m := h.ex b m hb
end HS
/-! Shared by the laws of charts: promises kept. -/
namespace HS
open PySem L2 DL
theorem fit.one {v : D} (h : fit v) : ty1 v := ⟨h.1, fun xs e => h.2 xs (by rw [e]; rfl)⟩
theorem atI_get {xs : List D} {m : Nat} {r : D} (h : xs[m]? = some r) : atI xs (m : Int) = some r := by
  obtain ⟨h1, h2⟩ := List.getElem?_eq_some_iff.mp h
  rw [atI_nat h1, h2]
theorem ix_seq {v r : D} {rs : List D} {m : Nat} {M : Mu} {Q : DK} (hv : seq v = some rs) (h : rs[m]? = some r) (q : Q r M) : ixE v (.int m) M Q := by
  have := atI_get h
  rcases seq_len hv with ⟨_, rfl⟩ | rfl <;> simp [dctT, this] <;> exact q
theorem len_seq {v : D} {rs : List D} {M : Mu} {Q : DK} (hv : seq v = some rs) (q : Q (.int rs.length) M) : lenD [v] M Q := by
  rcases seq_len hv with ⟨_, rfl⟩ | rfl <;> exact q
theorem lst_seq {v : D} {rs : List D} {M : Mu} {Q : DK} (hv : seq v = some rs) (q : Q (.lst 0 rs) M) : lstD [v] M Q := by
  rcases seq_len hv with ⟨_, rfl⟩ | rfl <;> exact q
theorem rep_mem {xs : List D} {n : Nat} {x : D} (h : x ∈ (List.replicate n xs).flatten) : x ∈ xs := by
  rw [List.mem_flatten] at h
  obtain ⟨l, hl, hx⟩ := h
  rw [List.mem_replicate] at hl
  rw [← hl.2]; exact hx
end HS
/-! Shared by the laws of charts: promises kept. -/
namespace HS
open PySem L2 DL
/-! ### keys -/
theorem mem_row {m : Nat} {p : (Nat × Nat) × D} : ∀ {k : Nat} {r : List D}, p ∈ rowL m k r ↔ p.1.1 = m ∧ k ≤ p.1.2 ∧ r[p.1.2 - k]? = some p.2 ∧ DL.isNon p.2 = false
  | k, [] => by simp [rowL]
  | k, t :: ts => by
    have ih := mem_row (m := m) (p := p) (k := k + 1) (r := ts)
    obtain ⟨⟨a, b⟩, d⟩ := p
    simp only at ih ⊢
    have split : (k ≤ b ∧ (t :: ts)[b - k]? = some d) ↔ (b = k ∧ t = d) ∨ (k + 1 ≤ b ∧ ts[b - (k + 1)]? = some d) := by
      constructor
      · rintro ⟨h1, h2⟩
        by_cases e : b = k
        · subst e; simp at h2; exact .inl ⟨rfl, h2⟩
        · refine .inr ⟨by omega, ?_⟩
          rw [show b - k = (b - (k + 1)) + 1 by omega, List.getElem?_cons_succ] at h2; exact h2
      · rintro (⟨rfl, rfl⟩ | ⟨h1, h2⟩)
        · simp
        · refine ⟨by omega, ?_⟩
          rw [show b - k = (b - (k + 1)) + 1 by omega, List.getElem?_cons_succ]; exact h2
    unfold rowL
    cases hn : DL.isNon t with
    | true =>
      simp only [if_true]
      rw [ih]
      constructor
      · rintro ⟨h1, h2, h3, h4⟩
        have := split.mpr (.inr ⟨h2, h3⟩)
        exact ⟨h1, this.1, this.2, h4⟩
      · rintro ⟨h1, h2, h3, h4⟩
        rcases split.mp ⟨h2, h3⟩ with ⟨rfl, rfl⟩ | ⟨a1, a2⟩
        · rw [hn] at h4; cases h4
        · exact ⟨h1, a1, a2, h4⟩
    | false =>
      simp only [Bool.false_eq_true, if_false, List.mem_cons]
      rw [ih]
      constructor
      · rintro (h | ⟨h1, h2, h3, h4⟩)
        · simp only [Prod.mk.injEq] at h
          obtain ⟨⟨rfl, rfl⟩, rfl⟩ := h
          exact ⟨rfl, Nat.le_refl _, by simp, hn⟩
        · have := split.mpr (.inr ⟨h2, h3⟩)
          exact ⟨h1, this.1, this.2, h4⟩
      · rintro ⟨h1, h2, h3, h4⟩
        rcases split.mp ⟨h2, h3⟩ with ⟨rfl, rfl⟩ | ⟨a1, a2⟩
        · exact .inl (by rw [h1])
        · exact .inr ⟨h1, a1, a2, h4⟩
theorem mem_drags {p : (Nat × Nat) × D} : ∀ {m : Nat} {rows : List (List D)}, p ∈ dragsL m rows ↔ m ≤ p.1.1 ∧ ∃ r, rows[p.1.1 - m]? = some r ∧ r[p.1.2]? = some p.2 ∧ DL.isNon p.2 = false
  | m, [] => by simp [dragsL]
  | m, r :: rs => by
    have ih := mem_drags (p := p) (m := m + 1) (rows := rs)
    obtain ⟨⟨a, b⟩, d⟩ := p
    simp only [dragsL, List.mem_append, mem_row] at ih ⊢
    rw [ih]
    constructor
    · rintro (⟨rfl, h2, h3, h4⟩ | ⟨h1, r', h2, h3, h4⟩)
      · exact ⟨Nat.le_refl _, r, by simp, by simpa using h3, h4⟩
      · refine ⟨by omega, r', ?_, h3, h4⟩
        rw [show a - m = (a - (m + 1)) + 1 by omega, List.getElem?_cons_succ]; exact h2
    · rintro ⟨h1, r', h2, h3, h4⟩
      by_cases e : a = m
      · subst e
        simp at h2; subst h2
        exact .inl ⟨rfl, Nat.zero_le _, by simpa using h3, h4⟩
      · refine .inr ⟨by omega, r', ?_, h3, h4⟩
        rw [show a - m = (a - (m + 1)) + 1 by omega, List.getElem?_cons_succ] at h2; exact h2
theorem mem_dragAt {rows : List (List D)} {p : Nat × Nat} {t : D} : (p, t) ∈ dragsL 0 rows ↔ dragAt rows p = some t := by
  rw [mem_drags]
  unfold dragAt
  simp only [Nat.sub_zero, Nat.zero_le, true_and]
  constructor
  · rintro ⟨r, h1, h2, h3⟩
    simp only [h1, h2, h3, Bool.false_eq_true, if_false]
  · intro h
    cases h1 : rows[p.1]? with
    | none => rw [h1] at h; cases h
    | some r =>
      rw [h1] at h
      simp only at h
      cases h2 : r[p.2]? with
      | none => rw [h2] at h; cases h
      | some u =>
        rw [h2] at h
        simp only at h
        cases h3 : DL.isNon u with
        | true => rw [h3] at h; cases h
        | false =>
          rw [h3] at h
          simp only [Bool.false_eq_true, if_false] at h
          cases h
          exact ⟨r, rfl, h2, h3⟩
theorem mem_cells {rows : List (List D)} {p : Nat × Nat} : p ∈ cellsL rows ↔ (dragAt rows p).isSome = true := by
  unfold cellsL
  rw [List.mem_map]
  constructor
  · rintro ⟨⟨q, t⟩, h, rfl⟩
    rw [mem_dragAt.mp h]; rfl
  · intro h
    obtain ⟨t, ht⟩ := Option.isSome_iff_exists.mp h
    exact ⟨(p, t), mem_dragAt.mpr ht, rfl⟩
/-! ### order -/
/-! ### lookup -/
end HS
/-! Shared by the laws of charts: promises kept. -/
namespace HS
open PySem L2 DL
theorem cut_from1 {α : Type} {x : α} {xs : List α} : cut (x :: xs) (some 1) none = xs := by
  unfold cut
  rw [HT.sIx_none, show ((1 : Int)) = ((1 : Nat) : Int) from rfl, HT.sIx_nat]
  rw [Nat.min_eq_left (by simp)]
  simp
theorem ty1.of {v : D} (h : (tyN v).isSome = true) (h2 : ∀ xs, v ≠ .tup xs) : ty1 v := ⟨h, fun xs e => (h2 xs e).elim⟩
theorem isCell_no {v : D} (h : ∀ x y, v ≠ .tup [x, y]) : isCell v = false := by
  unfold isCell cellOf
  split
  · exact (h _ _ rfl).elim
  · rfl
theorem isCell_2 (x y : D) : isCell (.tup [x, y]) = (isNum x 0 5 && isNum y 0 5) := by
  cases x <;> cases y <;> simp [isCell, cellOf, isNum]
  rename_i i j
  by_cases h : 0 ≤ i ∧ i ≤ 5 ∧ 0 ≤ j ∧ j ≤ 5
  · rw [if_pos h]; simp [h.1, h.2.1, h.2.2.1, h.2.2.2]
  · rw [if_neg h]
    simp only [Option.isSome_none]
    symm
    simp only [Bool.and_eq_false_iff, decide_eq_false_iff_not]
    omega
theorem pure_is_cell : ∀ ds M Q E, sp_is_cell ds M Q E → ds.length = (["value"] : List Str).length ∧ t_is_cell { nx := fun _ M' => fzK Q .non M', rt := fzK Q } (startD ["value"] ds) M := by
  rintro ds M Q E ⟨v, rfl, ⟨hty, ht⟩, q⟩
  refine ⟨rfl, ?_⟩
  cases v <;> first | (cases (show false = true from hty); done) | skip
  all_goals simp [t_is_cell, inst, tyN, isA, tyNames]
  all_goals first | exact fz_same q | skip
  case tup xs =>
    obtain ⟨h1, h2⟩ := ht xs rfl
    match xs, h2, q with
    | [x, y], h2, q =>
      simp [t_is_cell_1, dctT, atI, ixN]
      rw [isCell_2] at q
      refine ⟨x, 0, 5, rfl, h2 x (by simp), ?_⟩
      cases e : isNum x 0 5 with
      | true => rw [e] at q; simp; exact ⟨y, 0, 5, rfl, h2 y (by simp), fz_same q⟩
      | false => rw [e] at q; simp; exact fz_same q
    | [], h2, q => simp; exact fz_same q
    | [x], h2, q => simp; rw [isCell_no (by intro x y e; cases e)] at q; exact fz_same q
    | x :: y :: z :: l, h2, q =>
      simp
      rw [if_neg (by omega)]
      rw [isCell_no (by intro x y e; cases e)] at q
      exact fz_same q
theorem isPlace_no {v : D} (h : ∀ x y z, v ≠ .tup [x, y, z]) : isPlace v = false := by
  unfold isPlace placeOf
  split
  · exact (h _ _ _ rfl).elim
  · rfl
theorem isPlace_3 (x y z : D) : isPlace (.tup [x, y, z]) = (isNum x 0 8 && isCell (.tup [y, z])) := by
  rw [isCell_2]
  cases x <;> cases y <;> cases z <;> simp [isPlace, placeOf, isNum]
  rename_i h i j
  by_cases c : 0 ≤ h ∧ h ≤ 8 ∧ 0 ≤ i ∧ i ≤ 5 ∧ 0 ≤ j ∧ j ≤ 5
  · rw [if_pos c]; simp [c.1, c.2.1, c.2.2.1, c.2.2.2.1, c.2.2.2.2.1, c.2.2.2.2.2]
  · rw [if_neg c]
    simp only [Option.isSome_none]
    symm
    simp only [Bool.and_eq_false_iff, decide_eq_false_iff_not]
    omega
theorem ty1_pair {x y : D} (hx : ty x) (hy : ty y) : ty1 (.tup [x, y]) := ⟨rfl, fun xs e => by cases e; exact ⟨by simp, by simp; exact ⟨hx, hy⟩⟩⟩
theorem pure_is_place : ∀ ds M Q E, sp_is_place ds M Q E → ds.length = (["value"] : List Str).length ∧ t_is_place { nx := fun _ M' => fzK Q .non M', rt := fzK Q } (startD ["value"] ds) M := by
  rintro ds M Q E ⟨v, rfl, ⟨hty, ht⟩, q⟩
  refine ⟨rfl, ?_⟩
  cases v <;> first | (cases (show false = true from hty); done) | skip
  all_goals simp [t_is_place, inst, tyN, isA, tyNames]
  all_goals first | exact fz_same q | skip
  case tup xs =>
    obtain ⟨h1, h2⟩ := ht xs rfl
    match xs, h2, q with
    | [x, y, z], h2, q =>
      simp [t_is_place_1, dctT, atI, ixN]
      rw [isPlace_3] at q
      refine ⟨x, 0, 8, rfl, h2 x (by simp), ?_⟩
      cases e : isNum x 0 8 with
      | true =>
        rw [e] at q
        simp
        rw [cut_from1]
        exact ⟨_, rfl, ty1_pair (h2 y (by simp)) (h2 z (by simp)), fz_same q⟩
      | false => rw [e] at q; simp; exact fz_same q
    | [], h2, q => simp; exact fz_same q
    | [x], h2, q => simp; rw [isPlace_no (by intro x y z e; cases e)] at q; exact fz_same q
    | [x, y], h2, q => simp; rw [isPlace_no (by intro x y z e; cases e)] at q; exact fz_same q
    | x :: y :: z :: u :: l, h2, q =>
      simp
      rw [isPlace_no (by intro x y z e; cases e)] at q
      exact fz_same q
end HS
/-! Shared by the laws of charts: promises kept. -/
namespace HS
open PySem L2 DL
/-! ### equality of plain data -/
end HS
/-! Shared by the laws of charts: promises kept. -/
namespace HS
open PySem L2 DL
theorem nw {M0 M : Mu} (h : Ex M0 M) {a : Addr} (e : M a = none) : M0 a = none := by
  cases e2 : M0 a with
  | none => rfl
  | some m => rw [h a m e2] at e; cases e
/-! ### places -/
/-! ### neighbours -/
end HS
/-! Shared by the laws of charts: promises kept. -/
namespace HS
open PySem L2 DL
/-! ### sorting pairs -/
/-! ### comprehensions with a test -/
/-! ### spots -/
end HS
/-! Shared by the laws of charts: promises kept. -/
namespace HS
open PySem L2 DL
section
variable {rows winds : List (List D)} {top : Int} {M : Mu}
end
/-! ### no water -/
section
variable {rows winds : List (List D)} {top : Int} {M : Mu}
end
end HS
/-! Shared by the laws of charts: promises kept. -/
namespace HS
open PySem L2 DL
abbrev KD := (Nat × Nat) × D
def toT (p : KD) : List Key × D := (keyC p.1, p.2)
section
variable {rows : List (List D)} {W T : D} {a : Addr} {M : Mu}
end
theorem drag_toll {rows : List (List D)} (h : ∀ r ∈ rows, ∀ t ∈ r, toll t) {p : KD} (hp : p ∈ dragsL 0 rows) : toll p.2 := by
  obtain ⟨_, r, h1, h2, _⟩ := mem_drags.mp hp
  exact h r (List.mem_of_getElem? h1) _ (List.mem_of_getElem? h2)
/-! ### a chart's birth -/
end HS
/-! Shared by the laws of charts: promises kept. -/
namespace HS
open PySem L2 DL
structure LayE (M M' : Mu) (a b : Addr) (fs : List (Str × D)) (L : List KD) : Prop where
  ia : M' a = some (.ins "Chart" fs)
  ib : M' b = some (.dT (L.map toT))
  io : ∀ x, x ≠ a → x ≠ b → M' x = M x
theorem LayE.put {M M' : Mu} {a b : Addr} {fs : List (Str × D)} {L L' : List KD} (h : LayE M M' a b fs L) (hab : a ≠ b) : LayE M (setM M' b (.dT (L'.map toT))) a b fs L' := 
  ⟨by rw [setM_ne hab]; exact h.ia, setM_same, fun x hx hy => by rw [setM_ne hy]; exact h.io x hx hy⟩
section
variable {rows winds : List (List D)} {top : Int} {G W R T : D} {a b : Addr} {M : Mu} {E : DXK}
theorem LayE.ins {M' : Mu} {L : List KD} (h : LayE M M' a b (chartF rows winds top (.ref b)) L) : insF "Chart" (.ref a) M' = some (chartF rows winds top (.ref b)) := by simp [insF, h.ia]
end
end HS
/-! Shared by the laws of charts: promises kept. -/
namespace HS
open PySem L2 DL
end HS
/-! Shared by the laws of charts: promises kept. -/
namespace HS
open PySem L2 DL
end HS
/-! Shared by the laws of charts: promises kept. -/
namespace HS
open PySem L2 DL
section
variable {rows winds : List (List D)} {top : Int} {M : Mu} {E : DXK}
theorem dragI_int {i j : Int} {d : D} (g : Gd rows winds top) (h : dragI rows i j = some d) : ∃ n : Int, d = .int n ∧ 0 ≤ n ∧ n ≤ 99 := by
  unfold dragI at h
  split at h
  · have hp := mem_dragAt.mpr h
    obtain ⟨_, r, _, _, hn⟩ := mem_drags.mp hp
    rcases drag_toll g.r.tl hp with e | e
    · have e : d = .non := e
      subst e; cases hn
    · exact e
  · cases h
end
end HS
/-! Shared by the laws of charts: promises kept. -/
namespace HS
open PySem L2 DL
section
variable {rows winds : List (List D)} {top : Int} {M : Mu} {E : DXK}
end
end HS
/-! Shared by the laws of charts: promises kept. -/
namespace HS
open PySem L2 DL
/-! ### sorting places, steps -/
abbrev T3 := Int × Int × Int
def tri (p : T3) : D := .tup [.int p.1, .int p.2.1, .int p.2.2]
def lt3 (p q : T3) : Prop := p.1 < q.1 ∨ (p.1 = q.1 ∧ (p.2.1 < q.2.1 ∨ (p.2.1 = q.2.1 ∧ p.2.2 < q.2.2)))
instance (p q : T3) : Decidable (lt3 p q) := by unfold lt3; infer_instance
/-- a place with a number -/
abbrev S4 := T3 × Int
def stp (p : S4) : D := .tup [tri p.1, .int p.2]
end HS
/-! Shared by the laws of charts: promises kept. -/
namespace HS
open PySem L2 DL
section
variable {rows winds : List (List D)} {top : Int} {M : Mu} {E : DXK}
def dInt : D → Int
  | .int i => i
  | _ => 0
def stepZ (rows : List (List D)) (w : List D) (h i j : Int) (p : Nat × Int × Int) : Option S4 := match w[p.1]?, dragI rows (i + p.2.1) (j + p.2.2) with
  | some t, some d => if DL.isNon t then none else some ((h + 1, i + p.2.1, j + p.2.2), dInt d + dInt t)
  | _, _ => none
theorem stepZ_at {w : List D} {h i j : Int} {p : Nat × Int × Int} {b : S4} (e : stepZ rows w h i j p = some b) : b.1 = (h + 1, i + p.2.1, j + p.2.2) := by
  unfold stepZ at e
  split at e
  · split at e
    · cases e
    · cases e; rfl
  · cases e
abbrev Pl := Nat × (Nat × Nat)
def plL (rows : List (List D)) (n : Nat) : List Pl := ((List.range (n + 1)).map fun h => (cellsL rows).map fun p => (h, p)).flatten
def plD (p : Pl) : D := placeD p.1 p.2
def plK (p : Pl) : List Key := [.inl (p.1 : Int), .inl (p.2.1 : Int), .inl (p.2.2 : Int)]
theorem mem_pl {n : Nat} {p : Pl} : p ∈ plL rows n ↔ p.1 ≤ n ∧ p.2 ∈ cellsL rows := by
  obtain ⟨h, c⟩ := p
  unfold plL
  simp only [List.mem_flatten, List.mem_map, List.mem_range]
  constructor
  · rintro ⟨l, ⟨k, hk, rfl⟩, hm⟩
    obtain ⟨q, hq, e⟩ := List.mem_map.mp hm
    cases e
    exact ⟨by omega, hq⟩
  · rintro ⟨h1, h2⟩
    exact ⟨_, ⟨h, by omega, rfl⟩, List.mem_map.mpr ⟨c, h2, rfl⟩⟩
end
end HS
/-! Shared by the laws of charts: promises kept. -/
namespace HS
open PySem L2 DL
section
variable {rows winds : List (List D)} {top : Int} {M : Mu} {E : DXK}
end
end HS
/-! Shared by the laws of charts: promises kept. -/
namespace HS
open PySem L2 DL
section
variable {rows winds : List (List D)} {top : Int} {M : Mu} {E : DXK}
def triP (p : Pl) : T3 := (p.1, p.2.1, p.2.2)
theorem triP_inj {p q : Pl} (h : triP p = triP q) : p = q := by
  obtain ⟨a, b, c⟩ := p; obtain ⟨a', b', c'⟩ := q
  simp only [triP, Prod.mk.injEq] at h
  obtain ⟨h1, h2, h3⟩ := h
  have h1 : a = a' := by omega
  have h2 : b = b' := by omega
  have h3 : c = c' := by omega
  subst h1 h2 h3
  rfl
/-- the steps from a place, as numbers -/
def stepsQ (rows winds : List (List D)) (p : Pl) : List S4 := if p.1 < winds.length then forw.filterMap (stepZ rows (winds.getD p.1 []) p.1 p.2.1 p.2.2) else []
theorem dragI_cell {i j : Int} {d : D} (h : dragI rows i j = some d) : ∃ c : Nat × Nat, c ∈ cellsL rows ∧ i = c.1 ∧ j = c.2 ∧ dragAt rows c = some d := by
  unfold dragI at h
  split at h
  · rename_i hc
    exact ⟨(i.toNat, j.toNat), mem_cells.mpr (by rw [h]; rfl), by simp only; omega, by simp only; omega, h⟩
  · cases h
theorem stepsQ_in {p : Pl} {s : S4} (h : s ∈ stepsQ rows winds p) : ∃ q ∈ plL rows winds.length, s.1 = triP q := by
  unfold stepsQ at h
  split at h
  · rename_i hp
    obtain ⟨m, hm, e⟩ := List.mem_filterMap.mp h
    have ea := stepZ_at e
    unfold stepZ at e
    split at e
    · rename_i t d et ed
      obtain ⟨c, hc, e1, e2, _⟩ := dragI_cell ed
      refine ⟨(p.1 + 1, c), mem_pl.mpr ⟨by simp only; omega, hc⟩, ?_⟩
      rw [ea]
      unfold triP
      rw [e1, e2]
      simp
    · cases e
  · cases h
/-! ### looking up -/
theorem dctT_own {A : Addr} {kvs : List (List Key × D)} (h : M A = some (.dT kvs)) : dctT (.ref A) M = some (kvs.map fun p => (tkeyD p.1, p.2)) := by
  simp only [dctT, h]
/-! ### sorted lists with the same elements -/
end
end HS
/-! Shared by the laws of charts: promises kept. -/
namespace HS
open PySem L2 DL
section
variable {rows winds : List (List D)} {top : Int} {M : Mu} {E : DXK}
structure BkS (M0 M : Mu) (A : Addr) (prs : List (Pl × Addr)) (B : Pl → List S4) : Prop where
  a0 : M0 A = none
  at_ : M A = some (.dT (prs.map fun x => (plK x.1, D.ref x.2)))
  it : ∀ x ∈ prs, M x.2 = some (.lst ((B x.1).map stp))
  nw : ∀ x ∈ prs, M0 x.2 = none
  nd : (prs.map (·.2)).Nodup
  ex : Ex M0 M
theorem inj_of_nodup {α β : Type} {f : α → β} : ∀ {l : List α}, (l.map f).Nodup → ∀ x ∈ l, ∀ y ∈ l, f x = f y → x = y
  | [], _, x, hx, _, _, _ => by cases hx
  | a :: l, h, x, hx, y, hy, e => by
    rw [List.map_cons, List.nodup_cons] at h
    rcases List.mem_cons.mp hx with e1 | h1
    · rcases List.mem_cons.mp hy with e2 | h2
      · rw [e1, e2]
      · rw [e1] at e
        exact absurd (List.mem_map.mpr ⟨y, h2, e.symm⟩) h.1
    · rcases List.mem_cons.mp hy with e2 | h2
      · rw [e2] at e
        exact absurd (List.mem_map.mpr ⟨x, h1, e⟩) h.1
      · exact inj_of_nodup h.2 x h1 y h2 e
theorem BkS.dct {M0 M : Mu} {A : Addr} {prs : List (Pl × Addr)} {B : Pl → List S4} (h : BkS M0 M A prs B) : dctT (.ref A) M = some (prs.map fun x => (plD x.1, D.ref x.2)) := by
  rw [dctT_own h.at_, List.map_map]
  rfl
theorem BkS.ne {M0 M : Mu} {A : Addr} {prs : List (Pl × Addr)} {B : Pl → List S4} (h : BkS M0 M A prs B) {x : Pl × Addr} (hx : x ∈ prs) : A ≠ x.2 := fun z => by
  have := h.it x hx
  rw [← z, h.at_] at this; cases this
theorem BkS.app {M0 M : Mu} {A : Addr} {prs : List (Pl × Addr)} {B : Pl → List S4} (h : BkS M0 M A prs B) {x : Pl × Addr} (hx : x ∈ prs) (hn : (prs.map (·.1)).Nodup) (s : S4) : BkS M0 (setM M x.2 (.lst ((B x.1).map stp ++ [stp s]))) A prs (fun p => if p = x.1 then B p ++ [s] else B p) where
  a0 := h.a0
  at_ := by rw [setM_ne (h.ne hx)]; exact h.at_
  it := fun y hy => by
    by_cases e : y.2 = x.2
    · have : y = x := inj_of_nodup h.nd y hy x hx e
      subst this
      rw [setM_same]; simp
    · rw [setM_ne e, h.it y hy]
      have : y.1 ≠ x.1 := fun z => e (by rw [inj_of_nodup hn y hy x hx z])
      simp [this]
  nw := h.nw
  nd := h.nd
  ex := fun a m e => by rw [setM_ne (fun z => by subst z; rw [h.nw x hx] at e; cases e)]; exact h.ex a m e
end
end HS
/-! Shared by the laws of charts: promises kept. -/
namespace HS
open PySem L2 DL
theorem ld_gd {M : Mu} {lent : Addr → Prop} {r : Nat} : ∀ {n k : Nat} {d : D}, gd n d = true → ld M lent r k d = d
  | _, 0, d, _ => rfl
  | n, k + 1, .non, _ => rfl
  | n, k + 1, .bl _, _ => rfl
  | n, k + 1, .int _, _ => rfl
  | n, k + 1, .str _, _ => rfl
  | 0, k + 1, .lst _ xs, h => by simp [gd] at h
  | n + 1, k + 1, .lst s xs, h => by
    rw [ld, map_same fun t ht => ld_gd ((gd_lst h).2 t ht)]
  | 0, k + 1, .tup xs, h => by simp [gd] at h
  | n + 1, k + 1, .tup xs, h => by
    rw [ld, map_same fun t ht => ld_gd ((gd_tup h).2 t ht)]
  | n, k + 1, .dct _, h => by cases n <;> simp [gd] at h
  | n, k + 1, .obj _ _, h => by cases n <;> simp [gd] at h
  | n, k + 1, .exc _ _, h => by cases n <;> simp [gd] at h
  | n, k + 1, .ref _, h => by cases n <;> simp [gd] at h
  | n, k + 1, .scr _, h => by cases n <;> simp [gd] at h
  | n, k + 1, .ty _, h => by cases n <;> simp [gd] at h
  | n, k + 1, .cls _, h => by cases n <;> simp [gd] at h
  | n, k + 1, .cst _, h => by cases n <;> simp [gd] at h
section
variable {rows winds : List (List D)} {top : Int} {M M0 : Mu} {Q : DK} {b F : Addr} {ns : List Int} {Z : DEnds}
variable {o2 o3 o4 o5 o6 o7 o8 o9 o10 o11 o12 o13 o14 o15 o16 o17 : Option D}
/-! ### the ends -/
end
end HS
/-! Shared by the laws of charts: promises kept. -/
namespace HS
open PySem L2 DL
section
variable {rows winds : List (List D)} {top : Int} {M M0 : Mu} {Q : DK} {b F : Addr} {ns : List Int} {Z : DEnds}
variable {o2 o3 o4 o5 o6 o7 o8 o9 o10 o11 o12 o13 o14 o15 o16 o17 : Option D}
end
end HS
/-! Shared by the laws of charts: more of charts. -/
namespace HS
open PySem L2 DL
end HS
/-! Shared by the laws of charts: readings. -/
namespace HS
open PySem L2 DL
end HS
/-! Shared by the laws of charts: promises kept. -/
namespace HS
open PySem L2 DL
end HS
/-! Shared by the laws of losses: paths, least losses, what each def promises. -/
namespace HS
open PySem L2 DL
/-! ### paths -/
def plOf (t : T3) : Pl := (t.1.toNat, t.2.1.toNat, t.2.2.toNat)
/-- the steps from a place -/
def nextL (rows winds : List (List D)) (p : Pl) : List (Pl × Int) := (stepsQ rows winds p).map fun s => (plOf s.1, s.2)
/-- a path from p to q with this loss -/
inductive Tr (rows winds : List (List D)) (p : Pl) : Pl → Int → Prop
  | nil : Tr rows winds p p 0
  | snoc {q r : Pl} {s l : Int} : Tr rows winds p q s → (r, l) ∈ nextL rows winds q → Tr rows winds p r (s + l)
open Classical in
/-- the least number of a set -/
noncomputable def least (S : Int → Prop) : Option Int := if h : ∃ m, S m ∧ ∀ s, S s → m ≤ s then some (Classical.choose h) else none
/-! ### tables of numbers -/
abbrev Tab := List (Pl × Int)
def tabO (ls : Tab) : List (List Key × D) := ls.map fun x => (plK x.1, .int x.2)
/-! ### regions -/
def tyR (v : D) : Prop := ty1 v ∧ ∀ xs, seq v = some xs → xs.length ≤ 1000 ∧ ∀ x ∈ xs, ty1 x
def fl_InvalidRegion : List (Str × (Sum Str Nat)) := [("at", .inr 0), ("code", .inl "InvalidRegion")]
def eRegion (i : Int) : List (Str × D) := mkF D.str .non fl_InvalidRegion [.int i]
/-! ### promises -/
end HS
/-! Shared by the laws of losses: readings. -/
namespace HS
open PySem L2 DL
end HS
/-! Shared by the laws of losses: plain laws of least numbers, paths and tables. -/
namespace HS
open PySem L2 DL
/-! ### least numbers -/
/-! ### paths -/
section
variable {rows winds : List (List D)} {top : Int}
theorem plOf_tri (p : Pl) : plOf (triP p) = p := by
  obtain ⟨a, b, c⟩ := p
  simp [plOf, triP]
theorem next_eq (p : Pl) : stepsQ rows winds p = (nextL rows winds p).map fun x => (triP x.1, x.2) := by
  unfold nextL
  rw [List.map_map]
  refine ((List.map_congr_left (g := id) fun s hs => ?_).trans (List.map_id _)).symm
  obtain ⟨q, _, e⟩ := stepsQ_in hs
  simp only [Function.comp, id]
  rw [e, plOf_tri, ← e]
theorem next_mem (g : Gd rows winds top) {p q : Pl} {l : Int} (h : (q, l) ∈ nextL rows winds p) : q ∈ plL rows winds.length ∧ q.1 = p.1 + 1 ∧ 0 ≤ l := by
  have h' : (triP q, l) ∈ stepsQ rows winds p := by rw [next_eq]; exact List.mem_map.mpr ⟨(q, l), h, rfl⟩
  obtain ⟨r, hr, e⟩ := stepsQ_in h'
  have e := triP_inj e
  subst e
  refine ⟨hr, ?_⟩
  unfold stepsQ at h'
  split at h'
  · rename_i hl
    obtain ⟨m, hm, em⟩ := List.mem_filterMap.mp h'
    have ea := stepZ_at em
    have e1 : (q.1 : Int) = p.1 + 1 := by have := congrArg Prod.fst ea; simpa [triP] using this
    refine ⟨by omega, ?_⟩
    unfold stepZ at em
    split at em
    · rename_i t d et ed
      split at em
      · cases em
      · rename_i hnn
        obtain ⟨n, rfl, hn, _⟩ := dragI_int g ed
        have hg : gust (winds.getD p.1 []) := by
          have : winds.getD p.1 [] = winds[p.1] := by simp [hl]
          rw [this]; exact g.wg _ (List.getElem_mem hl)
        injection em with em
        injection em with _ em
        rcases hg.2 t (List.mem_of_getElem? et) with rfl | ⟨k, rfl, hk, _⟩
        · exact (hnn rfl).elim
        · rw [← em]; simp only [dInt]; omega
    · cases em
  · cases h'
theorem Tr.in (g : Gd rows winds top) {p q : Pl} {s : Int} (h : Tr rows winds p q s) (hp : p ∈ plL rows winds.length) : q ∈ plL rows winds.length ∧ p.1 ≤ q.1 ∧ 0 ≤ s ∧ (p.1 = q.1 → q = p ∧ s = 0) := by
  induction h with
  | nil => exact ⟨hp, Nat.le_refl _, Int.le_refl _, fun _ => ⟨rfl, rfl⟩⟩
  | snoc h n ih =>
    obtain ⟨h1, h2, h3, h4⟩ := ih
    obtain ⟨n1, n2, n3⟩ := next_mem g n
    exact ⟨n1, by omega, by omega, fun e => by omega⟩
theorem Tr.last {p q : Pl} {s : Int} : Tr rows winds p q s ↔ (q = p ∧ s = 0) ∨ ∃ r s' l, Tr rows winds p r s' ∧ (q, l) ∈ nextL rows winds r ∧ s = s' + l := by
  constructor
  · intro h
    cases h with
    | nil => exact .inl ⟨rfl, rfl⟩
    | snoc h n => exact .inr ⟨_, _, _, h, n, rfl⟩
  · rintro (⟨rfl, rfl⟩ | ⟨r, s', l, h, n, rfl⟩)
    · exact .nil
    · exact .snoc h n
theorem Tr.cons {p r q : Pl} {l s : Int} (n : (r, l) ∈ nextL rows winds p) (h : Tr rows winds r q s) : Tr rows winds p q (l + s) := by
  induction h with
  | nil => have := Tr.snoc (Tr.nil (rows := rows) (winds := winds) (p := p)) n; rw [Int.zero_add] at this; rw [Int.add_zero]; exact this
  | snoc h n' ih => rw [← Int.add_assoc]; exact .snoc ih n'
theorem Tr.first {p q : Pl} {s : Int} : Tr rows winds p q s ↔ (q = p ∧ s = 0) ∨ ∃ r l s', (r, l) ∈ nextL rows winds p ∧ Tr rows winds r q s' ∧ s = l + s' := by
  constructor
  · intro h
    induction h with
    | nil => exact .inl ⟨rfl, rfl⟩
    | snoc h n ih =>
      rcases ih with ⟨rfl, rfl⟩ | ⟨r, l, s', n', h', rfl⟩
      · exact .inr ⟨_, _, 0, n, .nil, by omega⟩
      · exact .inr ⟨r, l, _, n', .snoc h' n, by omega⟩
  · rintro (⟨rfl, rfl⟩ | ⟨r, l, s', n, h, rfl⟩)
    · exact .nil
    · exact .cons n h
/-! ### tables -/
end
end HS
/-! Shared by the laws of losses: regions are checked; losses from a place. -/
namespace HS
open PySem L2 DL
/-! ### regions -/
/-! ### tables, relaxed -/
section
variable {rows winds : List (List D)} {top : Int} {M : Mu} {E : DXK}
/-- the losses of paths whose last step is from a place that is done -/
def Sd (rows winds : List (List D)) (p : Pl) (done : List Pl) (q : Pl) (s : Int) : Prop := (q = p ∧ s = 0) ∨ ∃ r ∈ done, ∃ s' l, Tr rows winds p r s' ∧ (q, l) ∈ nextL rows winds r ∧ s = s' + l
end
end HS
/-! Shared by the laws of losses: losses from a place, whole. -/
namespace HS
open PySem L2 DL
section
variable {rows winds : List (List D)} {top : Int} {M : Mu} {E : DXK} {T : Addr}
end
end HS
/-! Shared by the laws of losses: losses to a region. -/
namespace HS
open PySem L2 DL
section
variable {rows winds : List (List D)} {top : Int} {M : Mu} {E : DXK} {T : Addr}
end
end HS
/-! Shared by the laws of losses: losses to a region, whole; a law's own. -/
namespace HS
open PySem L2 DL
section
variable {rows winds : List (List D)} {top : Int} {M : Mu} {E : DXK} {T : Addr}
end
end HS
/-! Shared by the laws of sayings: draws, promises. -/
namespace HB
open PySem L2 DL
/-- a number below many -/
def spDrawB : DSp := fun ds M Q _ => ∃ b many, ds = [.ref b, .int many] ∧ M b = some (.bg 1) ∧ (0 < many ∧ many < 1073741824) ∧ ∀ n : Int, 0 ≤ n → n < many → Q (.int n) M
def bagL (cs : List Int) (i r m n : Int) : MO := .lst [.lst 0 (cs.map D.int), .int i, .int r, .int m, .int n]
def spDrawB0 : DSp := fun ds M Q _ => ∃ b many, ∃ (cs : List Int) (i r m n : Int), ds = [.ref b, .int many] ∧ M b = some (bagL cs i r m n) ∧ 0 ≤ i ∧ (0 ≤ r ∧ 0 ≤ m ∧ m < 4294967296) ∧ (0 < many ∧ many < 1073741824) ∧
  ∀ k i' r' m' n' : Int, 0 ≤ k → k < many → 0 ≤ i' → (0 ≤ r' ∧ 0 ≤ m' ∧ m' < 4294967296) → Q (.int k) (setM M b (bagL cs i' r' m' n'))
theorem drawB_ok {P : Program} {w : World} {K : PySem.W.Frag} {mg : Str → Option Value} {base : Heap} {cl : Str → Addr} {tb : List (Addr × Str)} {CX : CXT} {k : Nat} {f : Addr} {fd : FuncData} {ps : List Str} (F : FnOk P w K mg base CX k f fd ps (upX K cl tb spDrawB0)) : FnOk P w K mg base CX k f fd ps (upX K cl tb spDrawB) :=
  F.imp fun vs H Q E h => open_bag5 (s := spDrawB) (s' := spDrawB0) (fun ds M Q' E' hs => by
    obtain ⟨b, many, rfl, hb, hm, q⟩ := hs
    refine ⟨b, hb, fun cs i r m n hl hi h1 h2 h3 => ⟨b, many, cs, i, r, m, n, rfl, setM_same, hi, ⟨h1, h2, h3⟩, hm, fun k i' r' m' n' h0 h1 hi' hr' => ⟨⟨i', r', m', n', hi', hr', setM_set⟩, q k h0 h1⟩⟩⟩) h
def spOpen : DSp := fun ds M Q _ => ∃ ns : List Int, ds = [.scr ns] ∧ ns.length ≤ 63 ∧ ∀ b, M b = none → Q (.ref b) (setM M b (.bg 1))
def spOf : DSp := fun ds M Q _ => ∃ b d xs, ds = [.ref b, d] ∧ M b = some (.bg 1) ∧ (seqL d = some xs) ∧ (0 < xs.length ∧ xs.length ≤ 100000) ∧ ∀ x ∈ xs, Q x M
def sp__law_open : DSp := spOpen
def sp__law_draw : DSp := spDrawB
def sp__law_of : DSp := spOf
def sp__law_same : DSp := spSame 6
end HB
/-! Shared by the laws of sayings: readings. Printed by a program of mine. -/
namespace HB
open PySem L2 DL
def t__law_open_1 : DS := (dAsg (dOp modD (dCB intD (dCons (dOp addD (dOp addD (dOp mulE (dVar 1) (dC (.int 52543))) (dOp mulE (dOp modD (dCB intD (dCons (dVar 2) dNil)) (dC (.int 1000333))) (dC (.int 907)))) (dC (.int 47))) dNil)) (dC (.int 2147483587))) (gNm 1))
def t__law_open_2 : DS := (dRet (dBag5 (dCons (dCB lstD (dCons (dSl (dVar 0) dNoPart (dPart (dC (.int 63)))) dNil)) (dCons (dC (.int 0)) (dCons (dC (.int 0)) (dCons (dVar 1) (dCons (dC (.int 0)) dNil)))))))
def t__law_open_3 : DS := (dSeq (dFor (dIt (dSl (dVar 0) dNoPart (dPart (dC (.int 63))))) (gNm 2) t__law_open_1) t__law_open_2)
def t__law_open : DS := (dSeq (dAsg (dC (.int 12031)) (gNm 1)) t__law_open_3)
/- _law_draw(_law_bag, _law_sides); slots: 0:_law_bag 1:_law_sides 2:_law_cell 3:_law_small 4:_law_digit 5:_law_seed 6:_law_step -/
def t__law_draw_1 : DS := (dAsg (dOp modD (dCB intD (dCons (dOp addD (dOp mulE (dOp ixE (dVar 0) (dC (.int 3))) (dC (.int 44071))) (dVar 3)) dNil)) (dC (.int 2147483629))) (gIx (dVar 0) (dC (.int 3))))
def t__law_draw_2 : DS := (dIfS (dB (dOp geD (dCB absD (dCons (dVar 2) dNil)) (dOp powD (dC (.int 10)) (dC (.int 18))))) (dAsg (dCB absD (dCons (dVar 2) dNil)) (gIx (dVar 0) (dC (.int 2)))) (dSeq (dAsg (dOp addD (dOp mulE (dOp modD (dCB intD (dCons (dVar 2) dNil)) (dC (.int 1000333))) (dC (.int 787))) (dC (.int 53))) (gNm 3)) t__law_draw_1))
def t__law_draw_3 : DS := (dSeq (dAsg (dOp addD (dOp ixE (dVar 0) (dC (.int 1))) (dC (.int 1))) (gIx (dVar 0) (dC (.int 1)))) t__law_draw_2)
def t__law_draw_4 : DS := (dSeq (dAsg (dOp ixE (dOp ixE (dVar 0) (dC (.int 0))) (dOp ixE (dVar 0) (dC (.int 1)))) (gNm 2)) t__law_draw_3)
def t__law_draw_5 : DS := (dSeq (dAsg (dOp fdivD (dOp ixE (dVar 0) (dC (.int 2))) (dVar 1)) (gIx (dVar 0) (dC (.int 2)))) (dRet (dVar 4)))
def t__law_draw_6 : DS := (dSeq (dAsg (dOp modD (dCB intD (dCons (dOp ixE (dVar 0) (dC (.int 2))) dNil)) (dVar 1)) (gNm 4)) t__law_draw_5)
def t__law_draw_7 : DS := (dRet (dOp modD (dCB intD (dCons (dOp addD (dOp fdivD (dOp ixE (dVar 0) (dC (.int 3))) (dC (.int 73))) (dOp mulE (dOp modD (dCB intD (dCons (dOp ixE (dVar 0) (dC (.int 3))) dNil)) (dC (.int 8009))) (dC (.int 59)))) dNil)) (dVar 1)))
def t__law_draw_8 : DS := (dSeq (dAsg (dOp modD (dCB intD (dCons (dOp addD (dOp mulE (dOp mulE (dVar 5) (dVar 5)) (dC (.int 23))) (dVar 6)) dNil)) (dC (.int 2147483587))) (gIx (dVar 0) (dC (.int 3)))) t__law_draw_7)
def t__law_draw_9 : DS := (dSeq (dAsg (dOp addD (dOp addD (dOp mulE (dVar 5) (dC (.int 50033))) (dOp mulE (dOp ixE (dVar 0) (dC (.int 4))) (dC (.int 110051)))) (dC (.int 60089))) (gNm 6)) t__law_draw_8)
def t__law_draw_10 : DS := (dSeq (dAsg (dOp ixE (dVar 0) (dC (.int 3))) (gNm 5)) t__law_draw_9)
def t__law_draw_11 : DS := (dSeq (dIfS (dB (dOp gtD (dOp ixE (dVar 0) (dC (.int 2))) (dC (.int 0)))) t__law_draw_6 dNext) t__law_draw_10)
def t__law_draw_12 : DS := (dSeq (dIfS (dAnd (dB (dOp eqD (dOp ixE (dVar 0) (dC (.int 2))) (dC (.int 0)))) (dB (dOp ltD (dOp ixE (dVar 0) (dC (.int 1))) (dCB lenD (dCons (dOp ixE (dVar 0) (dC (.int 0))) dNil))))) t__law_draw_4 dNext) t__law_draw_11)
def t__law_draw : DS := (dSeq (dAsg (dOp addD (dOp ixE (dVar 0) (dC (.int 4))) (dC (.int 1))) (gIx (dVar 0) (dC (.int 4)))) t__law_draw_12)
/- _law_of(_law_bag, _law_things); slots: 0:_law_bag 1:_law_things -/
def t__law_of : DS := (dRet (dOp ixE (dVar 1) (dCall sp__law_draw DX0 (dCons (dVar 0) (dCons (dCB lenD (dCons (dVar 1) dNil)) dNil)))))
/- _law_same(_law_found, _law_due); slots: 0:_law_found 1:_law_due 2:_law_key 3:_law_one 4:_law_other_z -/
def t__law_same_1 (sp__law_same : DSp) : DS := (dRet (dCB allD (dCons (dLc (dIt (dVar 1)) (gNm 2) dYes (dCall sp__law_same DX0 (dCons (dOp ixE (dVar 0) (dVar 2)) (dCons (dOp ixE (dVar 1) (dVar 2)) dNil))) [2]) dNil)))
def t__law_same_2 (sp__law_same : DSp) : DS := (dSeq (dIfS (dOr (dNot (dB (dCB isiD (dCons (dVar 0) (dCons (dC (.ty "dict")) dNil))))) (dNot (dB (dCall sp__law_same DX0 (dCons (dCB lstD (dCons (dVar 0) dNil)) (dCons (dCB sortD (dCons (dCB lstD (dCons (dVar 1) dNil)) dNil)) dNil)))))) (dRet (dC (.bl false))) dNext) (t__law_same_1 sp__law_same))
def t__law_same_3 (sp__law_same : DSp) : DS := (dRet (dAndV (dOp eqD (dCB lenD (dCons (dVar 0) dNil)) (dCB lenD (dCons (dVar 1) dNil))) (dCB allD (dCons (dLc (dZip (dCons (dVar 0) (dCons (dVar 1) dNil))) (gTp (gsCons (gNm 3) (gsCons (gNm 4) gsNil)) 2) dYes (dCall sp__law_same DX0 (dCons (dVar 3) (dCons (dVar 4) dNil))) [3, 4]) dNil))))
def t__law_same_4 (sp__law_same : DSp) : DS := (dSeq (dIfS (dOr (dB (dOp neD (dCB isiD (dCons (dVar 0) (dCons (dC (.ty "list")) dNil))) (dCB isiD (dCons (dVar 1) (dCons (dC (.ty "list")) dNil))))) (dB (dOp neD (dCB isiD (dCons (dVar 0) (dCons (dC (.ty "tuple")) dNil))) (dCB isiD (dCons (dVar 1) (dCons (dC (.ty "tuple")) dNil)))))) (dRet (dC (.bl false))) dNext) (t__law_same_3 sp__law_same))
def t__law_same_5 (sp__law_same : DSp) : DS := (dRet (dAndV (dOp eqD (dCB isiD (dCons (dVar 1) (dCons (dC (.ty "str")) dNil))) (dCB isiD (dCons (dVar 0) (dCons (dC (.ty "str")) dNil)))) (dOp eqD (dVar 0) (dVar 1))))
def t__law_same_6 (sp__law_same : DSp) : DS := (dSeq (dIfS (dOr (dB (dOp neD (dCB isiD (dCons (dVar 1) (dCons (dC (.ty "bool")) dNil))) (dCB isiD (dCons (dVar 0) (dCons (dC (.ty "bool")) dNil))))) (dB (dOp neD (dCB isiD (dCons (dVar 1) (dCons (dC (.ty "int")) dNil))) (dCB isiD (dCons (dVar 0) (dCons (dC (.ty "int")) dNil)))))) (dRet (dC (.bl false))) dNext) (t__law_same_5 sp__law_same))
def t__law_same_7 (sp__law_same : DSp) : DS := (dSeq (dIfS (dB (dCB isiD (dCons (dVar 1) (dCons (dTup (dCons (dC (.ty "list")) (dCons (dC (.ty "tuple")) dNil))) dNil)))) (t__law_same_4 sp__law_same) dNext) (t__law_same_6 sp__law_same))
def t__law_same_8 (sp__law_same : DSp) : DS := (dSeq (dIfS (dB (dCB isiD (dCons (dVar 1) (dCons (dC (.ty "dict")) dNil)))) (t__law_same_2 sp__law_same) dNext) (t__law_same_7 sp__law_same))
def t__law_same (sp__law_same : DSp) : DS := (dSeq (dIfS (dOr (dB (dOp isND (dVar 1) (dC .non))) (dB (dOp isND (dVar 0) (dC .non)))) (dRet (dAndV (dOp isND (dVar 1) (dC .non)) (dOp isND (dVar 0) (dC .non)))) dNext) (t__law_same_8 sp__law_same))
end HB
/-! Shared by the laws of sayings: draws, promises kept. -/
namespace HB
open PySem L2 DL
section
variable {M : Mu} {Q : DK} {b : Addr} {cs : List Int} {i r m n : Int}
theorem bx0 (h : M b = some (bagL cs i r m n)) : ixE (.ref b) (.int 0) M Q = Q (.lst 0 (cs.map .int)) M := by simp [dctT, h, bagL, atI, ixN]
theorem bx1 (h : M b = some (bagL cs i r m n)) : ixE (.ref b) (.int 1) M Q = Q (.int i) M := by simp [dctT, h, bagL, atI, ixN]
theorem bx2 (h : M b = some (bagL cs i r m n)) : ixE (.ref b) (.int 2) M Q = Q (.int r) M := by simp [dctT, h, bagL, atI, ixN]
theorem bx3 (h : M b = some (bagL cs i r m n)) : ixE (.ref b) (.int 3) M Q = Q (.int m) M := by simp [dctT, h, bagL, atI, ixN]
theorem bx4 (h : M b = some (bagL cs i r m n)) : ixE (.ref b) (.int 4) M Q = Q (.int n) M := by simp [dctT, h, bagL, atI, ixN]
abbrev eD (b : Addr) (many : Int) (o2 o3 o4 o5 o6 : Option D) : DEnv := [some (.ref b), some (.int many), o2, o3, o4, o5, o6]
variable {many : Int} {o2 o3 o4 o5 o6 : Option D} {K : DEnv → Mu → Prop}
theorem put1 (v : Int) (h : M b = some (bagL cs i r m n)) (k : K (eD b many o2 o3 o4 o5 o6) (setM M b (bagL cs v r m n))) : gIx (dVar 0) (dC (.int 1)) (.int v) (eD b many o2 o3 o4 o5 o6) M K := by
  simp only [gIx, dC, dVar, List.getElem?_cons_zero, h, bagL]
  exact k
theorem put2 (v : Int) (h : M b = some (bagL cs i r m n)) (k : K (eD b many o2 o3 o4 o5 o6) (setM M b (bagL cs i v m n))) : gIx (dVar 0) (dC (.int 2)) (.int v) (eD b many o2 o3 o4 o5 o6) M K := by
  simp only [gIx, dC, dVar, List.getElem?_cons_zero, h, bagL]
  exact k
theorem put3 (v : Int) (h : M b = some (bagL cs i r m n)) (k : K (eD b many o2 o3 o4 o5 o6) (setM M b (bagL cs i r v n))) : gIx (dVar 0) (dC (.int 3)) (.int v) (eD b many o2 o3 o4 o5 o6) M K := by
  simp only [gIx, dC, dVar, List.getElem?_cons_zero, h, bagL]
  exact k
theorem put4 (v : Int) (h : M b = some (bagL cs i r m n)) (k : K (eD b many o2 o3 o4 o5 o6) (setM M b (bagL cs i r m v))) : gIx (dVar 0) (dC (.int 4)) (.int v) (eD b many o2 o3 o4 o5 o6) M K := by
  simp only [gIx, dC, dVar, List.getElem?_cons_zero, h, bagL]
  exact k
/-- how a draw ends -/
def Ends (Q : DK) (M0 : Mu) (b : Addr) (cs : List Int) (many : Int) : Prop := ∀ k i' r' m' n' : Int, 0 ≤ k → k < many → 0 ≤ i' → (0 ≤ r' ∧ 0 ≤ m' ∧ m' < 4294967296) → Q (.int k) (setM M0 b (bagL cs i' r' m' n'))
theorem draw_11 {M0 : Mu} (e : M = setM M0 b (bagL cs i r m n)) (hi : 0 ≤ i) (hr : 0 ≤ r ∧ 0 ≤ m ∧ m < 4294967296) (h1 : 0 < many) (h2 : many < 1073741824) (q : Ends Q M0 b cs many) :
    t__law_draw_11 { nx := fun _ M' => Q .non M', rt := Q } (eD b many o2 o3 o4 o5 o6) M := by
  have hM : M b = some (bagL cs i r m n) := by rw [e]; exact setM_same
  simp only [t__law_draw_11, dSeq, dIfS, dB, dOp, dC, dVar, List.getElem?_cons_succ, List.getElem?_cons_zero, bx2 hM, gtD, isB]
  by_cases c : 0 < r
  · simp only [c, decide_true, if_true]
    simp only [t__law_draw_6, dSeq, dAsg, dOp, dCB, dCons, dNil, dC, dVar, List.getElem?_cons_succ, List.getElem?_cons_zero, bx2 hM, intD, modD]
    refine ⟨h1, ?_⟩
    simp only [gNm, List.set_cons_succ, List.set_cons_zero]
    simp only [t__law_draw_5, dSeq, dAsg, dOp, dC, dVar, List.getElem?_cons_succ, List.getElem?_cons_zero, bx2 hM, fdivD]
    refine ⟨⟨h1, h2⟩, put2 _ hM ?_⟩
    simp only [dRet, dVar, List.getElem?_cons_succ, List.getElem?_cons_zero]
    rw [e, setM_set]
    exact q _ _ _ _ _ (Int.emod_nonneg _ (by omega)) (Int.emod_lt_of_pos _ h1) hi ⟨Int.ediv_nonneg hr.1 (by omega), hr.2⟩
  · simp only [c, decide_false, Bool.false_eq_true, if_false, dNext]
    simp only [t__law_draw_10, dSeq, dAsg, dOp, dC, dVar, List.getElem?_cons_succ, List.getElem?_cons_zero, bx3 hM]
    simp only [gNm, List.set_cons_succ, List.set_cons_zero]
    simp only [t__law_draw_9, dSeq, dAsg, dOp, dC, dVar, List.getElem?_cons_succ, List.getElem?_cons_zero, bx4 hM, mulE, mulD, addD]
    refine ⟨.inr ⟨by decide, by decide⟩, .inr ⟨by decide, by decide⟩, ?_⟩
    simp only [gNm, List.set_cons_succ, List.set_cons_zero]
    simp only [t__law_draw_8, dSeq, dAsg, dOp, dCB, dCons, dNil, dC, dVar, List.getElem?_cons_succ, List.getElem?_cons_zero, mulE, mulD, addD, intD, modD]
    refine ⟨.inl ⟨by omega, by omega⟩, .inr ⟨by decide, by decide⟩, by decide, put3 _ hM ?_⟩
    generalize hm : (m * m * 23 + (m * 50033 + n * 110051 + 60089)) % 2147483587 = m'
    have hm' : 0 ≤ m' ∧ m' < 2147483587 := by omega
    have hM2 : setM M b (bagL cs i r m' n) b = some (bagL cs i r m' n) := setM_same
    simp only [t__law_draw_7, dRet, dOp, dCB, dCons, dNil, dC, dVar, List.getElem?_cons_succ, List.getElem?_cons_zero, bx3 hM2, intD, modD, fdivD, mulE, mulD, addD]
    refine ⟨⟨by decide, by decide⟩, by decide, .inr ⟨by decide, by decide⟩, h1, ?_⟩
    rw [e, setM_set]
    exact q _ _ _ _ _ (Int.emod_nonneg _ (by omega)) (Int.emod_lt_of_pos _ h1) hi ⟨hr.1, hm'.1, by omega⟩
theorem pure__law_draw : ∀ ds M Q E, spDrawB0 ds M Q E → ds.length = (["_law_bag", "_law_sides"] : List Str).length ∧ t__law_draw { nx := fun _ M' => Q .non M', rt := Q } (startD ["_law_bag", "_law_sides", "_law_cell", "_law_small", "_law_digit", "_law_seed", "_law_step"] ds) M := by
  rintro ds M0 Q E ⟨b, many, cs, i, r, m, n, rfl, hM0, hi, hr, ⟨h1, h2⟩, q⟩
  refine ⟨rfl, ?_⟩
  show t__law_draw { nx := fun _ M' => Q .non M', rt := Q } (eD b many none none none none none) M0
  simp only [t__law_draw, dSeq, dAsg, dOp, dC, dVar, List.getElem?_cons_zero, bx4 hM0, addD]
  refine put4 _ hM0 ?_
  generalize eM : setM M0 b (bagL cs i r m (n + 1)) = M
  have hM : M b = some (bagL cs i r m (n + 1)) := by rw [← eM]; exact setM_same
  simp only [t__law_draw_12, dSeq, dIfS, dAnd, dB, dOp, dCB, dCons, dNil, dC, dVar, List.getElem?_cons_zero, bx2 hM, eqD]
  have eqr : eqB (.int r) (.int 0) = decide (r = 0) := by
    show (r == 0) = _
    rfl
  refine ⟨rfl, ?_⟩
  simp only [eqr, isB]
  have skip : t__law_draw_11 { nx := fun _ M' => Q .non M', rt := Q } (eD b many none none none none none) M := draw_11 eM.symm hi hr h1 h2 q
  by_cases c : r = 0
  · simp only [c, decide_true, if_true]
    subst c
    simp only [bx1 hM, bx0 hM, lenD, ltD, List.length_map, isB]
    by_cases c2 : i < (cs.length : Int)
    · simp only [c2, decide_true, if_true]
      have hat : ∃ z, atI (cs.map D.int) i = some (.int z) := by
        obtain ⟨x, e, hx⟩ := atI_some (xs := cs.map D.int) hi (by simpa using c2)
        obtain ⟨z, _, rfl⟩ := List.mem_map.mp hx
        exact ⟨z, e⟩
      obtain ⟨z, hz⟩ := hat
      have ixz : ∀ {M : Mu} {Q : DK}, Q (.int z) M → ixE (.lst 0 (cs.map D.int)) (.int i) M Q := fun {M Q} q => by
        simp only [ixE, dctT, ixD, hz]
        exact q
      simp only [t__law_draw_4, dSeq, dAsg, dOp, dC, dVar, List.getElem?_cons_zero, bx0 hM, bx1 hM]
      refine ixz ?_
      simp only [gNm, List.set_cons_succ, List.set_cons_zero]
      simp only [t__law_draw_3, dSeq, dAsg, dOp, dC, dVar, List.getElem?_cons_zero, bx1 hM, addD]
      refine put1 _ hM ?_
      generalize eM2 : setM M b (bagL cs (i + 1) 0 m (n + 1)) = M2
      have hM2 : M2 b = some (bagL cs (i + 1) 0 m (n + 1)) := by rw [← eM2]; exact setM_same
      have e2 : M2 = setM M0 b (bagL cs (i + 1) 0 m (n + 1)) := by rw [← eM2, ← eM, setM_set]
      simp only [t__law_draw_2, dIfS, dB, dOp, dCB, dCons, dNil, dC, dVar, List.getElem?_cons_succ, List.getElem?_cons_zero, absD, powD]
      refine ⟨⟨by decide, by decide, by decide⟩, ?_⟩
      simp only [geD, isB]
      generalize decide ((10 : Int) ^ Int.toNat 18 ≤ (if z < 0 then -z else z)) = far
      cases far
      case true =>
        simp only [if_true]
        simp only [dAsg, dCB, dCons, dNil, dVar, List.getElem?_cons_succ, List.getElem?_cons_zero, absD]
        refine put2 _ hM2 ?_
        exact draw_11 (i := i + 1) (by rw [e2, setM_set]) (by omega) ⟨by split <;> omega, hr.2⟩ h1 h2 q
      case false =>
        simp only [Bool.false_eq_true, if_false]
        simp only [dSeq, dAsg, dOp, dCB, dCons, dNil, dC, dVar, List.getElem?_cons_succ, List.getElem?_cons_zero, intD, modD, mulE, mulD, addD]
        refine ⟨by decide, .inr ⟨by decide, by decide⟩, ?_⟩
        simp only [gNm, List.set_cons_succ, List.set_cons_zero]
        simp only [t__law_draw_1, dAsg, dOp, dCB, dCons, dNil, dC, dVar, List.getElem?_cons_succ, List.getElem?_cons_zero, bx3 hM2, intD, modD, mulE, mulD, addD]
        refine ⟨.inr ⟨by decide, by decide⟩, by decide, put3 _ hM2 ?_⟩
        exact draw_11 (i := i + 1) (by rw [e2, setM_set]) (by omega) ⟨by omega, by omega, by omega⟩ h1 h2 q
    · simp only [c2, decide_false, Bool.false_eq_true, if_false, dNext]
      exact skip
  · simp only [c, decide_false, Bool.false_eq_true, if_false, dNext]
    exact skip
theorem cut_all {α : Type} {xs : List α} {n : Nat} (h : xs.length ≤ n) : cut xs none (some (n : Int)) = xs := by
  unfold cut
  rw [HT.sIx_nat, HT.sIx_none, List.drop_zero, Nat.min_eq_right h, Nat.sub_zero, List.take_length]
theorem pure__law_open : ∀ ds M Q E, sp__law_open ds M Q E → ds.length = (["_law_script"] : List Str).length ∧ t__law_open { nx := fun _ M' => Q .non M', rt := Q } (startD ["_law_script", "_law_mixed_here", "_law_cell"] ds) M := by
  rintro ds M Q E ⟨ns, rfl, hl, q⟩
  refine ⟨rfl, ?_⟩
  show t__law_open { nx := fun _ M' => Q .non M', rt := Q } [some (.scr ns), none, none] M
  simp only [t__law_open, dSeq, dAsg, dC, gNm, List.set_cons_succ, List.set_cons_zero]
  simp only [t__law_open_3, dSeq, dFor, dIt, dSl, dNoPart, dPart, dC, dVar, List.getElem?_cons_succ, List.getElem?_cons_zero, slD]
  have ec : cut (ns.map D.int) none (some 63) = ns.map D.int := cut_all (n := 63) (by simpa using hl)
  rw [ec]
  have key : ∀ (l : List Int) (o : Option D) (m : Int), 0 ≤ m → m < 4294967296 → fori (gNm 2) t__law_open_1 (l.map D.int) { nx := t__law_open_2 { nx := fun _ M' => Q .non M', rt := Q }, rt := Q } [some (.scr ns), some (.int m), o] M := by
    intro l
    induction l with
    | nil =>
      intro o m m0 m1
      refine x_nil ?_
      simp only [t__law_open_2, dRet, dBag5, dCB, dSl, dNoPart, dPart, dCons, dNil, dC, dVar, List.getElem?_cons_succ, List.getElem?_cons_zero, slD, ec, lstD]
      exact ⟨⟨ns, 0, 0, m, 0, rfl, hl, by decide, by decide, m0, m1⟩, q⟩
    | cons c l ih =>
      intro o m m0 m1
      rw [List.map_cons]
      refine x_cons ?_
      simp only [gNm, List.set_cons_succ, List.set_cons_zero]
      simp only [t__law_open_1, dAsg, dOp, dCB, dCons, dNil, dC, dVar, List.getElem?_cons_succ, List.getElem?_cons_zero, intD, modD, mulE, mulD, addD]
      refine ⟨.inr ⟨by decide, by decide⟩, by decide, .inr ⟨by decide, by decide⟩, by decide, ?_⟩
      simp only [gNm, List.set_cons_succ, List.set_cons_zero]
      exact ih _ _ (by omega) (by omega)
  exact key ns _ _ (by decide) (by decide)
theorem pure__law_of : ∀ ds M Q E, sp__law_of ds M Q E → ds.length = (["_law_bag", "_law_things"] : List Str).length ∧ t__law_of { nx := fun _ M' => Q .non M', rt := Q } (startD ["_law_bag", "_law_things"] ds) M := by
  rintro ds M Q E ⟨b, d, xs, rfl, hb, hd, ⟨h1, h2⟩, q⟩
  refine ⟨rfl, ?_⟩
  show t__law_of { nx := fun _ M' => Q .non M', rt := Q } [some (.ref b), some d] M
  cases d with
  | lst r ys =>
    cases hd
    simp only [t__law_of, dRet, dOp, dCall, dCB, dCons, dNil, dVar, List.getElem?_cons_succ, List.getElem?_cons_zero, lenD]
    refine ⟨b, xs.length, rfl, hb, ⟨by omega, by omega⟩, fun n h3 h4 => ?_⟩
    obtain ⟨x, e, hx⟩ := atI_some h3 h4
    simp only [ixE, dctT, ixD, e]; exact q x hx
  | tup ys =>
    cases hd
    simp only [t__law_of, dRet, dOp, dCall, dCB, dCons, dNil, dVar, List.getElem?_cons_succ, List.getElem?_cons_zero, lenD]
    refine ⟨b, xs.length, rfl, hb, ⟨by omega, by omega⟩, fun n h3 h4 => ?_⟩
    obtain ⟨x, e, hx⟩ := atI_some h3 h4
    simp only [ixE, dctT, ixD, e]; exact q x hx
  | _ => cases hd
theorem pure__law_same (n : Nat) : ∀ ds M Q E, spSame n ds M Q E → ds.length = (["_law_found", "_law_due"] : List Str).length ∧ t__law_same (spPrev n) { nx := fun _ M' => Q .non M', rt := Q } (startD ["_law_found", "_law_due", "_law_key", "_law_one", "_law_other_z"] ds) M := by
  rintro ds M Q E ⟨x, y, rfl, hx, hy, q⟩
  refine ⟨rfl, ?_⟩
  cases x <;> cases y <;> first
    | (exfalso; cases n <;> exact Bool.noConfusion (show false = true from hx))
    | (exfalso; cases n <;> exact Bool.noConfusion (show false = true from hy))
    | skip
  all_goals simp [t__law_same, t__law_same_8, t__law_same_7, t__law_same_6, t__law_same_5, t__law_same_4, t__law_same_3, t__law_same_2, t__law_same_1, inst, tyN, isA, tyNames, tysOf, DL.isNon]
  all_goals first
    | exact q _ (by simp [py])
    | (refine q _ ?_; rw [beq_iff_eq]; exact ⟨fun h => by rw [h], fun h => by simpa [py] using h⟩)
    | skip
  case lst.lst r1 xs r2 ys =>
    cases n with
    | zero => cases (show false = true from hx)
    | succ n =>
      obtain ⟨h1, h2⟩ := gd_lst hx
      obtain ⟨h3, h4⟩ := gd_lst hy
      split
      · rename_i hl
        have hl' : xs.length = ys.length := by omega
        refine compi_rel (P := fun z d => ∀ x y, z = .tup [x, y] → ∃ k : Bool, d = .bl k ∧ (k = true ↔ py x = py y)) _ _ _ (fun z hz Q hQ => ?_) (by simp [zipD]; omega) (fun ds hp => ?_)
        · unfold zipD at hz
          obtain ⟨p, hp, rfl⟩ := List.mem_map.mp hz
          obtain ⟨m1, m2⟩ := List.of_mem_zip hp
          simp [wipeD]
          exact ⟨_, _, rfl, h2 _ m1, h4 _ m2, fun k hk => hQ _ fun x y e => by
            injection e with e; injection e with e1 e2; injection e2 with e2 _
            exact ⟨k, rfl, by rw [hk, e1, e2]⟩⟩
        · obtain ⟨bs, rfl, hb⟩ := same_all hl' hp
          exact ⟨bs, by simp, q _ (by rw [hb]; simp [py, pyL_map])⟩
      · rename_i hl
        refine q _ ?_
        simp [py, pyL_map]
        intro e
        exact hl (by have := congrArg List.length e; simp at this; omega)
  case tup.tup xs ys =>
    cases n with
    | zero => cases (show false = true from hx)
    | succ n =>
      obtain ⟨h1, h2⟩ := gd_tup hx
      obtain ⟨h3, h4⟩ := gd_tup hy
      split
      · rename_i hl
        have hl' : xs.length = ys.length := by omega
        refine compi_rel (P := fun z d => ∀ x y, z = .tup [x, y] → ∃ k : Bool, d = .bl k ∧ (k = true ↔ py x = py y)) _ _ _ (fun z hz Q hQ => ?_) (by simp [zipD]; omega) (fun ds hp => ?_)
        · unfold zipD at hz
          obtain ⟨p, hp, rfl⟩ := List.mem_map.mp hz
          obtain ⟨m1, m2⟩ := List.of_mem_zip hp
          simp [wipeD]
          exact ⟨_, _, rfl, h2 _ m1, h4 _ m2, fun k hk => hQ _ fun x y e => by
            injection e with e; injection e with e1 e2; injection e2 with e2 _
            exact ⟨k, rfl, by rw [hk, e1, e2]⟩⟩
        · obtain ⟨bs, rfl, hb⟩ := same_all hl' hp
          exact ⟨bs, by simp, q _ (by rw [hb]; simp [py, pyL_map])⟩
      · rename_i hl
        refine q _ ?_
        simp [py, pyL_map]
        intro e
        exact hl (by have := congrArg List.length e; simp at this; omega)
end
end HB
/-! Shared by the laws of sayings: names, regions as they are kept, promises. -/
namespace HB
open PySem L2 DL HS
def small (c : Nat) : Bool := subText ⟨#[c]⟩ "abcdefghijklmnopqrstuvwxyz"
def isName : D → Bool
  | .str z => decide (1 ≤ z.length) && decide (z.length ≤ 6) && z.cps.toList.all small
  | _ => false
def sp_is_name : DSp := fun ds M Q _ => ∃ v, ds = [v] ∧ ty v ∧ (∀ z, v = .str z → z.length ≤ 50000) ∧ Q (.bl (isName v)) M
/-- the first item that is no place -/
def fstOdd : Nat → List D → Option Int
  | _, [] => none
  | k, x :: xs => if isPlace x = true then fstOdd (k + 1) xs else some (k : Int)
def regOdd (v : D) : Option Int := match seq v with
  | none => some (-1)
  | some xs => if 1 ≤ xs.length ∧ xs.length ≤ 40 then fstOdd 0 xs else some (-1)
/-- the members of ks, once each, ascending -/
structure Asc (ks ls : List (List Int)) : Prop where
  mem : ∀ k, k ∈ ls ↔ k ∈ ks
  nd : ls.Nodup
  asc : ls.Pairwise fun a b => TS.code 64 a ≤ TS.code 64 b
def sp_kept_region : DSp := fun ds M Q E => ∃ v, ds = [v] ∧ tyR v ∧ (∀ ks ls, seq v = some (ks.map tupI) → regOdd v = none → Asc ks ls → Q (.tup (ls.map tupI)) M) ∧ (∀ i, regOdd v = some i → E "InvalidRegion" (eRegion i) M)
end HB
/-! Shared by the laws of sayings: readings. Printed by a program of mine. -/
namespace HB
open PySem L2 DL HS
def t_is_name_1 : DS := (dRet (dCB allD (dCons (dLc (dIt (dVar 0)) (gNm 1) dYes (dOp inE (dVar 1) (dC (.str "abcdefghijklmnopqrstuvwxyz"))) [1]) dNil)))
def t_is_name : DS := (dSeq (dIfS (dOr (dNot (dB (dCB isiD (dCons (dVar 0) (dCons (dC (.ty "str")) dNil))))) (dNot (dB (dChain leD leD (dC (.int 1)) (dCB lenD (dCons (dVar 0) dNil)) (dC (.int 6)))))) (dRet (dC (.bl false))) dNext) t_is_name_1)
def t_kept_region_1 (E : DXK) : DS := (dIfS (dNot (dB (dCall sp_is_place DX0 (dCons (dVar 2) dNil)))) (dRaise E "InvalidRegion" 1 fl_InvalidRegion (dCons (dVar 1) dNil)) dNext)
def t_kept_region_2 (E : DXK) : DS := (dSeq (dFor (dEnT (dCons (dVar 0) dNil)) (gTp (gsCons (gNm 1) (gsCons (gNm 2) gsNil)) 2) (t_kept_region_1 E)) (dRet (dCB tupD (dCons (dSortSc 2 (dVar 0)) dNil))))
def t_kept_region (E : DXK) : DS := (dSeq (dIfS (dOr (dNot (dB (dCB isiD (dCons (dVar 0) (dCons (dTup (dCons (dC (.ty "list")) (dCons (dC (.ty "tuple")) dNil))) dNil))))) (dNot (dB (dChain leD leD (dC (.int 1)) (dCB lenD (dCons (dVar 0) dNil)) (dC (.int 40)))))) (dRaise E "InvalidRegion" 1 fl_InvalidRegion (dCons (dNeg (dC (.int 1))) dNil)) dNext) (t_kept_region_2 E))
end HB
/-! Shared by the laws of sayings: names, regions as they are kept, promises kept. -/
namespace HB
open PySem L2 DL HS
theorem pure_is_name : ∀ ds M Q E, sp_is_name ds M Q E → ds.length = (["value"] : List Str).length ∧ t_is_name { nx := fun _ M' => fzK Q .non M', rt := fzK Q } (startD ["value", "letter"] ds) M := by
  rintro ds M Q E ⟨v, rfl, hty, hz, q⟩
  refine ⟨rfl, ?_⟩
  cases v <;> first | (cases (show false = true from hty); done) | skip
  all_goals simp [t_is_name, inst, tyN, isA, tyNames]
  all_goals first | exact fz_same q | skip
  case str z =>
    have h2 := hz z rfl
    refine ⟨by omega, ?_⟩
    simp only [isName] at q
    split
    · split
      · rename_i h3 h4
        rw [decide_eq_false (show ¬ z.length ≤ 6 by omega)] at q
        exact fz_same (by simpa using q)
      · rename_i h3 h4
        rw [decide_eq_true (show 1 ≤ z.length by omega), decide_eq_true (show z.length ≤ 6 by omega)] at q
        simp only [t_is_name_1, dRet, dCB, dLc, dIt, dCons, dNil, dVar, List.getElem?_cons_zero]
        refine compi_of (f := fun ch => .bl (small ch)) _ _ _ (fun ch _ Q h => ?_) (by have : z.cps.size = z.length := rfl; simp; omega) ?_
        · simpa [wipeD, small, dctT] using h
        · refine ⟨z.cps.toList.map small, by simp, fz_same ?_⟩
          simpa using q
    · rename_i h3
      rw [decide_eq_false (show ¬ 1 ≤ z.length by omega)] at q
      exact fz_same (by simpa using q)
theorem place_ints {x : D} (h : isPlace x = true) : ∃ k, x = tupI k ∧ k.length = 3 ∧ TS.Bd 64 k := by
  unfold isPlace at h
  obtain ⟨⟨a, b, c⟩, e⟩ := Option.isSome_iff_exists.mp h
  unfold HS.placeOf at e
  split at e
  · rename_i a1 i j
    split at e
    · rename_i g
      refine ⟨[a1, i, j], rfl, rfl, ?_⟩
      intro z hz
      simp only [List.mem_cons, List.not_mem_nil, or_false] at hz
      rcases hz with rfl | rfl | rfl <;> omega
    · cases e
  · cases e
theorem odd_none : ∀ {xs : List D} {k : Nat}, fstOdd k xs = none → ∃ ks : List (List Int), xs = ks.map tupI ∧ ∀ k ∈ ks, k.length = 3 ∧ TS.Bd 64 k
  | [], _, _ => ⟨[], rfl, fun k hk => by cases hk⟩
  | x :: xs, k, h => by
    rw [fstOdd] at h
    split at h
    · rename_i hx
      obtain ⟨k0, rfl, h1, h2⟩ := place_ints hx
      obtain ⟨ks, rfl, hk⟩ := odd_none h
      refine ⟨k0 :: ks, rfl, fun k hk' => ?_⟩
      rcases List.mem_cons.mp hk' with rfl | z
      · exact ⟨h1, h2⟩
      · exact hk k z
    · cases h
theorem keep_loop {V : D} {M : Mu} {E : DXK} {Z : DEnds} : ∀ (xs : List D) (k : Nat) (o1 o2 : Option D), (∀ x ∈ xs, ty1 x) → (fstOdd k xs = none → ∀ o1 o2, Z.nx [some V, o1, o2] M) →
    (∀ i, fstOdd k xs = some i → E "InvalidRegion" (eRegion i) M) →
    fori (gTp (gsCons (gNm 1) (gsCons (gNm 2) gsNil)) 2) (t_kept_region_1 (fzX E)) (enumD k xs) Z [some V, o1, o2] M
  | [], k, o1, o2, _, q, _ => x_nil (q rfl o1 o2)
  | x :: xs, k, o1, o2, h, q, qe => by
    have hx := h x List.mem_cons_self
    rw [enumD]
    refine x_cons ?_
    simp only [gTp, gsCons, gNm, gsNil, List.set_cons_succ, List.set_cons_zero]
    refine ⟨rfl, ?_⟩
    simp only [t_kept_region_1, dIfS, dNot, dB, dCall, dCons, dNil, dVar, List.getElem?_cons_succ, List.getElem?_cons_zero]
    refine ⟨x, rfl, hx, ?_⟩
    rw [fstOdd] at q qe
    cases e : isPlace x with
    | true =>
      rw [e] at q qe
      simp only [isB, Bool.not_true, Bool.false_eq_true, if_false, dNext]
      exact keep_loop xs (k + 1) _ _ (fun y hy => h y (List.mem_cons_of_mem _ hy)) (fun z => q (by simpa using z)) (fun i z => qe i (by simpa using z))
    | false =>
      rw [e] at qe
      simp only [isB, Bool.not_false, if_true, dRaise, dCons, dNil, dVar, List.getElem?_cons_succ, List.getElem?_cons_zero]
      exact ⟨⟨by simp, by decide⟩, fzX_same (qe _ (by simp))⟩
theorem pure_kept_region : ∀ ds M Q E, sp_kept_region ds M Q E → ds.length = (["region"] : List Str).length ∧ t_kept_region (fzX E) { nx := fun _ M' => fzK Q .non M', rt := fzK Q } (startD ["region", "at", "place"] ds) M := by
  rintro ds M Q E ⟨v, rfl, ⟨hv, hs⟩, q, qe⟩
  refine ⟨rfl, ?_⟩
  show t_kept_region (fzX E) { nx := fun _ M' => fzK Q .non M', rt := fzK Q } [some v, none, none] M
  have hty : (tyN v).isSome = true := hv.1
  have isl : ∀ (M : Mu) (Q : DK), isiD [v, .tup [.ty "list", .ty "tuple"]] M Q = (((tyN v).isSome = true ∧ ∀ n ∈ ["list", "tuple"], n ∈ tyNames) ∧ Q (.bl (seq v).isSome) M) := fun M Q => by
    cases v <;> first | rfl | (simp [isiD, tysOf, inst, tyN, isA, seq])
  simp only [t_kept_region, dSeq, dIfS, dOr, dNot, dB, dCB, dTup, dCons, dNil, dC, dVar, List.getElem?_cons_succ, List.getElem?_cons_zero, isl]
  refine ⟨by simp, ⟨hty, by decide⟩, ?_⟩
  cases es : seq v with
  | none =>
    simp only [Option.isSome_none, isB, Bool.not_false, if_true, dRaise, dNeg, dCons, dNil, dC]
    exact ⟨⟨by simp, by decide⟩, fzX_same (qe _ (by unfold regOdd; rw [es]))⟩
  | some xs =>
    obtain ⟨hl, hx⟩ := hs xs es
    have el : ∀ (M : Mu) (Q : DK), lenD [v] M Q = Q (.int (xs.length : Int)) M := fun M Q => by
      cases v <;> first | (cases es; done) | (injection es with es; subst es; rfl)
    have en : ∀ (ρ : DEnv) (M : Mu) (Q : List D → Mu → Prop), ρ[0]? = some (some v) → dEnT (dCons (dVar 0) dNil) ρ M Q = Q (enumD 0 xs) M := fun ρ M Q hρ => by
      simp only [dEnT, dCons, dNil, dVar, hρ]
      cases v <;> first | (cases es; done) | (injection es with es; subst es; rfl)
    simp only [Option.isSome_some, isB, Bool.not_true, Bool.false_eq_true, if_false, dChain, dCB, dCons, dNil, dC, dVar, List.getElem?_cons_succ, List.getElem?_cons_zero, el, leD]
    by_cases h1 : (1 : Int) ≤ (xs.length : Int)
    · simp only [h1, decide_true, if_true, leD, isB]
      by_cases h2 : (xs.length : Int) ≤ 40
      · simp only [h2, decide_true, Bool.not_true, Bool.false_eq_true, if_false, dNext]
        simp only [t_kept_region_2, dSeq, dFor]
        rw [en _ _ _ rfl]
        have er : regOdd v = fstOdd 0 xs := by
          unfold regOdd
          rw [es]
          exact if_pos ⟨by omega, by omega⟩
        refine keep_loop xs 0 none none hx (fun z o1 o2 => ?_) fun i z => qe i (by rw [er]; exact z)
        obtain ⟨ks, rfl, hk⟩ := odd_none z
        simp only [dRet, dCB, dSortSc, dCons, dNil, dVar, List.getElem?_cons_succ, List.getElem?_cons_zero]
        have es' : seqL v = some (ks.map tupI) := by cases v <;> first | (cases es; done) | exact es
        simp only [List.length_map] at h2
        refine ⟨by simp, ks, 3, 64, es', by omega, by decide, hk, fun ls m1 m2 m3 => ?_⟩
        simp only [tupD]
        exact fz_same (q ks ls es (by rw [er]; exact z) ⟨m1, m2, m3⟩)
      · simp only [h2, decide_false, Bool.not_false, if_true, dRaise, dNeg, dCons, dNil, dC]
        refine ⟨⟨by simp, by decide⟩, fzX_same (qe _ ?_)⟩
        unfold regOdd
        rw [es]
        exact if_neg (by omega)
    · simp only [h1, decide_false, Bool.false_eq_true, if_false, isB, Bool.not_false, if_true, dRaise, dNeg, dCons, dNil, dC]
      refine ⟨⟨by simp, by decide⟩, fzX_same (qe _ ?_)⟩
      unfold regOdd
      rw [es]
      exact if_neg (by omega)
end HB
/-! Shared by the laws of sayings: sayings made, promises. -/
namespace HB
open PySem L2 DL HS
def sayF (kd g : D) (rs ns : List D) : List (Str × D) := [("kind", kd), ("gauge", g), ("held_regions", .tup rs), ("held_numbers", .tup ns)]
/-- a saying that is let go of -/
def sayD (kd g : D) (rs ns : List D) : D := .obj "Saying" (sayF kd g rs ns)
def sp_Saying___init__ : DSp := fun ds M Q _ => ∃ a kd R N g rs ns, ds = [.ref a, kd, R, N, g] ∧ M a = some (.ins "Saying" []) ∧ seq R = some rs ∧ seq N = some ns ∧ Q .non (setM M a (.ins "Saying" (sayF kd g rs ns)))
/-- parts that stand as they are when they are let go of -/
def plainS (kd g : D) (rs ns : List D) : Prop := plainN 3 kd = true ∧ plainN 3 g = true ∧ rs.all (plainN 4) = true ∧ ns.all (plainN 4) = true
def fl_InvalidGauge : List (Str × (Sum Str Nat)) := [("value", .inr 0), ("code", .inl "InvalidGauge")]
def fl_InvalidPlace : List (Str × (Sum Str Nat)) := [("value", .inr 0), ("code", .inl "InvalidPlace")]
def eGauge (v : D) : List (Str × D) := mkF D.str .non fl_InvalidGauge [v]
def ePlaceS (v : D) : List (Str × D) := mkF D.str .non fl_InvalidPlace [v]
def gaugeOk (v : D) : Bool := isNon v || isName v
def sp_check_gauge : DSp := fun ds M Q E => ∃ v, ds = [v] ∧ ty v ∧ (∀ z, v = .str z → z.length ≤ 50000) ∧ (gaugeOk v = true → Q .non M) ∧ (gaugeOk v = false → E "InvalidGauge" (eGauge v) M)
def sp_kept_place : DSp := fun ds M Q E => ∃ v, ds = [v] ∧ ty1 v ∧ (isPlace v = true → Q (.tup [v]) M) ∧ (isPlace v = false → E "InvalidPlace" (ePlaceS v) M)
end HB
/-! Shared by the laws of sayings: readings. Printed by a program of mine. -/
namespace HB
open PySem L2 DL HS
def t_Saying___init___1 : DS := (dSetF "Saying" "held_numbers" (dVar 0) (dCB tupD (dCons (dVar 3) dNil)))
def t_Saying___init___2 : DS := (dSeq (dSetF "Saying" "held_regions" (dVar 0) (dCB tupD (dCons (dVar 2) dNil))) t_Saying___init___1)
def t_Saying___init___3 : DS := (dSeq (dSetF "Saying" "gauge" (dVar 0) (dVar 4)) t_Saying___init___2)
def t_Saying___init__ : DS := (dSeq (dSetF "Saying" "kind" (dVar 0) (dVar 1)) t_Saying___init___3)
def t_check_gauge (E : DXK) : DS := (dIfS (dAnd (dB (dOp notND (dVar 0) (dC .non))) (dNot (dB (dCall sp_is_name DX0 (dCons (dVar 0) dNil))))) (dRaise E "InvalidGauge" 1 fl_InvalidGauge (dCons (dVar 0) dNil)) dNext)
def t_kept_place (E : DXK) : DS := (dSeq (dIfS (dNot (dB (dCall sp_is_place DX0 (dCons (dVar 0) dNil)))) (dRaise E "InvalidPlace" 1 fl_InvalidPlace (dCons (dVar 0) dNil)) dNext) (dRet (dTup (dCons (dVar 0) dNil))))
end HB
/-! Shared by the laws of sayings: sayings made, promises kept. -/
namespace HB
open PySem L2 DL HS
theorem tup_seq {v : D} {xs : List D} {M : Mu} {Q : DK} (h : seq v = some xs) (q : Q (.tup xs) M) : tupD [v] M Q := by
  cases v <;> first | (cases h; done) | skip
  all_goals (cases h; exact q)
theorem pure_Saying___init__ : ∀ ds M Q E, sp_Saying___init__ ds M Q E → ds.length = (["self", "kind", "regions", "numbers", "gauge"] : List Str).length ∧ t_Saying___init__ { nx := fun _ M' => fzK Q .non M', rt := fzK Q } (startD ["self", "kind", "regions", "numbers", "gauge"] ds) M := by
  rintro ds M Q E ⟨a, kd, R, N, g, rs, ns, rfl, ha, hR, hN, q⟩
  refine ⟨rfl, ?_⟩
  show t_Saying___init__ { nx := fun _ M' => fzK Q .non M', rt := fzK Q } [some (.ref a), some kd, some R, some N, some g] M
  simp only [t_Saying___init__, dSeq, dSetF, dVar, List.getElem?_cons_succ, List.getElem?_cons_zero, ha]
  refine ⟨by simp, by simp, ?_⟩
  have p1 : putD ("kind" : Str) kd [] = [(("kind" : Str), kd)] := rfl
  rw [p1]
  simp only [t_Saying___init___3, dSeq, dSetF, dVar, List.getElem?_cons_succ, List.getElem?_cons_zero, setM_same, setM_set]
  refine ⟨by simp, by simp, ?_⟩
  have p2 : putD ("gauge" : Str) g [(("kind" : Str), kd)] = [(("kind" : Str), kd), (("gauge" : Str), g)] := rfl
  rw [p2]
  simp only [t_Saying___init___2, dSeq, dSetF, dCB, dCons, dNil, dVar, List.getElem?_cons_succ, List.getElem?_cons_zero]
  refine tup_seq hR ?_
  simp only [setM_same, setM_set]
  refine ⟨by simp, by simp, ?_⟩
  have p3 : putD ("held_regions" : Str) (.tup rs) [(("kind" : Str), kd), (("gauge" : Str), g)] = [(("kind" : Str), kd), (("gauge" : Str), g), (("held_regions" : Str), .tup rs)] := rfl
  rw [p3]
  simp only [t_Saying___init___1, dSetF, dCB, dCons, dNil, dVar, List.getElem?_cons_succ, List.getElem?_cons_zero]
  refine tup_seq hN ?_
  simp only [setM_same, setM_set]
  refine ⟨by simp, by simp, ?_⟩
  have p4 : putD ("held_numbers" : Str) (.tup ns) [(("kind" : Str), kd), (("gauge" : Str), g), (("held_regions" : Str), .tup rs)] = sayF kd g rs ns := rfl
  rw [p4]
  exact fz_same q
/-- a saying is made and let go of -/
theorem make_say {M : Mu} {Q : DK} {E : DXK} {a : Addr} {kd R N g : D} {rs ns : List D} (hR : seq R = some rs) (hN : seq N = some ns) (hp : plainS kd g rs ns) (ha : M a = none) (q : Q (sayD kd g rs ns) M) :
    sp_Saying___init__ [.ref a, kd, R, N, g] (setM M a (.ins "Saying" [])) (fun d M2 => d = .non ∧ fzK Q (.ref a) M2) E := by
  refine ⟨a, kd, R, N, g, rs, ns, rfl, setM_same, hR, hN, rfl, ?_⟩
  rw [setM_set]
  refine fz_new (M0 := M) ((Ex.refl _).set ha) ?_
  have e5 : DL.rs (setM M a (.ins "Saying" (sayF kd g rs ns))) (newIn M) 9 (.ref a) = .obj "Saying" ((sayF kd g rs ns).map fun p => (p.1, DL.rs (setM M a (.ins "Saying" (sayF kd g rs ns))) (newIn M) 8 p.2)) := by
    rw [DL.rs, if_pos ha, setM_same]
  rw [e5]
  have t1 : plainN 5 (.tup rs) = true := hp.2.2.1
  have t2 : plainN 5 (.tup ns) = true := hp.2.2.2
  simp only [sayF, List.map_cons, List.map_nil, rs_plain hp.1, rs_plain hp.2.1, rs_plain t1, rs_plain t2]
  exact q
theorem pure_check_gauge : ∀ ds M Q E, sp_check_gauge ds M Q E → ds.length = (["gauge"] : List Str).length ∧ t_check_gauge (fzX E) { nx := fun _ M' => fzK Q .non M', rt := fzK Q } (startD ["gauge"] ds) M := by
  rintro ds M Q E ⟨v, rfl, hv, hz, q, qe⟩
  refine ⟨rfl, ?_⟩
  show t_check_gauge (fzX E) { nx := fun _ M' => fzK Q .non M', rt := fzK Q } [some v] M
  have en : ∀ (M : Mu) (Q : DK), notND v .non M Q = Q (.bl (!isNon v)) M := fun M Q => by cases v <;> rfl
  simp only [t_check_gauge, dIfS, dAnd, dNot, dB, dOp, dCall, dCons, dNil, dC, dVar, List.getElem?_cons_zero, en, isB]
  cases e : isNon v with
  | true =>
    simp only [Bool.not_true, Bool.false_eq_true, if_false, dNext]
    exact fz_same (q (by unfold gaugeOk; rw [e]; rfl))
  | false =>
    simp only [Bool.not_false, if_true]
    refine ⟨v, rfl, hv, hz, ?_⟩
    cases e2 : isName v with
    | true =>
      simp only [Bool.not_true, Bool.false_eq_true, if_false, dNext]
      exact fz_same (q (by unfold gaugeOk; rw [e2]; simp))
    | false =>
      simp only [Bool.not_false, if_true, dRaise, dCons, dNil, dVar, List.getElem?_cons_zero]
      exact ⟨⟨by simp, by decide⟩, fzX_same (qe (by unfold gaugeOk; rw [e, e2]; rfl))⟩
theorem pure_kept_place : ∀ ds M Q E, sp_kept_place ds M Q E → ds.length = (["place"] : List Str).length ∧ t_kept_place (fzX E) { nx := fun _ M' => fzK Q .non M', rt := fzK Q } (startD ["place"] ds) M := by
  rintro ds M Q E ⟨v, rfl, hv, q, qe⟩
  refine ⟨rfl, ?_⟩
  show t_kept_place (fzX E) { nx := fun _ M' => fzK Q .non M', rt := fzK Q } [some v] M
  simp only [t_kept_place, dSeq, dIfS, dNot, dB, dCall, dCons, dNil, dVar, List.getElem?_cons_zero]
  refine ⟨v, rfl, hv, ?_⟩
  cases e : isPlace v with
  | true =>
    simp only [isB, Bool.not_true, Bool.false_eq_true, if_false, dNext, dRet, dTup, dCons, dNil, dVar, List.getElem?_cons_zero]
    exact ⟨by simp, fz_same (q e)⟩
  | false =>
    simp only [isB, Bool.not_false, if_true, dRaise, dCons, dNil, dVar, List.getElem?_cons_zero]
    exact ⟨⟨by simp, by decide⟩, fzX_same (qe e)⟩
end HB
/-! Shared by the laws of sayings: numbers and their bounds, promises. -/
namespace HB
open PySem L2 DL HS
def bT : List (Str × List (Int × Int)) := [("atmost", [(0, 99)]), ("atleast", [(1, 100)]), ("exactly", [(0, 99)]), ("under", [(-100, 99)]), ("level", [(-99, 99)]), ("ifthen", [(1, 100), (1, 100)]), ("squallmost", [(0, 99)]), ("squallleast", [(1, 100)])]
def bC (p : Int × Int) : D := .cst [.int p.1, .int p.2]
/-- the numbers that are not within their bounds -/
def oddN : List D → List (Int × Int) → List D
  | x :: xs, b :: bs => if isNum x b.1 b.2 = true then oddN xs bs else x :: oddN xs bs
  | _, _ => []
def sp_first_outside : DSp := fun ds M Q _ => ∃ kd bd nums, ds = [.str kd, .lst 0 nums] ∧ bT.lookup kd = some bd ∧ nums.length ≤ 1000 ∧ (∀ x ∈ nums, ty x) ∧ Q (.lst 0 ((oddN nums bd).take 1)) M
def fl_InvalidNumber : List (Str × (Sum Str Nat)) := [("value", .inr 0), ("code", .inl "InvalidNumber")]
def eNum (v : D) : List (Str × D) := mkF D.str .non fl_InvalidNumber [v]
def sp_made : DSp := fun ds M Q E => ∃ kd bd R rs nums g, ds = [.str kd, R, .lst 0 nums, g] ∧ seq R = some rs ∧ rs.all (plainN 4) = true ∧ bT.lookup kd = some bd ∧ nums.length = bd.length ∧ (∀ x ∈ nums, ty x) ∧ ty g ∧ (∀ z, g = .str z → z.length ≤ 50000) ∧
  (∀ x l, oddN nums bd = x :: l → E "InvalidNumber" (eNum x) M) ∧ (oddN nums bd = [] → gaugeOk g = false → E "InvalidGauge" (eGauge g) M) ∧ (oddN nums bd = [] → gaugeOk g = true → Q (sayD (.str kd) g rs nums) M)
end HB
/-! Shared by the laws of sayings: readings. Printed by a program of mine. -/
namespace HB
open PySem L2 DL HS
def t_first_outside : DS := (dSeq (dAsg (dLc (dZipC (dCons (dVar 1) (dCons (dIxK kv_BOUNDS (dVar 0)) dNil))) (gTp (gsCons (gNm 3) (gsCons (gTp (gsCons (gNm 4) (gsCons (gNm 5) gsNil)) 2) gsNil)) 2) (dNot (dB (dCall sp_is_number DX0 (dCons (dVar 3) (dCons (dVar 4) (dCons (dVar 5) dNil)))))) (dVar 3) [3, 4, 5]) (gNm 2)) (dRet (dSl (dVar 2) dNoPart (dPart (dC (.int 1))))))
def t_made_1 (E : DXK) : DS := (dRet (dMake "Saying" sp_Saying___init__ DX0 4 0 (fun ds es => ds ++ es) (dCons (dVar 0) (dCons (dVar 1) (dCons (dVar 2) (dCons (dVar 3) dNil)))) dNil))
def t_made_2 (E : DXK) : DS := (dSeq (dDrop (dCall sp_check_gauge E (dCons (dVar 3) dNil))) (t_made_1 E))
def t_made_3 (E : DXK) : DS := (dSeq (dIfS (dB (dOp gtD (dCB lenD (dCons (dVar 4) dNil)) (dC (.int 0)))) (dRaise E "InvalidNumber" 1 fl_InvalidNumber (dCons (dOp ixE (dVar 4) (dC (.int 0))) dNil)) dNext) (t_made_2 E))
def t_made (E : DXK) : DS := (dSeq (dAsg (dCall sp_first_outside DX0 (dCons (dVar 0) (dCons (dVar 2) dNil))) (gNm 4)) (t_made_3 E))
end HB
/-! Shared by the laws of sayings: numbers and their bounds, promises kept. -/
namespace HB
open PySem L2 DL HS
theorem kv_map : kv_BOUNDS = bT.map fun p => (p.1, D.cst (p.2.map bC)) := rfl
theorem look_map {kd : Str} : ∀ {l : List (Str × List (Int × Int))} {bd : List (Int × Int)}, l.lookup kd = some bd → (l.map fun p => (p.1, D.cst (p.2.map bC))).lookup kd = some (.cst (bd.map bC))
  | [], _, h => by cases h
  | (k, b) :: l, bd, h => by
    rw [List.map_cons, List.lookup_cons]
    rw [List.lookup_cons] at h
    cases e : kd == k with
    | true => rw [e] at h; cases h; rfl
    | false => rw [e] at h; exact look_map h
theorem odd_comp {M : Mu} {ρ : DEnv} {Q : DK} (h3 : ∀ a b d, (((ρ.set 3 (some a)).set 4 (some b)).set 5 (some d))[3]? = some (some a)) (h4 : ∀ a b d, (((ρ.set 3 (some a)).set 4 (some b)).set 5 (some d))[4]? = some (some b)) (h5 : ∀ a b d, (((ρ.set 3 (some a)).set 4 (some b)).set 5 (some d))[5]? = some (some d)) :
    ∀ (nums : List D) (bd : List (Int × Int)) (acc : List D), (∀ x ∈ nums, ty x) → acc.length + nums.length ≤ 80000 → Q (.lst 0 (acc ++ oddN nums bd)) M →
    compi (gTp (gsCons (gNm 3) (gsCons (gTp (gsCons (gNm 4) (gsCons (gNm 5) gsNil)) 2) gsNil)) 2) (dNot (dB (dCall sp_is_number DX0 (dCons (dVar 3) (dCons (dVar 4) (dCons (dVar 5) dNil)))))) (dVar 3) ρ (zipD nums (bd.map bC)) acc M Q
  | [], bd, acc, _, _, q => by simpa [compi, zipD, oddN] using q
  | x :: xs, [], acc, _, _, q => by simpa [compi, zipD, oddN] using q
  | x :: xs, b :: bs, acc, h, hl, q => by
    simp only [List.length_cons] at hl
    have e0 : zipD (x :: xs) ((b :: bs).map bC) = .tup [x, bC b] :: zipD xs (bs.map bC) := rfl
    rw [e0, compi]
    simp only [gTp, gsCons, gNm, gsNil, bC, dNot, dB, dCall, dCons, dNil, dVar, h3, h4, h5]
    refine ⟨rfl, rfl, x, b.1, b.2, rfl, h x List.mem_cons_self, ?_⟩
    rw [oddN] at q
    cases e : isNum x b.1 b.2 with
    | true =>
      rw [e] at q
      simp only [isB, Bool.not_true, Bool.false_eq_true, if_false]
      exact odd_comp h3 h4 h5 xs bs acc (fun y hy => h y (List.mem_cons_of_mem _ hy)) (by omega) (by simpa using q)
    | false =>
      rw [e] at q
      simp only [isB, Bool.not_false, if_true]
      refine ⟨by omega, ?_⟩
      exact odd_comp h3 h4 h5 xs bs (acc ++ [x]) (fun y hy => h y (List.mem_cons_of_mem _ hy)) (by simp; omega) (by simpa using q)
theorem pure_first_outside : ∀ ds M Q E, sp_first_outside ds M Q E → ds.length = (["kind", "numbers"] : List Str).length ∧ t_first_outside { nx := fun _ M' => fzK Q .non M', rt := fzK Q } (startD ["kind", "numbers", "wrong", "number", "least", "most"] ds) M := by
  rintro ds M Q E ⟨kd, bd, nums, rfl, hb, hl, hx, q⟩
  refine ⟨rfl, ?_⟩
  show t_first_outside { nx := fun _ M' => fzK Q .non M', rt := fzK Q } [some (.str kd), some (.lst 0 nums), none, none, none, none] M
  have hk : kv_BOUNDS.lookup kd = some (.cst (bd.map bC)) := by rw [kv_map]; exact look_map hb
  simp only [t_first_outside, dSeq, dAsg, dLc, dZipC, dIxK, dCons, dNil, dVar, List.getElem?_cons_succ, List.getElem?_cons_zero, hk]
  refine odd_comp ?_ ?_ ?_ nums bd [] hx (by simp; omega) ?_
  · exact fun _ _ _ => rfl
  · exact fun _ _ _ => rfl
  · exact fun _ _ _ => rfl
  rw [List.nil_append]
  simp only [gNm, List.set_cons_succ, List.set_cons_zero]
  simp only [dRet, dSl, dNoPart, dPart, dC, dVar, List.getElem?_cons_succ, List.getElem?_cons_zero, slD]
  have ec : cut (oddN nums bd) none (some 1) = (oddN nums bd).take 1 := by
    unfold cut
    cases oddN nums bd <;> simp [HT.sIx]
  rw [ec]
  exact fz_same q
theorem odd_plain : ∀ {nums : List D} {bd : List (Int × Int)}, nums.length = bd.length → oddN nums bd = [] → nums.all (plainN 4) = true
  | [], _, _, _ => rfl
  | x :: xs, [], h, _ => by cases h
  | x :: xs, b :: bs, h, e => by
    rw [oddN] at e
    cases hx : isNum x b.1 b.2 with
    | false => rw [hx] at e; simp at e
    | true =>
      rw [hx] at e
      rw [List.all_cons, odd_plain (by simpa using h) (by simpa using e), Bool.and_true]
      cases x <;> first | rfl | (cases hx)
theorem gauge_plain {g : D} (h : gaugeOk g = true) : plainN 3 g = true := by
  cases g <;> first | rfl | (simp [gaugeOk, isName, DL.isNon] at h; done) | (exact absurd h (by decide)) | (exact absurd (show false = true from h) (by decide))
theorem pure_made : ∀ ds M Q E, sp_made ds M Q E → ds.length = (["kind", "regions", "numbers", "gauge"] : List Str).length ∧ t_made (fzX E) { nx := fun _ M' => fzK Q .non M', rt := fzK Q } (startD ["kind", "regions", "numbers", "gauge", "wrong"] ds) M := by
  rintro ds M Q E ⟨kd, bd, R, rs, nums, g, rfl, hR, hp, hb, hl, hx, hg, hz, qn, qg, q⟩
  refine ⟨rfl, ?_⟩
  show t_made (fzX E) { nx := fun _ M' => fzK Q .non M', rt := fzK Q } [some (.str kd), some R, some (.lst 0 nums), some g, none] M
  have hbl : bd.length ≤ 2 := by
    have : ∀ p ∈ bT, p.2.length ≤ 2 := by decide
    exact this (kd, bd) (by
      have h := hb
      clear hb
      generalize bT = l at h
      induction l with
      | nil => cases h
      | cons p l ih =>
        obtain ⟨k, b⟩ := p
        rw [List.lookup_cons] at h
        cases e : kd == k with
        | true => rw [e] at h; cases h; rw [eq_of_beq e]; exact List.mem_cons_self
        | false => rw [e] at h; exact List.mem_cons_of_mem _ (ih h))
  simp only [t_made, dSeq, dAsg, dCall, dCons, dNil, dVar, List.getElem?_cons_succ, List.getElem?_cons_zero]
  refine ⟨kd, bd, nums, rfl, hb, by omega, hx, ?_⟩
  simp only [gNm, List.set_cons_succ, List.set_cons_zero]
  simp only [t_made_3, dSeq, dIfS, dB, dOp, dCB, dCons, dNil, dC, dVar, List.getElem?_cons_succ, List.getElem?_cons_zero, lenD, gtD, isB]
  cases e : oddN nums bd with
  | cons x l =>
    have c : (0 : Int) < ((List.take 1 (x :: l)).length : Int) := by simp
    simp only [c, decide_true, if_true]
    simp only [dRaise, dOp, dCons, dNil, dC, dVar, List.getElem?_cons_succ, List.getElem?_cons_zero]
    refine ix_seq (v := .lst 0 [x]) (m := 0) rfl rfl ?_
    exact ⟨⟨by simp, by decide⟩, fzX_same (qn x l e)⟩
  | nil =>
    have c : ¬ (0 : Int) < ((List.take 1 ([] : List D)).length : Int) := by simp
    simp only [c, decide_false, Bool.false_eq_true, if_false]
    simp only [dNext, t_made_2, dSeq, dDrop, dCall, dCons, dNil, dVar, List.getElem?_cons_succ, List.getElem?_cons_zero]
    refine ⟨g, rfl, hg, hz, fun hok => ?_, fun hno => fzX_same (qg e hno)⟩
    simp only [t_made_1, dRet, dMake, dCons, dNil, dVar, List.getElem?_cons_succ, List.getElem?_cons_zero]
    refine ⟨rfl, rfl, fun a ha => ?_⟩
    exact make_say (N := .lst 0 nums) hR rfl ⟨rfl, gauge_plain hok, hp, odd_plain hl e⟩ ha (q e hok)
end HB
/-! Shared by the laws of sayings: the functions that make them, promises. -/
namespace HB
open PySem L2 DL HS
def regD (ls : List (List Int)) : D := .tup (ls.map tupI)
/-- what is asked of a gauge that is handed in -/
def tyG (g : D) : Prop := ty g ∧ ∀ z, g = .str z → z.length ≤ 50000
/-- a saying of one region -/
def spOne (kd : Str) : DSp := fun ds M Q E => ∃ v n g b, ds = [v, n, g] ∧ bT.lookup kd = some [b] ∧ tyR v ∧ ty n ∧ tyG g ∧ (∀ i, regOdd v = some i → E "InvalidRegion" (eRegion i) M) ∧
  (regOdd v = none → isNum n b.1 b.2 = false → E "InvalidNumber" (eNum n) M) ∧ (regOdd v = none → isNum n b.1 b.2 = true → gaugeOk g = false → E "InvalidGauge" (eGauge g) M) ∧
  (∀ ks ls, seq v = some (ks.map tupI) → regOdd v = none → Asc ks ls → isNum n b.1 b.2 = true → gaugeOk g = true → Q (sayD (.str kd) g [regD ls] [n]) M)
/-- a saying of one place -/
def spPlace (kd : Str) : DSp := fun ds M Q E => ∃ v n g b, ds = [v, n, g] ∧ bT.lookup kd = some [b] ∧ ty1 v ∧ ty n ∧ tyG g ∧ (isPlace v = false → E "InvalidPlace" (ePlaceS v) M) ∧
  (isPlace v = true → isNum n b.1 b.2 = false → E "InvalidNumber" (eNum n) M) ∧ (isPlace v = true → isNum n b.1 b.2 = true → gaugeOk g = false → E "InvalidGauge" (eGauge g) M) ∧
  (isPlace v = true → isNum n b.1 b.2 = true → gaugeOk g = true → Q (sayD (.str kd) g [.tup [v]] [n]) M)
/-- what a saying of two regions does -/
def two (kd : Str) (v u g : D) (nums : List D) (bd : List (Int × Int)) (M : Mu) (Q : DK) (E : DXK) : Prop := bT.lookup kd = some bd ∧ nums.length = bd.length ∧ tyR v ∧ tyR u ∧ (∀ x ∈ nums, ty x) ∧ tyG g ∧
  (∀ i, regOdd v = some i → E "InvalidRegion" (eRegion i) M) ∧ (∀ i, regOdd v = none → regOdd u = some i → E "InvalidRegion" (eRegion i) M) ∧
  (∀ x l, regOdd v = none → regOdd u = none → oddN nums bd = x :: l → E "InvalidNumber" (eNum x) M) ∧ (regOdd v = none → regOdd u = none → oddN nums bd = [] → gaugeOk g = false → E "InvalidGauge" (eGauge g) M) ∧
  (∀ ks ls ks2 ls2, seq v = some (ks.map tupI) → seq u = some (ks2.map tupI) → regOdd v = none → regOdd u = none → Asc ks ls → Asc ks2 ls2 → oddN nums bd = [] → gaugeOk g = true → Q (sayD (.str kd) g [regD ls, regD ls2] nums) M)
def sp_at_most : DSp := spOne "atmost"
def sp_at_least : DSp := spOne "atleast"
def sp_exactly : DSp := spOne "exactly"
def sp_squall_most : DSp := spPlace "squallmost"
def sp_squall_least : DSp := spPlace "squallleast"
def sp_under : DSp := fun ds M Q E => ∃ v u n g bd, ds = [v, u, n, g] ∧ two "under" v u g [n] bd M Q E
def sp_level : DSp := fun ds M Q E => ∃ v u n g bd, ds = [v, u, n, g] ∧ two "level" v u g [n] bd M Q E
def sp_if_then : DSp := fun ds M Q E => ∃ v n u m g bd, ds = [v, n, u, m, g] ∧ two "ifthen" v u g [n, m] bd M Q E
end HB
/-! Shared by the laws of sayings: readings. Printed by a program of mine. -/
namespace HB
open PySem L2 DL HS
def t_at_most (E : DXK) : DS := (dRet (dCall sp_made E (dCons (dC (.str "atmost")) (dCons (dLst (dCons (dCall sp_kept_region E (dCons (dVar 0) dNil)) dNil)) (dCons (dLst (dCons (dVar 1) dNil)) (dCons (dVar 2) dNil))))))
def t_at_least (E : DXK) : DS := (dRet (dCall sp_made E (dCons (dC (.str "atleast")) (dCons (dLst (dCons (dCall sp_kept_region E (dCons (dVar 0) dNil)) dNil)) (dCons (dLst (dCons (dVar 1) dNil)) (dCons (dVar 2) dNil))))))
def t_exactly (E : DXK) : DS := (dRet (dCall sp_made E (dCons (dC (.str "exactly")) (dCons (dLst (dCons (dCall sp_kept_region E (dCons (dVar 0) dNil)) dNil)) (dCons (dLst (dCons (dVar 1) dNil)) (dCons (dVar 2) dNil))))))
def t_squall_most (E : DXK) : DS := (dRet (dCall sp_made E (dCons (dC (.str "squallmost")) (dCons (dLst (dCons (dCall sp_kept_place E (dCons (dVar 0) dNil)) dNil)) (dCons (dLst (dCons (dVar 1) dNil)) (dCons (dVar 2) dNil))))))
def t_squall_least (E : DXK) : DS := (dRet (dCall sp_made E (dCons (dC (.str "squallleast")) (dCons (dLst (dCons (dCall sp_kept_place E (dCons (dVar 0) dNil)) dNil)) (dCons (dLst (dCons (dVar 1) dNil)) (dCons (dVar 2) dNil))))))
def t_under (E : DXK) : DS := (dRet (dCall sp_made E (dCons (dC (.str "under")) (dCons (dLst (dCons (dCall sp_kept_region E (dCons (dVar 0) dNil)) (dCons (dCall sp_kept_region E (dCons (dVar 1) dNil)) dNil))) (dCons (dLst (dCons (dVar 2) dNil)) (dCons (dVar 3) dNil))))))
def t_level (E : DXK) : DS := (dRet (dCall sp_made E (dCons (dC (.str "level")) (dCons (dLst (dCons (dCall sp_kept_region E (dCons (dVar 0) dNil)) (dCons (dCall sp_kept_region E (dCons (dVar 1) dNil)) dNil))) (dCons (dLst (dCons (dVar 2) dNil)) (dCons (dVar 3) dNil))))))
def t_if_then (E : DXK) : DS := (dRet (dCall sp_made E (dCons (dC (.str "ifthen")) (dCons (dLst (dCons (dCall sp_kept_region E (dCons (dVar 0) dNil)) (dCons (dCall sp_kept_region E (dCons (dVar 2) dNil)) dNil))) (dCons (dLst (dCons (dVar 1) (dCons (dVar 3) dNil))) (dCons (dVar 4) dNil))))))
end HB
/-! Shared by the laws of sayings: the functions that make them, promises kept. -/
namespace HB
open PySem L2 DL HS
theorem regD_plain (ls : List (List Int)) : plainN 4 (regD ls) = true := by
  show (ls.map tupI).all (plainN 3) = true
  rw [List.all_eq_true]
  intro x hx
  obtain ⟨k, _, rfl⟩ := List.mem_map.mp hx
  show (k.map D.int).all (plainN 2) = true
  rw [List.all_eq_true]
  intro y hy
  obtain ⟨i, _, rfl⟩ := List.mem_map.mp hy
  rfl
theorem made_one {kd : Str} {rs : List D} {n g : D} {b : Int × Int} {M : Mu} {Q : DK} {E : DXK} (hb : bT.lookup kd = some [b]) (hp : rs.all (plainN 4) = true) (hn : ty n) (hg : tyG g) (q1 : isNum n b.1 b.2 = false → E "InvalidNumber" (eNum n) M)
    (q2 : isNum n b.1 b.2 = true → gaugeOk g = false → E "InvalidGauge" (eGauge g) M) (q3 : isNum n b.1 b.2 = true → gaugeOk g = true → Q (sayD (.str kd) g rs [n]) M) : sp_made [.str kd, .lst 0 rs, .lst 0 [n], g] M Q E := by
  have eo : oddN [n] [b] = if isNum n b.1 b.2 = true then [] else [n] := rfl
  refine ⟨kd, [b], .lst 0 rs, rs, [n], g, rfl, rfl, hp, hb, rfl, fun x hx => by rw [List.mem_singleton.mp hx]; exact hn, hg.1, hg.2, fun x l e => ?_, fun e h => ?_, fun e h => ?_⟩
  · rw [eo] at e
    cases c : isNum n b.1 b.2 with
    | true => rw [c] at e; simp at e
    | false => rw [c] at e; simp at e; obtain ⟨rfl, _⟩ := e; exact q1 c
  · rw [eo] at e
    cases c : isNum n b.1 b.2 with
    | true => exact q2 c h
    | false => rw [c] at e; simp at e
  · rw [eo] at e
    cases c : isNum n b.1 b.2 with
    | true => exact q3 c h
    | false => rw [c] at e; simp at e
theorem pure_at_most : ∀ ds M Q E, sp_at_most ds M Q E → ds.length = (["region", "limit", "gauge"] : List Str).length ∧ t_at_most (fzX E) { nx := fun _ M' => fzK Q .non M', rt := fzK Q } (startD ["region", "limit", "gauge"] ds) M := by
  rintro ds M Q E ⟨v, n, g, b, rfl, hb, hv, hn, hg, qr, qn, qg, q⟩
  refine ⟨rfl, ?_⟩
  show t_at_most (fzX E) { nx := fun _ M' => fzK Q .non M', rt := fzK Q } [some v, some n, some g] M
  simp only [t_at_most, dRet, dCall, dLst, dCons, dNil, dC, dVar, List.getElem?_cons_succ, List.getElem?_cons_zero]
  refine ⟨v, rfl, hv, fun ks ls es hr ha => ⟨by simp, by simp, ?_⟩, fun i hi => fzX_same (qr i hi)⟩
  exact made_one hb (by rw [List.all_cons]; rw [show plainN 4 (D.tup (ls.map tupI)) = true from regD_plain ls]; rfl) hn hg (fun c => fzX_same (qn hr c)) (fun c h => fzX_same (qg hr c h)) fun c h => fz_same (q ks ls es hr ha c h)
theorem pure_at_least : ∀ ds M Q E, sp_at_least ds M Q E → ds.length = (["region", "amount", "gauge"] : List Str).length ∧ t_at_least (fzX E) { nx := fun _ M' => fzK Q .non M', rt := fzK Q } (startD ["region", "amount", "gauge"] ds) M := by
  rintro ds M Q E ⟨v, n, g, b, rfl, hb, hv, hn, hg, qr, qn, qg, q⟩
  refine ⟨rfl, ?_⟩
  show t_at_least (fzX E) { nx := fun _ M' => fzK Q .non M', rt := fzK Q } [some v, some n, some g] M
  simp only [t_at_least, dRet, dCall, dLst, dCons, dNil, dC, dVar, List.getElem?_cons_succ, List.getElem?_cons_zero]
  refine ⟨v, rfl, hv, fun ks ls es hr ha => ⟨by simp, by simp, ?_⟩, fun i hi => fzX_same (qr i hi)⟩
  exact made_one hb (by rw [List.all_cons]; rw [show plainN 4 (D.tup (ls.map tupI)) = true from regD_plain ls]; rfl) hn hg (fun c => fzX_same (qn hr c)) (fun c h => fzX_same (qg hr c h)) fun c h => fz_same (q ks ls es hr ha c h)
theorem pure_exactly : ∀ ds M Q E, sp_exactly ds M Q E → ds.length = (["region", "limit", "gauge"] : List Str).length ∧ t_exactly (fzX E) { nx := fun _ M' => fzK Q .non M', rt := fzK Q } (startD ["region", "limit", "gauge"] ds) M := by
  rintro ds M Q E ⟨v, n, g, b, rfl, hb, hv, hn, hg, qr, qn, qg, q⟩
  refine ⟨rfl, ?_⟩
  show t_exactly (fzX E) { nx := fun _ M' => fzK Q .non M', rt := fzK Q } [some v, some n, some g] M
  simp only [t_exactly, dRet, dCall, dLst, dCons, dNil, dC, dVar, List.getElem?_cons_succ, List.getElem?_cons_zero]
  refine ⟨v, rfl, hv, fun ks ls es hr ha => ⟨by simp, by simp, ?_⟩, fun i hi => fzX_same (qr i hi)⟩
  exact made_one hb (by rw [List.all_cons]; rw [show plainN 4 (D.tup (ls.map tupI)) = true from regD_plain ls]; rfl) hn hg (fun c => fzX_same (qn hr c)) (fun c h => fzX_same (qg hr c h)) fun c h => fz_same (q ks ls es hr ha c h)
theorem pure_squall_most : ∀ ds M Q E, sp_squall_most ds M Q E → ds.length = (["place", "limit", "gauge"] : List Str).length ∧ t_squall_most (fzX E) { nx := fun _ M' => fzK Q .non M', rt := fzK Q } (startD ["place", "limit", "gauge"] ds) M := by
  rintro ds M Q E ⟨v, n, g, b, rfl, hb, hv, hn, hg, qr, qn, qg, q⟩
  refine ⟨rfl, ?_⟩
  show t_squall_most (fzX E) { nx := fun _ M' => fzK Q .non M', rt := fzK Q } [some v, some n, some g] M
  simp only [t_squall_most, dRet, dCall, dLst, dCons, dNil, dC, dVar, List.getElem?_cons_succ, List.getElem?_cons_zero]
  refine ⟨v, rfl, hv, fun hr => ⟨by simp, by simp, ?_⟩, fun hi => fzX_same (qr hi)⟩
  have hp : plainN 4 (D.tup [v]) = true := by
    obtain ⟨k, rfl, _, _⟩ := place_ints hr
    exact regD_plain [k]
  exact made_one hb (by rw [List.all_cons, hp]; rfl) hn hg (fun c => fzX_same (qn hr c)) (fun c h => fzX_same (qg hr c h)) fun c h => fz_same (q hr c h)
theorem pure_squall_least : ∀ ds M Q E, sp_squall_least ds M Q E → ds.length = (["place", "amount", "gauge"] : List Str).length ∧ t_squall_least (fzX E) { nx := fun _ M' => fzK Q .non M', rt := fzK Q } (startD ["place", "amount", "gauge"] ds) M := by
  rintro ds M Q E ⟨v, n, g, b, rfl, hb, hv, hn, hg, qr, qn, qg, q⟩
  refine ⟨rfl, ?_⟩
  show t_squall_least (fzX E) { nx := fun _ M' => fzK Q .non M', rt := fzK Q } [some v, some n, some g] M
  simp only [t_squall_least, dRet, dCall, dLst, dCons, dNil, dC, dVar, List.getElem?_cons_succ, List.getElem?_cons_zero]
  refine ⟨v, rfl, hv, fun hr => ⟨by simp, by simp, ?_⟩, fun hi => fzX_same (qr hi)⟩
  have hp : plainN 4 (D.tup [v]) = true := by
    obtain ⟨k, rfl, _, _⟩ := place_ints hr
    exact regD_plain [k]
  exact made_one hb (by rw [List.all_cons, hp]; rfl) hn hg (fun c => fzX_same (qn hr c)) (fun c h => fzX_same (qg hr c h)) fun c h => fz_same (q hr c h)
theorem pure_under : ∀ ds M Q E, sp_under ds M Q E → ds.length = (["region", "other", "more", "gauge"] : List Str).length ∧ t_under (fzX E) { nx := fun _ M' => fzK Q .non M', rt := fzK Q } (startD ["region", "other", "more", "gauge"] ds) M := by
  rintro ds M Q E ⟨v, u, n, g, bd, rfl, hb, hl, hv, hu, hn, hg, qr, qr2, qn, qg, q⟩
  refine ⟨rfl, ?_⟩
  show t_under (fzX E) { nx := fun _ M' => fzK Q .non M', rt := fzK Q } [some v, some u, some n, some g] M
  simp only [t_under, dRet, dCall, dLst, dCons, dNil, dC, dVar, List.getElem?_cons_succ, List.getElem?_cons_zero]
  refine ⟨v, rfl, hv, fun ks ls es hr ha => ⟨u, rfl, hu, fun ks2 ls2 es2 hr2 ha2 => ⟨by simp, by simp, ?_⟩, fun i hi => fzX_same (qr2 i hr hi)⟩, fun i hi => fzX_same (qr i hi)⟩
  refine ⟨_, bd, _, [regD ls, regD ls2], _, g, rfl, rfl, by rw [List.all_cons, List.all_cons, regD_plain, regD_plain]; rfl, hb, hl, hn, hg.1, hg.2, fun x l e => fzX_same (qn x l hr hr2 e), fun e h => fzX_same (qg hr hr2 e h), fun e h => fz_same (q ks ls ks2 ls2 es es2 hr hr2 ha ha2 e h)⟩
theorem pure_level : ∀ ds M Q E, sp_level ds M Q E → ds.length = (["region", "other", "more", "gauge"] : List Str).length ∧ t_level (fzX E) { nx := fun _ M' => fzK Q .non M', rt := fzK Q } (startD ["region", "other", "more", "gauge"] ds) M := by
  rintro ds M Q E ⟨v, u, n, g, bd, rfl, hb, hl, hv, hu, hn, hg, qr, qr2, qn, qg, q⟩
  refine ⟨rfl, ?_⟩
  show t_level (fzX E) { nx := fun _ M' => fzK Q .non M', rt := fzK Q } [some v, some u, some n, some g] M
  simp only [t_level, dRet, dCall, dLst, dCons, dNil, dC, dVar, List.getElem?_cons_succ, List.getElem?_cons_zero]
  refine ⟨v, rfl, hv, fun ks ls es hr ha => ⟨u, rfl, hu, fun ks2 ls2 es2 hr2 ha2 => ⟨by simp, by simp, ?_⟩, fun i hi => fzX_same (qr2 i hr hi)⟩, fun i hi => fzX_same (qr i hi)⟩
  refine ⟨_, bd, _, [regD ls, regD ls2], _, g, rfl, rfl, by rw [List.all_cons, List.all_cons, regD_plain, regD_plain]; rfl, hb, hl, hn, hg.1, hg.2, fun x l e => fzX_same (qn x l hr hr2 e), fun e h => fzX_same (qg hr hr2 e h), fun e h => fz_same (q ks ls ks2 ls2 es es2 hr hr2 ha ha2 e h)⟩
theorem pure_if_then : ∀ ds M Q E, sp_if_then ds M Q E → ds.length = (["region", "amount", "other", "least", "gauge"] : List Str).length ∧ t_if_then (fzX E) { nx := fun _ M' => fzK Q .non M', rt := fzK Q } (startD ["region", "amount", "other", "least", "gauge"] ds) M := by
  rintro ds M Q E ⟨v, n, u, m, g, bd, rfl, hb, hl, hv, hu, hn, hg, qr, qr2, qn, qg, q⟩
  refine ⟨rfl, ?_⟩
  show t_if_then (fzX E) { nx := fun _ M' => fzK Q .non M', rt := fzK Q } [some v, some n, some u, some m, some g] M
  simp only [t_if_then, dRet, dCall, dLst, dCons, dNil, dC, dVar, List.getElem?_cons_succ, List.getElem?_cons_zero]
  refine ⟨v, rfl, hv, fun ks ls es hr ha => ⟨u, rfl, hu, fun ks2 ls2 es2 hr2 ha2 => ⟨by simp, by simp, ?_⟩, fun i hi => fzX_same (qr2 i hr hi)⟩, fun i hi => fzX_same (qr i hi)⟩
  refine ⟨_, bd, _, [regD ls, regD ls2], _, g, rfl, rfl, by rw [List.all_cons, List.all_cons, regD_plain, regD_plain]; rfl, hb, hl, hn, hg.1, hg.2, fun x l e => fzX_same (qn x l hr hr2 e), fun e h => fzX_same (qg hr hr2 e h), fun e h => fz_same (q ks ls ks2 ls2 es es2 hr hr2 ha ha2 e h)⟩
end HB
/-! Shared by the laws of sayings: what sayings tell, promises. -/
namespace HB
open PySem L2 DL HS
def sp_Saying_with_gauge : DSp := fun ds M Q E => ∃ kd g rs ns v, ds = [sayD (.str kd) g rs ns, v] ∧ rs.all (plainN 4) = true ∧ ns.all (plainN 4) = true ∧ tyG v ∧ (gaugeOk v = false → E "InvalidGauge" (eGauge v) M) ∧ (gaugeOk v = true → Q (sayD (.str kd) v rs ns) M)
end HB
/-! Shared by the laws of sayings: readings. Printed by a program of mine. -/
namespace HB
open PySem L2 DL HS
def t_Saying_with_gauge_1 (E : DXK) : DS := (dRet (dMake "Saying" sp_Saying___init__ DX0 4 0 (fun ds es => ds ++ es) (dCons (dFld "Saying" "kind" (dVar 0)) (dCons (dFld "Saying" "held_regions" (dVar 0)) (dCons (dFld "Saying" "held_numbers" (dVar 0)) (dCons (dVar 1) dNil)))) dNil))
def t_Saying_with_gauge (E : DXK) : DS := (dSeq (dDrop (dCall sp_check_gauge E (dCons (dVar 1) dNil))) (t_Saying_with_gauge_1 E))
end HB
/-! Shared by the laws of sayings: what sayings tell, promises kept. -/
namespace HB
open PySem L2 DL HS
theorem say_ins {kd g : D} {rs ns : List D} (M : Mu) : insF "Saying" (sayD kd g rs ns) M = some (sayF kd g rs ns) := by
  simp only [sayD, insF, if_true]
theorem say_kind {kd g : D} {rs ns : List D} : (sayF kd g rs ns).lookup ("kind" : Str) = some kd := rfl
theorem say_gauge {kd g : D} {rs ns : List D} : (sayF kd g rs ns).lookup ("gauge" : Str) = some g := rfl
theorem say_regs {kd g : D} {rs ns : List D} : (sayF kd g rs ns).lookup ("held_regions" : Str) = some (.tup rs) := rfl
theorem say_nums {kd g : D} {rs ns : List D} : (sayF kd g rs ns).lookup ("held_numbers" : Str) = some (.tup ns) := rfl
theorem pure_Saying_with_gauge : ∀ ds M Q E, sp_Saying_with_gauge ds M Q E → ds.length = (["self", "gauge"] : List Str).length ∧ t_Saying_with_gauge (fzX E) { nx := fun _ M' => fzK Q .non M', rt := fzK Q } (startD ["self", "gauge"] ds) M := by
  rintro ds M Q E ⟨kd, g, rs, ns, v, rfl, hr, hn, hv, qe, q⟩
  refine ⟨rfl, ?_⟩
  show t_Saying_with_gauge (fzX E) { nx := fun _ M' => fzK Q .non M', rt := fzK Q } [some (sayD (.str kd) g rs ns), some v] M
  simp only [t_Saying_with_gauge, dSeq, dDrop, dCall, dCons, dNil, dVar, List.getElem?_cons_succ, List.getElem?_cons_zero]
  refine ⟨v, rfl, hv.1, hv.2, fun hok => ?_, fun hno => fzX_same (qe hno)⟩
  simp only [t_Saying_with_gauge_1, dRet, dMake, dFld, dCons, dNil, dVar, List.getElem?_cons_succ, List.getElem?_cons_zero, say_ins, say_kind, say_regs, say_nums]
  refine ⟨rfl, rfl, fun a ha => ?_⟩
  exact make_say (R := .tup rs) (N := .tup ns) rfl rfl ⟨rfl, gauge_plain hok, hr, hn⟩ ha (q hok)
end HB
/-! Shared by the laws of sayings: lists that sayings tell, promises. -/
namespace HB
open PySem L2 DL HS
/-- a list that is told: let go of, or owned -/
def toldL (xs : List D) (M : Mu) (Q : DK) : Prop := (xs.all (plainN 4) = true ∧ Q (.lst 0 xs) M) ∨ ∀ a, M a = none → Q (.ref a) (setM M a (.lst xs))
def sp_Saying_numbers : DSp := fun ds M Q _ => ∃ kd g rs ns, ds = [sayD kd g rs ns] ∧ toldL ns M Q
def sp_Saying_regions : DSp := fun ds M Q _ => ∃ kd g rs ns, ds = [sayD kd g rs ns] ∧ toldL rs M Q
end HB
/-! Shared by the laws of sayings: readings. Printed by a program of mine. -/
namespace HB
open PySem L2 DL HS
def t_Saying_numbers : DS := (dRet (dCB lstOD (dCons (dFld "Saying" "held_numbers" (dVar 0)) dNil)))
def t_Saying_regions : DS := (dRet (dCB lstOD (dCons (dFld "Saying" "held_regions" (dVar 0)) dNil)))
end HB
/-! Shared by the laws of sayings: lists that sayings tell, promises kept. -/
namespace HB
open PySem L2 DL HS
theorem told_fz {xs : List D} {M : Mu} {Q : DK} (h : toldL xs M Q) (a : Addr) (ha : M a = none) : fzK Q (.ref a) (setM M a (.lst xs)) := by
  rcases h with ⟨hp, q⟩ | q
  · refine fz_new (M0 := M) ((Ex.refl _).set ha) ?_
    rw [rs_lstO (n := 8) ha setM_same, rs_plains hp]
    exact q
  · exact fz_same (q a ha)
theorem pure_Saying_numbers : ∀ ds M Q E, sp_Saying_numbers ds M Q E → ds.length = (["self"] : List Str).length ∧ t_Saying_numbers { nx := fun _ M' => fzK Q .non M', rt := fzK Q } (startD ["self"] ds) M := by
  rintro ds M Q E ⟨kd, g, rs, ns, rfl, q⟩
  refine ⟨rfl, ?_⟩
  show t_Saying_numbers { nx := fun _ M' => fzK Q .non M', rt := fzK Q } [some (sayD kd g rs ns)] M
  simp only [t_Saying_numbers, dRet, dCB, dFld, dCons, dNil, dVar, List.getElem?_cons_zero, say_ins, say_nums, lstOD]
  exact fun a ha => told_fz q a ha
theorem pure_Saying_regions : ∀ ds M Q E, sp_Saying_regions ds M Q E → ds.length = (["self"] : List Str).length ∧ t_Saying_regions { nx := fun _ M' => fzK Q .non M', rt := fzK Q } (startD ["self"] ds) M := by
  rintro ds M Q E ⟨kd, g, rs, ns, rfl, q⟩
  refine ⟨rfl, ?_⟩
  show t_Saying_regions { nx := fun _ M' => fzK Q .non M', rt := fzK Q } [some (sayD kd g rs ns)] M
  simp only [t_Saying_regions, dRet, dCB, dFld, dCons, dNil, dVar, List.getElem?_cons_zero, say_ins, say_regs, lstOD]
  exact fun a ha => told_fz q a ha
end HB
/-! Shared by the laws of sayings: sayings as parts, opposites, texts: promises. -/
namespace HB
open PySem L2 DL HS
inductive Kd where
  | atmost | atleast | exactly | under | level | ifthen | squallmost | squallleast
deriving DecidableEq
def Kd.s : Kd → Str
  | .atmost => "atmost" | .atleast => "atleast" | .exactly => "exactly" | .under => "under" | .level => "level" | .ifthen => "ifthen" | .squallmost => "squallmost" | .squallleast => "squallleast"
def Kd.bd : Kd → List (Int × Int)
  | .atmost => [(0, 99)] | .atleast => [(1, 100)] | .exactly => [(0, 99)] | .under => [(-100, 99)] | .level => [(-99, 99)] | .ifthen => [(1, 100), (1, 100)] | .squallmost => [(0, 99)] | .squallleast => [(1, 100)]
def Kd.two : Kd → Bool
  | .under => true | .level => true | .ifthen => true | _ => false
def Kd.squall : Kd → Bool
  | .squallmost => true | .squallleast => true | _ => false
abbrev Rg := List (List Int)
structure Sy where
  kd : Kd
  ns : List Int
  rs : List Rg
  g : D
/-- a saying of the package -/
def Sy.pk (o : Sy) : D := sayD (.str o.kd.s) o.g (o.rs.map regD) (o.ns.map .int)
/-- a saying of the law -/
def Sy.lw (o : Sy) : D := .tup [.str o.kd.s, .tup (o.ns.map .int), .tup (o.rs.map regD), o.g]
/-- a kept region -/
structure Reg (r : Rg) : Prop where
  ne : 1 ≤ r.length ∧ r.length ≤ 40
  pl : ∀ k ∈ r, isPlace (tupI k) = true
  nd : r.Nodup
  asc : r.Pairwise fun a b => TS.code 64 a ≤ TS.code 64 b
/-- numbers, regions as many as the kind wants -/
inductive Shape : Kd → List Int → List Rg → Prop
  | one {kd : Kd} (h2 : kd.two = false) (hs : kd.squall = false) (n : Int) (r : Rg) : Shape kd [n] [r]
  | two {kd : Kd} (h2 : kd.two = true) (hi : kd ≠ .ifthen) (n : Int) (r q : Rg) : Shape kd [n] [r, q]
  | ift (n m : Int) (r q : Rg) : Shape .ifthen [n, m] [r, q]
  | sq {kd : Kd} (hs : kd.squall = true) (n : Int) (k : List Int) : Shape kd [n] [[k]]
def small9 (n : Int) : Prop := -1000 ≤ n ∧ n ≤ 1000
/-- a saying that may stand (its numbers perhaps off their bounds) -/
structure Fair (o : Sy) : Prop where
  sh : Shape o.kd o.ns o.rs
  g : gaugeOk o.g = true
  rg : ∀ r ∈ o.rs, Reg r
  nm : ∀ n ∈ o.ns, small9 n
end HB
/-! Shared by the laws of sayings: readings. Printed by a program of mine. -/
namespace HB
open PySem L2 DL HS
end HB
/-! Shared by the laws of sayings: parts, opposites, ==: promises kept. -/
namespace HB
open PySem L2 DL HS
theorem eqT {a b : Str} : eqB (.str a) (.str b) = decide (a = b) := by
  have h : eqB (.str a) (.str b) = (a == b) := by simp [eqB, py, PyData.eqv]
  rw [h]
  rw [Bool.eq_iff_iff]; simp
theorem eqD_T {a b : Str} {M : Mu} {Q : DK} : eqD (.str a) (.str b) M Q = Q (.bl (decide (a = b))) M := by
  simp only [eqD, eqT]; simp [eqOk, strPair]
theorem kd_inj : ∀ a b : Kd, a.s = b.s ↔ a = b := by
  intro a b
  constructor
  · cases a <;> cases b <;> first | (intro _; rfl) | (intro h; exact absurd h (by decide +kernel))
  · rintro rfl; rfl
theorem kd_dec (a b : Kd) : decide (a.s = b.s) = decide (a = b) := by
  rw [Bool.eq_iff_iff, decide_eq_true_iff, decide_eq_true_iff]; exact kd_inj a b
theorem eqK {a b : Kd} {M : Mu} {Q : DK} : eqD (.str a.s) (.str b.s) M Q = Q (.bl (decide (a = b))) M := by
  rw [eqD_T, kd_dec]
theorem e_atmost {a : Kd} {M : Mu} {Q : DK} : eqD (.str a.s) (.str "atmost") M Q = Q (.bl (decide (a = .atmost))) M := eqK (b := .atmost)
theorem e_atleast {a : Kd} {M : Mu} {Q : DK} : eqD (.str a.s) (.str "atleast") M Q = Q (.bl (decide (a = .atleast))) M := eqK (b := .atleast)
theorem e_exactly {a : Kd} {M : Mu} {Q : DK} : eqD (.str a.s) (.str "exactly") M Q = Q (.bl (decide (a = .exactly))) M := eqK (b := .exactly)
theorem e_under {a : Kd} {M : Mu} {Q : DK} : eqD (.str a.s) (.str "under") M Q = Q (.bl (decide (a = .under))) M := eqK (b := .under)
theorem e_level {a : Kd} {M : Mu} {Q : DK} : eqD (.str a.s) (.str "level") M Q = Q (.bl (decide (a = .level))) M := eqK (b := .level)
theorem e_ifthen {a : Kd} {M : Mu} {Q : DK} : eqD (.str a.s) (.str "ifthen") M Q = Q (.bl (decide (a = .ifthen))) M := eqK (b := .ifthen)
theorem e_squallmost {a : Kd} {M : Mu} {Q : DK} : eqD (.str a.s) (.str "squallmost") M Q = Q (.bl (decide (a = .squallmost))) M := eqK (b := .squallmost)
theorem ix0 {x : D} {xs : List D} {M : Mu} {Q : DK} : ixE (.tup (x :: xs)) (.int 0) M Q = Q x M := by simp [ixE, dctT, ixD, atI, ixN]
theorem ix1 {x y : D} {xs : List D} {M : Mu} {Q : DK} : ixE (.tup (x :: y :: xs)) (.int 1) M Q = Q y M := by
  have e : atI (x :: y :: xs) 1 = some y := by
    unfold atI ixN
    rw [if_pos (by decide), if_pos (by simp only [List.length_cons]; omega)]; rfl
  simp only [ixE, dctT, ixD, e]
/-! ### told lists -/
theorem gauge_cases {g : D} (h : gaugeOk g = true) : g = .non ∨ ∃ z, g = .str z := by
  cases g <;> first | exact .inl rfl | exact .inr ⟨_, rfl⟩ | (exact absurd h (by simp [gaugeOk, DL.isNon, isName]))
theorem ints_plain (ns : List Int) (k : Nat) : (ns.map D.int).all (plainN k) = true := by
  rw [List.all_eq_true]
  intro x hx
  obtain ⟨i, _, rfl⟩ := List.mem_map.mp hx
  cases k <;> rfl
theorem regs_plain (rs : List Rg) : (rs.map regD).all (plainN 4) = true := by
  rw [List.all_eq_true]
  intro x hx
  obtain ⟨i, _, rfl⟩ := List.mem_map.mp hx
  exact regD_plain i
end HB
/-! Shared by the laws of sayings: opposites, ==: promises kept. -/
namespace HB
open PySem L2 DL HS
/-! ### == -/
end HB
/-! Shared by the laws of sayings: texts: promises kept. -/
namespace HB
open PySem L2 DL HS
open SX (S)
theorem place_bds {k : List Int} (h : isPlace (tupI k) = true) : k.length = 3 ∧ ∀ i ∈ k, 0 ≤ i ∧ i ≤ 9 := by
  unfold isPlace at h
  obtain ⟨⟨a, b, c⟩, e⟩ := Option.isSome_iff_exists.mp h
  unfold HS.placeOf at e
  split at e
  · rename_i a1 i j he
    unfold tupI at he
    have he' : k.map D.int = [.int a1, .int i, .int j] := by injection he
    have hk : k = [a1, i, j] := by
      match k, he' with
      | [x, y, z], he' => simp at he'; obtain ⟨rfl, rfl, rfl⟩ := he'; rfl
    subst hk
    split at e
    · rename_i hc
      refine ⟨rfl, ?_⟩
      intro x hx
      simp at hx
      rcases hx with rfl | rfl | rfl <;> omega
    · cases e
  · cases e
theorem name_len {z : Str} (h : gaugeOk (.str z) = true) : z.length ≤ 6 := by
  simp [gaugeOk, DL.isNon, isName] at h
  exact h.1.2
end HB
/-! Shared by the laws of sayings: the law's own sayings, promises. -/
namespace HB
open PySem L2 DL HS
def allK : List Kd := [.atmost, .atleast, .exactly, .under, .level, .ifthen, .squallmost, .squallleast]
def bdD (p : Int × Int) : D := .tup [.int p.1, .int p.2]
/-- a saying that is drawn -/
structure Good (o : Sy) : Prop where
  fair : Fair o
  nb : oddN (o.ns.map .int) o.kd.bd = []
  gg : gd 1 o.g = true
  rl : ∀ r ∈ o.rs, r.length ≤ 4
def sp__law_kinds : DSp := fun ds M Q _ => ds = [] ∧ Q (.lst 0 (allK.map fun k => D.str k.s)) M
def sp__law_is_squall : DSp := fun ds M Q _ => ∃ k : Kd, ds = [.str k.s] ∧ Q (.bl k.squall) M
def sp__law_bounds : DSp := fun ds M Q _ => ∃ k : Kd, ds = [.str k.s] ∧ Q (.lst 0 (k.bd.map bdD)) M
def sp__law_any_number : DSp := fun ds M Q _ => ∃ b lo hi, ds = [.ref b, bdD (lo, hi)] ∧ M b = some (.bg 1) ∧ lo ≤ hi ∧ hi - lo < 10000 ∧ ∀ n, lo ≤ n → n ≤ hi → Q (.int n) M
def sp__law_any_gauge : DSp := fun ds M Q _ => ∃ b, ds = [.ref b] ∧ M b = some (.bg 1) ∧ ∀ g, gaugeOk g = true → gd 1 g = true → Q g M
def sp__law_any_place : DSp := fun ds M Q _ => ∃ b, ds = [.ref b] ∧ M b = some (.bg 1) ∧ ∀ k, isPlace (tupI k) = true → Q (tupI k) M
def sp__law_any_region : DSp := fun ds M Q _ => ∃ b most, ds = [.ref b, .int most] ∧ M b = some (.bg 1) ∧ 1 ≤ most ∧ most ≤ 20 ∧ ∀ r, Reg r → (r.length : Int) ≤ most → Q (regD r) M
def sp__law_any_saying : DSp := fun ds M Q _ => ∃ b k, ds = [.ref b, .str (Kd.s k)] ∧ M b = some (.bg 1) ∧ ∀ o, o.kd = k → Good o → Q o.lw M
/-- a function of the package by its kind -/
def callP (k : Kd) (vs ns : List D) (g : D) (M : Mu) (Q : DK) (E : DXK) : Prop := match k, vs, ns with
  | .atmost, v :: _, n :: _ => sp_at_most [v, n, g] M Q E
  | .atleast, v :: _, n :: _ => sp_at_least [v, n, g] M Q E
  | .exactly, v :: _, n :: _ => sp_exactly [v, n, g] M Q E
  | .under, v :: u :: _, n :: _ => sp_under [v, u, n, g] M Q E
  | .level, v :: u :: _, n :: _ => sp_level [v, u, n, g] M Q E
  | .ifthen, v :: u :: _, n :: m :: _ => sp_if_then [v, n, u, m, g] M Q E
  | .squallmost, v :: _, n :: _ => sp_squall_most [v, n, g] M Q E
  | .squallleast, v :: _, n :: _ => sp_squall_least [v, n, g] M Q E
  | _, _, _ => False
def sp__law_call : DSp := fun ds M Q E => ∃ (k : Kd) (R N g : D) (vs ns : List D), ds = [.str k.s, R, N, g] ∧ seq R = some vs ∧ seq N = some ns ∧ callP k vs ns g M Q E
def sp__law_told : DSp := fun ds M Q _ => ∃ o : Sy, ds = [o.pk] ∧ Q o.lw M
end HB
/-! Shared by the laws of sayings: readings. Printed by a program of mine. -/
namespace HB
open PySem L2 DL HS
def t__law_kinds : DS := (dRet (dLst (dCons (dC (.str "atmost")) (dCons (dC (.str "atleast")) (dCons (dC (.str "exactly")) (dCons (dC (.str "under")) (dCons (dC (.str "level")) (dCons (dC (.str "ifthen")) (dCons (dC (.str "squallmost")) (dCons (dC (.str "squallleast")) dNil))))))))))
def t__law_is_squall : DS := (dRet (dOp inE (dVar 0) (dTup (dCons (dC (.str "squallmost")) (dCons (dC (.str "squallleast")) dNil)))))
def t__law_bounds_1 : DS := (dRet (dIf (dB (dOp eqD (dVar 0) (dC (.str "level")))) (dLst (dCons (dTup (dCons (dNeg (dC (.int 99))) (dCons (dC (.int 99)) dNil))) dNil)) (dLst (dCons (dTup (dCons (dC (.int 0)) (dCons (dC (.int 99)) dNil))) dNil))))
def t__law_bounds_2 : DS := (dSeq (dIfS (dB (dOp eqD (dVar 0) (dC (.str "under")))) (dRet (dLst (dCons (dTup (dCons (dNeg (dC (.int 100))) (dCons (dC (.int 99)) dNil))) dNil))) dNext) t__law_bounds_1)
def t__law_bounds_3 : DS := (dSeq (dIfS (dB (dOp eqD (dVar 0) (dC (.str "ifthen")))) (dRet (dLst (dCons (dTup (dCons (dC (.int 1)) (dCons (dC (.int 100)) dNil))) (dCons (dTup (dCons (dC (.int 1)) (dCons (dC (.int 100)) dNil))) dNil)))) dNext) t__law_bounds_2)
def t__law_bounds : DS := (dSeq (dIfS (dB (dOp inE (dVar 0) (dTup (dCons (dC (.str "atleast")) (dCons (dC (.str "squallleast")) dNil))))) (dRet (dLst (dCons (dTup (dCons (dC (.int 1)) (dCons (dC (.int 100)) dNil))) dNil))) dNext) t__law_bounds_3)
def t__law_any_number_1 : DS := (dRet (dCall sp__law_of DX0 (dCons (dVar 0) (dCons (dLst (dCons (dVar 2) (dCons (dVar 3) (dCons (dOp addD (dVar 2) (dCall sp__law_draw DX0 (dCons (dVar 0) (dCons (dOp addD (dOp subD (dVar 3) (dVar 2)) (dC (.int 1))) dNil)))) (dCons (dVar 4) dNil))))) dNil))))
def t__law_any_number_2 : DS := (dSeq (dAsg (dCB minD (dCons (dVar 3) (dCons (dCB maxD (dCons (dVar 2) (dCons (dOp subD (dCall sp__law_draw DX0 (dCons (dVar 0) (dCons (dC (.int 7)) dNil))) (dC (.int 2))) dNil))) dNil))) (gNm 4)) t__law_any_number_1)
def t__law_any_number : DS := (dSeq (dAsg (dVar 1) (gTp (gsCons (gNm 2) (gsCons (gNm 3) gsNil)) 2)) t__law_any_number_2)
def t__law_any_gauge : DS := (dRet (dCall sp__law_of DX0 (dCons (dVar 0) (dCons (dLst (dCons (dC .non) (dCons (dC .non) (dCons (dC (.str "a")) (dCons (dC (.str "buoy")) (dCons (dC (.str "by")) (dCons (dC (.str "atmost")) (dCons (dC (.str "zzzzzz")) (dCons (dC (.str "q")) dNil))))))))) dNil))))
def t__law_any_place : DS := (dRet (dTup (dCons (dCall sp__law_of DX0 (dCons (dVar 0) (dCons (dLst (dCons (dC (.int 0)) (dCons (dC (.int 8)) (dCons (dCall sp__law_draw DX0 (dCons (dVar 0) (dCons (dC (.int 9)) dNil))) dNil)))) dNil))) (dCons (dCall sp__law_draw DX0 (dCons (dVar 0) (dCons (dC (.int 6)) dNil))) (dCons (dCall sp__law_draw DX0 (dCons (dVar 0) (dCons (dC (.int 6)) dNil))) dNil)))))
def t__law_any_region : DS := (dRet (dCB tupD (dCons (dSortSet (dLc (dRng1 (dCons (dOp addD (dC (.int 1)) (dCall sp__law_draw DX0 (dCons (dVar 0) (dCons (dVar 1) dNil)))) dNil)) (gNm 2) dYes (dCall sp__law_any_place DX0 (dCons (dVar 0) dNil)) [2])) dNil)))
def t__law_any_saying_1 : DS := (dRet (dTup (dCons (dVar 1) (dCons (dVar 2) (dCons (dCB tupD (dCons (dLc (dRng1 (dCons (dVar 4) dNil)) (gNm 5) dYes (dCall sp__law_any_region DX0 (dCons (dVar 0) (dCons (dC (.int 4)) dNil))) [5]) dNil)) (dCons (dCall sp__law_any_gauge DX0 (dCons (dVar 0) dNil)) dNil))))))
def t__law_any_saying_2 : DS := (dSeq (dAsg (dIf (dB (dOp inE (dVar 1) (dTup (dCons (dC (.str "under")) (dCons (dC (.str "level")) (dCons (dC (.str "ifthen")) dNil)))))) (dC (.int 2)) (dC (.int 1))) (gNm 4)) t__law_any_saying_1)
def t__law_any_saying_3 : DS := (dSeq (dIfS (dB (dCall sp__law_is_squall DX0 (dCons (dVar 1) dNil))) (dRet (dTup (dCons (dVar 1) (dCons (dVar 2) (dCons (dTup (dCons (dTup (dCons (dCall sp__law_any_place DX0 (dCons (dVar 0) dNil)) dNil)) dNil)) (dCons (dCall sp__law_any_gauge DX0 (dCons (dVar 0) dNil)) dNil)))))) dNext) t__law_any_saying_2)
def t__law_any_saying : DS := (dSeq (dAsg (dCB tupD (dCons (dLc (dIt (dCall sp__law_bounds DX0 (dCons (dVar 1) dNil))) (gNm 3) dYes (dCall sp__law_any_number DX0 (dCons (dVar 0) (dCons (dVar 3) dNil))) [3]) dNil)) (gNm 2)) t__law_any_saying_3)
def t__law_call_1 (E : DXK) : DS := (dRet (dStat sp_squall_least E 2 1 (fun ds es => ds ++ es) (dCons (dOp ixE (dVar 1) (dC (.int 0))) (dCons (dOp ixE (dVar 2) (dC (.int 0))) dNil)) (dCons (dVar 3) dNil)))
def t__law_call_2 (E : DXK) : DS := (dSeq (dIfS (dB (dOp eqD (dVar 0) (dC (.str "squallmost")))) (dRet (dStat sp_squall_most E 2 1 (fun ds es => ds ++ es) (dCons (dOp ixE (dVar 1) (dC (.int 0))) (dCons (dOp ixE (dVar 2) (dC (.int 0))) dNil)) (dCons (dVar 3) dNil))) dNext) (t__law_call_1 E))
def t__law_call_3 (E : DXK) : DS := (dSeq (dIfS (dB (dOp eqD (dVar 0) (dC (.str "ifthen")))) (dRet (dStat sp_if_then E 4 1 (fun ds es => ds ++ es) (dCons (dOp ixE (dVar 1) (dC (.int 0))) (dCons (dOp ixE (dVar 2) (dC (.int 0))) (dCons (dOp ixE (dVar 1) (dC (.int 1))) (dCons (dOp ixE (dVar 2) (dC (.int 1))) dNil)))) (dCons (dVar 3) dNil))) dNext) (t__law_call_2 E))
def t__law_call_4 (E : DXK) : DS := (dSeq (dIfS (dB (dOp eqD (dVar 0) (dC (.str "level")))) (dRet (dStat sp_level E 3 1 (fun ds es => ds ++ es) (dCons (dOp ixE (dVar 1) (dC (.int 0))) (dCons (dOp ixE (dVar 1) (dC (.int 1))) (dCons (dOp ixE (dVar 2) (dC (.int 0))) dNil))) (dCons (dVar 3) dNil))) dNext) (t__law_call_3 E))
def t__law_call_5 (E : DXK) : DS := (dSeq (dIfS (dB (dOp eqD (dVar 0) (dC (.str "under")))) (dRet (dStat sp_under E 3 1 (fun ds es => ds ++ es) (dCons (dOp ixE (dVar 1) (dC (.int 0))) (dCons (dOp ixE (dVar 1) (dC (.int 1))) (dCons (dOp ixE (dVar 2) (dC (.int 0))) dNil))) (dCons (dVar 3) dNil))) dNext) (t__law_call_4 E))
def t__law_call_6 (E : DXK) : DS := (dSeq (dIfS (dB (dOp eqD (dVar 0) (dC (.str "exactly")))) (dRet (dStat sp_exactly E 2 1 (fun ds es => ds ++ es) (dCons (dOp ixE (dVar 1) (dC (.int 0))) (dCons (dOp ixE (dVar 2) (dC (.int 0))) dNil)) (dCons (dVar 3) dNil))) dNext) (t__law_call_5 E))
def t__law_call_7 (E : DXK) : DS := (dSeq (dIfS (dB (dOp eqD (dVar 0) (dC (.str "atleast")))) (dRet (dStat sp_at_least E 2 1 (fun ds es => ds ++ es) (dCons (dOp ixE (dVar 1) (dC (.int 0))) (dCons (dOp ixE (dVar 2) (dC (.int 0))) dNil)) (dCons (dVar 3) dNil))) dNext) (t__law_call_6 E))
def t__law_call (E : DXK) : DS := (dSeq (dIfS (dB (dOp eqD (dVar 0) (dC (.str "atmost")))) (dRet (dStat sp_at_most E 2 1 (fun ds es => ds ++ es) (dCons (dOp ixE (dVar 1) (dC (.int 0))) (dCons (dOp ixE (dVar 2) (dC (.int 0))) dNil)) (dCons (dVar 3) dNil))) dNext) (t__law_call_7 E))
def t__law_told : DS := (dRet (dTup (dCons (dFld "Saying" "kind" (dVar 0)) (dCons (dCB tupD (dCons (dMeth "Saying" "numbers" sp_Saying_numbers DX0 (dVar 0) dNil) dNil)) (dCons (dCB tupD (dCons (dMeth "Saying" "regions" sp_Saying_regions DX0 (dVar 0) dNil) dNil)) (dCons (dFld "Saying" "gauge" (dVar 0)) dNil))))))
end HB
/-! Shared by the laws of sayings: the law's own sayings, promises kept. -/
namespace HB
open PySem L2 DL HS
theorem eqB_kd (a b : Kd) : eqB (.str a.s) (.str b.s) = decide (a = b) := by rw [eqT, kd_dec]
theorem inB_kd (k : Kd) : ∀ l : List Kd, inB (.str k.s) (l.map fun j => D.str j.s) = decide (k ∈ l)
  | [] => by simp [inB]
  | j :: l => by
    have ih := inB_kd k l
    unfold inB at ih ⊢
    rw [List.map_cons, List.any_cons, ih, eqB_kd, Bool.eq_iff_iff, Bool.or_eq_true, decide_eq_true_iff, decide_eq_true_iff, decide_eq_true_iff, List.mem_cons]
    constructor
    · rintro (h | h)
      · exact .inl h.symm
      · exact .inr h
    · rintro (h | h)
      · exact .inl h.symm
      · exact .inr h
theorem maps_of {α : Type} {f : α → D} {P : α → Prop} : ∀ {ds : List D}, (∀ d ∈ ds, ∃ k, d = f k ∧ P k) → ∃ ks : List α, ds = ks.map f ∧ ∀ k ∈ ks, P k
  | [], _ => ⟨[], rfl, fun k hk => by cases hk⟩
  | d :: ds, h => by
    obtain ⟨ks, rfl, hk⟩ := maps_of fun d hd => h d (List.mem_cons_of_mem _ hd)
    obtain ⟨k, rfl, hp⟩ := h d List.mem_cons_self
    refine ⟨k :: ks, rfl, fun j hj => ?_⟩
    rcases List.mem_cons.mp hj with rfl | z
    · exact hp
    · exact hk j z
theorem in_kd {k : Kd} (l : List Kd) {M : Mu} {Q : DK} (q : Q (.bl (decide (k ∈ l))) M) : inE (.str k.s) (.tup (l.map fun j => D.str j.s)) M Q := by
  rw [← inB_kd] at q
  simp only [inE, dctT, inD]
  refine ⟨⟨rfl, ?_⟩, q⟩
  rw [List.all_eq_true]
  intro x hx
  obtain ⟨j, _, rfl⟩ := List.mem_map.mp hx
  rfl
theorem pure__law_kinds : ∀ ds M Q E, sp__law_kinds ds M Q E → ds.length = ([] : List Str).length ∧ t__law_kinds { nx := fun _ M' => fzK Q .non M', rt := fzK Q } (startD [] ds) M := by
  rintro ds M Q E ⟨rfl, q⟩
  refine ⟨rfl, ?_⟩
  simp only [t__law_kinds, dRet, dLst, dCons, dNil, dC]
  exact ⟨by simp, fz_same q⟩
theorem pure__law_is_squall : ∀ ds M Q E, sp__law_is_squall ds M Q E → ds.length = (["_law_kind"] : List Str).length ∧ t__law_is_squall { nx := fun _ M' => fzK Q .non M', rt := fzK Q } (startD ["_law_kind"] ds) M := by
  rintro ds M Q E ⟨k, rfl, q⟩
  refine ⟨rfl, ?_⟩
  show t__law_is_squall { nx := fun _ M' => fzK Q .non M', rt := fzK Q } [some (.str k.s)] M
  simp only [t__law_is_squall, dRet, dOp, dTup, dCons, dNil, dC, dVar, List.getElem?_cons_zero]
  refine ⟨by simp, in_kd [.squallmost, .squallleast] (fz_same ?_)⟩
  have e : decide (k ∈ [Kd.squallmost, .squallleast]) = k.squall := by cases k <;> rfl
  rw [e]; exact q
theorem pure__law_bounds : ∀ ds M Q E, sp__law_bounds ds M Q E → ds.length = (["_law_kind"] : List Str).length ∧ t__law_bounds { nx := fun _ M' => fzK Q .non M', rt := fzK Q } (startD ["_law_kind"] ds) M := by
  rintro ds M Q E ⟨k, rfl, q⟩
  refine ⟨rfl, ?_⟩
  show t__law_bounds { nx := fun _ M' => fzK Q .non M', rt := fzK Q } [some (.str k.s)] M
  simp only [t__law_bounds, dSeq, dIfS, dB, dOp, dTup, dCons, dNil, dC, dVar, List.getElem?_cons_zero]
  refine ⟨by simp, in_kd [.atleast, .squallleast] ?_⟩
  cases k
  all_goals simp only [isB, List.mem_cons, reduceCtorEq, List.not_mem_nil, or_self, or_false, or_true, false_or, true_or, decide_true, decide_false, if_true, Bool.false_eq_true, if_false, dNext, dRet, dLst, dTup, dNeg, dCons, dNil, dC, t__law_bounds_3, t__law_bounds_2, t__law_bounds_1, dSeq, dIfS, dIf, dB, dOp, dVar, List.getElem?_cons_zero, e_ifthen, e_under, e_level]
  all_goals
    repeat' (first | exact fz_same q | refine ⟨by simp, ?_⟩)
theorem pure__law_any_number : ∀ ds M Q E, sp__law_any_number ds M Q E → ds.length = (["_law_bag", "_law_ends"] : List Str).length ∧ t__law_any_number { nx := fun _ M' => fzK Q .non M', rt := fzK Q } (startD ["_law_bag", "_law_ends", "_law_least_z", "_law_most", "_law_small"] ds) M := by
  rintro ds M Q E ⟨b, lo, hi, rfl, hb, h0, h1, q⟩
  refine ⟨rfl, ?_⟩
  show t__law_any_number { nx := fun _ M' => fzK Q .non M', rt := fzK Q } [some (.ref b), some (.tup [.int lo, .int hi]), none, none, none] M
  simp only [t__law_any_number, dSeq, dAsg, dVar, List.getElem?_cons_succ, List.getElem?_cons_zero, gTp, gsCons, gsNil, gNm, List.set_cons_succ, List.set_cons_zero]
  refine ⟨rfl, ?_⟩
  simp only [t__law_any_number_2, dSeq, dAsg, dCB, dCall, dOp, dCons, dNil, dC, dVar, List.getElem?_cons_succ, List.getElem?_cons_zero]
  refine ⟨b, 7, rfl, hb, ⟨by decide, by decide⟩, fun n n0 n1 => ?_⟩
  simp only [subD, maxD, minD, gNm, List.set_cons_succ, List.set_cons_zero]
  simp only [t__law_any_number_1, dRet, dCall, dLst, dOp, dCons, dNil, dC, dVar, List.getElem?_cons_succ, List.getElem?_cons_zero, subD, addD]
  refine ⟨b, _, rfl, hb, ⟨by omega, by omega⟩, fun m m0 m1 => ?_⟩
  simp only [addD]
  refine ⟨by simp, b, _, _, rfl, hb, rfl, ⟨by simp, by simp⟩, fun x hx => fz_same ?_⟩
  simp only [List.mem_cons, List.not_mem_nil, or_false] at hx
  rcases hx with rfl | rfl | rfl | rfl
  · exact q lo (by omega) (by omega)
  · exact q hi (by omega) (by omega)
  · exact q _ (by omega) (by omega)
  · refine q _ ?_ ?_ <;> (repeat' split) <;> omega
theorem pure__law_any_gauge : ∀ ds M Q E, sp__law_any_gauge ds M Q E → ds.length = (["_law_bag"] : List Str).length ∧ t__law_any_gauge { nx := fun _ M' => fzK Q .non M', rt := fzK Q } (startD ["_law_bag"] ds) M := by
  rintro ds M Q E ⟨b, rfl, hb, q⟩
  refine ⟨rfl, ?_⟩
  show t__law_any_gauge { nx := fun _ M' => fzK Q .non M', rt := fzK Q } [some (.ref b)] M
  simp only [t__law_any_gauge, dRet, dCall, dLst, dCons, dNil, dC, dVar, List.getElem?_cons_zero]
  refine ⟨by simp, b, _, _, rfl, hb, rfl, ⟨by simp, by simp⟩, fun x hx => fz_same ?_⟩
  simp only [List.mem_cons, List.not_mem_nil, or_false] at hx
  rcases hx with rfl | rfl | rfl | rfl | rfl | rfl | rfl | rfl
  · exact q _ rfl rfl
  · exact q _ rfl rfl
  all_goals exact q _ (by decide +kernel) (by decide +kernel)
theorem pure__law_any_place : ∀ ds M Q E, sp__law_any_place ds M Q E → ds.length = (["_law_bag"] : List Str).length ∧ t__law_any_place { nx := fun _ M' => fzK Q .non M', rt := fzK Q } (startD ["_law_bag"] ds) M := by
  rintro ds M Q E ⟨b, rfl, hb, q⟩
  refine ⟨rfl, ?_⟩
  show t__law_any_place { nx := fun _ M' => fzK Q .non M', rt := fzK Q } [some (.ref b)] M
  simp only [t__law_any_place, dRet, dTup, dCall, dLst, dCons, dNil, dC, dVar, List.getElem?_cons_zero]
  refine ⟨b, 9, rfl, hb, ⟨by decide, by decide⟩, fun n n0 n1 => ?_⟩
  refine ⟨by simp, b, _, _, rfl, hb, rfl, ⟨by simp, by simp⟩, fun x hx => ?_⟩
  refine ⟨b, 6, rfl, hb, ⟨by decide, by decide⟩, fun i i0 i1 => ⟨b, 6, rfl, hb, ⟨by decide, by decide⟩, fun j j0 j1 => ⟨by simp, fz_same ?_⟩⟩⟩
  have hx' : ∃ h : Int, x = .int h ∧ 0 ≤ h ∧ h ≤ 8 := by
    simp only [List.mem_cons, List.not_mem_nil, or_false] at hx
    rcases hx with rfl | rfl | rfl
    · exact ⟨0, rfl, by decide, by decide⟩
    · exact ⟨8, rfl, by decide, by decide⟩
    · exact ⟨n, rfl, n0, by omega⟩
  obtain ⟨h, rfl, h0, h1⟩ := hx'
  refine q [h, i, j] ?_
  unfold isPlace tupI HS.placeOf
  simp only [List.map_cons, List.map_nil]
  rw [if_pos ⟨h0, h1, i0, by omega, j0, by omega⟩]
  rfl
theorem reg_of {r ks : Rg} (a : Asc ks r) (hp : ∀ k ∈ ks, isPlace (tupI k) = true) (h0 : 1 ≤ ks.length) (h1 : ks.length ≤ 40) : Reg r ∧ r.length ≤ ks.length := by
  have hl : r.length ≤ ks.length := a.nd.length_le_of_subset fun k hk => (a.mem k).mp hk
  refine ⟨⟨⟨?_, by omega⟩, fun k hk => hp k ((a.mem k).mp hk), a.nd, a.asc⟩, hl⟩
  cases ks with
  | nil => simp at h0
  | cons k ks =>
    have := (a.mem k).mpr List.mem_cons_self
    exact List.length_pos_of_mem this
theorem place_bd64 {k : List Int} (h : isPlace (tupI k) = true) : k.length = 3 ∧ TS.Bd 64 k := by
  obtain ⟨h1, h2⟩ := place_bds h
  exact ⟨h1, fun m hm => ⟨(h2 m hm).1, by have := (h2 m hm).2; omega⟩⟩
theorem pure__law_any_region : ∀ ds M Q E, sp__law_any_region ds M Q E → ds.length = (["_law_bag", "_law_most"] : List Str).length ∧ t__law_any_region { nx := fun _ M' => fzK Q .non M', rt := fzK Q } (startD ["_law_bag", "_law_most", "_law_k"] ds) M := by
  rintro ds M Q E ⟨b, most, rfl, hb, h0, h1, q⟩
  refine ⟨rfl, ?_⟩
  show t__law_any_region { nx := fun _ M' => fzK Q .non M', rt := fzK Q } [some (.ref b), some (.int most), none] M
  simp only [t__law_any_region, dRet, dCB, dSortSet, dLc, dRng1, dCall, dOp, dCons, dNil, dC, dVar, List.getElem?_cons_succ, List.getElem?_cons_zero]
  refine ⟨b, most, rfl, hb, ⟨by omega, by omega⟩, fun n n0 n1 => ?_⟩
  simp only [addD]
  refine ⟨by omega, ?_⟩
  have hlen : (rngD 0 (1 + n).toNat).length = (1 + n).toNat := by simp [rngD]
  refine compi_any (P := fun d => ∃ k, d = tupI k ∧ isPlace (tupI k) = true) _ _ _ (fun x hx Q' q' => ?_) (by rw [hlen]; simp; omega) (fun ds hl hP => ?_)
  · simp only [wipeD, gNm, dCall, dCons, dNil, dVar, List.getElem?_cons_succ, List.getElem?_cons_zero, List.set_cons_succ, List.set_cons_zero, List.foldl]
    exact ⟨b, rfl, hb, fun k hk => q' _ ⟨k, rfl, hk⟩⟩
  · obtain ⟨ks, rfl, hk⟩ := maps_of hP
    simp only [List.nil_append]
    rw [hlen] at hl
    simp only [List.length_map] at hl
    refine ⟨0, ks, 3, 64, by simp, by omega, by decide, fun k hk' => place_bd64 (hk k hk'), fun ls m1 m2 m3 => ?_⟩
    simp only [tupD]
    obtain ⟨hr, hrl⟩ := reg_of ⟨m1, m2, m3⟩ hk (by omega) (by omega)
    exact fz_same (q ls hr (by omega))
theorem bd_ok (k : Kd) : ∀ p ∈ k.bd, p.1 ≤ p.2 ∧ -100 ≤ p.1 ∧ p.2 ≤ 100 := by cases k <;> decide
theorem bd_two (k : Kd) : k.bd.length = (if k = .ifthen then 2 else 1) := by cases k <;> rfl
theorem nums_of : ∀ {bd : List (Int × Int)} {ds : List D}, (∀ p ∈ bd, p.1 ≤ p.2 ∧ -100 ≤ p.1 ∧ p.2 ≤ 100) → Paired (fun x d => ∃ p n, x = bdD p ∧ d = .int n ∧ p.1 ≤ n ∧ n ≤ p.2) (bd.map bdD) ds →
    ∃ ns : List Int, ds = ns.map .int ∧ ns.length = bd.length ∧ oddN (ns.map .int) bd = [] ∧ ∀ n ∈ ns, small9 n
  | [], ds, _, h => by
    cases h
    exact ⟨[], rfl, rfl, rfl, fun n hn => by cases hn⟩
  | p :: bd, ds, hb, h => by
    cases h with
    | cons h1 h2 =>
      obtain ⟨ns, rfl, e1, e2, e3⟩ := nums_of (fun q hq => hb q (List.mem_cons_of_mem _ hq)) h2
      obtain ⟨p', n, ep, rfl, n0, n1⟩ := h1
      have ep' : p = p' := by
        unfold bdD at ep
        injection ep with ep
        injection ep with ep1 ep2
        injection ep2 with ep2 _
        injection ep1 with ep1
        injection ep2 with ep2
        exact Prod.ext ep1 ep2
      subst ep'
      obtain ⟨b0, b1, b2⟩ := hb p List.mem_cons_self
      refine ⟨n :: ns, rfl, by simp [e1], ?_, fun m hm => ?_⟩
      · show (if isNum (.int n) p.1 p.2 = true then oddN (ns.map .int) bd else _) = []
        rw [if_pos (by simp [isNum, n0, n1])]
        exact e2
      · rcases List.mem_cons.mp hm with rfl | hm
        · exact ⟨by omega, by omega⟩
        · exact e3 m hm
theorem len2 {α : Type} {l : List α} (h : l.length = 2) : ∃ a b, l = [a, b] := by
  match l, h with
  | [a, b], _ => exact ⟨a, b, rfl⟩
end HB
/-! Shared by the laws of sayings: a drawn saying. -/
namespace HB
open PySem L2 DL HS
theorem any_2 {Z : DEnds} {M : Mu} {B N : D} {k : Kd} {o3 o4 o5 : Option D} (T : DS) (q : T Z [some B, some (.str k.s), some N, o3, some (.int (if k.two = true then 2 else 1)), o5] M) : (dSeq (dAsg (dIf (dB (dOp inE (dVar 1) (dTup (dCons (dC (.str "under")) (dCons (dC (.str "level")) (dCons (dC (.str "ifthen")) dNil)))))) (dC (.int 2)) (dC (.int 1))) (gNm 4)) T) Z [some B, some (.str k.s), some N, o3, o4, o5] M := by
  simp only [dSeq, dAsg, dIf, dB, dOp, dTup, dCons, dNil, dC, dVar, List.getElem?_cons_succ, List.getElem?_cons_zero]
  refine ⟨by simp, in_kd [.under, .level, .ifthen] ?_⟩
  have e2 : decide (k ∈ [Kd.under, .level, .ifthen]) = k.two := by cases k <;> rfl
  rw [e2]
  cases ht : k.two with
  | true =>
    rw [ht] at q
    simp only [isB, if_true, gNm, List.set_cons_succ, List.set_cons_zero]
    exact q
  | false =>
    rw [ht] at q
    simp only [isB, Bool.false_eq_true, if_false, gNm, List.set_cons_succ, List.set_cons_zero]
    exact q
theorem pure__law_any_saying : ∀ ds M Q E, sp__law_any_saying ds M Q E → ds.length = (["_law_bag", "_law_kind"] : List Str).length ∧ t__law_any_saying { nx := fun _ M' => fzK Q .non M', rt := fzK Q } (startD ["_law_bag", "_law_kind", "_law_nums", "_law_ends", "_law_many", "_law_k"] ds) M := by
  rintro ds M Q E ⟨b, k, rfl, hb, q⟩
  refine ⟨rfl, ?_⟩
  show t__law_any_saying { nx := fun _ M' => fzK Q .non M', rt := fzK Q } [some (.ref b), some (.str k.s), none, none, none, none] M
  simp only [t__law_any_saying, dSeq, dAsg, dCB, dLc, dIt, dCall, dCons, dNil, dVar, List.getElem?_cons_succ, List.getElem?_cons_zero]
  refine ⟨k, rfl, ?_⟩
  refine compi_rel (P := fun x d => ∃ p n, x = bdD p ∧ d = .int n ∧ p.1 ≤ n ∧ n ≤ p.2) _ _ _ (fun x hx Q' q' => ?_) (by rw [List.length_map, bd_two]; split <;> simp) (fun ds hP => ?_)
  · obtain ⟨p, hp, rfl⟩ := List.mem_map.mp hx
    obtain ⟨h1, h2, h3⟩ := bd_ok k p hp
    simp only [wipeD, gNm, dCall, dCons, dNil, dVar, List.getElem?_cons_succ, List.getElem?_cons_zero, List.set_cons_succ, List.set_cons_zero, List.foldl]
    exact ⟨b, p.1, p.2, rfl, hb, h1, by omega, fun n n0 n1 => q' _ ⟨p, n, rfl, rfl, n0, n1⟩⟩
  have hns : ∃ ns : List Int, ds = ns.map .int ∧ ns.length = k.bd.length ∧ oddN (ns.map .int) k.bd = [] ∧ ∀ n ∈ ns, small9 n := by
    exact nums_of (bd_ok k) hP
  obtain ⟨ns, rfl, hl, hn1, hn2⟩ := hns
  simp only [List.nil_append, tupD, gNm, List.set_cons_succ, List.set_cons_zero]
  simp only [t__law_any_saying_3, dSeq, dIfS, dB, dCall, dCons, dNil, dVar, List.getElem?_cons_succ, List.getElem?_cons_zero]
  refine ⟨k, rfl, ?_⟩
  cases hs : k.squall with
  | true =>
    simp only [isB, if_true, dRet, dTup, dCall, dCons, dNil, dVar, List.getElem?_cons_succ, List.getElem?_cons_zero]
    refine ⟨b, rfl, hb, fun kk hk => ⟨by simp, by simp, b, rfl, hb, fun g hg hgg => ⟨by simp, fz_same ?_⟩⟩⟩
    obtain ⟨n, rfl⟩ : ∃ n, ns = [n] := by
      rw [bd_two, if_neg (by rintro rfl; cases hs)] at hl
      exact List.length_eq_one_iff.mp hl
    refine q ⟨k, [n], [[kk]], g⟩ rfl ⟨⟨.sq hs n kk, hg, fun r hr => ?_, hn2⟩, hn1, hgg, fun r hr => ?_⟩
    · rw [List.mem_singleton.mp hr]
      exact ⟨by simp, fun j hj => by rw [List.mem_singleton.mp hj]; exact hk, by simp, by simp⟩
    · rw [List.mem_singleton.mp hr]; simp
  | false =>
    simp only [isB, Bool.false_eq_true, if_false, dNext]
    refine any_2 t__law_any_saying_1 ?_
    have fin : ∀ (c : Nat) (i : Int), i = c → c ≤ 2 → (∀ rs : List Rg, rs.length = c → Shape k ns rs) → t__law_any_saying_1 { nx := fun _ M' => fzK Q .non M', rt := fzK Q } [some (.ref b), some (.str k.s), some (.tup (ns.map .int)), none, some (.int i), none] M := by
      intro c i hi hc hsh
      subst hi
      simp only [t__law_any_saying_1, dRet, dTup, dCB, dLc, dRng1, dCall, dCons, dNil, dC, dVar, List.getElem?_cons_succ, List.getElem?_cons_zero]
      refine ⟨by omega, ?_⟩
      have hlen : (rngD 0 ((c : Int)).toNat).length = c := by simp [rngD]
      refine compi_any (P := fun d => ∃ r, d = regD r ∧ Reg r ∧ r.length ≤ 4) _ _ _ (fun x hx Q' q' => ?_) (by rw [hlen]; simp; omega) (fun ds hl hP => ?_)
      · simp only [wipeD, gNm, dCall, dCons, dNil, dC, dVar, List.getElem?_cons_succ, List.getElem?_cons_zero, List.set_cons_succ, List.set_cons_zero, List.foldl]
        exact ⟨b, 4, rfl, hb, by decide, by decide, fun r hr hr4 => q' _ ⟨r, rfl, hr, by omega⟩⟩
      · obtain ⟨rs, rfl, hr⟩ := maps_of hP
        rw [hlen, List.length_map] at hl
        simp only [List.nil_append, tupD]
        refine ⟨b, rfl, hb, fun g hg hgg => ⟨by simp, fz_same ?_⟩⟩
        exact q ⟨k, ns, rs, g⟩ rfl ⟨⟨hsh rs hl, hg, fun r h => (hr r h).1, hn2⟩, hn1, hgg, fun r h => (hr r h).2⟩
    cases ht : k.two with
    | true =>
      simp only [if_true]
      refine fin 2 2 rfl (by decide) fun rs hrs => ?_
      obtain ⟨r, p, rfl⟩ := len2 hrs
      rw [bd_two] at hl
      by_cases hi : k = .ifthen
      · subst hi
        obtain ⟨n, m, rfl⟩ := len2 hl
        exact .ift n m r p
      · rw [if_neg hi] at hl
        obtain ⟨n, rfl⟩ := List.length_eq_one_iff.mp hl
        exact .two ht hi n r p
    | false =>
      simp only [Bool.false_eq_true, if_false]
      refine fin 1 1 rfl (by decide) fun rs hrs => ?_
      obtain ⟨r, rfl⟩ := List.length_eq_one_iff.mp hrs
      rw [bd_two, if_neg (by rintro rfl; cases ht)] at hl
      obtain ⟨n, rfl⟩ := List.length_eq_one_iff.mp hl
      exact .one ht hs n r
end HB
/-! Shared by the laws of sayings: the law's own parts, opposites; calls by kinds: promises kept. -/
namespace HB
open PySem L2 DL HS
theorem ixs0 {R x : D} {xs : List D} {M : Mu} {Q : DK} (h : seq R = some (x :: xs)) : ixE R (.int 0) M Q = Q x M := by
  cases R <;> first | (cases h; done) | skip
  all_goals
    injection h with h
    subst h
    simp [ixE, dctT, ixD, atI, ixN]
theorem ixs1 {R x y : D} {xs : List D} {M : Mu} {Q : DK} (h : seq R = some (x :: y :: xs)) : ixE R (.int 1) M Q = Q y M := by
  have e : atI (x :: y :: xs) 1 = some y := by
    unfold atI ixN
    rw [if_pos (by decide), if_pos (by simp only [List.length_cons]; omega)]; rfl
  cases R <;> first | (cases h; done) | skip
  all_goals
    injection h with h
    subst h
    simp only [ixE, dctT, ixD, e]
theorem spOne_fz {kd : Str} {ds : List D} {M : Mu} {Q : DK} {E : DXK} (h : spOne kd ds M Q E) : spOne kd ds M (fzK Q) (fzX E) := by
  obtain ⟨v, n, g, b, rfl, hb, hv, hn, hg, qr, qn, qg, q⟩ := h
  exact ⟨v, n, g, b, rfl, hb, hv, hn, hg, fun i a => fzX_same (qr i a), fun a c => fzX_same (qn a c), fun a c d => fzX_same (qg a c d), fun ks ls a c d e f => fz_same (q ks ls a c d e f)⟩
theorem spPlace_fz {kd : Str} {ds : List D} {M : Mu} {Q : DK} {E : DXK} (h : spPlace kd ds M Q E) : spPlace kd ds M (fzK Q) (fzX E) := by
  obtain ⟨v, n, g, b, rfl, hb, hv, hn, hg, qr, qn, qg, q⟩ := h
  exact ⟨v, n, g, b, rfl, hb, hv, hn, hg, fun a => fzX_same (qr a), fun a c => fzX_same (qn a c), fun a c d => fzX_same (qg a c d), fun a c d => fz_same (q a c d)⟩
theorem two_fz {kd : Str} {v u g : D} {nums : List D} {bd : List (Int × Int)} {M : Mu} {Q : DK} {E : DXK} (h : two kd v u g nums bd M Q E) : two kd v u g nums bd M (fzK Q) (fzX E) := by
  obtain ⟨hb, hl, hv, hu, hn, hg, qr, qr2, qn, qg, q⟩ := h
  exact ⟨hb, hl, hv, hu, hn, hg, fun i a => fzX_same (qr i a), fun i a c => fzX_same (qr2 i a c), fun x l a b c => fzX_same (qn x l a b c), fun a b c d => fzX_same (qg a b c d), fun ks ls ks2 ls2 a b c d e f g h => fz_same (q ks ls ks2 ls2 a b c d e f g h)⟩
theorem under_fz {ds : List D} {M : Mu} {Q : DK} {E : DXK} (h : sp_under ds M Q E) : sp_under ds M (fzK Q) (fzX E) := by
  obtain ⟨v, u, n, g, bd, rfl, h⟩ := h
  exact ⟨v, u, n, g, bd, rfl, two_fz h⟩
theorem level_fz {ds : List D} {M : Mu} {Q : DK} {E : DXK} (h : sp_level ds M Q E) : sp_level ds M (fzK Q) (fzX E) := by
  obtain ⟨v, u, n, g, bd, rfl, h⟩ := h
  exact ⟨v, u, n, g, bd, rfl, two_fz h⟩
theorem ifthen_fz {ds : List D} {M : Mu} {Q : DK} {E : DXK} (h : sp_if_then ds M Q E) : sp_if_then ds M (fzK Q) (fzX E) := by
  obtain ⟨v, n, u, m, g, bd, rfl, h⟩ := h
  exact ⟨v, n, u, m, g, bd, rfl, two_fz h⟩
theorem pure__law_call : ∀ ds M Q E, sp__law_call ds M Q E → ds.length = (["_law_kind", "_law_regs", "_law_nums", "_law_by_z"] : List Str).length ∧ t__law_call (fzX E) { nx := fun _ M' => fzK Q .non M', rt := fzK Q } (startD ["_law_kind", "_law_regs", "_law_nums", "_law_by_z"] ds) M := by
  rintro ds M Q E ⟨k, R, N, g, vs, ns, rfl, hR, hN, q⟩
  refine ⟨rfl, ?_⟩
  show t__law_call (fzX E) { nx := fun _ M' => fzK Q .non M', rt := fzK Q } [some (.str k.s), some R, some N, some g] M
  cases k <;> unfold callP at q <;> split at q <;> first | exact q.elim | contradiction | skip
  all_goals simp only [t__law_call, t__law_call_7, t__law_call_6, t__law_call_5, t__law_call_4, t__law_call_3, t__law_call_2, t__law_call_1, dSeq, dIfS, dB, dOp, dC, dVar, List.getElem?_cons_succ, List.getElem?_cons_zero, e_atmost, e_atleast, e_exactly, e_under, e_level, e_ifthen, e_squallmost, isB, reduceCtorEq, decide_true, decide_false, if_true, Bool.false_eq_true, if_false, dNext, dRet, dStat, dCons, dNil, ixs0 hR, ixs0 hN]
  all_goals try simp only [ixs1 hR]
  all_goals try simp only [ixs1 hN]
  all_goals first
    | exact ⟨rfl, rfl, spOne_fz q⟩
    | exact ⟨rfl, rfl, spPlace_fz q⟩
    | exact ⟨rfl, rfl, under_fz q⟩
    | exact ⟨rfl, rfl, level_fz q⟩
    | exact ⟨rfl, rfl, ifthen_fz q⟩
theorem pure__law_told : ∀ ds M Q E, sp__law_told ds M Q E → ds.length = (["_law_made_here"] : List Str).length ∧ t__law_told { nx := fun _ M' => fzK Q .non M', rt := fzK Q } (startD ["_law_made_here"] ds) M := by
  rintro ds M Q E ⟨⟨kd, ns, rs, g⟩, rfl, q⟩
  refine ⟨rfl, ?_⟩
  show t__law_told { nx := fun _ M' => fzK Q .non M', rt := fzK Q } [some (sayD (.str kd.s) g (rs.map regD) (ns.map .int))] M
  have e1 : (sayF (.str kd.s) g (rs.map regD) (ns.map .int)).lookup ("numbers" : Str) = none := rfl
  have e2 : (sayF (.str kd.s) g (rs.map regD) (ns.map .int)).lookup ("regions" : Str) = none := rfl
  simp only [t__law_told, dRet, dTup, dCB, dMeth, dFld, dCons, dNil, dVar, List.getElem?_cons_zero, say_ins, say_kind, say_gauge]
  refine ⟨e1, _, _, _, _, rfl, .inl ⟨ints_plain ns 4, ?_⟩⟩
  simp only [tupD, say_ins]
  refine ⟨e2, _, _, _, _, rfl, .inl ⟨regs_plain rs, ?_⟩⟩
  simp only [tupD, say_ins, say_gauge]
  exact ⟨by simp, fz_same q⟩
end HB
/-! Shared by the laws of sayings: good calls. -/
namespace HB
open PySem L2 DL HS
theorem code3 (a b c : Int) : TS.code 64 [a, b, c] = a * 4096 + b * 64 + c := by
  simp [TS.code]; omega
theorem code_inj {k j : List Int} (hk : k.length = 3 ∧ TS.Bd 64 k) (hj : j.length = 3 ∧ TS.Bd 64 j) (h : TS.code 64 k ≤ TS.code 64 j) (h' : TS.code 64 j ≤ TS.code 64 k) : k = j := by
  obtain ⟨lk, bk⟩ := hk
  obtain ⟨lj, bj⟩ := hj
  match k, lk with
  | [a, b, c], _ =>
    match j, lj with
    | [d, e, f], _ =>
      rw [code3, code3] at h h'
      have a1 := bk a (by simp); have b1 := bk b (by simp); have c1 := bk c (by simp)
      have d1 := bj d (by simp); have e1 := bj e (by simp); have f1 := bj f (by simp)
      obtain ⟨rfl, rfl, rfl⟩ : a = d ∧ b = e ∧ c = f := by omega
      rfl
theorem asc_same : ∀ {l r : Rg}, (∀ k ∈ l, k.length = 3 ∧ TS.Bd 64 k) → (∀ k ∈ r, k.length = 3 ∧ TS.Bd 64 k) → l.Nodup → r.Nodup → l.Pairwise (fun a b => TS.code 64 a ≤ TS.code 64 b) → r.Pairwise (fun a b => TS.code 64 a ≤ TS.code 64 b) → (∀ k, k ∈ l ↔ k ∈ r) → l = r
  | [], [], _, _, _, _, _, _, _ => rfl
  | [], b :: r, _, _, _, _, _, _, h => by have := (h b).mpr List.mem_cons_self; cases this
  | a :: l, [], _, _, _, _, _, _, h => by have := (h a).mp List.mem_cons_self; cases this
  | a :: l, b :: r, hl, hr, nl, nr, pl, pr, h => by
    have ha := (h a).mp List.mem_cons_self
    have hb := (h b).mpr List.mem_cons_self
    rw [List.nodup_cons] at nl nr
    rw [List.pairwise_cons] at pl pr
    have e : a = b := by
      rcases List.mem_cons.mp ha with e | ha'
      · exact e
      · rcases List.mem_cons.mp hb with e | hb'
        · exact e.symm
        · exact code_inj (hl a List.mem_cons_self) (hr b List.mem_cons_self) (pl.1 b hb') (pr.1 a ha')
    subst e
    rw [asc_same (fun k hk => hl k (List.mem_cons_of_mem _ hk)) (fun k hk => hr k (List.mem_cons_of_mem _ hk)) nl.2 nr.2 pl.2 pr.2 fun k => ?_]
    constructor
    · intro hk
      rcases List.mem_cons.mp ((h k).mp (List.mem_cons_of_mem _ hk)) with e | z
      · subst e; exact absurd hk nl.1
      · exact z
    · intro hk
      rcases List.mem_cons.mp ((h k).mpr (List.mem_cons_of_mem _ hk)) with e | z
      · subst e; exact absurd hk nr.1
      · exact z
theorem reg_bd {r : Rg} (h : Reg r) : ∀ k ∈ r, k.length = 3 ∧ TS.Bd 64 k := fun k hk => place_bd64 (h.pl k hk)
/-- a region as it may be handed in -/
structure Hand (v : D) (r : Rg) : Prop where
  ex : ∃ ks : Rg, seq v = some (ks.map tupI) ∧ (∀ k, k ∈ ks ↔ k ∈ r) ∧ ks.length ≤ 40
theorem ty1_tupI {k : List Int} (h : k.length = 3) : ty1 (tupI k) := ⟨rfl, fun xs e => by
  injection e with e
  subst e
  refine ⟨by rw [List.length_map, h]; decide, fun x hx => ?_⟩
  obtain ⟨i, _, rfl⟩ := List.mem_map.mp hx
  rfl⟩
theorem odd_ok : ∀ {ks : Rg} {n : Nat}, (∀ k ∈ ks, isPlace (tupI k) = true) → fstOdd n (ks.map tupI) = none
  | [], _, _ => rfl
  | k :: ks, n, h => by
    rw [List.map_cons, fstOdd, if_pos (h k List.mem_cons_self)]
    exact odd_ok fun j hj => h j (List.mem_cons_of_mem _ hj)
theorem Hand.ok {v : D} {r : Rg} (h : Hand v r) (hr : Reg r) : tyR v ∧ regOdd v = none ∧ (∀ ks ls, seq v = some (ks.map tupI) → Asc ks ls → ls = r) := by
  obtain ⟨ks, e, hm, hl⟩ := h.ex
  have hp : ∀ k ∈ ks, isPlace (tupI k) = true := fun k hk => hr.pl k ((hm k).mp hk)
  have h1 : 1 ≤ ks.length := by
    cases r with
    | nil => have := hr.ne.1; simp at this
    | cons k r => exact List.length_pos_of_mem ((hm k).mpr List.mem_cons_self)
  refine ⟨⟨?_, fun xs hx => ?_⟩, ?_, fun js ls ej a => ?_⟩
  · cases v <;> first | (cases e; done) | skip
    · exact ⟨rfl, fun xs hx => by cases hx⟩
    · injection e with e
      refine ⟨rfl, fun xs hx => ?_⟩
      injection hx with hx
      subst hx
      subst e
      refine ⟨by rw [List.length_map]; omega, fun x hxx => ?_⟩
      obtain ⟨k, _, rfl⟩ := List.mem_map.mp hxx
      rfl
  · rw [e] at hx
    injection hx with hx
    subst hx
    refine ⟨by rw [List.length_map]; omega, fun x hx => ?_⟩
    obtain ⟨k, _, rfl⟩ := List.mem_map.mp hx
    exact ty1_tupI (place_bds (hp k ‹_›)).1
  · unfold regOdd
    rw [e]
    show (if 1 ≤ (ks.map tupI).length ∧ (ks.map tupI).length ≤ 40 then fstOdd 0 (ks.map tupI) else some (-1)) = none
    rw [if_pos (by rw [List.length_map]; omega)]
    exact odd_ok hp
  · have hj : ∀ k, k ∈ js ↔ k ∈ ks := by
      rw [e] at ej
      injection ej with ej
      have inj : ∀ {a b : Rg}, a.map tupI = b.map tupI → a = b := by
        intro a
        induction a with
        | nil => intro b h; cases b with
          | nil => rfl
          | cons _ _ => simp at h
        | cons x a ih => intro b h; cases b with
          | nil => simp at h
          | cons y b =>
            simp only [List.map_cons, List.cons.injEq] at h
            obtain ⟨h1, h2⟩ := h
            rw [ih h2]
            congr 1
            injection h1 with h1
            have : ∀ {a b : List Int}, a.map D.int = b.map D.int → a = b := by
              intro a
              induction a with
              | nil => intro b h; cases b with
                | nil => rfl
                | cons _ _ => simp at h
              | cons x a ih => intro b h; cases b with
                | nil => simp at h
                | cons y b =>
                  simp only [List.map_cons, List.cons.injEq, D.int.injEq] at h
                  rw [h.1, ih h.2]
            exact this h1
      rw [inj ej]
      exact fun k => Iff.rfl
    refine asc_same (fun k hk => ?_) (reg_bd hr) a.nd hr.nd a.asc hr.asc fun k => ?_
    · exact reg_bd hr k ((hm k).mp ((hj k).mp ((a.mem k).mp hk)))
    · rw [a.mem, hj, hm]
theorem Hand.self {r : Rg} (hr : Reg r) {v : D} (h : seq v = some (r.map tupI)) : Hand v r := ⟨r, h, fun _ => Iff.rfl, hr.ne.2⟩
theorem gauge_tyG {g : D} (h : gaugeOk g = true) : tyG g := by
  rcases gauge_cases h with rfl | ⟨z, rfl⟩
  · exact ⟨rfl, fun z e => by cases e⟩
  · refine ⟨rfl, fun z' e => ?_⟩
    cases e
    have := name_len h
    omega
theorem bT_kd (k : Kd) : bT.lookup k.s = some k.bd := by cases k <;> rfl
/-- what is handed in for a saying: places for squalls, else regions -/
def handed (o : Sy) (vs : List D) : Prop := if o.kd.squall = true then ∃ k, o.rs = [[k]] ∧ vs = [tupI k] else Paired Hand vs o.rs
theorem call_good {o : Sy} (hf : Fair o) (hn : oddN (o.ns.map .int) o.kd.bd = []) {vs : List D} (hv : handed o vs) {M : Mu} {Q : DK} {E : DXK} (q : Q o.pk M) : callP o.kd vs (o.ns.map .int) o.g M Q E := by
  obtain ⟨kd, ns, rs, g⟩ := o
  obtain ⟨sh, hg, hr, h9⟩ := hf
  simp only at sh hg hr h9 hn hv
  have tg := gauge_tyG hg
  have num : ∀ {n : Int} {b : Int × Int}, oddN [D.int n] [b] = [] → isNum (.int n) b.1 b.2 = true := by
    intro n b h
    simp only [oddN] at h
    cases e : isNum (.int n) b.1 b.2 with
    | true => rfl
    | false => rw [e] at h; simp at h
  have one : ∀ {kd : Kd} {n : Int} {r : Rg} {v : D} {b : Int × Int}, kd.bd = [b] → oddN ([n].map .int) kd.bd = [] → Reg r → Hand v r → Q (Sy.pk ⟨kd, [n], [r], g⟩) M → spOne kd.s [v, .int n, g] M Q E := by
    intro kd n r v b hb hn hr hv q
    rw [hb] at hn
    have hn' := num hn
    obtain ⟨ty, ro, un⟩ := hv.ok hr
    refine ⟨v, .int n, g, b, rfl, by rw [bT_kd, hb], ty, rfl, tg, fun i hi => ?_, fun _ e => ?_, fun _ _ e => ?_, fun ks ls e1 e2 e3 _ _ => ?_⟩
    · rw [ro] at hi; cases hi
    · rw [hn'] at e; cases e
    · rw [hg] at e; cases e
    · rw [un ks ls e1 e3]; exact q
  have two' : ∀ {kd : Kd} {ns : List Int} {r p : Rg} {v u : D}, oddN (ns.map .int) kd.bd = [] → ns.length = kd.bd.length → Reg r → Hand v r → Reg p → Hand u p → Q (Sy.pk ⟨kd, ns, [r, p], g⟩) M → two kd.s v u g (ns.map .int) kd.bd M Q E := by
    intro kd ns r p v u hn hl hr hv hp hu q
    obtain ⟨ty, ro, un⟩ := hv.ok hr
    obtain ⟨ty2, ro2, un2⟩ := hu.ok hp
    refine ⟨bT_kd kd, by rw [List.length_map]; exact hl, ty, ty2, fun x hx => ?_, tg, fun i hi => ?_, fun i _ hi => ?_, fun x l _ _ e => ?_, fun _ _ _ e => ?_, fun ks ls ks2 ls2 e1 e2 _ _ e3 e4 _ _ => ?_⟩
    · obtain ⟨i, _, rfl⟩ := List.mem_map.mp hx; rfl
    · rw [ro] at hi; cases hi
    · rw [ro2] at hi; cases hi
    · rw [hn] at e; cases e
    · rw [hg] at e; cases e
    · rw [un ks ls e1 e3, un2 ks2 ls2 e2 e4]; exact q
  have sqr : ∀ {kd : Kd} {n : Int} {k : List Int} {b : Int × Int}, kd.bd = [b] → oddN ([n].map .int) kd.bd = [] → isPlace (tupI k) = true → Q (Sy.pk ⟨kd, [n], [[k]], g⟩) M → spPlace kd.s [tupI k, .int n, g] M Q E := by
    intro kd n k b hb hn hk q
    rw [hb] at hn
    have hn' := num hn
    refine ⟨tupI k, .int n, g, b, rfl, by rw [bT_kd, hb], ty1_tupI (place_bds hk).1, rfl, tg, fun e => ?_, fun _ e => ?_, fun _ _ e => ?_, fun _ _ _ => q⟩
    · rw [hk] at e; cases e
    · rw [hn'] at e; cases e
    · rw [hg] at e; cases e
  unfold handed at hv
  cases sh with
  | one h2 hs n r =>
    rw [if_neg (by simp only; rw [hs]; simp)] at hv
    cases hv with
    | cons h1 h3 =>
      cases h3
      have hr' := hr r (by simp)
      cases kd <;> first | (cases h2; done) | (cases hs; done) | exact one (kd := _) rfl hn hr' h1 q
  | two h2 hi n r p =>
    have hs : kd.squall = false := by cases kd <;> first | rfl | cases h2
    rw [if_neg (by simp only; rw [hs]; simp)] at hv
    cases hv with
    | cons h1 h3 => cases h3 with
      | cons h3 h4 =>
        cases h4
        have hr' := hr r (by simp)
        have hp' := hr p (by simp)
        cases kd <;> first | (cases h2; done) | exact absurd rfl hi | skip
        · exact ⟨_, _, _, g, _, rfl, two' (kd := .under) (ns := [n]) hn rfl hr' h1 hp' h3 q⟩
        · exact ⟨_, _, _, g, _, rfl, two' (kd := .level) (ns := [n]) hn rfl hr' h1 hp' h3 q⟩
  | ift n m r p =>
    rw [if_neg (by intro e; cases e)] at hv
    cases hv with
    | cons h1 h3 => cases h3 with
      | cons h3 h4 =>
        cases h4
        exact ⟨_, _, _, _, g, _, rfl, two' (kd := .ifthen) (ns := [n, m]) hn rfl (hr r (by simp)) h1 (hr p (by simp)) h3 q⟩
  | sq hs n k =>
    rw [if_pos (by simp only; exact hs)] at hv
    obtain ⟨k', e, rfl⟩ := hv
    simp only [List.cons.injEq, and_true] at e
    subst e
    have hk := (hr [k] (by simp)).pl k (by simp)
    cases kd <;> first | (cases hs; done) | exact sqr (kd := _) rfl hn hk q
end HB
/-! Shared by the laws of sayings: the law's own opposites. -/
namespace HB
open PySem L2 DL HS
end HB
/-! Shared by the laws of sayings: what is raised, tried: promises. -/
namespace HB
open PySem L2 DL HS
def cVal : List Str := ["InvalidNumber", "InvalidGauge", "InvalidPlace", "InvalidMirror", "UnknownSaying", "UnknownPlace"]
def cAt : List Str := ["InvalidRegion", "InvalidSaying", "InvalidSquall", "NotForced"]
/-- what an error has beside its code -/
def attrsB (fs : List (Str × D)) (code : Str) : Option (List D) :=
  if code ∈ cVal then (match fld fs "value" with | some a => some [a] | _ => none)
  else if code ∈ cAt then (match fld fs "at" with | some a => some [a] | _ => none)
  else if code = "OffChart" then (match fld fs "place" with | some a => some [a] | _ => none)
  else if code = "InvalidText" then (match fld fs "line", fld fs "why" with | some a, some b => some [a, b] | _, _ => none)
  else if code = "TooMany" then (match fld fs "most" with | some a => some [a] | _ => none)
  else some []
def sp__law_field (xn : List Str) : DSp := fun ds M Q _ => ∃ n fs code l, ds = [.exc n fs] ∧ n ∈ xn ∧ fld fs "code" = some (.str code) ∧ attrsB fs code = some l ∧ Q (.tup l) M
def errB (fs : List (Str × D)) (d : D) : Prop := ∃ code l, fld fs "code" = some (.str code) ∧ attrsB fs code = some l ∧ noXL l = true ∧ d = .tup [.str code, .tup l]
def TT__law_try (xn : List Str) : DAct → Mu → DK → Prop := fun tl M Q => ∀ (E0 : DXK) (Q0 : DK), (∀ n fs M' d, n ∈ xn → errB fs d → Q d M' → E0 n fs M') → (∀ d M', Q (.tup [.str "", d]) M' → Q0 d M') → tl E0 M Q0
def triesR (xn : List Str) : List DAct → List D → Mu → DK → Prop
  | [], acc, M, Q => Q (.lst 0 acc) M
  | tl :: r, acc, M, Q => TT__law_try xn tl M fun d M1 => triesR xn r (acc ++ [d]) M1 Q
def TT__law_tries (xn : List Str) (ls : List DAct) (M : Mu) (Q : DK) : Prop := ls.length ≤ 1000 ∧ triesR xn ls [] M Q
end HB
/-! Shared by the laws of sayings: readings. Printed by a program of mine. -/
namespace HB
open PySem L2 DL HS
def t__law_field_1 (xn : List Str) : DS := (dRet (dIf (dB (dOp eqD (dXf xn "code" (dVar 0)) (dC (.str "TooMany")))) (dTup (dCons (dXf xn "most" (dVar 0)) dNil)) (dTup dNil)))
def t__law_field_2 (xn : List Str) : DS := (dSeq (dIfS (dB (dOp eqD (dXf xn "code" (dVar 0)) (dC (.str "InvalidText")))) (dRet (dTup (dCons (dXf xn "line" (dVar 0)) (dCons (dXf xn "why" (dVar 0)) dNil)))) dNext) (t__law_field_1 xn))
def t__law_field_3 (xn : List Str) : DS := (dSeq (dIfS (dB (dOp eqD (dXf xn "code" (dVar 0)) (dC (.str "OffChart")))) (dRet (dTup (dCons (dXf xn "place" (dVar 0)) dNil))) dNext) (t__law_field_2 xn))
def t__law_field_4 (xn : List Str) : DS := (dSeq (dIfS (dB (dOp inE (dXf xn "code" (dVar 0)) (dLst (dCons (dC (.str "InvalidRegion")) (dCons (dC (.str "InvalidSaying")) (dCons (dC (.str "InvalidSquall")) (dCons (dC (.str "NotForced")) dNil))))))) (dRet (dTup (dCons (dXf xn "at" (dVar 0)) dNil))) dNext) (t__law_field_3 xn))
def t__law_field (xn : List Str) : DS := (dSeq (dIfS (dB (dOp inE (dXf xn "code" (dVar 0)) (dLst (dCons (dC (.str "InvalidNumber")) (dCons (dC (.str "InvalidGauge")) (dCons (dC (.str "InvalidPlace")) (dCons (dC (.str "InvalidMirror")) (dCons (dC (.str "UnknownSaying")) (dCons (dC (.str "UnknownPlace")) dNil))))))))) (dRet (dTup (dCons (dXf xn "value" (dVar 0)) dNil))) dNext) (t__law_field_4 xn))
def t__law_try (xn : List Str) (f : Addr) (tl : DAct) : DS := (dTry2 xn 1 2 (fun E' => (dRet (dTup (dCons (dC (.str "")) (dCons (dAct f tl E') dNil))))) (dRet (dTup (dCons (dXf xn "code" (dVar 1)) (dCons (dCall (HB.sp__law_field xn) DX0 (dCons (dVar 1) dNil)) dNil)))))
def t__law_tries (xn : List Str) (acts : List (Addr × DAct)) : DS := (dRet (dLc (dIt (dVar 0)) (gNm 1) dYes (dTryA (HB.TT__law_try xn) acts (dVar 1)) [1]))
end HB
/-! Shared by the laws of sayings: what is raised, tried. -/
namespace HB
open PySem L2 DL HS
theorem in_strs {code : Str} (zs : List Str) {M : Mu} {K : DK} (hK : K (.bl (decide (code ∈ zs))) M) : inE (.str code) (.lst 0 (zs.map D.str)) M K := by
  simp only [inE, dctT, inD]
  refine ⟨⟨rfl, ?_⟩, ?_⟩
  · rw [List.all_eq_true]
    intro x hx
    obtain ⟨j, _, rfl⟩ := List.mem_map.mp hx
    rfl
  have e : inB (.str code) (zs.map D.str) = decide (code ∈ zs) := by
    simp only [inB, List.any_map]
    rw [Bool.eq_iff_iff]
    simp [eqT]
  rw [e]; exact hK
theorem pure__law_field (xn : List Str) : ∀ ds M Q, HB.sp__law_field xn ds M Q DX0 → ds.length = (["_law_e"] : List Str).length ∧ t__law_field xn { nx := fun _ M' => Q .non M', rt := Q } (startD ["_law_e"] ds) M := by
  rintro ds M Q ⟨n, fs, code, l, rfl, hn, hc, ha, q⟩
  refine ⟨rfl, ?_⟩
  have hc' : fs.lookup (Str.ofString "code") = some (.str code) := hc
  unfold t__law_field
  have eqc : ∀ (z : Str) (K : Bool → Mu → Prop), K (code == z) M → dB (dOp eqD (dXf xn "code" (dVar 0)) (dC (.str z))) [some (.exc n fs)] M K := by
    intro z K hK
    simp [hn, hc']; exact hK
  have xf : ∀ (f : Str) (d : D) (K : DK), fs.lookup f = some d → K d M → dXf xn f (dVar 0) [some (.exc n fs)] M K := by
    intro f d K hf hK
    simp [hn, hf]; exact hK
  unfold attrsB at ha
  refine s_if (b := decide (code ∈ cVal)) (fun K hK => xf "code" _ _ hc ⟨by simp, in_strs cVal hK⟩) (fun h => ?_) (fun h => s_next ?_)
  · rw [if_pos (by simpa using h)] at ha
    split at ha
    · rename_i a h1
      cases ha
      refine xf "value" a _ h1 ?_
      exact ⟨by simp, q⟩
    · cases ha
  rw [if_neg (by simpa using h)] at ha
  unfold t__law_field_4
  refine s_if (b := decide (code ∈ cAt)) (fun K hK => xf "code" _ _ hc ⟨by simp, in_strs cAt hK⟩) (fun h => ?_) (fun h => s_next ?_)
  · rw [if_pos (by simpa using h)] at ha
    split at ha
    · rename_i a h1
      cases ha
      refine xf "at" a _ h1 ?_
      exact ⟨by simp, q⟩
    · cases ha
  rw [if_neg (by simpa using h)] at ha
  unfold t__law_field_3
  refine s_if (b := code == "OffChart") (fun K hK => eqc _ K hK) (fun h => ?_) (fun h => s_next ?_)
  · rw [if_pos (by simpa using h)] at ha
    split at ha
    · rename_i a h1
      cases ha
      refine xf "place" a _ h1 ?_
      exact ⟨by simp, q⟩
    · cases ha
  rw [if_neg (by simpa using h)] at ha
  unfold t__law_field_2
  refine s_if (b := code == "InvalidText") (fun K hK => eqc _ K hK) (fun h => ?_) (fun h => s_next ?_)
  · rw [if_pos (by simpa using h)] at ha
    split at ha
    · rename_i a b h1 h2
      cases ha
      have h1' : fs.lookup (Str.ofString "line") = some a := h1
      have h2' : fs.lookup (Str.ofString "why") = some b := h2
      exact x_ret (v := .tup [a, b]) (fun K hK => by simp [hn, h1', h2']; exact hK) q
    · cases ha
  rw [if_neg (by simpa using h)] at ha
  unfold t__law_field_1
  refine eqc "TooMany" _ ?_
  show if (code == "TooMany") = true then _ else _
  split
  · rename_i h
    rw [if_pos (by simpa using h)] at ha
    split at ha
    · rename_i a h1
      cases ha
      refine xf "most" a _ h1 ?_
      exact ⟨by simp, q⟩
    · cases ha
  · rename_i h
    rw [if_neg (by simpa using h)] at ha
    cases ha
    exact ⟨by simp, q⟩
theorem pure__law_try (xn : List Str) : ∀ f tl M Q, HB.TT__law_try xn tl M Q → t__law_try xn f tl { nx := fun _ M' => Q .non M', rt := Q } (startD ["_law_ask", "_law_e"] [.ref f]) M := by
  intro f tl M Q h
  unfold t__law_try
  refine ⟨rfl, h _ _ (fun n fs M' d hn he hq => ⟨hn, ?_⟩) (fun d M' hq => ⟨by simp, hq⟩)⟩
  obtain ⟨code, l, hc, ha, hx, rfl⟩ := he
  have hc' : fs.lookup (Str.ofString "code") = some (.str code) := hc
  simp [hn, hc']
  exact ⟨n, fs, code, l, rfl, hn, hc, ha, rfl, by simp [noX, noXL, hx], hq⟩
theorem try_mono {xn : List Str} {tl : DAct} {M : Mu} {Q Q' : DK} (h : HB.TT__law_try xn tl M Q) (k : ∀ d M', Q d M' → Q' d M') : HB.TT__law_try xn tl M Q' := fun E0 Q0 hE hQ => h E0 Q0 (fun n fs M' d hn he q => hE n fs M' d hn he (k d M' q)) (fun d M' q => hQ d M' (k _ M' q))
theorem tries_comp {xn : List Str} {acts : List (Addr × DAct)} {r : Nat} {L : List D} {Q : DK} : ∀ (rest : List (Addr × DAct)) (acc : List D) (M : Mu), (∀ x ∈ rest, x ∈ acts) → acc.length + rest.length ≤ 1000 → HB.triesR xn (rest.map (·.2)) acc M Q →
    compi (gNm 1) dYes (dTryA (HB.TT__law_try xn) acts (dVar 1)) [some (.lst r L), none] (rest.map fun q => .ref q.1) acc M Q
  | [], acc, M, _, _, h => h
  | (f, tl) :: rest, acc, M, hm, hl, h => by
    refine ⟨f, tl, rfl, hm _ List.mem_cons_self, ?_⟩
    refine HB.try_mono h fun d M1 q => ⟨by simp at hl; omega, ?_⟩
    exact tries_comp rest (acc ++ [d]) M1 (fun x hx => hm x (List.mem_cons_of_mem _ hx)) (by simp at hl ⊢; omega) q
theorem pure__law_tries (xn : List Str) : ∀ (acts : List (Addr × DAct)) r M Q, HB.TT__law_tries xn (acts.map (·.2)) M Q → t__law_tries xn acts { nx := fun _ M' => Q .non M', rt := Q } (startD ["_law_asks", "_law_ask"] [.lst r (acts.map fun q => .ref q.1)]) M := by
  intro acts r M Q ⟨hl, h⟩
  exact HB.tries_comp acts [] M (fun _ h => h) (by simpa using hl) h
end HB
/-! Shared by the laws of sayings: sayings made, promises. -/
namespace HB
open PySem L2 DL HS
/-- a saying that the laws ask -/
structure Nice (o : Sy) : Prop where
  fair : Fair o
  nb : oddN (o.ns.map .int) o.kd.bd = []
  gg : gd 1 o.g = true
def sp__law_made : DSp := fun ds M Q _ => ∃ o : Sy, ds = [o.lw] ∧ Nice o ∧ Q o.pk M
end HB
/-! Shared by the laws of sayings: readings. Printed by a program of mine. -/
namespace HB
open PySem L2 DL HS
def t__law_made_1 (E : DXK) : DS := (dRet (dCall sp__law_call E (dCons (dVar 1) (dCons (dLc (dIt (dVar 3)) (gNm 5) dYes (dCB lstD (dCons (dVar 5) dNil)) [5]) (dCons (dVar 2) (dCons (dVar 4) dNil))))))
def t__law_made_2 (E : DXK) : DS := (dSeq (dIfS (dB (dCall sp__law_is_squall DX0 (dCons (dVar 1) dNil))) (dRet (dCall sp__law_call E (dCons (dVar 1) (dCons (dLst (dCons (dOp ixE (dOp ixE (dVar 3) (dC (.int 0))) (dC (.int 0))) dNil)) (dCons (dVar 2) (dCons (dVar 4) dNil)))))) dNext) (t__law_made_1 E))
def t__law_made (E : DXK) : DS := (dSeq (dAsg (dVar 0) (gTp (gsCons (gNm 1) (gsCons (gNm 2) (gsCons (gNm 3) (gsCons (gNm 4) gsNil)))) 4)) (t__law_made_2 E))
end HB
/-! Shared by the laws of sayings: sayings made. -/
namespace HB
open PySem L2 DL HS
theorem lst_hand {r : Rg} (hr : Reg r) : Hand (.lst 0 (r.map tupI)) r := Hand.self hr rfl
theorem pure__law_made : ∀ ds M Q E, sp__law_made ds M Q E → ds.length = (["_law_one"] : List Str).length ∧ t__law_made (fzX E) { nx := fun _ M' => fzK Q .non M', rt := fzK Q } (startD ["_law_one", "_law_kind", "_law_nums", "_law_regs", "_law_by_z", "_law_region_z"] ds) M := by
  rintro ds M Q E ⟨⟨kd, ns, rs, g⟩, rfl, hg, q⟩
  refine ⟨rfl, ?_⟩
  show t__law_made (fzX E) { nx := fun _ M' => fzK Q .non M', rt := fzK Q } [some (.tup [.str kd.s, .tup (ns.map .int), .tup (rs.map regD), g]), none, none, none, none, none] M
  simp only [t__law_made, dSeq, dAsg, dVar, List.getElem?_cons_succ, List.getElem?_cons_zero, gTp, gsCons, gsNil, gNm, List.set_cons_succ, List.set_cons_zero]
  refine ⟨rfl, ?_⟩
  simp only [t__law_made_2, dSeq, dIfS, dB, dCall, dCons, dNil, dVar, List.getElem?_cons_succ, List.getElem?_cons_zero]
  refine ⟨kd, rfl, ?_⟩
  cases hs : kd.squall with
  | true =>
    simp only [isB, if_true, dRet, dCall, dLst, dCons, dNil, dOp, dC, dVar, List.getElem?_cons_succ, List.getElem?_cons_zero]
    have sh := hg.fair.sh
    simp only at sh
    cases sh with
    | one h2 h => rw [hs] at h; cases h
    | two h2 => cases kd <;> first | (cases h2; done) | cases hs
    | ift => cases hs
    | sq h n k =>
      simp only [List.map_cons, List.map_nil, regD, ix0]
      exact ⟨by simp, kd, _, _, g, _, _, rfl, rfl, rfl, call_good (o := ⟨kd, [n], [[k]], g⟩) hg.fair hg.nb (by unfold handed; rw [if_pos hs]; exact ⟨k, rfl, rfl⟩) (fz_same q)⟩
  | false =>
    simp only [isB, Bool.false_eq_true, if_false, dNext]
    simp only [t__law_made_1, dRet, dCall, dCons, dNil, dLc, dIt, dVar, List.getElem?_cons_succ, List.getElem?_cons_zero]
    have ln : rs.length ≤ 2 := by have sh := hg.fair.sh; simp only at sh; cases sh <;> simp
    refine compi_of (h := regD) (f := fun r => D.lst 0 (r.map tupI)) rs [] _ (fun r hr Q' q' => ?_) (by simp; omega) ?_
    · simp only [wipeD, gNm, dCB, dCons, dNil, dVar, List.getElem?_cons_succ, List.getElem?_cons_zero, List.set_cons_succ, List.set_cons_zero, List.foldl, regD, lstD]
      exact q'
    · refine ⟨kd, _, _, g, _, _, rfl, rfl, rfl, call_good (o := ⟨kd, ns, rs, g⟩) hg.fair hg.nb ?_ (fz_same q)⟩
      unfold handed
      rw [if_neg (by simp only; rw [hs]; simp)]
      have : ∀ l : List Rg, (∀ r ∈ l, Reg r) → Paired Hand (l.map fun r => D.lst 0 (r.map tupI)) l := by
        intro l
        induction l with
        | nil => intro _; exact .nil
        | cons r l ih => intro h; exact .cons (lst_hand (h r List.mem_cons_self)) (ih fun x hx => h x (List.mem_cons_of_mem _ hx))
      exact this rs hg.fair.rg
end HB
/-! Shared by the laws of sayings: sizes. -/
namespace HB
open PySem L2 DL HS
/-! ### sizes -/
structure Siz (o : Sy) : Prop where
  g : gd 1 o.g = true
  ns : o.ns.length ≤ 100
  rs : o.rs.length ≤ 100
  r : ∀ r ∈ o.rs, r.length ≤ 100 ∧ ∀ k ∈ r, k.length ≤ 100
theorem gd_g {g : D} (h : gd 1 g = true) (hg : gaugeOk g = true) (n : Nat) : gd n g = true := by
  rcases gauge_cases hg with rfl | ⟨z, rfl⟩
  · cases n <;> rfl
  · cases n <;> exact h
theorem gd_int (n : Nat) (i : Int) : gd n (.int i) = true := by cases n <;> rfl
theorem gd_ints {ns : List Int} (n : Nat) (h : ns.length ≤ 100) : gd (n + 1) (.tup (ns.map .int)) = true := by
  show (decide ((ns.map D.int).length ≤ 50000) && (ns.map D.int).all (gd n)) = true
  rw [Bool.and_eq_true]
  refine ⟨by rw [List.length_map]; exact decide_eq_true (by omega), List.all_eq_true.mpr fun x hx => ?_⟩
  obtain ⟨i, _, rfl⟩ := List.mem_map.mp hx
  exact gd_int n i
theorem gd_regs {rs : List Rg} (n : Nat) (h : rs.length ≤ 100) (hr : ∀ r ∈ rs, r.length ≤ 100 ∧ ∀ k ∈ r, k.length ≤ 100) : (rs.map regD).all (gd (n + 2)) = true := by
  refine List.all_eq_true.mpr fun x hx => ?_
  obtain ⟨r, hrm, rfl⟩ := List.mem_map.mp hx
  show (decide ((r.map tupI).length ≤ 50000) && (r.map tupI).all (gd (n + 1))) = true
  rw [Bool.and_eq_true]
  refine ⟨by rw [List.length_map]; exact decide_eq_true (by have := (hr r hrm).1; omega), List.all_eq_true.mpr fun x hx => ?_⟩
  obtain ⟨k, hk, rfl⟩ := List.mem_map.mp hx
  exact gd_ints n ((hr r hrm).2 k hk)
theorem gd_kd (k : Kd) (n : Nat) : gd n (.str k.s) = true := by
  have : gd 0 (.str k.s) = true := by cases k <;> decide +kernel
  cases n <;> exact this
theorem gd_lw {o : Sy} (h : Siz o) (hg : gaugeOk o.g = true) : gd 4 o.lw = true := by
  show (decide (4 ≤ 50000) && (gd 3 (.str o.kd.s) && (gd 3 (.tup (o.ns.map .int)) && (gd 3 (.tup (o.rs.map regD)) && (gd 3 o.g && true))))) = true
  have e : gd 3 (.tup (o.rs.map regD)) = true := by
    show (decide ((o.rs.map regD).length ≤ 50000) && (o.rs.map regD).all (gd 2)) = true
    rw [gd_regs 0 h.rs h.r, Bool.and_true, List.length_map]
    exact decide_eq_true (by have := h.rs; omega)
  rw [gd_kd, gd_ints 2 h.ns, e, gd_g h.g hg]; rfl
theorem gd_list {xs : List D} {n : Nat} (hl : xs.length ≤ 100) (h : ∀ x ∈ xs, gd n x = true) : gd (n + 1) (.lst 0 xs) = true := by
  show (decide (xs.length ≤ 50000) && xs.all (gd n)) = true
  rw [Bool.and_eq_true]
  exact ⟨decide_eq_true (by omega), List.all_eq_true.mpr h⟩
theorem rs_gd {M : Mu} {dead : Addr → Prop} : ∀ {n k : Nat} {d : D}, gd n d = true → rs M dead k d = d
  | _, 0, d, _ => rfl
  | n, k + 1, .non, _ => rfl
  | n, k + 1, .bl _, _ => rfl
  | n, k + 1, .int _, _ => rfl
  | n, k + 1, .str _, _ => rfl
  | 0, k + 1, .lst _ xs, h => by simp [gd] at h
  | n + 1, k + 1, .lst s xs, h => by
    rw [rs, map_same fun t ht => rs_gd ((gd_lst h).2 t ht)]
  | 0, k + 1, .tup xs, h => by simp [gd] at h
  | n + 1, k + 1, .tup xs, h => by
    rw [rs, map_same fun t ht => rs_gd ((gd_tup h).2 t ht)]
  | n, k + 1, .dct _, h => by cases n <;> simp [gd] at h
  | n, k + 1, .obj _ _, h => by cases n <;> simp [gd] at h
  | n, k + 1, .exc _ _, h => by cases n <;> simp [gd] at h
  | n, k + 1, .ref _, h => by cases n <;> simp [gd] at h
  | n, k + 1, .scr _, h => by cases n <;> simp [gd] at h
  | n, k + 1, .ty _, h => by cases n <;> simp [gd] at h
  | n, k + 1, .cls _, h => by cases n <;> simp [gd] at h
  | n, k + 1, .cst _, h => by cases n <;> simp [gd] at h
theorem siz_of {o : Sy} (h : Nice o) : Siz o := by
  have sh := h.fair.sh
  refine ⟨h.gg, ?_, ?_, fun r hr => ⟨by have := (h.fair.rg r hr).ne.2; omega, fun k hk => by have := (place_bds ((h.fair.rg r hr).pl k hk)).1; omega⟩⟩
  · cases o with | mk kd ns rs g => simp only at sh ⊢; cases sh <;> simp
  · cases o with | mk kd ns rs g => simp only at sh ⊢; cases sh <;> simp
theorem noRL_ints {r : Nat} (ns : List Int) : noRL r (ns.map .int) = true := by
  rw [noRL_all, List.all_eq_true]
  intro x hx
  obtain ⟨i, _, rfl⟩ := List.mem_map.mp hx
  rfl
theorem noRL_regs {r : Nat} (rs : List Rg) : noRL r (rs.map regD) = true := by
  rw [noRL_all, List.all_eq_true]
  intro x hx
  obtain ⟨g, _, rfl⟩ := List.mem_map.mp hx
  show noRL r (g.map tupI) = true
  rw [noRL_all, List.all_eq_true]
  intro x hx
  obtain ⟨k, _, rfl⟩ := List.mem_map.mp hx
  exact noRL_ints k
theorem noR_pk {r : Nat} {o : Sy} (hg : gaugeOk o.g = true) : noR r o.pk = true := by
  show (noR r (.str o.kd.s) && (noR r o.g && (noRL r (o.rs.map regD) && (noRL r (o.ns.map .int) && true)))) = true
  rw [noRL_regs, noRL_ints]
  rcases gauge_cases hg with e | ⟨z, e⟩ <;> rw [e] <;> rfl
theorem noR_lw {r : Nat} {o : Sy} (hg : gaugeOk o.g = true) : noR r o.lw = true := by
  show (noR r (.str o.kd.s) && (noRL r (o.ns.map .int) && (noRL r (o.rs.map regD) && (noR r o.g && true)))) = true
  rw [noRL_regs, noRL_ints]
  rcases gauge_cases hg with e | ⟨z, e⟩ <;> rw [e] <;> rfl
theorem eqvAll_of : ∀ l : List PyData, (∀ x ∈ l, PyData.eqv x x = true) → PyData.eqvAll l l = true
  | [], _ => by simp [PyData.eqvAll]
  | x :: l, h => by simp [PyData.eqvAll, h x List.mem_cons_self, eqvAll_of l fun y hy => h y (List.mem_cons_of_mem _ hy)]
theorem eqv_gd : ∀ {n : Nat} {d : D}, gd n d = true → PyData.eqv (py d) (py d) = true
  | _, .non, _ => rfl
  | _, .bl _, _ => by simp [py, PyData.eqv]
  | _, .int _, _ => by simp [py, PyData.eqv]
  | _, .str _, _ => by simp [py, PyData.eqv]
  | 0, .lst _ xs, h => by simp [gd] at h
  | n + 1, .lst s xs, h => by
    simp only [py, DL.pyL_map, PyData.eqv]
    refine eqvAll_of _ fun x hx => ?_
    obtain ⟨y, hy, rfl⟩ := List.mem_map.mp hx
    exact eqv_gd ((gd_lst h).2 y hy)
  | 0, .tup xs, h => by simp [gd] at h
  | n + 1, .tup xs, h => by
    simp only [py, DL.pyL_map, PyData.eqv]
    refine eqvAll_of _ fun x hx => ?_
    obtain ⟨y, hy, rfl⟩ := List.mem_map.mp hx
    exact eqv_gd ((gd_tup h).2 y hy)
  | n, .dct _, h => by cases n <;> simp [gd] at h
  | n, .obj _ _, h => by cases n <;> simp [gd] at h
  | n, .exc _ _, h => by cases n <;> simp [gd] at h
  | n, .ref _, h => by cases n <;> simp [gd] at h
  | n, .scr _, h => by cases n <;> simp [gd] at h
  | n, .ty _, h => by cases n <;> simp [gd] at h
  | n, .cls _, h => by cases n <;> simp [gd] at h
  | n, .cst _, h => by cases n <;> simp [gd] at h
theorem eqB_py {n : Nat} {x y : D} (hx : gd n x = true) (e : py x = py y) : eqB x y = true := by
  unfold eqB; rw [← e]; exact eqv_gd hx
theorem noX_gd : ∀ {n : Nat} {d : D}, gd n d = true → noX d = true
  | _, .non, _ => rfl
  | _, .bl _, _ => rfl
  | _, .int _, _ => rfl
  | _, .str _, _ => rfl
  | 0, .lst _ xs, h => by simp [gd] at h
  | n + 1, .lst s xs, h => by
    have : ∀ l : List D, (∀ x ∈ l, noX x = true) → noXL l = true := fun l => by
      induction l with
      | nil => intro _; rfl
      | cons x l ih => intro hh; simp [noXL, hh x List.mem_cons_self, ih fun y hy => hh y (List.mem_cons_of_mem _ hy)]
    simp only [noX]
    exact this xs fun x hx => noX_gd ((gd_lst h).2 x hx)
  | 0, .tup xs, h => by simp [gd] at h
  | n + 1, .tup xs, h => by
    have : ∀ l : List D, (∀ x ∈ l, noX x = true) → noXL l = true := fun l => by
      induction l with
      | nil => intro _; rfl
      | cons x l ih => intro hh; simp [noXL, hh x List.mem_cons_self, ih fun y hy => hh y (List.mem_cons_of_mem _ hy)]
    simp only [noX]
    exact this xs fun x hx => noX_gd ((gd_tup h).2 x hx)
  | n, .dct _, h => by cases n <;> simp [gd] at h
  | n, .obj _ _, h => by cases n <;> simp [gd] at h
  | n, .exc _ _, h => by cases n <;> simp [gd] at h
  | n, .ref _, h => by cases n <;> simp [gd] at h
  | n, .scr _, h => by cases n <;> simp [gd] at h
  | n, .ty _, h => by cases n <;> simp [gd] at h
  | n, .cls _, h => by cases n <;> simp [gd] at h
  | n, .cst _, h => by cases n <;> simp [gd] at h
end HB
/-! The text by places, scopes. Printed by a program of mine. -/
namespace K21
open PySem L2 DL HS HB
theorem sc_is_number : FnScope ["value", "least", "most"] ["value", "least", "most"] (defScope s_is_number) := ⟨rfl, rfl, rfl, by decide +kernel, rfl, by decide +kernel, by decide +kernel⟩
theorem bn_is_number : ∀ (kV doc pm : Value) (an : Option Addr) (cdv ct : Value) (us : List Value), us.length = (["value", "least", "most"] : List Str).length → bindArgs (PySem.W.fnOf "is_number" "is_number" (defArgs s_is_number) (defBody s_is_number) (defScope s_is_number) .none kV doc pm an cdv ct) ⟨us, []⟩ = pure ((["value", "least", "most"] : List Str).zip us) := fun _ _ _ _ _ _ us hl => match us, hl with | [_, _, _], _ => rfl
theorem sc_is_name : FnScope ["value", "letter"] ["value"] (defScope s_is_name) := ⟨rfl, rfl, rfl, by decide +kernel, rfl, by decide +kernel, by decide +kernel⟩
theorem bn_is_name : ∀ (kV doc pm : Value) (an : Option Addr) (cdv ct : Value) (us : List Value), us.length = (["value"] : List Str).length → bindArgs (PySem.W.fnOf "is_name" "is_name" (defArgs s_is_name) (defBody s_is_name) (defScope s_is_name) .none kV doc pm an cdv ct) ⟨us, []⟩ = pure ((["value"] : List Str).zip us) := fun _ _ _ _ _ _ us hl => match us, hl with | [_], _ => rfl
theorem sc_is_cell : FnScope ["value"] ["value"] (defScope s_is_cell) := ⟨rfl, rfl, rfl, by decide +kernel, rfl, by decide +kernel, by decide +kernel⟩
theorem bn_is_cell : ∀ (kV doc pm : Value) (an : Option Addr) (cdv ct : Value) (us : List Value), us.length = (["value"] : List Str).length → bindArgs (PySem.W.fnOf "is_cell" "is_cell" (defArgs s_is_cell) (defBody s_is_cell) (defScope s_is_cell) .none kV doc pm an cdv ct) ⟨us, []⟩ = pure ((["value"] : List Str).zip us) := fun _ _ _ _ _ _ us hl => match us, hl with | [_], _ => rfl
theorem sc_is_place : FnScope ["value"] ["value"] (defScope s_is_place) := ⟨rfl, rfl, rfl, by decide +kernel, rfl, by decide +kernel, by decide +kernel⟩
theorem bn_is_place : ∀ (kV doc pm : Value) (an : Option Addr) (cdv ct : Value) (us : List Value), us.length = (["value"] : List Str).length → bindArgs (PySem.W.fnOf "is_place" "is_place" (defArgs s_is_place) (defBody s_is_place) (defScope s_is_place) .none kV doc pm an cdv ct) ⟨us, []⟩ = pure ((["value"] : List Str).zip us) := fun _ _ _ _ _ _ us hl => match us, hl with | [_], _ => rfl
theorem sc_first_outside : FnScope ["kind", "numbers", "wrong", "number", "least", "most"] ["kind", "numbers"] (defScope s_first_outside) := ⟨rfl, rfl, rfl, by decide +kernel, rfl, by decide +kernel, by decide +kernel⟩
theorem bn_first_outside : ∀ (kV doc pm : Value) (an : Option Addr) (cdv ct : Value) (us : List Value), us.length = (["kind", "numbers"] : List Str).length → bindArgs (PySem.W.fnOf "first_outside" "first_outside" (defArgs s_first_outside) (defBody s_first_outside) (defScope s_first_outside) .none kV doc pm an cdv ct) ⟨us, []⟩ = pure ((["kind", "numbers"] : List Str).zip us) := fun _ _ _ _ _ _ us hl => match us, hl with | [_, _], _ => rfl
theorem sc_check_gauge : FnScope ["gauge"] ["gauge"] (defScope s_check_gauge) := ⟨rfl, rfl, rfl, by decide +kernel, rfl, by decide +kernel, by decide +kernel⟩
theorem bn_check_gauge : ∀ (kV doc pm : Value) (an : Option Addr) (cdv ct : Value) (us : List Value), us.length = (["gauge"] : List Str).length → bindArgs (PySem.W.fnOf "check_gauge" "check_gauge" (defArgs s_check_gauge) (defBody s_check_gauge) (defScope s_check_gauge) .none kV doc pm an cdv ct) ⟨us, []⟩ = pure ((["gauge"] : List Str).zip us) := fun _ _ _ _ _ _ us hl => match us, hl with | [_], _ => rfl
theorem sc_kept_region : FnScope ["region", "at", "place"] ["region"] (defScope s_kept_region) := ⟨rfl, rfl, rfl, by decide +kernel, rfl, by decide +kernel, by decide +kernel⟩
theorem bn_kept_region : ∀ (kV doc pm : Value) (an : Option Addr) (cdv ct : Value) (us : List Value), us.length = (["region"] : List Str).length → bindArgs (PySem.W.fnOf "kept_region" "kept_region" (defArgs s_kept_region) (defBody s_kept_region) (defScope s_kept_region) .none kV doc pm an cdv ct) ⟨us, []⟩ = pure ((["region"] : List Str).zip us) := fun _ _ _ _ _ _ us hl => match us, hl with | [_], _ => rfl
theorem sc_kept_place : FnScope ["place"] ["place"] (defScope s_kept_place) := ⟨rfl, rfl, rfl, by decide +kernel, rfl, by decide +kernel, by decide +kernel⟩
theorem bn_kept_place : ∀ (kV doc pm : Value) (an : Option Addr) (cdv ct : Value) (us : List Value), us.length = (["place"] : List Str).length → bindArgs (PySem.W.fnOf "kept_place" "kept_place" (defArgs s_kept_place) (defBody s_kept_place) (defScope s_kept_place) .none kV doc pm an cdv ct) ⟨us, []⟩ = pure ((["place"] : List Str).zip us) := fun _ _ _ _ _ _ us hl => match us, hl with | [_], _ => rfl
theorem sc_made : FnScope ["kind", "regions", "numbers", "gauge", "wrong"] ["kind", "regions", "numbers", "gauge"] (defScope s_made) := ⟨rfl, rfl, rfl, by decide +kernel, rfl, by decide +kernel, by decide +kernel⟩
theorem bn_made : ∀ (kV doc pm : Value) (an : Option Addr) (cdv ct : Value) (us : List Value), us.length = (["kind", "regions", "numbers", "gauge"] : List Str).length → bindArgs (PySem.W.fnOf "made" "made" (defArgs s_made) (defBody s_made) (defScope s_made) .none kV doc pm an cdv ct) ⟨us, []⟩ = pure ((["kind", "regions", "numbers", "gauge"] : List Str).zip us) := fun _ _ _ _ _ _ us hl => match us, hl with | [_, _, _, _], _ => rfl
theorem sc_at_most : FnScope ["region", "limit", "gauge"] ["region", "limit", "gauge"] (defScope s_at_most) := ⟨rfl, rfl, rfl, by decide +kernel, rfl, by decide +kernel, by decide +kernel⟩
theorem sc_at_least : FnScope ["region", "amount", "gauge"] ["region", "amount", "gauge"] (defScope s_at_least) := ⟨rfl, rfl, rfl, by decide +kernel, rfl, by decide +kernel, by decide +kernel⟩
theorem sc_exactly : FnScope ["region", "limit", "gauge"] ["region", "limit", "gauge"] (defScope s_exactly) := ⟨rfl, rfl, rfl, by decide +kernel, rfl, by decide +kernel, by decide +kernel⟩
theorem sc_under : FnScope ["region", "other", "more", "gauge"] ["region", "other", "more", "gauge"] (defScope s_under) := ⟨rfl, rfl, rfl, by decide +kernel, rfl, by decide +kernel, by decide +kernel⟩
theorem sc_level : FnScope ["region", "other", "more", "gauge"] ["region", "other", "more", "gauge"] (defScope s_level) := ⟨rfl, rfl, rfl, by decide +kernel, rfl, by decide +kernel, by decide +kernel⟩
theorem sc_if_then : FnScope ["region", "amount", "other", "least", "gauge"] ["region", "amount", "other", "least", "gauge"] (defScope s_if_then) := ⟨rfl, rfl, rfl, by decide +kernel, rfl, by decide +kernel, by decide +kernel⟩
theorem sc_squall_most : FnScope ["place", "limit", "gauge"] ["place", "limit", "gauge"] (defScope s_squall_most) := ⟨rfl, rfl, rfl, by decide +kernel, rfl, by decide +kernel, by decide +kernel⟩
theorem sc_squall_least : FnScope ["place", "amount", "gauge"] ["place", "amount", "gauge"] (defScope s_squall_least) := ⟨rfl, rfl, rfl, by decide +kernel, rfl, by decide +kernel, by decide +kernel⟩
theorem sc__law_open : FnScope ["_law_script", "_law_mixed", "_law_cell"] ["_law_script"] (defScope s__law_open) := ⟨rfl, rfl, rfl, by decide +kernel, rfl, by decide +kernel, by decide +kernel⟩
theorem bn__law_open : ∀ (kV doc pm : Value) (an : Option Addr) (cdv ct : Value) (us : List Value), us.length = (["_law_script"] : List Str).length → bindArgs (PySem.W.fnOf "_law_open" "_law_open" (defArgs s__law_open) (defBody s__law_open) (defScope s__law_open) .none kV doc pm an cdv ct) ⟨us, []⟩ = pure ((["_law_script"] : List Str).zip us) := fun _ _ _ _ _ _ us hl => match us, hl with | [_], _ => rfl
theorem sc__law_draw : FnScope ["_law_bag", "_law_sides", "_law_cell", "_law_small", "_law_digit", "_law_seed", "_law_step"] ["_law_bag", "_law_sides"] (defScope s__law_draw) := ⟨rfl, rfl, rfl, by decide +kernel, rfl, by decide +kernel, by decide +kernel⟩
theorem bn__law_draw : ∀ (kV doc pm : Value) (an : Option Addr) (cdv ct : Value) (us : List Value), us.length = (["_law_bag", "_law_sides"] : List Str).length → bindArgs (PySem.W.fnOf "_law_draw" "_law_draw" (defArgs s__law_draw) (defBody s__law_draw) (defScope s__law_draw) .none kV doc pm an cdv ct) ⟨us, []⟩ = pure ((["_law_bag", "_law_sides"] : List Str).zip us) := fun _ _ _ _ _ _ us hl => match us, hl with | [_, _], _ => rfl
theorem sc__law_of : FnScope ["_law_bag", "_law_things"] ["_law_bag", "_law_things"] (defScope s__law_of) := ⟨rfl, rfl, rfl, by decide +kernel, rfl, by decide +kernel, by decide +kernel⟩
theorem bn__law_of : ∀ (kV doc pm : Value) (an : Option Addr) (cdv ct : Value) (us : List Value), us.length = (["_law_bag", "_law_things"] : List Str).length → bindArgs (PySem.W.fnOf "_law_of" "_law_of" (defArgs s__law_of) (defBody s__law_of) (defScope s__law_of) .none kV doc pm an cdv ct) ⟨us, []⟩ = pure ((["_law_bag", "_law_things"] : List Str).zip us) := fun _ _ _ _ _ _ us hl => match us, hl with | [_, _], _ => rfl
theorem sc__law_same : FnScope ["_law_found", "_law_due", "_law_key", "_law_one", "_law_other"] ["_law_found", "_law_due"] (defScope s__law_same) := ⟨rfl, rfl, rfl, by decide +kernel, rfl, by decide +kernel, by decide +kernel⟩
theorem bn__law_same : ∀ (kV doc pm : Value) (an : Option Addr) (cdv ct : Value) (us : List Value), us.length = (["_law_found", "_law_due"] : List Str).length → bindArgs (PySem.W.fnOf "_law_same" "_law_same" (defArgs s__law_same) (defBody s__law_same) (defScope s__law_same) .none kV doc pm an cdv ct) ⟨us, []⟩ = pure ((["_law_found", "_law_due"] : List Str).zip us) := fun _ _ _ _ _ _ us hl => match us, hl with | [_, _], _ => rfl
theorem sc__law_field : FnScope ["_law_e"] ["_law_e"] (defScope s__law_field) := ⟨rfl, rfl, rfl, by decide +kernel, rfl, by decide +kernel, by decide +kernel⟩
theorem bn__law_field : ∀ (kV doc pm : Value) (an : Option Addr) (cdv ct : Value) (us : List Value), us.length = (["_law_e"] : List Str).length → bindArgs (PySem.W.fnOf "_law_field" "_law_field" (defArgs s__law_field) (defBody s__law_field) (defScope s__law_field) .none kV doc pm an cdv ct) ⟨us, []⟩ = pure ((["_law_e"] : List Str).zip us) := fun _ _ _ _ _ _ us hl => match us, hl with | [_], _ => rfl
theorem sc__law_try : FnScope ["_law_ask", "_law_e"] ["_law_ask"] (defScope s__law_try) := ⟨rfl, rfl, rfl, by decide +kernel, rfl, by decide +kernel, by decide +kernel⟩
theorem bn__law_try : ∀ (kV doc pm : Value) (an : Option Addr) (cdv ct : Value) (us : List Value), us.length = (["_law_ask"] : List Str).length → bindArgs (PySem.W.fnOf "_law_try" "_law_try" (defArgs s__law_try) (defBody s__law_try) (defScope s__law_try) .none kV doc pm an cdv ct) ⟨us, []⟩ = pure ((["_law_ask"] : List Str).zip us) := fun _ _ _ _ _ _ us hl => match us, hl with | [_], _ => rfl
theorem sc__law_tries : FnScope ["_law_asks", "_law_ask"] ["_law_asks"] (defScope s__law_tries) := ⟨rfl, rfl, rfl, by decide +kernel, rfl, by decide +kernel, by decide +kernel⟩
theorem bn__law_tries : ∀ (kV doc pm : Value) (an : Option Addr) (cdv ct : Value) (us : List Value), us.length = (["_law_asks"] : List Str).length → bindArgs (PySem.W.fnOf "_law_tries" "_law_tries" (defArgs s__law_tries) (defBody s__law_tries) (defScope s__law_tries) .none kV doc pm an cdv ct) ⟨us, []⟩ = pure ((["_law_asks"] : List Str).zip us) := fun _ _ _ _ _ _ us hl => match us, hl with | [_], _ => rfl
theorem sc__law_kinds : FnScope [] [] (defScope s__law_kinds) := ⟨rfl, rfl, rfl, by decide +kernel, rfl, by decide +kernel, by decide +kernel⟩
theorem bn__law_kinds : ∀ (kV doc pm : Value) (an : Option Addr) (cdv ct : Value) (us : List Value), us.length = ([] : List Str).length → bindArgs (PySem.W.fnOf "_law_kinds" "_law_kinds" (defArgs s__law_kinds) (defBody s__law_kinds) (defScope s__law_kinds) .none kV doc pm an cdv ct) ⟨us, []⟩ = pure (([] : List Str).zip us) := fun _ _ _ _ _ _ us hl => match us, hl with | [], _ => rfl
theorem sc__law_is_squall : FnScope ["_law_kind"] ["_law_kind"] (defScope s__law_is_squall) := ⟨rfl, rfl, rfl, by decide +kernel, rfl, by decide +kernel, by decide +kernel⟩
theorem bn__law_is_squall : ∀ (kV doc pm : Value) (an : Option Addr) (cdv ct : Value) (us : List Value), us.length = (["_law_kind"] : List Str).length → bindArgs (PySem.W.fnOf "_law_is_squall" "_law_is_squall" (defArgs s__law_is_squall) (defBody s__law_is_squall) (defScope s__law_is_squall) .none kV doc pm an cdv ct) ⟨us, []⟩ = pure ((["_law_kind"] : List Str).zip us) := fun _ _ _ _ _ _ us hl => match us, hl with | [_], _ => rfl
theorem sc__law_bounds : FnScope ["_law_kind"] ["_law_kind"] (defScope s__law_bounds) := ⟨rfl, rfl, rfl, by decide +kernel, rfl, by decide +kernel, by decide +kernel⟩
theorem bn__law_bounds : ∀ (kV doc pm : Value) (an : Option Addr) (cdv ct : Value) (us : List Value), us.length = (["_law_kind"] : List Str).length → bindArgs (PySem.W.fnOf "_law_bounds" "_law_bounds" (defArgs s__law_bounds) (defBody s__law_bounds) (defScope s__law_bounds) .none kV doc pm an cdv ct) ⟨us, []⟩ = pure ((["_law_kind"] : List Str).zip us) := fun _ _ _ _ _ _ us hl => match us, hl with | [_], _ => rfl
theorem sc__law_any_number : FnScope ["_law_bag", "_law_ends", "_law_least", "_law_most", "_law_small"] ["_law_bag", "_law_ends"] (defScope s__law_any_number) := ⟨rfl, rfl, rfl, by decide +kernel, rfl, by decide +kernel, by decide +kernel⟩
theorem bn__law_any_number : ∀ (kV doc pm : Value) (an : Option Addr) (cdv ct : Value) (us : List Value), us.length = (["_law_bag", "_law_ends"] : List Str).length → bindArgs (PySem.W.fnOf "_law_any_number" "_law_any_number" (defArgs s__law_any_number) (defBody s__law_any_number) (defScope s__law_any_number) .none kV doc pm an cdv ct) ⟨us, []⟩ = pure ((["_law_bag", "_law_ends"] : List Str).zip us) := fun _ _ _ _ _ _ us hl => match us, hl with | [_, _], _ => rfl
theorem sc__law_any_gauge : FnScope ["_law_bag"] ["_law_bag"] (defScope s__law_any_gauge) := ⟨rfl, rfl, rfl, by decide +kernel, rfl, by decide +kernel, by decide +kernel⟩
theorem bn__law_any_gauge : ∀ (kV doc pm : Value) (an : Option Addr) (cdv ct : Value) (us : List Value), us.length = (["_law_bag"] : List Str).length → bindArgs (PySem.W.fnOf "_law_any_gauge" "_law_any_gauge" (defArgs s__law_any_gauge) (defBody s__law_any_gauge) (defScope s__law_any_gauge) .none kV doc pm an cdv ct) ⟨us, []⟩ = pure ((["_law_bag"] : List Str).zip us) := fun _ _ _ _ _ _ us hl => match us, hl with | [_], _ => rfl
theorem sc__law_any_place : FnScope ["_law_bag"] ["_law_bag"] (defScope s__law_any_place) := ⟨rfl, rfl, rfl, by decide +kernel, rfl, by decide +kernel, by decide +kernel⟩
theorem bn__law_any_place : ∀ (kV doc pm : Value) (an : Option Addr) (cdv ct : Value) (us : List Value), us.length = (["_law_bag"] : List Str).length → bindArgs (PySem.W.fnOf "_law_any_place" "_law_any_place" (defArgs s__law_any_place) (defBody s__law_any_place) (defScope s__law_any_place) .none kV doc pm an cdv ct) ⟨us, []⟩ = pure ((["_law_bag"] : List Str).zip us) := fun _ _ _ _ _ _ us hl => match us, hl with | [_], _ => rfl
theorem sc__law_any_region : FnScope ["_law_bag", "_law_most", "_law_k"] ["_law_bag", "_law_most"] (defScope s__law_any_region) := ⟨rfl, rfl, rfl, by decide +kernel, rfl, by decide +kernel, by decide +kernel⟩
theorem bn__law_any_region : ∀ (kV doc pm : Value) (an : Option Addr) (cdv ct : Value) (us : List Value), us.length = (["_law_bag", "_law_most"] : List Str).length → bindArgs (PySem.W.fnOf "_law_any_region" "_law_any_region" (defArgs s__law_any_region) (defBody s__law_any_region) (defScope s__law_any_region) .none kV doc pm an cdv ct) ⟨us, []⟩ = pure ((["_law_bag", "_law_most"] : List Str).zip us) := fun _ _ _ _ _ _ us hl => match us, hl with | [_, _], _ => rfl
theorem sc__law_any_saying : FnScope ["_law_bag", "_law_kind", "_law_nums", "_law_ends", "_law_many", "_law_k"] ["_law_bag", "_law_kind"] (defScope s__law_any_saying) := ⟨rfl, rfl, rfl, by decide +kernel, rfl, by decide +kernel, by decide +kernel⟩
theorem bn__law_any_saying : ∀ (kV doc pm : Value) (an : Option Addr) (cdv ct : Value) (us : List Value), us.length = (["_law_bag", "_law_kind"] : List Str).length → bindArgs (PySem.W.fnOf "_law_any_saying" "_law_any_saying" (defArgs s__law_any_saying) (defBody s__law_any_saying) (defScope s__law_any_saying) .none kV doc pm an cdv ct) ⟨us, []⟩ = pure ((["_law_bag", "_law_kind"] : List Str).zip us) := fun _ _ _ _ _ _ us hl => match us, hl with | [_, _], _ => rfl
theorem sc__law_call : FnScope ["_law_kind", "_law_regs", "_law_nums", "_law_by_z"] ["_law_kind", "_law_regs", "_law_nums", "_law_by_z"] (defScope s__law_call) := ⟨rfl, rfl, rfl, by decide +kernel, rfl, by decide +kernel, by decide +kernel⟩
theorem bn__law_call : ∀ (kV doc pm : Value) (an : Option Addr) (cdv ct : Value) (us : List Value), us.length = (["_law_kind", "_law_regs", "_law_nums", "_law_by_z"] : List Str).length → bindArgs (PySem.W.fnOf "_law_call" "_law_call" (defArgs s__law_call) (defBody s__law_call) (defScope s__law_call) .none kV doc pm an cdv ct) ⟨us, []⟩ = pure ((["_law_kind", "_law_regs", "_law_nums", "_law_by_z"] : List Str).zip us) := fun _ _ _ _ _ _ us hl => match us, hl with | [_, _, _, _], _ => rfl
theorem sc__law_made : FnScope ["_law_one", "_law_kind", "_law_nums", "_law_regs", "_law_by_z", "_law_region"] ["_law_one"] (defScope s__law_made) := ⟨rfl, rfl, rfl, by decide +kernel, rfl, by decide +kernel, by decide +kernel⟩
theorem bn__law_made : ∀ (kV doc pm : Value) (an : Option Addr) (cdv ct : Value) (us : List Value), us.length = (["_law_one"] : List Str).length → bindArgs (PySem.W.fnOf "_law_made" "_law_made" (defArgs s__law_made) (defBody s__law_made) (defScope s__law_made) .none kV doc pm an cdv ct) ⟨us, []⟩ = pure ((["_law_one"] : List Str).zip us) := fun _ _ _ _ _ _ us hl => match us, hl with | [_], _ => rfl
theorem sc__law_told : FnScope ["_law_made_here"] ["_law_made_here"] (defScope s__law_told) := ⟨rfl, rfl, rfl, by decide +kernel, rfl, by decide +kernel, by decide +kernel⟩
theorem bn__law_told : ∀ (kV doc pm : Value) (an : Option Addr) (cdv ct : Value) (us : List Value), us.length = (["_law_made_here"] : List Str).length → bindArgs (PySem.W.fnOf "_law_told" "_law_told" (defArgs s__law_told) (defBody s__law_told) (defScope s__law_told) .none kV doc pm an cdv ct) ⟨us, []⟩ = pure ((["_law_made_here"] : List Str).zip us) := fun _ _ _ _ _ _ us hl => match us, hl with | [_], _ => rfl
theorem sc__law_is_word : FnScope ["_law_text", "_law_sign"] ["_law_text"] (defScope s__law_is_word) := ⟨rfl, rfl, rfl, by decide +kernel, rfl, by decide +kernel, by decide +kernel⟩
theorem bn__law_is_word : ∀ (kV doc pm : Value) (an : Option Addr) (cdv ct : Value) (us : List Value), us.length = (["_law_text"] : List Str).length → bindArgs (PySem.W.fnOf "_law_is_word" "_law_is_word" (defArgs s__law_is_word) (defBody s__law_is_word) (defScope s__law_is_word) .none kV doc pm an cdv ct) ⟨us, []⟩ = pure ((["_law_text"] : List Str).zip us) := fun _ _ _ _ _ _ us hl => match us, hl with | [_], _ => rfl
theorem sc__law_is_place : FnScope ["_law_value", "_law_part"] ["_law_value"] (defScope s__law_is_place) := ⟨rfl, rfl, rfl, by decide +kernel, rfl, by decide +kernel, by decide +kernel⟩
theorem bn__law_is_place : ∀ (kV doc pm : Value) (an : Option Addr) (cdv ct : Value) (us : List Value), us.length = (["_law_value"] : List Str).length → bindArgs (PySem.W.fnOf "_law_is_place" "_law_is_place" (defArgs s__law_is_place) (defBody s__law_is_place) (defScope s__law_is_place) .none kV doc pm an cdv ct) ⟨us, []⟩ = pure ((["_law_value"] : List Str).zip us) := fun _ _ _ _ _ _ us hl => match us, hl with | [_], _ => rfl
theorem sc__law_odd_gauge : FnScope ["_law_bag"] ["_law_bag"] (defScope s__law_odd_gauge) := ⟨rfl, rfl, rfl, by decide +kernel, rfl, by decide +kernel, by decide +kernel⟩
theorem bn__law_odd_gauge : ∀ (kV doc pm : Value) (an : Option Addr) (cdv ct : Value) (us : List Value), us.length = (["_law_bag"] : List Str).length → bindArgs (PySem.W.fnOf "_law_odd_gauge" "_law_odd_gauge" (defArgs s__law_odd_gauge) (defBody s__law_odd_gauge) (defScope s__law_odd_gauge) .none kV doc pm an cdv ct) ⟨us, []⟩ = pure ((["_law_bag"] : List Str).zip us) := fun _ _ _ _ _ _ us hl => match us, hl with | [_], _ => rfl
theorem sc__law_odd_region : FnScope ["_law_bag", "_law_good", "_law_bad", "_law_at"] ["_law_bag"] (defScope s__law_odd_region) := ⟨rfl, rfl, rfl, by decide +kernel, rfl, by decide +kernel, by decide +kernel⟩
theorem bn__law_odd_region : ∀ (kV doc pm : Value) (an : Option Addr) (cdv ct : Value) (us : List Value), us.length = (["_law_bag"] : List Str).length → bindArgs (PySem.W.fnOf "_law_odd_region" "_law_odd_region" (defArgs s__law_odd_region) (defBody s__law_odd_region) (defScope s__law_odd_region) .none kV doc pm an cdv ct) ⟨us, []⟩ = pure ((["_law_bag"] : List Str).zip us) := fun _ _ _ _ _ _ us hl => match us, hl with | [_], _ => rfl
theorem sc__law_odd_place : FnScope ["_law_bag"] ["_law_bag"] (defScope s__law_odd_place) := ⟨rfl, rfl, rfl, by decide +kernel, rfl, by decide +kernel, by decide +kernel⟩
theorem bn__law_odd_place : ∀ (kV doc pm : Value) (an : Option Addr) (cdv ct : Value) (us : List Value), us.length = (["_law_bag"] : List Str).length → bindArgs (PySem.W.fnOf "_law_odd_place" "_law_odd_place" (defArgs s__law_odd_place) (defBody s__law_odd_place) (defScope s__law_odd_place) .none kV doc pm an cdv ct) ⟨us, []⟩ = pure ((["_law_bag"] : List Str).zip us) := fun _ _ _ _ _ _ us hl => match us, hl with | [_], _ => rfl
theorem sc__law_odd_number : FnScope ["_law_bag", "_law_ends"] ["_law_bag", "_law_ends"] (defScope s__law_odd_number) := ⟨rfl, rfl, rfl, by decide +kernel, rfl, by decide +kernel, by decide +kernel⟩
theorem bn__law_odd_number : ∀ (kV doc pm : Value) (an : Option Addr) (cdv ct : Value) (us : List Value), us.length = (["_law_bag", "_law_ends"] : List Str).length → bindArgs (PySem.W.fnOf "_law_odd_number" "_law_odd_number" (defArgs s__law_odd_number) (defBody s__law_odd_number) (defScope s__law_odd_number) .none kV doc pm an cdv ct) ⟨us, []⟩ = pure ((["_law_bag", "_law_ends"] : List Str).zip us) := fun _ _ _ _ _ _ us hl => match us, hl with | [_, _], _ => rfl
theorem sc__law_region_due : FnScope ["_law_value", "_law_k"] ["_law_value"] (defScope s__law_region_due) := ⟨rfl, rfl, rfl, by decide +kernel, rfl, by decide +kernel, by decide +kernel⟩
theorem bn__law_region_due : ∀ (kV doc pm : Value) (an : Option Addr) (cdv ct : Value) (us : List Value), us.length = (["_law_value"] : List Str).length → bindArgs (PySem.W.fnOf "_law_region_due" "_law_region_due" (defArgs s__law_region_due) (defBody s__law_region_due) (defScope s__law_region_due) .none kV doc pm an cdv ct) ⟨us, []⟩ = pure ((["_law_value"] : List Str).zip us) := fun _ _ _ _ _ _ us hl => match us, hl with | [_], _ => rfl
theorem sc__law_call_due : FnScope ["_law_kind", "_law_regs", "_law_nums", "_law_by_z", "_law_wrong", "_law_value", "_law_number", "_law_ends"] ["_law_kind", "_law_regs", "_law_nums", "_law_by_z"] (defScope s__law_call_due) := ⟨rfl, rfl, rfl, by decide +kernel, rfl, by decide +kernel, by decide +kernel⟩
theorem bn__law_call_due : ∀ (kV doc pm : Value) (an : Option Addr) (cdv ct : Value) (us : List Value), us.length = (["_law_kind", "_law_regs", "_law_nums", "_law_by_z"] : List Str).length → bindArgs (PySem.W.fnOf "_law_call_due" "_law_call_due" (defArgs s__law_call_due) (defBody s__law_call_due) (defScope s__law_call_due) .none kV doc pm an cdv ct) ⟨us, []⟩ = pure ((["_law_kind", "_law_regs", "_law_nums", "_law_by_z"] : List Str).zip us) := fun _ _ _ _ _ _ us hl => match us, hl with | [_, _, _, _], _ => rfl
theorem sc__law_copied : FnScope ["_law_values", "_law_value"] ["_law_values"] (defScope s__law_copied) := ⟨rfl, rfl, rfl, by decide +kernel, rfl, by decide +kernel, by decide +kernel⟩
theorem bn__law_copied : ∀ (kV doc pm : Value) (an : Option Addr) (cdv ct : Value) (us : List Value), us.length = (["_law_values"] : List Str).length → bindArgs (PySem.W.fnOf "_law_copied" "_law_copied" (defArgs s__law_copied) (defBody s__law_copied) (defScope s__law_copied) .none kV doc pm an cdv ct) ⟨us, []⟩ = pure ((["_law_values"] : List Str).zip us) := fun _ _ _ _ _ _ us hl => match us, hl with | [_], _ => rfl
theorem sc_law : FnScope ["_law_script", "_law_bag", "_law_turn", "_law_kind", "_law_one", "_law_regs", "_law_nums", "_law_by_z", "_law_region", "_law_k", "_law_kept", "_law_due", "_law_asks", "_law_odd", "_law_made_here"] ["_law_script"] (defScope s_law) := ⟨rfl, rfl, rfl, by decide +kernel, rfl, by decide +kernel, by decide +kernel⟩
theorem bn_law : ∀ (kV doc pm : Value) (an : Option Addr) (cdv ct : Value) (us : List Value), us.length = (["_law_script"] : List Str).length → bindArgs (PySem.W.fnOf "law" "law" (defArgs s_law) (defBody s_law) (defScope s_law) .none kV doc pm an cdv ct) ⟨us, []⟩ = pure ((["_law_script"] : List Str).zip us) := fun _ _ _ _ _ _ us hl => match us, hl with | [_], _ => rfl
theorem sc_Saying___init__ : FnScope ["self", "kind", "regions", "numbers", "gauge"] ["self", "kind", "regions", "numbers", "gauge"] (defScope s_Saying___init__) := ⟨rfl, rfl, rfl, by decide +kernel, rfl, by decide +kernel, by decide +kernel⟩
theorem bn_Saying___init__ : ∀ (kV doc pm : Value) (an : Option Addr) (cdv ct : Value) (us : List Value), us.length = (["self", "kind", "regions", "numbers", "gauge"] : List Str).length → bindArgs (PySem.W.fnOf "__init__" "Saying.__init__" (defArgs s_Saying___init__) (defBody s_Saying___init__) (defScope s_Saying___init__) .none kV doc pm an cdv ct) ⟨us, []⟩ = pure ((["self", "kind", "regions", "numbers", "gauge"] : List Str).zip us) := fun _ _ _ _ _ _ us hl => match us, hl with | [_, _, _, _, _], _ => rfl
theorem sc_Saying_numbers : FnScope ["self"] ["self"] (defScope s_Saying_numbers) := ⟨rfl, rfl, rfl, by decide +kernel, rfl, by decide +kernel, by decide +kernel⟩
theorem bn_Saying_numbers : ∀ (kV doc pm : Value) (an : Option Addr) (cdv ct : Value) (us : List Value), us.length = (["self"] : List Str).length → bindArgs (PySem.W.fnOf "numbers" "Saying.numbers" (defArgs s_Saying_numbers) (defBody s_Saying_numbers) (defScope s_Saying_numbers) .none kV doc pm an cdv ct) ⟨us, []⟩ = pure ((["self"] : List Str).zip us) := fun _ _ _ _ _ _ us hl => match us, hl with | [_], _ => rfl
theorem sc_Saying_regions : FnScope ["self"] ["self"] (defScope s_Saying_regions) := ⟨rfl, rfl, rfl, by decide +kernel, rfl, by decide +kernel, by decide +kernel⟩
theorem bn_Saying_regions : ∀ (kV doc pm : Value) (an : Option Addr) (cdv ct : Value) (us : List Value), us.length = (["self"] : List Str).length → bindArgs (PySem.W.fnOf "regions" "Saying.regions" (defArgs s_Saying_regions) (defBody s_Saying_regions) (defScope s_Saying_regions) .none kV doc pm an cdv ct) ⟨us, []⟩ = pure ((["self"] : List Str).zip us) := fun _ _ _ _ _ _ us hl => match us, hl with | [_], _ => rfl
theorem sc_Saying_with_gauge : FnScope ["self", "gauge"] ["self", "gauge"] (defScope s_Saying_with_gauge) := ⟨rfl, rfl, rfl, by decide +kernel, rfl, by decide +kernel, by decide +kernel⟩
theorem bn_Saying_with_gauge : ∀ (kV doc pm : Value) (an : Option Addr) (cdv ct : Value) (us : List Value), us.length = (["self", "gauge"] : List Str).length → bindArgs (PySem.W.fnOf "with_gauge" "Saying.with_gauge" (defArgs s_Saying_with_gauge) (defBody s_Saying_with_gauge) (defScope s_Saying_with_gauge) .none kV doc pm an cdv ct) ⟨us, []⟩ = pure ((["self", "gauge"] : List Str).zip us) := fun _ _ _ _ _ _ us hl => match us, hl with | [_, _], _ => rfl
theorem kb_M_Saying_4 {K : PySem.W.Frag} {f : Addr} {fd : FuncData} (F : FunD K "__init__" "Saying.__init__" (defArgs s_Saying___init__) (defBody s_Saying___init__) (defScope s_Saying___init__) [] [] f fd) : KB K fd ["self", "kind", "regions", "numbers", "gauge"] 5 [] (fun ds es => ds ++ es) :=
  kbA F fun _ _ _ _ _ _ us ws h1 h2 => match us, ws, h1, h2 with | [_, _, _, _, _], [], _, _ => rfl
theorem kb_G_at_most_2_gauge {K : PySem.W.Frag} {kws : List (Str × V)} {f : Addr} {fd : FuncData} (F : FunD K "at_most" "at_most" (defArgs s_at_most) (defBody s_at_most) (defScope s_at_most) [] kws f fd) (hk : kws ≠ []) : KB K fd ["region", "limit", "gauge"] 2 ["gauge"] (fun ds es => ds ++ es) :=
  kbQ F [] [] (fun us _ ws => us ++ ws) hk (fun q hq => by cases hq) (fun r1 _ r3 => r1.append r3) (fun r1 _ r3 => r1.append r3) (fun w => rfl)
    fun D doc pm an cdv ct us mv ws h1 h2 h3 => match us, mv, ws, h1, h2, h3 with | [_, _], [], [_], _, _, _ => rfl
theorem kb_G_at_least_2_gauge {K : PySem.W.Frag} {kws : List (Str × V)} {f : Addr} {fd : FuncData} (F : FunD K "at_least" "at_least" (defArgs s_at_least) (defBody s_at_least) (defScope s_at_least) [] kws f fd) (hk : kws ≠ []) : KB K fd ["region", "amount", "gauge"] 2 ["gauge"] (fun ds es => ds ++ es) :=
  kbQ F [] [] (fun us _ ws => us ++ ws) hk (fun q hq => by cases hq) (fun r1 _ r3 => r1.append r3) (fun r1 _ r3 => r1.append r3) (fun w => rfl)
    fun D doc pm an cdv ct us mv ws h1 h2 h3 => match us, mv, ws, h1, h2, h3 with | [_, _], [], [_], _, _, _ => rfl
theorem kb_G_exactly_2_gauge {K : PySem.W.Frag} {kws : List (Str × V)} {f : Addr} {fd : FuncData} (F : FunD K "exactly" "exactly" (defArgs s_exactly) (defBody s_exactly) (defScope s_exactly) [] kws f fd) (hk : kws ≠ []) : KB K fd ["region", "limit", "gauge"] 2 ["gauge"] (fun ds es => ds ++ es) :=
  kbQ F [] [] (fun us _ ws => us ++ ws) hk (fun q hq => by cases hq) (fun r1 _ r3 => r1.append r3) (fun r1 _ r3 => r1.append r3) (fun w => rfl)
    fun D doc pm an cdv ct us mv ws h1 h2 h3 => match us, mv, ws, h1, h2, h3 with | [_, _], [], [_], _, _, _ => rfl
theorem kb_G_under_3_gauge {K : PySem.W.Frag} {kws : List (Str × V)} {f : Addr} {fd : FuncData} (F : FunD K "under" "under" (defArgs s_under) (defBody s_under) (defScope s_under) [] kws f fd) (hk : kws ≠ []) : KB K fd ["region", "other", "more", "gauge"] 3 ["gauge"] (fun ds es => ds ++ es) :=
  kbQ F [] [] (fun us _ ws => us ++ ws) hk (fun q hq => by cases hq) (fun r1 _ r3 => r1.append r3) (fun r1 _ r3 => r1.append r3) (fun w => rfl)
    fun D doc pm an cdv ct us mv ws h1 h2 h3 => match us, mv, ws, h1, h2, h3 with | [_, _, _], [], [_], _, _, _ => rfl
theorem kb_G_level_3_gauge {K : PySem.W.Frag} {kws : List (Str × V)} {f : Addr} {fd : FuncData} (F : FunD K "level" "level" (defArgs s_level) (defBody s_level) (defScope s_level) [] kws f fd) (hk : kws ≠ []) : KB K fd ["region", "other", "more", "gauge"] 3 ["gauge"] (fun ds es => ds ++ es) :=
  kbQ F [] [] (fun us _ ws => us ++ ws) hk (fun q hq => by cases hq) (fun r1 _ r3 => r1.append r3) (fun r1 _ r3 => r1.append r3) (fun w => rfl)
    fun D doc pm an cdv ct us mv ws h1 h2 h3 => match us, mv, ws, h1, h2, h3 with | [_, _, _], [], [_], _, _, _ => rfl
theorem kb_G_if_then_4_gauge {K : PySem.W.Frag} {kws : List (Str × V)} {f : Addr} {fd : FuncData} (F : FunD K "if_then" "if_then" (defArgs s_if_then) (defBody s_if_then) (defScope s_if_then) [] kws f fd) (hk : kws ≠ []) : KB K fd ["region", "amount", "other", "least", "gauge"] 4 ["gauge"] (fun ds es => ds ++ es) :=
  kbQ F [] [] (fun us _ ws => us ++ ws) hk (fun q hq => by cases hq) (fun r1 _ r3 => r1.append r3) (fun r1 _ r3 => r1.append r3) (fun w => rfl)
    fun D doc pm an cdv ct us mv ws h1 h2 h3 => match us, mv, ws, h1, h2, h3 with | [_, _, _, _], [], [_], _, _, _ => rfl
theorem kb_G_squall_most_2_gauge {K : PySem.W.Frag} {kws : List (Str × V)} {f : Addr} {fd : FuncData} (F : FunD K "squall_most" "squall_most" (defArgs s_squall_most) (defBody s_squall_most) (defScope s_squall_most) [] kws f fd) (hk : kws ≠ []) : KB K fd ["place", "limit", "gauge"] 2 ["gauge"] (fun ds es => ds ++ es) :=
  kbQ F [] [] (fun us _ ws => us ++ ws) hk (fun q hq => by cases hq) (fun r1 _ r3 => r1.append r3) (fun r1 _ r3 => r1.append r3) (fun w => rfl)
    fun D doc pm an cdv ct us mv ws h1 h2 h3 => match us, mv, ws, h1, h2, h3 with | [_, _], [], [_], _, _, _ => rfl
theorem kb_G_squall_least_2_gauge {K : PySem.W.Frag} {kws : List (Str × V)} {f : Addr} {fd : FuncData} (F : FunD K "squall_least" "squall_least" (defArgs s_squall_least) (defBody s_squall_least) (defScope s_squall_least) [] kws f fd) (hk : kws ≠ []) : KB K fd ["place", "amount", "gauge"] 2 ["gauge"] (fun ds es => ds ++ es) :=
  kbQ F [] [] (fun us _ ws => us ++ ws) hk (fun q hq => by cases hq) (fun r1 _ r3 => r1.append r3) (fun r1 _ r3 => r1.append r3) (fun w => rfl)
    fun D doc pm an cdv ct us mv ws h1 h2 h3 => match us, mv, ws, h1, h2, h3 with | [_, _], [], [_], _, _, _ => rfl
theorem sci_InvalidGauge : FnScope ["self", "value"] ["self", "value"] (defScope si_InvalidGauge) := ⟨rfl, rfl, rfl, by decide +kernel, rfl, by decide +kernel, by decide +kernel⟩
theorem bni_InvalidGauge : ∀ (kV doc pm : Value) (an : Option Addr) (cdv ct : Value) (us : List Value), us.length = (["self", "value"] : List Str).length → bindArgs (PySem.W.fnOf "__init__" "InvalidGauge.__init__" (defArgs si_InvalidGauge) (defBody si_InvalidGauge) (defScope si_InvalidGauge) .none kV doc pm an cdv ct) ⟨us, []⟩ = pure ((["self", "value"] : List Str).zip us) := fun _ _ _ _ _ _ us hl => match us, hl with | [_, _], _ => rfl
theorem ini_InvalidGauge {P : Program} {w : World} {K : PySem.W.Frag} {mg : Str → Option Value} {base : Heap} {C fI : Addr} {fd : FuncData} (T : OexC K C) (no : noB K C ["code", "value"] = true) (F : FunD K "__init__" "InvalidGauge.__init__" (defArgs si_InvalidGauge) (defBody si_InvalidGauge) (defScope si_InvalidGauge) [] [] fI fd) : FnOk P w K mg base CX0 1 fI fd ["self", "value"] (spIni C 1 (mkF V.str .non fl_InvalidGauge)) := by
  refine F.ok sci_InvalidGauge (fun vs H Q E h => ?_) (fun cdv A outer s H vs Q E hr h => ?_)
  · obtain ⟨a, args, rfl, hl, _⟩ := h
    simp [hl]
  · obtain ⟨a, args, rfl, hl, ha, q⟩ := h
    match args, hl with
    | [x0], _ =>
      refine ⟨_, (pss_cons (ps_ost (pe_var (i := 0) rfl (Or.inl rfl)) pe_str) (pss_one (ps_ost (pe_var (i := 0) rfl (Or.inl rfl)) (pe_var (i := 1) rfl (Or.inl rfl))))), ?_⟩
      refine ost_first (f := "code") (y := .str "InvalidGauge") T (noB_ok no (by decide)) rfl ha (fun Q h => h) fun d hd hda => ?_
      dsimp only
      refine ost_next (f := "value") (y := x0) (fs := [("code", .str "InvalidGauge")]) T (noB_ok no (by decide)) rfl hda (by simp) (fun Q h => ⟨_, rfl, h⟩) ?_
      exact q d hd hda
theorem sci_InvalidNumber : FnScope ["self", "value"] ["self", "value"] (defScope si_InvalidNumber) := ⟨rfl, rfl, rfl, by decide +kernel, rfl, by decide +kernel, by decide +kernel⟩
theorem bni_InvalidNumber : ∀ (kV doc pm : Value) (an : Option Addr) (cdv ct : Value) (us : List Value), us.length = (["self", "value"] : List Str).length → bindArgs (PySem.W.fnOf "__init__" "InvalidNumber.__init__" (defArgs si_InvalidNumber) (defBody si_InvalidNumber) (defScope si_InvalidNumber) .none kV doc pm an cdv ct) ⟨us, []⟩ = pure ((["self", "value"] : List Str).zip us) := fun _ _ _ _ _ _ us hl => match us, hl with | [_, _], _ => rfl
theorem ini_InvalidNumber {P : Program} {w : World} {K : PySem.W.Frag} {mg : Str → Option Value} {base : Heap} {C fI : Addr} {fd : FuncData} (T : OexC K C) (no : noB K C ["code", "value"] = true) (F : FunD K "__init__" "InvalidNumber.__init__" (defArgs si_InvalidNumber) (defBody si_InvalidNumber) (defScope si_InvalidNumber) [] [] fI fd) : FnOk P w K mg base CX0 1 fI fd ["self", "value"] (spIni C 1 (mkF V.str .non fl_InvalidNumber)) := by
  refine F.ok sci_InvalidNumber (fun vs H Q E h => ?_) (fun cdv A outer s H vs Q E hr h => ?_)
  · obtain ⟨a, args, rfl, hl, _⟩ := h
    simp [hl]
  · obtain ⟨a, args, rfl, hl, ha, q⟩ := h
    match args, hl with
    | [x0], _ =>
      refine ⟨_, (pss_cons (ps_ost (pe_var (i := 0) rfl (Or.inl rfl)) pe_str) (pss_one (ps_ost (pe_var (i := 0) rfl (Or.inl rfl)) (pe_var (i := 1) rfl (Or.inl rfl))))), ?_⟩
      refine ost_first (f := "code") (y := .str "InvalidNumber") T (noB_ok no (by decide)) rfl ha (fun Q h => h) fun d hd hda => ?_
      dsimp only
      refine ost_next (f := "value") (y := x0) (fs := [("code", .str "InvalidNumber")]) T (noB_ok no (by decide)) rfl hda (by simp) (fun Q h => ⟨_, rfl, h⟩) ?_
      exact q d hd hda
theorem sci_InvalidPlace : FnScope ["self", "value"] ["self", "value"] (defScope si_InvalidPlace) := ⟨rfl, rfl, rfl, by decide +kernel, rfl, by decide +kernel, by decide +kernel⟩
theorem bni_InvalidPlace : ∀ (kV doc pm : Value) (an : Option Addr) (cdv ct : Value) (us : List Value), us.length = (["self", "value"] : List Str).length → bindArgs (PySem.W.fnOf "__init__" "InvalidPlace.__init__" (defArgs si_InvalidPlace) (defBody si_InvalidPlace) (defScope si_InvalidPlace) .none kV doc pm an cdv ct) ⟨us, []⟩ = pure ((["self", "value"] : List Str).zip us) := fun _ _ _ _ _ _ us hl => match us, hl with | [_, _], _ => rfl
theorem ini_InvalidPlace {P : Program} {w : World} {K : PySem.W.Frag} {mg : Str → Option Value} {base : Heap} {C fI : Addr} {fd : FuncData} (T : OexC K C) (no : noB K C ["code", "value"] = true) (F : FunD K "__init__" "InvalidPlace.__init__" (defArgs si_InvalidPlace) (defBody si_InvalidPlace) (defScope si_InvalidPlace) [] [] fI fd) : FnOk P w K mg base CX0 1 fI fd ["self", "value"] (spIni C 1 (mkF V.str .non fl_InvalidPlace)) := by
  refine F.ok sci_InvalidPlace (fun vs H Q E h => ?_) (fun cdv A outer s H vs Q E hr h => ?_)
  · obtain ⟨a, args, rfl, hl, _⟩ := h
    simp [hl]
  · obtain ⟨a, args, rfl, hl, ha, q⟩ := h
    match args, hl with
    | [x0], _ =>
      refine ⟨_, (pss_cons (ps_ost (pe_var (i := 0) rfl (Or.inl rfl)) pe_str) (pss_one (ps_ost (pe_var (i := 0) rfl (Or.inl rfl)) (pe_var (i := 1) rfl (Or.inl rfl))))), ?_⟩
      refine ost_first (f := "code") (y := .str "InvalidPlace") T (noB_ok no (by decide)) rfl ha (fun Q h => h) fun d hd hda => ?_
      dsimp only
      refine ost_next (f := "value") (y := x0) (fs := [("code", .str "InvalidPlace")]) T (noB_ok no (by decide)) rfl hda (by simp) (fun Q h => ⟨_, rfl, h⟩) ?_
      exact q d hd hda
theorem sci_InvalidRegion : FnScope ["self", "at"] ["self", "at"] (defScope si_InvalidRegion) := ⟨rfl, rfl, rfl, by decide +kernel, rfl, by decide +kernel, by decide +kernel⟩
theorem bni_InvalidRegion : ∀ (kV doc pm : Value) (an : Option Addr) (cdv ct : Value) (us : List Value), us.length = (["self", "at"] : List Str).length → bindArgs (PySem.W.fnOf "__init__" "InvalidRegion.__init__" (defArgs si_InvalidRegion) (defBody si_InvalidRegion) (defScope si_InvalidRegion) .none kV doc pm an cdv ct) ⟨us, []⟩ = pure ((["self", "at"] : List Str).zip us) := fun _ _ _ _ _ _ us hl => match us, hl with | [_, _], _ => rfl
theorem ini_InvalidRegion {P : Program} {w : World} {K : PySem.W.Frag} {mg : Str → Option Value} {base : Heap} {C fI : Addr} {fd : FuncData} (T : OexC K C) (no : noB K C ["code", "at"] = true) (F : FunD K "__init__" "InvalidRegion.__init__" (defArgs si_InvalidRegion) (defBody si_InvalidRegion) (defScope si_InvalidRegion) [] [] fI fd) : FnOk P w K mg base CX0 1 fI fd ["self", "at"] (spIni C 1 (mkF V.str .non fl_InvalidRegion)) := by
  refine F.ok sci_InvalidRegion (fun vs H Q E h => ?_) (fun cdv A outer s H vs Q E hr h => ?_)
  · obtain ⟨a, args, rfl, hl, _⟩ := h
    simp [hl]
  · obtain ⟨a, args, rfl, hl, ha, q⟩ := h
    match args, hl with
    | [x0], _ =>
      refine ⟨_, (pss_cons (ps_ost (pe_var (i := 0) rfl (Or.inl rfl)) pe_str) (pss_one (ps_ost (pe_var (i := 0) rfl (Or.inl rfl)) (pe_var (i := 1) rfl (Or.inl rfl))))), ?_⟩
      refine ost_first (f := "code") (y := .str "InvalidRegion") T (noB_ok no (by decide)) rfl ha (fun Q h => h) fun d hd hda => ?_
      dsimp only
      refine ost_next (f := "at") (y := x0) (fs := [("code", .str "InvalidRegion")]) T (noB_ok no (by decide)) rfl hda (by simp) (fun Q h => ⟨_, rfl, h⟩) ?_
      exact q d hd hda
structure Gb (P : Program) (w : World) (K : PySem.W.Frag) (mg : Str → Option Value) (base : Heap) (cl : Str → Addr) : Prop where
  b_abs : mg "abs" = none
  b_all : mg "all" = none
  b_bool : mg "bool" = none
  b_dict : mg "dict" = none
  b_enumerate : mg "enumerate" = none
  b_int : mg "int" = none
  b_isinstance : mg "isinstance" = none
  b_len : mg "len" = none
  b_list : mg "list" = none
  b_max : mg "max" = none
  b_min : mg "min" = none
  b_range : mg "range" = none
  b_set : mg "set" = none
  b_sorted : mg "sorted" = none
  b_str : mg "str" = none
  b_tuple : mg "tuple" = none
  b_zip : mg "zip" = none
  c_LAST_HOUR : GC K mg "LAST_HOUR" (.int 8)
  c_LAST_INDEX : GC K mg "LAST_INDEX" (.int 5)
  c_LETTERS : GC K mg "LETTERS" (.str "abcdefghijklmnopqrstuvwxyz")
  c_MOST_LETTERS : GC K mg "MOST_LETTERS" (.int 6)
  c_MOST_PLACES : GC K mg "MOST_PLACES" (.int 40)
  k_BOUNDS : KTab K w mg "BOUNDS" kv_BOUNDS
  x_InvalidGauge : ExcD P w K mg base cl "InvalidGauge" 1 fl_InvalidGauge
  x_InvalidNumber : ExcD P w K mg base cl "InvalidNumber" 1 fl_InvalidNumber
  x_InvalidPlace : ExcD P w K mg base cl "InvalidPlace" 1 fl_InvalidPlace
  x_InvalidRegion : ExcD P w K mg base cl "InvalidRegion" 1 fl_InvalidRegion
  cls_Saying : ClsD K cl "Saying" fields_Saying
  g_Saying : mg "Saying" = some (.ref (cl "Saying"))
  g_SkyError : mg "SkyError" = some (.ref (cl "SkyError"))
  g_Missing : mg "Missing" = some (.ref (cl "Missing"))
  cat0 : ∀ n ∈ xnames, PySem.W.exmAny K (.ref (cl n)) [.ref (cl "SkyError"), .ref (cl "Missing")] = some true
  xf0 : ∀ n ∈ xnames, XfC K (cl n) ∧ noB K (cl n) xfields = true
theorem Gb.cat {P : Program} {w : World} {K : PySem.W.Frag} {mg : Str → Option Value} {base : Heap} {cl : Str → Addr} (G : Gb P w K mg base cl) {c : Wd} (h : c.cl = cl) : ∀ n ∈ xnames, PySem.W.exmAny K (.ref (c.cl n)) [.ref (cl "SkyError"), .ref (cl "Missing")] = some true := by
  rw [h]; exact G.cat0
theorem Gb.xf {P : Program} {w : World} {K : PySem.W.Frag} {mg : Str → Option Value} {base : Heap} {cl : Str → Addr} (G : Gb P w K mg base cl) {c : Wd} (h : c.cl = cl) {f : Str} (hf : f ∈ xfields) : ∀ n ∈ xnames, XfC K (c.cl n) ∧ PySem.W.findIn K (.ref (c.cl n)) f = some none := by
  rw [h]; exact fun n hn => ⟨(G.xf0 n hn).1, noB_ok (G.xf0 n hn).2 hf⟩
end K21
/-! What each def of this law promises, over data. -/
namespace K21
open PySem L2 DL HS HB
def sp__law_draw : DSp := HB.sp__law_draw
def sp0__law_draw : DSp := HB.spDrawB0
def sp__law_same : DSp := HB.sp__law_same
def sp__law_field (xn : List Str) : DSp := HB.sp__law_field xn
def TT__law_try (xn : List Str) : DAct → Mu → DK → Prop := HB.TT__law_try xn
def TT__law_tries (xn : List Str) : List DAct → Mu → DK → Prop := HB.TT__law_tries xn
/-- what is handed in -/
structure Any (v : D) : Prop where
  r : tyR v
  g : gd 2 v = true
theorem Any.t {v : D} (h : Any v) : ty v := h.r.1.1
theorem Any.tg {v : D} (h : Any v) : tyG v := ⟨h.t, fun z e => by subst e; exact (gd_str h.g).2⟩
def errD (c : Str) (v : D) : D := .tup [.str c, .tup [v]]
def dueRg (v : D) : List D := match regOdd v with | none => [] | some i => [errD "InvalidRegion" (.int i)]
def duePl (v : D) : List D := if isPlace v = true then [] else [errD "InvalidPlace" v]
def dueGa (g : D) : List D := if gaugeOk g = true then [] else [errD "InvalidGauge" g]
def wrongs (k : Kd) (vs ns : List D) (g : D) : List D := vs.flatMap (if k.squall = true then duePl else dueRg) ++ ((oddN ns k.bd).map (errD "InvalidNumber") ++ dueGa g)
def many (k : Kd) : Nat := if k.two = true then 2 else 1
def sp__law_is_word : DSp := fun ds M Q _ => ∃ z, ds = [.str z] ∧ z.length ≤ 50000 ∧ Q (.bl (isName (.str z))) M
def sp__law_is_place : DSp := fun ds M Q _ => ∃ v, ds = [v] ∧ ty1 v ∧ Q (.bl (isPlace v)) M
def sp__law_odd_gauge : DSp := fun ds M Q _ => ∃ b, ds = [.ref b] ∧ M b = some (.bg 1) ∧ ∀ v, Any v → gaugeOk v = false → Q v M
def sp__law_odd_region : DSp := fun ds M Q _ => ∃ b, ds = [.ref b] ∧ M b = some (.bg 1) ∧ ∀ v, Any v → Q v M
def sp__law_odd_place : DSp := fun ds M Q _ => ∃ b, ds = [.ref b] ∧ M b = some (.bg 1) ∧ ∀ v, Any v → Q v M
def sp__law_odd_number : DSp := fun ds M Q _ => ∃ b lo hi, ds = [.ref b, bdD (lo, hi)] ∧ M b = some (.bg 1) ∧ ∀ v, Any v → Q v M
def sp__law_region_due : DSp := fun ds M Q _ => ∃ v, ds = [v] ∧ Any v ∧ Q (.lst 0 (dueRg v)) M
def sp__law_call_due : DSp := fun ds M Q _ => ∃ (k : Kd) (r : Nat) (vs : List D) (r' : Nat) (ns : List D) (g : D), ds = [.str k.s, .lst r vs, .lst r' ns, g] ∧ vs.length = many k ∧ ns.length = k.bd.length ∧ (∀ v ∈ vs, Any v) ∧ (∀ n ∈ ns, Any n) ∧ Any g ∧
  (∀ x l, wrongs k vs ns g = x :: l → Q x M) ∧ (wrongs k vs ns g = [] → ∀ o : Sy, Nice o → o.kd = k → o.g = g → o.ns.map .int = ns → handed o vs → Q (.tup [.str "", o.lw]) M)
/-- a list again -/
def copyD : D → D
  | .lst _ xs => .lst 0 xs
  | d => d
def sp__law_copied : DSp := fun ds M Q _ => ∃ r vs, ds = [.lst r vs] ∧ vs.length ≤ 10 ∧ (∀ v ∈ vs, Any v) ∧ Q (.lst 0 (vs.map copyD)) M
def sp_law : DSp := spLaw
end K21
/-! The readings of the defs. Printed by a program of mine. -/
namespace K21
open PySem L2 DL HS HB
/- _law_draw(_law_bag, _law_sides); slots: 0:_law_bag 1:_law_sides 2:_law_cell 3:_law_small 4:_law_digit 5:_law_seed 6:_law_step -/
def t__law_draw_1 : DS := (dAsg (dOp modD (dCB intD (dCons (dOp addD (dOp mulE (dOp ixE (dVar 0) (dC (.int 3))) (dC (.int 44071))) (dVar 3)) dNil)) (dC (.int 2147483629))) (gIx (dVar 0) (dC (.int 3))))
def t__law_draw_2 : DS := (dIfS (dB (dOp geD (dCB absD (dCons (dVar 2) dNil)) (dOp powD (dC (.int 10)) (dC (.int 18))))) (dAsg (dCB absD (dCons (dVar 2) dNil)) (gIx (dVar 0) (dC (.int 2)))) (dSeq (dAsg (dOp addD (dOp mulE (dOp modD (dCB intD (dCons (dVar 2) dNil)) (dC (.int 1000333))) (dC (.int 787))) (dC (.int 53))) (gNm 3)) t__law_draw_1))
def t__law_draw_3 : DS := (dSeq (dAsg (dOp addD (dOp ixE (dVar 0) (dC (.int 1))) (dC (.int 1))) (gIx (dVar 0) (dC (.int 1)))) t__law_draw_2)
def t__law_draw_4 : DS := (dSeq (dAsg (dOp ixE (dOp ixE (dVar 0) (dC (.int 0))) (dOp ixE (dVar 0) (dC (.int 1)))) (gNm 2)) t__law_draw_3)
def t__law_draw_5 : DS := (dSeq (dAsg (dOp fdivD (dOp ixE (dVar 0) (dC (.int 2))) (dVar 1)) (gIx (dVar 0) (dC (.int 2)))) (dRet (dVar 4)))
def t__law_draw_6 : DS := (dSeq (dAsg (dOp modD (dCB intD (dCons (dOp ixE (dVar 0) (dC (.int 2))) dNil)) (dVar 1)) (gNm 4)) t__law_draw_5)
def t__law_draw_7 : DS := (dRet (dOp modD (dCB intD (dCons (dOp addD (dOp fdivD (dOp ixE (dVar 0) (dC (.int 3))) (dC (.int 73))) (dOp mulE (dOp modD (dCB intD (dCons (dOp ixE (dVar 0) (dC (.int 3))) dNil)) (dC (.int 8009))) (dC (.int 59)))) dNil)) (dVar 1)))
def t__law_draw_8 : DS := (dSeq (dAsg (dOp modD (dCB intD (dCons (dOp addD (dOp mulE (dOp mulE (dVar 5) (dVar 5)) (dC (.int 23))) (dVar 6)) dNil)) (dC (.int 2147483587))) (gIx (dVar 0) (dC (.int 3)))) t__law_draw_7)
def t__law_draw_9 : DS := (dSeq (dAsg (dOp addD (dOp addD (dOp mulE (dVar 5) (dC (.int 50033))) (dOp mulE (dOp ixE (dVar 0) (dC (.int 4))) (dC (.int 110051)))) (dC (.int 60089))) (gNm 6)) t__law_draw_8)
def t__law_draw_10 : DS := (dSeq (dAsg (dOp ixE (dVar 0) (dC (.int 3))) (gNm 5)) t__law_draw_9)
def t__law_draw_11 : DS := (dSeq (dIfS (dB (dOp gtD (dOp ixE (dVar 0) (dC (.int 2))) (dC (.int 0)))) t__law_draw_6 dNext) t__law_draw_10)
def t__law_draw_12 : DS := (dSeq (dIfS (dAnd (dB (dOp eqD (dOp ixE (dVar 0) (dC (.int 2))) (dC (.int 0)))) (dB (dOp ltD (dOp ixE (dVar 0) (dC (.int 1))) (dCB lenD (dCons (dOp ixE (dVar 0) (dC (.int 0))) dNil))))) t__law_draw_4 dNext) t__law_draw_11)
def t__law_draw : DS := (dSeq (dAsg (dOp addD (dOp ixE (dVar 0) (dC (.int 4))) (dC (.int 1))) (gIx (dVar 0) (dC (.int 4)))) t__law_draw_12)
/- _law_same(_law_found, _law_due); slots: 0:_law_found 1:_law_due 2:_law_key 3:_law_one 4:_law_other -/
def t__law_same_1 (sp__law_same : DSp) : DS := (dRet (dCB allD (dCons (dLc (dIt (dVar 1)) (gNm 2) dYes (dCall sp__law_same DX0 (dCons (dOp ixE (dVar 0) (dVar 2)) (dCons (dOp ixE (dVar 1) (dVar 2)) dNil))) [2]) dNil)))
def t__law_same_2 (sp__law_same : DSp) : DS := (dSeq (dIfS (dOr (dNot (dB (dCB isiD (dCons (dVar 0) (dCons (dC (.ty "dict")) dNil))))) (dNot (dB (dCall sp__law_same DX0 (dCons (dCB lstD (dCons (dVar 0) dNil)) (dCons (dCB sortD (dCons (dCB lstD (dCons (dVar 1) dNil)) dNil)) dNil)))))) (dRet (dC (.bl false))) dNext) (t__law_same_1 sp__law_same))
def t__law_same_3 (sp__law_same : DSp) : DS := (dRet (dAndV (dOp eqD (dCB lenD (dCons (dVar 0) dNil)) (dCB lenD (dCons (dVar 1) dNil))) (dCB allD (dCons (dLc (dZip (dCons (dVar 0) (dCons (dVar 1) dNil))) (gTp (gsCons (gNm 3) (gsCons (gNm 4) gsNil)) 2) dYes (dCall sp__law_same DX0 (dCons (dVar 3) (dCons (dVar 4) dNil))) [3, 4]) dNil))))
def t__law_same_4 (sp__law_same : DSp) : DS := (dSeq (dIfS (dOr (dB (dOp neD (dCB isiD (dCons (dVar 0) (dCons (dC (.ty "list")) dNil))) (dCB isiD (dCons (dVar 1) (dCons (dC (.ty "list")) dNil))))) (dB (dOp neD (dCB isiD (dCons (dVar 0) (dCons (dC (.ty "tuple")) dNil))) (dCB isiD (dCons (dVar 1) (dCons (dC (.ty "tuple")) dNil)))))) (dRet (dC (.bl false))) dNext) (t__law_same_3 sp__law_same))
def t__law_same_5 (sp__law_same : DSp) : DS := (dRet (dAndV (dOp eqD (dCB isiD (dCons (dVar 1) (dCons (dC (.ty "str")) dNil))) (dCB isiD (dCons (dVar 0) (dCons (dC (.ty "str")) dNil)))) (dOp eqD (dVar 0) (dVar 1))))
def t__law_same_6 (sp__law_same : DSp) : DS := (dSeq (dIfS (dOr (dB (dOp neD (dCB isiD (dCons (dVar 1) (dCons (dC (.ty "bool")) dNil))) (dCB isiD (dCons (dVar 0) (dCons (dC (.ty "bool")) dNil))))) (dB (dOp neD (dCB isiD (dCons (dVar 1) (dCons (dC (.ty "int")) dNil))) (dCB isiD (dCons (dVar 0) (dCons (dC (.ty "int")) dNil)))))) (dRet (dC (.bl false))) dNext) (t__law_same_5 sp__law_same))
def t__law_same_7 (sp__law_same : DSp) : DS := (dSeq (dIfS (dB (dCB isiD (dCons (dVar 1) (dCons (dTup (dCons (dC (.ty "list")) (dCons (dC (.ty "tuple")) dNil))) dNil)))) (t__law_same_4 sp__law_same) dNext) (t__law_same_6 sp__law_same))
def t__law_same_8 (sp__law_same : DSp) : DS := (dSeq (dIfS (dB (dCB isiD (dCons (dVar 1) (dCons (dC (.ty "dict")) dNil)))) (t__law_same_2 sp__law_same) dNext) (t__law_same_7 sp__law_same))
def t__law_same (sp__law_same : DSp) : DS := (dSeq (dIfS (dOr (dB (dOp isND (dVar 1) (dC .non))) (dB (dOp isND (dVar 0) (dC .non)))) (dRet (dAndV (dOp isND (dVar 1) (dC .non)) (dOp isND (dVar 0) (dC .non)))) dNext) (t__law_same_8 sp__law_same))
/- _law_field(_law_e); slots: 0:_law_e -/
def t__law_field_1 (xn : List Str) : DS := (dRet (dIf (dB (dOp eqD (dXf xn "code" (dVar 0)) (dC (.str "TooMany")))) (dTup (dCons (dXf xn "most" (dVar 0)) dNil)) (dTup dNil)))
def t__law_field_2 (xn : List Str) : DS := (dSeq (dIfS (dB (dOp eqD (dXf xn "code" (dVar 0)) (dC (.str "InvalidText")))) (dRet (dTup (dCons (dXf xn "line" (dVar 0)) (dCons (dXf xn "why" (dVar 0)) dNil)))) dNext) (t__law_field_1 xn))
def t__law_field_3 (xn : List Str) : DS := (dSeq (dIfS (dB (dOp eqD (dXf xn "code" (dVar 0)) (dC (.str "OffChart")))) (dRet (dTup (dCons (dXf xn "place" (dVar 0)) dNil))) dNext) (t__law_field_2 xn))
def t__law_field_4 (xn : List Str) : DS := (dSeq (dIfS (dB (dOp inE (dXf xn "code" (dVar 0)) (dLst (dCons (dC (.str "InvalidRegion")) (dCons (dC (.str "InvalidSaying")) (dCons (dC (.str "InvalidSquall")) (dCons (dC (.str "NotForced")) dNil))))))) (dRet (dTup (dCons (dXf xn "at" (dVar 0)) dNil))) dNext) (t__law_field_3 xn))
def t__law_field (xn : List Str) : DS := (dSeq (dIfS (dB (dOp inE (dXf xn "code" (dVar 0)) (dLst (dCons (dC (.str "InvalidNumber")) (dCons (dC (.str "InvalidGauge")) (dCons (dC (.str "InvalidPlace")) (dCons (dC (.str "InvalidMirror")) (dCons (dC (.str "UnknownSaying")) (dCons (dC (.str "UnknownPlace")) dNil))))))))) (dRet (dTup (dCons (dXf xn "value" (dVar 0)) dNil))) dNext) (t__law_field_4 xn))
/- _law_try(_law_ask); slots: 0:_law_ask 1:_law_e -/
def t__law_try (xn : List Str) (f : Addr) (tl : DAct) : DS := (dTry2 xn 1 2 (fun E' => (dRet (dTup (dCons (dC (.str "")) (dCons (dAct f tl E') dNil))))) (dRet (dTup (dCons (dXf xn "code" (dVar 1)) (dCons (dCall (sp__law_field xn) DX0 (dCons (dVar 1) dNil)) dNil)))))
/- _law_tries(_law_asks); slots: 0:_law_asks 1:_law_ask -/
def t__law_tries (xn : List Str) (acts : List (Addr × DAct)) : DS := (dRet (dLc (dIt (dVar 0)) (gNm 1) dYes (dTryA (TT__law_try xn) acts (dVar 1)) [1]))
/- _law_is_word(_law_text); slots: 0:_law_text 1:_law_sign -/
def t__law_is_word : DS := (dRet (dAndV (dChain leD leD (dC (.int 1)) (dCB lenD (dCons (dVar 0) dNil)) (dC (.int 6))) (dCB allD (dCons (dLc (dIt (dVar 0)) (gNm 1) dYes (dOp inE (dVar 1) (dC (.str "abcdefghijklmnopqrstuvwxyz"))) [1]) dNil))))
/- _law_is_place(_law_value); slots: 0:_law_value 1:_law_part -/
def t__law_is_place_1 : DS := (dRet (dAndV (dChain leD leD (dC (.int 0)) (dOp ixE (dVar 0) (dC (.int 0))) (dC (.int 8))) (dAndV (dChain leD leD (dC (.int 0)) (dOp ixE (dVar 0) (dC (.int 1))) (dC (.int 5))) (dChain leD leD (dC (.int 0)) (dOp ixE (dVar 0) (dC (.int 2))) (dC (.int 5))))))
def t__law_is_place_2 : DS := (dSeq (dIfS (dNot (dB (dCB allD (dCons (dLc (dIt (dVar 0)) (gNm 1) dYes (dAndV (dCB isiD (dCons (dVar 1) (dCons (dC (.ty "int")) dNil))) (dNotV (dCB isiD (dCons (dVar 1) (dCons (dC (.ty "bool")) dNil))))) [1]) dNil)))) (dRet (dC (.bl false))) dNext) t__law_is_place_1)
def t__law_is_place : DS := (dSeq (dIfS (dOr (dNot (dB (dCB isiD (dCons (dVar 0) (dCons (dC (.ty "tuple")) dNil))))) (dB (dOp neD (dCB lenD (dCons (dVar 0) dNil)) (dC (.int 3))))) (dRet (dC (.bl false))) dNext) t__law_is_place_2)
/- _law_odd_gauge(_law_bag); slots: 0:_law_bag -/
def t__law_odd_gauge : DS := (dRet (dCall sp__law_of DX0 (dCons (dVar 0) (dCons (dLst (dCons (dC (.str "")) (dCons (dC (.str "A")) (dCons (dC (.str "seventy")) (dCons (dC (.int 3)) (dCons (dC (.bl true)) (dCons (dLst (dCons (dC (.str "a")) dNil)) (dCons (dTup (dCons (dC (.str "a")) dNil)) (dCons (dC (.str "a b")) (dCons (dC (.str "a1")) (dCons (dC (.int 0)) dNil))))))))))) dNil))))
/- _law_odd_region(_law_bag); slots: 0:_law_bag 1:_law_good 2:_law_bad 3:_law_at -/
def t__law_odd_region_1 : DS := (dRet (dCall sp__law_of DX0 (dCons (dVar 0) (dCons (dLst (dCons (dC .non) (dCons (dC (.int 3)) (dCons (dC (.str "abc")) (dCons (dC (.bl true)) (dCons (dLst dNil) (dCons (dTup dNil) (dCons (dOp mulE (dLst (dCons (dVar 1) dNil)) (dC (.int 41))) (dCons (dOp mulE (dLst (dCons (dVar 1) dNil)) (dC (.int 40))) (dCons (dCB tupD (dCons (dOp mulE (dLst (dCons (dVar 1) dNil)) (dC (.int 40))) dNil)) (dCons (dVar 1) (dCons (dLst (dCons (dVar 2) dNil)) (dCons (dOp addD (dOp mulE (dLst (dCons (dVar 1) dNil)) (dVar 3)) (dLst (dCons (dVar 2) dNil))) (dCons (dLst (dCons (dVar 1) (dCons (dVar 2) (dCons (dC .non) dNil)))) (dCons (dLst (dCons (dTup (dCons (dC (.int 8)) (dCons (dC (.int 5)) (dCons (dC (.int 5)) dNil)))) dNil)) (dCons (dTup (dCons (dTup (dCons (dC (.int 1)) (dCons (dC (.int 2)) (dCons (dC (.int 3)) dNil)))) (dCons (dVar 1) dNil))) dNil)))))))))))))))) dNil))))
def t__law_odd_region_2 : DS := (dSeq (dAsg (dCall sp__law_of DX0 (dCons (dVar 0) (dCons (dLst (dCons (dC (.int 0)) (dCons (dC (.int 1)) (dCons (dC (.int 5)) (dCons (dC (.int 39)) dNil))))) dNil))) (gNm 3)) t__law_odd_region_1)
def t__law_odd_region : DS := (dSeq (dPar 1 2 (dCons (dTup (dCons (dC (.int 0)) (dCons (dC (.int 0)) (dCons (dC (.int 0)) dNil)))) (dCons (dCall sp__law_of DX0 (dCons (dVar 0) (dCons (dLst (dCons (dC .non) (dCons (dTup (dCons (dC (.int 0)) (dCons (dC (.int 0)) dNil))) (dCons (dLst (dCons (dC (.int 0)) (dCons (dC (.int 0)) (dCons (dC (.int 0)) dNil)))) (dCons (dTup (dCons (dC (.int 9)) (dCons (dC (.int 0)) (dCons (dC (.int 0)) dNil)))) (dCons (dTup (dCons (dNeg (dC (.int 1))) (dCons (dC (.int 0)) (dCons (dC (.int 0)) dNil)))) (dCons (dTup (dCons (dC (.int 0)) (dCons (dC (.int 6)) (dCons (dC (.int 0)) dNil)))) (dCons (dTup (dCons (dC (.int 0)) (dCons (dC (.int 0)) (dCons (dC (.int 6)) dNil)))) (dCons (dTup (dCons (dC (.bl true)) (dCons (dC (.int 0)) (dCons (dC (.int 0)) dNil)))) (dCons (dTup (dCons (dC (.str "0")) (dCons (dC (.int 0)) (dCons (dC (.int 0)) dNil)))) (dCons (dTup (dCons (dC (.int 0)) (dCons (dC (.int 0)) (dCons (dC (.int 0)) (dCons (dC (.int 0)) dNil))))) (dCons (dC (.int 3)) (dCons (dC (.str "0.0.0")) (dCons (dTup dNil) dNil)))))))))))))) dNil))) dNil))) t__law_odd_region_2)
/- _law_odd_place(_law_bag); slots: 0:_law_bag -/
def t__law_odd_place : DS := (dRet (dCall sp__law_of DX0 (dCons (dVar 0) (dCons (dLst (dCons (dC .non) (dCons (dC (.int 3)) (dCons (dC (.str "0.0.0")) (dCons (dLst (dCons (dC (.int 0)) (dCons (dC (.int 0)) (dCons (dC (.int 0)) dNil)))) (dCons (dTup (dCons (dC (.int 0)) (dCons (dC (.int 0)) dNil))) (dCons (dTup (dCons (dC (.int 9)) (dCons (dC (.int 0)) (dCons (dC (.int 0)) dNil)))) (dCons (dTup (dCons (dC (.int 0)) (dCons (dC (.int 6)) (dCons (dC (.int 0)) dNil)))) (dCons (dTup (dCons (dC (.int 0)) (dCons (dC (.int 0)) (dCons (dNeg (dC (.int 1))) dNil)))) (dCons (dTup (dCons (dC (.int 0)) (dCons (dC (.bl false)) (dCons (dC (.int 0)) dNil)))) (dCons (dTup (dCons (dC (.int 8)) (dCons (dC (.int 5)) (dCons (dC (.int 5)) dNil)))) (dCons (dLst (dCons (dTup (dCons (dC (.int 0)) (dCons (dC (.int 0)) (dCons (dC (.int 0)) dNil)))) dNil)) (dCons (dTup (dCons (dC (.int 0)) (dCons (dC (.int 0)) (dCons (dC (.int 0)) (dCons (dC (.int 0)) dNil))))) dNil))))))))))))) dNil))))
/- _law_odd_number(_law_bag, _law_ends); slots: 0:_law_bag 1:_law_ends -/
def t__law_odd_number : DS := (dRet (dCall sp__law_of DX0 (dCons (dVar 0) (dCons (dLst (dCons (dOp subD (dOp ixE (dVar 1) (dC (.int 0))) (dC (.int 1))) (dCons (dOp addD (dOp ixE (dVar 1) (dC (.int 1))) (dC (.int 1))) (dCons (dC .non) (dCons (dC (.bl true)) (dCons (dC (.bl false)) (dCons (dC (.str "3")) (dCons (dTup (dCons (dC (.int 3)) dNil)) (dCons (dLst (dCons (dC (.int 3)) dNil)) (dCons (dOp powD (dC (.int 10)) (dC (.int 8))) (dCons (dNeg (dOp powD (dC (.int 10)) (dC (.int 8)))) dNil))))))))))) dNil))))
/- _law_region_due(_law_value); slots: 0:_law_value 1:_law_k -/
def t__law_region_due_1 : DS := (dRet (dSl (dLc (dRng1 (dCons (dCB lenD (dCons (dVar 0) dNil)) dNil)) (gNm 1) (dNot (dB (dCall sp__law_is_place DX0 (dCons (dOp ixE (dVar 0) (dVar 1)) dNil)))) (dTup (dCons (dC (.str "InvalidRegion")) (dCons (dTup (dCons (dVar 1) dNil)) dNil))) [1]) dNoPart (dPart (dC (.int 1)))))
def t__law_region_due : DS := (dSeq (dIfS (dOr (dNot (dB (dCB isiD (dCons (dVar 0) (dCons (dTup (dCons (dC (.ty "list")) (dCons (dC (.ty "tuple")) dNil))) dNil))))) (dNot (dB (dChain leD leD (dC (.int 1)) (dCB lenD (dCons (dVar 0) dNil)) (dC (.int 40)))))) (dRet (dLst (dCons (dTup (dCons (dC (.str "InvalidRegion")) (dCons (dTup (dCons (dNeg (dC (.int 1))) dNil)) dNil))) dNil))) dNext) t__law_region_due_1)
/- _law_call_due(_law_kind, _law_regs, _law_nums, _law_by_z); slots: 0:_law_kind 1:_law_regs 2:_law_nums 3:_law_by_z 4:_law_wrong 5:_law_value 6:_law_number 7:_law_ends -/
def t__law_call_due_1 : DS := (dIfS (dNot (dB (dCall sp__law_is_squall DX0 (dCons (dVar 0) dNil)))) (dAsg (dOp addO (dVar 4) (dCall sp__law_region_due DX0 (dCons (dVar 5) dNil))) (gNm 4)) (dIfS (dNot (dB (dCall sp__law_is_place DX0 (dCons (dVar 5) dNil)))) (dDrop (dApp (dVar 4) (dTup (dCons (dC (.str "InvalidPlace")) (dCons (dTup (dCons (dVar 5) dNil)) dNil))))) dNext))
def t__law_call_due_2 : DS := (dIfS (dOr (dNot (dB (dCB isiD (dCons (dVar 6) (dCons (dC (.ty "int")) dNil))))) (dOr (dB (dCB isiD (dCons (dVar 6) (dCons (dC (.ty "bool")) dNil)))) (dNot (dB (dChain leD leD (dOp ixE (dVar 7) (dC (.int 0))) (dVar 6) (dOp ixE (dVar 7) (dC (.int 1)))))))) (dDrop (dApp (dVar 4) (dTup (dCons (dC (.str "InvalidNumber")) (dCons (dTup (dCons (dVar 6) dNil)) dNil))))) dNext)
def t__law_call_due_3 : DS := (dRet (dTup (dCons (dC (.str "")) (dCons (dTup (dCons (dVar 0) (dCons (dCB tupD (dCons (dVar 2) dNil)) (dCons (dCB tupD (dCons (dLc (dIt (dVar 1)) (gNm 5) dYes (dCB tupD (dCons (dSortSet (dCB lstD (dCons (dVar 5) dNil))) dNil)) [5]) dNil)) (dCons (dVar 3) dNil))))) dNil))))
def t__law_call_due_4 : DS := (dSeq (dIfS (dB (dCall sp__law_is_squall DX0 (dCons (dVar 0) dNil))) (dRet (dTup (dCons (dC (.str "")) (dCons (dTup (dCons (dVar 0) (dCons (dCB tupD (dCons (dVar 2) dNil)) (dCons (dTup (dCons (dTup (dCons (dOp ixE (dVar 1) (dC (.int 0))) dNil)) dNil)) (dCons (dVar 3) dNil))))) dNil)))) dNext) t__law_call_due_3)
def t__law_call_due_5 : DS := (dSeq (dIfS (dLdT (dB (dOp neD (dVar 4) (dLst dNil)))) (dRet (dOp ixE (dVar 4) (dC (.int 0)))) dNext) t__law_call_due_4)
def t__law_call_due_6 : DS := (dSeq (dIfS (dAnd (dB (dOp notND (dVar 3) (dC .non))) (dNot (dAnd (dB (dCB isiD (dCons (dVar 3) (dCons (dC (.ty "str")) dNil)))) (dB (dCall sp__law_is_word DX0 (dCons (dVar 3) dNil)))))) (dDrop (dApp (dVar 4) (dTup (dCons (dC (.str "InvalidGauge")) (dCons (dTup (dCons (dVar 3) dNil)) dNil))))) dNext) t__law_call_due_5)
def t__law_call_due_7 : DS := (dSeq (dFor (dZip (dCons (dVar 2) (dCons (dCall sp__law_bounds DX0 (dCons (dVar 0) dNil)) dNil))) (gTp (gsCons (gNm 6) (gsCons (gNm 7) gsNil)) 2) t__law_call_due_2) t__law_call_due_6)
def t__law_call_due_8 : DS := (dSeq (dFor (dIt (dVar 1)) (gNm 5) t__law_call_due_1) t__law_call_due_7)
def t__law_call_due : DS := (dSeq (dAsg (dLstO dNil) (gNm 4)) t__law_call_due_8)
/- _law_copied(_law_values); slots: 0:_law_values 1:_law_value -/
def t__law_copied : DS := (dRet (dLc (dIt (dVar 0)) (gNm 1) dYes (dIf (dB (dCB isiD (dCons (dVar 1) (dCons (dC (.ty "list")) dNil)))) (dCB lstD (dCons (dVar 1) dNil)) (dVar 1)) [1]))
/- law(_law_script); slots: 0:_law_script 1:_law_bag 2:_law_turn 3:_law_kind 4:_law_one 5:_law_regs 6:_law_nums 7:_law_by_z 8:_law_region 9:_law_k 10:_law_kept 11:_law_due 12:_law_asks 13:_law_odd 14:_law_made_here -/
def y_law_1 (E2 : DXK) : DE := (dCall sp__law_told DX0 (dCons (dCall (lendSp sp__law_call) E2 (dCons (dVar 3) (dCons (dVar 5) (dCons (dVar 6) (dCons (dVar 7) dNil))))) dNil))
def y_law_2 (E2 : DXK) : DE := (dCall sp__law_told DX0 (dCons (dCall sp__law_made E2 (dCons (dVar 4) dNil)) dNil))
def y_law_3 (E2 : DXK) : DE := (dMeth "Saying" "with_gauge" sp_Saying_with_gauge E2 (dVar 14) (dCons (dVar 13) dNil))
def t_law_1 (xn : List Str) (fs1 : List Addr) : DS := (dIfS (dNot (dB (dCall sp__law_same DX0 (dCons (dCall sp__law_told DX0 (dCons (dVar 14) dNil)) (dCons (dVar 4) dNil))))) (dRet (dC (.bl false))) dNext)
def t_law_2 (xn : List Str) (fs1 : List Addr) : DS := (dSeq (dIfS (dNot (dB (dCall sp__law_same DX0 (dCons (dLam (TT__law_try xn) (fun E2 => y_law_3 E2)) (dCons (dTup (dCons (dC (.str "InvalidGauge")) (dCons (dTup (dCons (dVar 13) dNil)) dNil))) dNil))))) (dRet (dC (.bl false))) dNext) (t_law_1 xn fs1))
def t_law_3 (xn : List Str) (fs1 : List Addr) : DS := (dSeq (dAsg (dTup (dCons (dCall sp__law_odd_gauge DX0 (dCons (dVar 1) dNil)) (dCons (dCall sp__law_made DX0 (dCons (dVar 4) dNil)) dNil))) (gTp (gsCons (gNm 13) (gsCons (gNm 14) gsNil)) 2)) (t_law_2 xn fs1))
def t_law_4 (xn : List Str) (fs1 : List Addr) : DS := (dSeq (dIfS (dOr (dNot (dB (dCall sp__law_same DX0 (dCons (dTries fs1 [(fun E2 => y_law_1 E2), (fun E2 => y_law_2 E2)] (TT__law_tries xn) (dVar 12)) (dCons (dLst (dCons (dVar 11) (dCons (dTup (dCons (dC (.str "")) (dCons (dVar 4) dNil))) dNil))) dNil))))) (dLdT (dB (dOp neD (dVar 10) (dLst (dCons (dVar 5) (dCons (dVar 6) dNil))))))) (dRet (dC (.bl false))) dNext) (t_law_3 xn fs1))
def t_law_5 (xn : List Str) : DS := (dIfS (dB (dOp eqD (dCall sp__law_draw DX0 (dCons (dVar 1) (dCons (dC (.int 3)) dNil))) (dC (.int 0)))) (dAsg (dIf (dB (dCall sp__law_is_squall DX0 (dCons (dVar 3) dNil))) (dCall sp__law_odd_place DX0 (dCons (dVar 1) dNil)) (dCall sp__law_odd_region DX0 (dCons (dVar 1) dNil))) (gIx (dVar 5) (dVar 9))) dNext)
def t_law_6 (xn : List Str) : DS := (dIfS (dB (dOp eqD (dCall sp__law_draw DX0 (dCons (dVar 1) (dCons (dC (.int 3)) dNil))) (dC (.int 0)))) (dAsg (dCall sp__law_odd_number DX0 (dCons (dVar 1) (dCons (dOp ixE (dCall sp__law_bounds DX0 (dCons (dVar 3) dNil)) (dVar 9)) dNil))) (gIx (dVar 6) (dVar 9))) dNext)
def t_law_7 (xn : List Str) : DS := (dSeq (dAsg (dCall (lendSp sp__law_call_due) DX0 (dCons (dVar 3) (dCons (dVar 5) (dCons (dVar 6) (dCons (dVar 7) dNil))))) (gNm 11)) (dAsks 12 2 (fun fs1 => (t_law_4 xn fs1))))
def t_law_8 (xn : List Str) : DS := (dSeq (dAsg (dLst (dCons (dCall (lendSp sp__law_copied) DX0 (dCons (dVar 5) dNil)) (dCons (dCall (lendSp sp__law_copied) DX0 (dCons (dVar 6) dNil)) dNil))) (gNm 10)) (t_law_7 xn))
def t_law_9 (xn : List Str) : DS := (dSeq (dIfS (dB (dOp eqD (dCall sp__law_draw DX0 (dCons (dVar 1) (dCons (dC (.int 4)) dNil))) (dC (.int 0)))) (dAsg (dCall sp__law_odd_gauge DX0 (dCons (dVar 1) dNil)) (gNm 7)) dNext) (t_law_8 xn))
def t_law_10 (xn : List Str) : DS := (dSeq (dFor (dRng1 (dCons (dCB lenD (dCons (dVar 6) dNil)) dNil)) (gNm 9) (t_law_6 xn)) (t_law_9 xn))
def t_law_11 (xn : List Str) : DS := (dSeq (dFor (dRng1 (dCons (dCB lenD (dCons (dVar 5) dNil)) dNil)) (gNm 9) (t_law_5 xn)) (t_law_10 xn))
def t_law_12 (xn : List Str) : DS := (dSeq (dAsg (dTup (dCons (dIf (dB (dCall sp__law_is_squall DX0 (dCons (dVar 3) dNil))) (dLstO (dCons (dOp ixE (dOp ixE (dOp ixE (dVar 4) (dC (.int 2))) (dC (.int 0))) (dC (.int 0))) dNil)) (dLcO (dIt (dOp ixE (dVar 4) (dC (.int 2)))) (gNm 8) dYes (dCB lstD (dCons (dVar 8) dNil)) [8])) (dCons (dCB lstOD (dCons (dOp ixE (dVar 4) (dC (.int 1))) dNil)) (dCons (dOp ixE (dVar 4) (dC (.int 3))) dNil)))) (gTp (gsCons (gNm 5) (gsCons (gNm 6) (gsCons (gNm 7) gsNil))) 3)) (t_law_11 xn))
def t_law_13 (xn : List Str) : DS := (dSeq (dAsg (dCall sp__law_any_saying DX0 (dCons (dVar 1) (dCons (dVar 3) dNil))) (gNm 4)) (t_law_12 xn))
def t_law_14 (xn : List Str) : DS := (dSeq (dAsg (dCall sp__law_of DX0 (dCons (dVar 1) (dCons (dCall sp__law_kinds DX0 dNil) dNil))) (gNm 3)) (t_law_13 xn))
def t_law_15 (xn : List Str) : DS := (dSeq (dFor (dRng1 (dCons (dC (.int 8)) dNil)) (gNm 2) (t_law_14 xn)) (dRet (dC (.bl true))))
def t_law (xn : List Str) : DS := (dSeq (dAsg (dCall sp__law_open DX0 (dCons (dVar 0) dNil)) (gNm 1)) (t_law_15 xn))
end K21
/-! The defs of this law keep their promises, over data. -/
namespace K21
open PySem L2 DL HS HB
theorem pure__law_draw : ∀ ds M Q E, sp0__law_draw ds M Q E → ds.length = (["_law_bag", "_law_sides"] : List Str).length ∧ t__law_draw { nx := fun _ M' => Q .non M', rt := Q } (startD ["_law_bag", "_law_sides", "_law_cell", "_law_small", "_law_digit", "_law_seed", "_law_step"] ds) M := HB.pure__law_draw
theorem pure__law_same (n : Nat) : ∀ ds M Q E, spSame n ds M Q E → ds.length = (["_law_found", "_law_due"] : List Str).length ∧ t__law_same (spPrev n) { nx := fun _ M' => Q .non M', rt := Q } (startD ["_law_found", "_law_due", "_law_key", "_law_one", "_law_other"] ds) M := HB.pure__law_same n
theorem pure__law_field (xn : List Str) : ∀ ds M Q, sp__law_field xn ds M Q DX0 → ds.length = (["_law_e"] : List Str).length ∧ t__law_field xn { nx := fun _ M' => Q .non M', rt := Q } (startD ["_law_e"] ds) M := HB.pure__law_field xn
theorem pure__law_try (xn : List Str) : ∀ f tl M Q, TT__law_try xn tl M Q → t__law_try xn f tl { nx := fun _ M' => Q .non M', rt := Q } (startD ["_law_ask", "_law_e"] [.ref f]) M := HB.pure__law_try xn
theorem pure__law_tries (xn : List Str) : ∀ (acts : List (Addr × DAct)) r M Q, TT__law_tries xn (acts.map (·.2)) M Q → t__law_tries xn acts { nx := fun _ M' => Q .non M', rt := Q } (startD ["_law_asks", "_law_ask"] [.lst r (acts.map fun q => .ref q.1)]) M := HB.pure__law_tries xn
theorem pure__law_is_word : ∀ ds M Q E, sp__law_is_word ds M Q E → ds.length = (["_law_text"] : List Str).length ∧ t__law_is_word { nx := fun _ M' => fzK Q .non M', rt := fzK Q } (startD ["_law_text", "_law_sign"] ds) M := by
  rintro ds M Q E ⟨z, rfl, h2, q⟩
  refine ⟨rfl, ?_⟩
  simp only [isName] at q
  simp [t__law_is_word]
  refine ⟨by omega, ?_⟩
  split
  · rename_i h3
    split
    · rename_i h4
      rw [decide_eq_true (show 1 ≤ z.length by omega), decide_eq_true (show z.length ≤ 6 by omega)] at q
      refine compi_of (f := fun ch => .bl (small ch)) _ _ _ (fun ch _ Q h => ?_) (by have : z.cps.size = z.length := rfl; simp; omega) ?_
      · simpa [wipeD, small, dctT] using h
      · refine ⟨z.cps.toList.map small, by simp, fz_same ?_⟩
        simpa using q
    · rename_i h4
      rw [decide_eq_false (show ¬ z.length ≤ 6 by omega)] at q
      exact fz_same (by simpa using q)
  · rename_i h3
    rw [decide_eq_false (show ¬ 1 ≤ z.length by omega)] at q
    exact fz_same (by simpa using q)
def okI (x : D) : Bool := (tyN x).isSome && (match x with | .tup ys => decide (ys.length ≤ 100) && ys.all fun y => (tyN y).isSome | _ => true)
def okV (v : D) : Bool := gd 2 v && (match v with | .lst _ xs => decide (xs.length ≤ 1000) && xs.all okI | .tup xs => decide (xs.length ≤ 1000) && xs.all okI | .cst _ => false | _ => true)
theorem okI_ty {x : D} (hx : okI x = true) : ty1 x := by
  unfold okI at hx
  rw [Bool.and_eq_true] at hx
  refine ⟨hx.1, fun ys e => ?_⟩
  subst e
  simp only [Bool.and_eq_true, decide_eq_true_eq, List.all_eq_true] at hx
  exact ⟨by omega, hx.2.2⟩
theorem any_ok {v : D} (hv : okV v = true) : Any v := by
  unfold okV at hv
  rw [Bool.and_eq_true] at hv
  obtain ⟨g, h⟩ := hv
  refine ⟨?_, g⟩
  cases v <;> first | (cases h; done) | skip
  case lst t xs =>
    simp only [Bool.and_eq_true, decide_eq_true_eq] at h
    refine ⟨⟨rfl, fun ys e => by cases e⟩, fun ys e => ?_⟩
    cases e
    exact ⟨h.1, fun x hx => okI_ty (List.all_eq_true.mp h.2 x hx)⟩
  case tup xs =>
    simp only [Bool.and_eq_true, decide_eq_true_eq] at h
    refine ⟨⟨rfl, fun ys e => ?_⟩, fun ys e => ?_⟩
    · cases e
      exact ⟨by omega, fun x hx => (okI_ty (List.all_eq_true.mp h.2 x hx)).1⟩
    · cases e
      exact ⟨h.1, fun x hx => okI_ty (List.all_eq_true.mp h.2 x hx)⟩
  all_goals first
    | exact ⟨⟨rfl, fun ys e => by cases e⟩, fun ys e => by cases e⟩
    | (exfalso; exact Bool.noConfusion (show false = true from g))
theorem of_odd {b : Addr} {M : Mu} {Q : DK} {f : D → Bool} (hb : M b = some (.bg 1)) (q : ∀ v, f v = true → Q v M) (l : List D) (h : l.all f = true) (h0 : 0 < l.length) (h1 : l.length ≤ 1000) : sp__law_of [.ref b, .lst 0 l] M (fzK Q) DX0 :=
  ⟨b, _, l, rfl, hb, rfl, ⟨h0, by omega⟩, fun x hx => fz_same (q x (List.all_eq_true.mp h x hx))⟩
theorem pure__law_odd_gauge : ∀ ds M Q E, sp__law_odd_gauge ds M Q E → ds.length = (["_law_bag"] : List Str).length ∧ t__law_odd_gauge { nx := fun _ M' => fzK Q .non M', rt := fzK Q } (startD ["_law_bag"] ds) M := by
  rintro ds M Q E ⟨b, rfl, hb, q⟩
  refine ⟨rfl, ?_⟩
  show t__law_odd_gauge { nx := fun _ M' => fzK Q .non M', rt := fzK Q } [some (.ref b)] M
  simp only [t__law_odd_gauge, dRet, dCall, dLst, dTup, dCons, dNil, dC, dVar, List.getElem?_cons_zero]
  refine ⟨by decide, by decide, by decide, ?_⟩
  refine of_odd (f := fun v => okV v && !gaugeOk v) hb (fun v hv => ?_) _ ?_ ?_ ?_
  · rw [Bool.and_eq_true] at hv
    exact q v (any_ok hv.1) (by simpa using hv.2)
  all_goals decide +kernel
theorem pure__law_odd_place : ∀ ds M Q E, sp__law_odd_place ds M Q E → ds.length = (["_law_bag"] : List Str).length ∧ t__law_odd_place { nx := fun _ M' => fzK Q .non M', rt := fzK Q } (startD ["_law_bag"] ds) M := by
  rintro ds M Q E ⟨b, rfl, hb, q⟩
  refine ⟨rfl, ?_⟩
  show t__law_odd_place { nx := fun _ M' => fzK Q .non M', rt := fzK Q } [some (.ref b)] M
  simp only [t__law_odd_place, dRet, dCall, dLst, dTup, dCons, dNil, dC, dNeg, dVar, List.getElem?_cons_zero]
  repeat (refine ⟨by decide, ?_⟩)
  refine of_odd (f := okV) hb (fun v hv => q v (any_ok hv)) _ ?_ ?_ ?_
  all_goals decide +kernel
theorem okV_int (i : Int) : okV (.int i) = true := rfl
theorem pure__law_odd_number : ∀ ds M Q E, sp__law_odd_number ds M Q E → ds.length = (["_law_bag", "_law_ends"] : List Str).length ∧ t__law_odd_number { nx := fun _ M' => fzK Q .non M', rt := fzK Q } (startD ["_law_bag", "_law_ends"] ds) M := by
  rintro ds M Q E ⟨b, lo, hi, rfl, hb, q⟩
  refine ⟨rfl, ?_⟩
  show t__law_odd_number { nx := fun _ M' => fzK Q .non M', rt := fzK Q } [some (.ref b), some (bdD (lo, hi))] M
  simp only [t__law_odd_number, dRet, dCall, dLst, dTup, dCons, dNil, dC, dNeg, dOp, dVar, List.getElem?_cons_succ, List.getElem?_cons_zero, bdD, HB.ix0, HB.ix1, subD, addD, powD]
  repeat (refine ⟨by decide, ?_⟩)
  refine ⟨⟨by decide, by decide, by decide⟩, ⟨by decide, by decide, by decide⟩, by simp only [List.length_cons, List.length_nil]; decide, ?_⟩
  refine of_odd (f := okV) hb (fun v hv => q v (any_ok hv)) _ ?_ (by simp only [List.length_cons, List.length_nil]; decide) (by simp only [List.length_cons, List.length_nil]; decide)
  simp only [List.all_cons, List.all_nil, Bool.and_true, okV_int, Bool.true_and]
  decide +kernel
def okB (x : D) : Bool := okI x && gd 1 x
theorem okV_lst {xs : List D} (h1 : xs.length ≤ 1000) (h : ∀ x ∈ xs, okB x = true) : okV (.lst 0 xs) = true := by
  have a1 : xs.all okI = true := List.all_eq_true.mpr fun x hx => by have := h x hx; unfold okB at this; rw [Bool.and_eq_true] at this; exact this.1
  have a2 : xs.all (gd 1) = true := List.all_eq_true.mpr fun x hx => by have := h x hx; unfold okB at this; rw [Bool.and_eq_true] at this; exact this.2
  show (gd 2 (.lst 0 xs) && (decide (xs.length ≤ 1000) && xs.all okI)) = true
  have e : gd 2 (.lst 0 xs) = (decide (xs.length ≤ 50000) && xs.all (gd 1)) := rfl
  rw [e, a1, a2, decide_eq_true h1, decide_eq_true (show xs.length ≤ 50000 by omega)]
  rfl
theorem rep_mem {x y : D} : ∀ {k : Nat}, y ∈ (List.replicate k [x]).flatten → y = x := by
  intro k h
  obtain ⟨l, hl, hy⟩ := List.mem_flatten.mp h
  rw [List.eq_of_mem_replicate hl] at hy
  exact List.mem_singleton.mp hy
theorem rep_len {x : D} {k : Nat} : (List.replicate k [x]).flatten.length = k := by
  induction k with
  | zero => rfl
  | succ k ih => rw [List.replicate_succ, List.flatten_cons, List.length_append, ih]; simp; omega
theorem mulL {x : D} {n : Int} (h0 : 0 ≤ n) (h1 : n ≤ 100) {M : Mu} {Q : DK} (q : Q (.lst 0 (List.replicate n.toNat [x]).flatten) M) : mulE (.lst 0 [x]) (.int n) M Q := by
  simp only [mulE, mulD]
  exact ⟨h0, by omega, by simp; omega, q⟩
theorem pure__law_odd_region : ∀ ds M Q E, sp__law_odd_region ds M Q E → ds.length = (["_law_bag"] : List Str).length ∧ t__law_odd_region { nx := fun _ M' => fzK Q .non M', rt := fzK Q } (startD ["_law_bag", "_law_good", "_law_bad", "_law_at"] ds) M := by
  rintro ds M Q E ⟨b, rfl, hb, q⟩
  refine ⟨rfl, ?_⟩
  show t__law_odd_region { nx := fun _ M' => fzK Q .non M', rt := fzK Q } [some (.ref b), none, none, none] M
  simp only [t__law_odd_region, dSeq, dPar, dRet, dCall, dLst, dTup, dCons, dNil, dC, dNeg, dVar, List.getElem?_cons_succ, List.getElem?_cons_zero]
  repeat (refine ⟨by decide, ?_⟩)
  refine ⟨b, _, _, rfl, hb, rfl, ⟨by decide, by decide⟩, fun bad hbad => ?_⟩
  have hB : okB bad = true := by
    have : ([D.non, D.tup [D.int 0, D.int 0], D.lst 0 [D.int 0, D.int 0, D.int 0], D.tup [D.int 9, D.int 0, D.int 0], D.tup [D.int (-1), D.int 0, D.int 0], D.tup [D.int 0, D.int 6, D.int 0], D.tup [D.int 0, D.int 0, D.int 6], D.tup [D.bl true, D.int 0, D.int 0], D.tup [D.str "0", D.int 0, D.int 0], D.tup [D.int 0, D.int 0, D.int 0, D.int 0], D.int 3, D.str "0.0.0", D.tup []] : List D).all okB = true := by decide +kernel
    exact List.all_eq_true.mp this bad hbad
  clear hbad
  simp only [List.set_cons_succ, List.set_cons_zero, t__law_odd_region_2, dSeq, dAsg, dCall, dLst, dCons, dNil, dC, dVar, List.getElem?_cons_succ, List.getElem?_cons_zero]
  refine ⟨by decide, b, _, _, rfl, hb, rfl, ⟨by decide, by decide⟩, fun at_ hat => ?_⟩
  obtain ⟨n, rfl, n0, n1⟩ : ∃ n : Int, at_ = .int n ∧ 0 ≤ n ∧ n ≤ 100 := by
    simp only [List.mem_cons, List.not_mem_nil, or_false] at hat
    rcases hat with rfl | rfl | rfl | rfl
    all_goals exact ⟨_, rfl, by decide, by decide⟩
  clear hat
  simp only [gNm, List.set_cons_succ, List.set_cons_zero, t__law_odd_region_1, dRet, dCall, dLst, dTup, dCB, dCons, dNil, dOp, dC, dVar, List.getElem?_cons_succ, List.getElem?_cons_zero]
  refine ⟨by decide, by decide, by decide, mulL (by decide) (by decide) ⟨by decide, mulL (by decide) (by decide) ⟨by decide, mulL (by decide) (by decide) ?_⟩⟩⟩
  simp only [tupD]
  refine ⟨by simp, by simp, mulL n0 n1 ?_⟩
  refine ⟨by simp, ?_⟩
  simp only [addD]
  refine ⟨by simp only [List.length_append, rep_len, List.length_cons, List.length_nil]; omega, ?_⟩
  repeat (refine ⟨by simp, ?_⟩)
  refine of_odd (f := okV) hb (fun v hv => q v (any_ok hv)) _ ?_ (by simp) (by simp)
  have g0 : okB (.tup [.int 0, .int 0, .int 0]) = true := by decide +kernel
  have e1 : okV (.lst 0 [bad]) = true := okV_lst (by simp) fun x hx => by rw [List.mem_singleton.mp hx]; exact hB
  have e2 : okV (.lst 0 ((List.replicate n.toNat [D.tup [D.int 0, D.int 0, D.int 0]]).flatten ++ [bad])) = true := okV_lst (by simp only [List.length_append, rep_len, List.length_cons, List.length_nil]; omega) fun x hx => by
    rcases List.mem_append.mp hx with h | h
    · rw [rep_mem h]; exact g0
    · rw [List.mem_singleton.mp h]; exact hB
  have e3 : okV (.lst 0 [D.tup [D.int 0, D.int 0, D.int 0], bad, D.non]) = true := okV_lst (by simp) fun x hx => by
    simp only [List.mem_cons, List.not_mem_nil, or_false] at hx
    rcases hx with rfl | rfl | rfl
    · exact g0
    · exact hB
    · rfl
  simp only [List.all_cons, List.all_nil, Bool.and_true, e1, e2, e3, Bool.true_and]
  decide +kernel
theorem ix2 {x y z : D} {xs : List D} {M : Mu} {Q : DK} : ixE (.tup (x :: y :: z :: xs)) (.int 2) M Q = Q z M := by
  have e : atI (x :: y :: z :: xs) 2 = some z := by
    unfold atI ixN
    rw [if_pos (by decide), if_pos (by simp only [List.length_cons]; omega)]; rfl
  simp only [ixE, dctT, ixD, e]
def isI : D → Bool
  | .int _ => true
  | _ => false
theorem pure__law_is_place : ∀ ds M Q E, sp__law_is_place ds M Q E → ds.length = (["_law_value"] : List Str).length ∧ t__law_is_place { nx := fun _ M' => fzK Q .non M', rt := fzK Q } (startD ["_law_value", "_law_part"] ds) M := by
  rintro ds M Q E ⟨v, rfl, ⟨hty, ht⟩, q⟩
  refine ⟨rfl, ?_⟩
  cases v <;> first | (cases (show false = true from hty); done) | skip
  all_goals simp [t__law_is_place, inst, tyN, isA, tyNames]
  all_goals first | exact fz_same q | skip
  case tup xs =>
    obtain ⟨h1, h2⟩ := ht xs rfl
    match xs, h2, q with
    | [x, y, z], h2, q =>
      simp [t__law_is_place_2]
      refine compi_of (h := fun d => d) (f := fun x => .bl (isI x)) [x, y, z] [] _ (fun x hx Q' q' => ?_) (by simp only [List.length_cons, List.length_nil]; omega) ?_
      · simp only [wipeD, gNm, List.set_cons_succ, List.set_cons_zero, List.foldl, dAndV, dCB, dNotV, dCons, dNil, dC, dVar, List.getElem?_cons_succ, List.getElem?_cons_zero]
        have := h2 x hx
        cases x <;> first | (cases (show false = true from this); done) | skip
        all_goals simp [inst, tyN, isA, tyNames]
        all_goals exact q'
      · refine ⟨[x, y, z].map isI, by simp, ?_⟩
        have ii : ∀ d : D, (∃ i : Int, d = .int i) ∨ isI d = false := fun d => by cases d <;> first | exact .inl ⟨_, rfl⟩ | exact .inr rfl
        have no : isI x = false ∨ isI y = false ∨ isI z = false → fzK Q (.bl false) M ∧ false ∈ [x, y, z].map isI := by
          intro h
          have e : isPlace (.tup [x, y, z]) = false := by
            cases x <;> cases y <;> cases z <;> first | rfl | (exfalso; rcases h with h | h | h <;> cases h)
          rw [e] at q
          refine ⟨fz_same q, ?_⟩
          rcases h with h | h | h <;> rw [← h] <;> simp
        rcases ii x with ⟨a, rfl⟩ | hx
        case inr => rw [if_pos (no (.inl hx)).2]; exact (no (.inl hx)).1
        rcases ii y with ⟨b, rfl⟩ | hx
        case inr => rw [if_pos (no (.inr (.inl hx))).2]; exact (no (.inr (.inl hx))).1
        rcases ii z with ⟨c, rfl⟩ | hx
        case inr => rw [if_pos (no (.inr (.inr hx))).2]; exact (no (.inr (.inr hx))).1
        rw [if_neg (by simp [isI])]
        have e : isPlace (.tup [.int a, .int b, .int c]) = decide (0 ≤ a ∧ a ≤ 8 ∧ 0 ≤ b ∧ b ≤ 5 ∧ 0 ≤ c ∧ c ≤ 5) := by
          simp only [isPlace, HS.placeOf]
          split <;> rename_i h
          · rw [decide_eq_true h]; rfl
          · rw [decide_eq_false h]; rfl
        rw [e] at q
        simp only [t__law_is_place_1, dRet, dAndV, dChain, dOp, dC, dVar, List.getElem?_cons_succ, List.getElem?_cons_zero, HB.ix0, HB.ix1, ix2, leD]
        have f : ∀ k : Bool, (k = true ↔ (0 ≤ a ∧ a ≤ 8 ∧ 0 ≤ b ∧ b ≤ 5 ∧ 0 ≤ c ∧ c ≤ 5)) → fzK Q (.bl k) M := by
          intro k hk
          have : k = decide (0 ≤ a ∧ a ≤ 8 ∧ 0 ≤ b ∧ b ≤ 5 ∧ 0 ≤ c ∧ c ≤ 5) := by
            rw [Bool.eq_iff_iff, decide_eq_true_iff]; exact hk
          rw [this]; exact fz_same q
        simp only [decide_eq_true_eq, Bool.false_eq_true, if_false]
        repeat' split
        all_goals refine f _ ?_
        all_goals first | (simp only [Bool.false_eq_true, false_iff]; omega) | (simp only [decide_eq_true_eq]; omega)
    | [], h2, q => simp; exact fz_same q
    | [x], h2, q => simp; rw [isPlace_no (by intro x y z e; cases e)] at q; exact fz_same q
    | [x, y], h2, q => simp; rw [isPlace_no (by intro x y z e; cases e)] at q; exact fz_same q
    | x :: y :: z :: u :: l, h2, q =>
      simp
      rw [isPlace_no (by intro x y z e; cases e)] at q
      exact fz_same q
end K21
/-! The defs of this law keep their promises, over data: what is due. -/
namespace K21
open PySem L2 DL HS HB
theorem pure__law_copied : ∀ ds M Q E, sp__law_copied ds M Q E → ds.length = (["_law_values"] : List Str).length ∧ t__law_copied { nx := fun _ M' => fzK Q .non M', rt := fzK Q } (startD ["_law_values", "_law_value"] ds) M := by
  rintro ds M Q E ⟨r, vs, rfl, hl, hv, q⟩
  refine ⟨rfl, ?_⟩
  show t__law_copied { nx := fun _ M' => fzK Q .non M', rt := fzK Q } [some (.lst r vs), none] M
  simp only [t__law_copied, dRet, dLc, dIt, dVar, List.getElem?_cons_succ, List.getElem?_cons_zero]
  have main : compi (gNm 1) dYes (dIf (dB (dCB isiD (dCons (dVar 1) (dCons (dC (.ty "list")) dNil)))) (dCB lstD (dCons (dVar 1) dNil)) (dVar 1)) (wipeD [some (.lst r vs), none] [1]) (vs.map fun d => d) [] M (fzK Q) := by
    refine compi_of (h := fun d => d) (f := copyD) vs [] _ (fun x hx Q' q' => ?_) (by simp; omega) ?_
    · simp only [wipeD, gNm, List.set_cons_succ, List.set_cons_zero, List.foldl, dIf, dB, dCB, dCons, dNil, dC, dVar, List.getElem?_cons_succ, List.getElem?_cons_zero]
      have := (hv x hx).t
      cases x <;> first | (cases (show false = true from this); done) | skip
      all_goals simp [inst, tyN, isA, tyNames]
      all_goals exact q'
    · exact fz_same (by simpa using q)
  rw [List.map_id'] at main
  exact main
/-- the places at which no place stands -/
def badI : Nat → List D → List D
  | _, [] => []
  | k, x :: xs => if isPlace x = true then badI (k + 1) xs else errD "InvalidRegion" (.int k) :: badI (k + 1) xs
theorem badI_take : ∀ (xs : List D) (k : Nat), (badI k xs).take 1 = (match fstOdd k xs with | none => [] | some i => [errD "InvalidRegion" (.int i)])
  | [], _ => rfl
  | x :: xs, k => by
    rw [badI, fstOdd]
    cases isPlace x with
    | true => simpa using badI_take xs (k + 1)
    | false => rfl
theorem bad_comp {v : D} {xs : List D} {M : Mu} {Q : DK} {o : Option D} (hv : seq v = some xs) (ht : ∀ x ∈ xs, ty1 x) : ∀ (n k : Nat) (acc : List D), k + n = xs.length → acc.length + n ≤ 80000 → Q (.lst 0 (acc ++ badI k (xs.drop k))) M →
    compi (gNm 1) (dNot (dB (dCall sp__law_is_place DX0 (dCons (dOp ixE (dVar 0) (dVar 1)) dNil)))) (dTup (dCons (dC (.str "InvalidRegion")) (dCons (dTup (dCons (dVar 1) dNil)) dNil))) [some v, o] ((List.range' k n).map fun (i : Nat) => D.int (0 + (i : Int))) acc M Q
  | 0, k, acc, hk, hl, q => by
    have : xs.drop k = [] := List.drop_eq_nil_of_le (by omega)
    rw [this] at q
    simpa [compi, badI] using q
  | n + 1, k, acc, hk, hl, q => by
    have hlt : k < xs.length := by omega
    rw [List.drop_eq_getElem_cons hlt, badI] at q
    rw [List.range'_succ, List.map_cons, compi]
    have e0 : (0 : Int) + (k : Int) = (k : Int) := by omega
    have ix : ∀ Q' : DK, Q' xs[k] M → ixE v (.int (k : Int)) M Q' := by
      intro Q' q'
      have hx := atI_nat hlt
      cases v <;> first | (cases hv; done) | skip
      all_goals cases hv
      all_goals simp only [ixE, dctT, ixD, hx]
      all_goals exact q'
    simp only [gNm, List.set_cons_succ, List.set_cons_zero, dNot, dB, dCall, dOp, dTup, dC, dCons, dNil, dVar, List.getElem?_cons_succ, List.getElem?_cons_zero, e0]
    refine ix _ ⟨xs[k], rfl, ht _ (List.getElem_mem hlt), ?_⟩
    cases e : isPlace xs[k] with
    | true =>
      rw [e] at q
      simp only [isB, Bool.not_true, Bool.false_eq_true, if_false]
      exact bad_comp hv ht n (k + 1) acc (by omega) (by omega) (by simpa using q)
    | false =>
      rw [e] at q
      simp only [isB, Bool.not_false, if_true]
      refine ⟨by simp, by simp, by omega, ?_⟩
      refine bad_comp hv ht n (k + 1) (acc ++ [_]) (by omega) (by simp; omega) ?_
      simpa [errD] using q
theorem len_seq {v : D} {xs : List D} (hv : seq v = some xs) {M : Mu} {Q : DK} (q : Q (.int xs.length) M) : lenD [v] M Q := by
  cases v <;> first | (cases hv; done) | skip
  all_goals cases hv
  all_goals simpa [lenD] using q
theorem pure__law_region_due : ∀ ds M Q E, sp__law_region_due ds M Q E → ds.length = (["_law_value"] : List Str).length ∧ t__law_region_due { nx := fun _ M' => fzK Q .non M', rt := fzK Q } (startD ["_law_value", "_law_k"] ds) M := by
  rintro ds M Q E ⟨v, rfl, hv, q⟩
  refine ⟨rfl, ?_⟩
  show t__law_region_due { nx := fun _ M' => fzK Q .non M', rt := fzK Q } [some v, none] M
  have ht := hv.t
  have hr := hv.r
  have no : seq v = none → Q (.lst 0 [errD "InvalidRegion" (.int (-1))]) M := by
    intro h
    have e : dueRg v = [errD "InvalidRegion" (.int (-1))] := by simp only [dueRg, regOdd, h]
    rw [e] at q; exact q
  have main : ∀ xs, seq v = some xs → 1 ≤ xs.length → xs.length ≤ 40 → t__law_region_due_1 { nx := fun _ M' => fzK Q .non M', rt := fzK Q } [some v, none] M := by
    intro xs hs h1 h2
    have e : dueRg v = (badI 0 xs).take 1 := by rw [badI_take]; simp only [dueRg, regOdd, hs]; rw [if_pos ⟨h1, h2⟩]; first | done | (cases fstOdd 0 xs <;> rfl)
    rw [e] at q
    simp only [t__law_region_due_1, dRet, dSl, dNoPart, dPart, dLc, dRng1, dCB, dCons, dNil, dC, dVar, List.getElem?_cons_succ, List.getElem?_cons_zero]
    refine len_seq hs ⟨by omega, ?_⟩
    have er : rngD 0 (Int.toNat (xs.length : Int)) = (List.range' 0 xs.length).map fun (i : Nat) => D.int (0 + (i : Int)) := by
      rw [rngD, Int.toNat_natCast, List.range_eq_range']
    rw [er]
    have hw : wipeD [some v, none] [1] = [some v, none] := rfl
    rw [hw]
    refine bad_comp hs (hr.2 xs hs).2 xs.length 0 [] (by omega) (by simp; omega) ?_
    rw [List.nil_append, List.drop_zero]
    have ec : cut (badI 0 xs) none (some 1) = (badI 0 xs).take 1 := by
      unfold cut
      cases badI 0 xs <;> simp [HT.sIx]
    simp only [slD, ec]
    exact fz_same q
  have short : ∀ xs, seq v = some xs → ¬ (1 ≤ xs.length ∧ xs.length ≤ 40) → Q (.lst 0 [errD "InvalidRegion" (.int (-1))]) M := by
    intro xs hs h
    have e : dueRg v = [errD "InvalidRegion" (.int (-1))] := by simp only [dueRg, regOdd, hs]; rw [if_neg h]
    rw [e] at q; exact q
  cases v <;> first | (cases (show false = true from ht); done) | skip
  all_goals simp [t__law_region_due, inst, tyN, isA, tyNames, tysOf]
  case lst t xs =>
    split
    · split
      · exact fz_same (short xs rfl (by omega))
      · exact main xs rfl (by omega) (by omega)
    · exact fz_same (short xs rfl (by omega))
  case tup xs =>
    split
    · split
      · exact fz_same (short xs rfl (by omega))
      · exact main xs rfl (by omega) (by omega)
    · exact fz_same (short xs rfl (by omega))
  all_goals exact fz_same (no rfl)
end K21
/-! The defs of this law keep their promises, over data: what is due of a call. -/
namespace K21
open PySem L2 DL HS HB
theorem err_gd {c : Str} {v : D} (hc : gd 0 (.str c) = true) (hv : gd 2 v = true) : gd 4 (errD c v) = true := by
  have h1 : gd 3 (.str c) = true := gd_le hc (by decide)
  have h2 : gd 3 (.tup [v]) = true := by simp [gd, hv]
  have e : gd 4 (errD c v) = (decide (([.str c, .tup [v]] : List D).length ≤ 50000) && [.str c, .tup [v]].all (gd 3)) := rfl
  rw [e, List.all_cons, List.all_cons, List.all_nil, h1, h2]
  rfl
/-- an own list of errors -/
structure St (M0 M : Mu) (a : Addr) (ws : List D) : Prop where
  ex : Ex M0 M
  at_ : M a = some (.lst ws)
  new : M0 a = none
variable {k : Kd} {r r' : Nat} {vs ns : List D} {g : D} {M0 : Mu} {Z : DEnds}
abbrev eC (k : Kd) (r : Nat) (vs : List D) (r' : Nat) (ns : List D) (g : D) (a : Addr) (o5 o6 o7 : Option D) : DEnv := [some (.str k.s), some (.lst r vs), some (.lst r' ns), some g, some (.ref a), o5, o6, o7]
theorem app_err {w : DE} {x : D} {a : Addr} {ws : List D} {M : Mu} {o5 o6 o7 : Option D} {T : DEnds} (hS : St M0 M a ws) (hl : ws.length ≤ 100) (hw : ∀ Q : DK, Q x M → w (eC k r vs r' ns g a o5 o6 o7) M Q)
    (q : ∀ M', St M0 M' a (ws ++ [x]) → T.nx (eC k r vs r' ns g a o5 o6 o7) M') : dDrop (dApp (dVar 4) w) T (eC k r vs r' ns g a o5 o6 o7) M := by
  simp only [dDrop, dApp, dVar, eC, List.getElem?_cons_succ, List.getElem?_cons_zero, hS.at_]
  refine hw _ ?_
  simp only [hS.at_]
  exact ⟨by omega, q _ ⟨hS.ex.set hS.new, setM_same, hS.new⟩⟩
theorem err_read {c : Str} {i : Nat} {v : D} {ρ : DEnv} {M : Mu} (h : ρ[i]? = some (some v)) (Q : DK) (q : Q (errD c v) M) : dTup (dCons (dC (.str c)) (dCons (dTup (dCons (dVar i) dNil)) dNil)) ρ M Q := by
  simp only [dTup, dCons, dNil, dC, dVar, h]
  exact ⟨by simp, by simp, q⟩
def dueV (k : Kd) : D → List D := if k.squall = true then duePl else dueRg
theorem regs_loop : ∀ (rest : List D) (a : Addr) (ws : List D) (M : Mu) (o5 o6 o7 : Option D), St M0 M a ws → (∀ v ∈ rest, Any v) → ws.length + rest.length ≤ 50 →
    (∀ a' M' o5', St M0 M' a' (ws ++ rest.flatMap (dueV k)) → Z.nx (eC k r vs r' ns g a' o5' o6 o7) M') → fori (gNm 5) t__law_call_due_1 rest Z (eC k r vs r' ns g a o5 o6 o7) M
  | [], a, ws, M, o5, o6, o7, hS, _, _, q => x_nil (q a M o5 (by simpa using hS))
  | v :: rest, a, ws, M, o5, o6, o7, hS, hv, hl, q => by
    simp only [List.length_cons] at hl
    refine x_cons ?_
    have hk := hv v List.mem_cons_self
    have go : ∀ a' M', St M0 M' a' (ws ++ dueV k v) → fori (gNm 5) t__law_call_due_1 rest Z (eC k r vs r' ns g a' (some v) o6 o7) M' := fun a' M' h => by
      have hd : (dueV k v).length ≤ 1 := by
        unfold dueV
        split
        · unfold duePl; split <;> simp
        · unfold dueRg; split <;> simp
      exact regs_loop rest a' _ M' _ _ _ h (fun y hy => hv y (List.mem_cons_of_mem _ hy)) (by rw [List.length_append]; omega) (fun a2 M2 o2 h2 => q a2 M2 o2 (by simpa using h2))
    simp only [gNm, eC, List.set_cons_succ, List.set_cons_zero, t__law_call_due_1, dIfS, dNot, dB, dCall, dCons, dNil, dVar, List.getElem?_cons_succ, List.getElem?_cons_zero]
    refine ⟨k, rfl, ?_⟩
    cases hs : k.squall with
    | false =>
      have e : dueV k = dueRg := by unfold dueV; rw [hs]; rfl
      rw [e] at go
      simp only [isB, Bool.not_false, if_true, dAsg, dOp, dCall, dCons, dNil, dVar, List.getElem?_cons_succ, List.getElem?_cons_zero]
      refine ⟨v, rfl, hk, ?_⟩
      have hd : (dueRg v).length ≤ 1 := by unfold dueRg; split <;> simp
      simp only [addO, hS.at_]
      refine ⟨by omega, fun p hp => ?_⟩
      simp only [gNm, List.set_cons_succ, List.set_cons_zero]
      have hn : M0 p = none := by
        cases e0 : M0 p with
        | none => rfl
        | some m => rw [hS.ex p m e0] at hp; cases hp
      exact go p _ ⟨hS.ex.set hn, setM_same, hn⟩
    | true =>
      have e : dueV k = duePl := by unfold dueV; rw [hs]; rfl
      rw [e] at go
      simp only [isB, Bool.not_true, Bool.false_eq_true, if_false, dIfS, dNot, dB, dCall, dCons, dNil, dVar, List.getElem?_cons_succ, List.getElem?_cons_zero]
      refine ⟨v, rfl, hk.r.1, ?_⟩
      cases hp : isPlace v with
      | true =>
        simp only [isB, Bool.not_true, Bool.false_eq_true, if_false, dNext]
        exact go a M (by rw [duePl, if_pos hp, List.append_nil]; exact hS)
      | false =>
        simp only [isB, Bool.not_false, if_true]
        refine app_err hS (by omega) (err_read rfl) fun M' h => go a M' ?_
        rw [duePl, if_neg (by rw [hp]; exact Bool.false_ne_true)]; exact h
theorem odd_len : ∀ (ns : List D) (bd : List (Int × Int)), (oddN ns bd).length ≤ bd.length
  | [], bd => by cases bd <;> simp [oddN]
  | x :: xs, [] => by simp [oddN]
  | x :: xs, b :: bs => by
    have := odd_len xs bs
    rw [oddN]; split <;> simp <;> omega
theorem odd_test {x : D} {b : Int × Int} {a : Addr} {o5 : Option D} {M : Mu} {K : Bool → Mu → Prop} (ht : ty x) (q : K (!isNum x b.1 b.2) M) :
    (dOr (dNot (dB (dCB isiD (dCons (dVar 6) (dCons (dC (.ty "int")) dNil))))) (dOr (dB (dCB isiD (dCons (dVar 6) (dCons (dC (.ty "bool")) dNil)))) (dNot (dB (dChain leD leD (dOp ixE (dVar 7) (dC (.int 0))) (dVar 6) (dOp ixE (dVar 7) (dC (.int 1)))))))) (eC k r vs r' ns g a o5 (some x) (some (bdD b))) M K := by
  cases x <;> first | (cases (show false = true from ht); done) | skip
  all_goals simp only [dOr, dNot, dB, dCB, dChain, dOp, dCons, dNil, dC, eC, dVar, List.getElem?_cons_succ, List.getElem?_cons_zero, bdD, HB.ix0, HB.ix1, leD]
  all_goals simp [inst, tyN, isA, tyNames, tysOf]
  case int i =>
    have e : isNum (.int i) b.1 b.2 = (decide (b.1 ≤ i) && decide (i ≤ b.2)) := rfl
    rw [e] at q
    by_cases h1 : b.1 ≤ i <;> by_cases h2 : i ≤ b.2 <;> simp [h1, h2] at q ⊢ <;> exact q
  all_goals exact q
theorem nums_loop : ∀ (xs : List D) (bd : List (Int × Int)) (a : Addr) (ws : List D) (M : Mu) (o5 o6 o7 : Option D), St M0 M a ws → (∀ v ∈ xs, Any v) → ws.length + xs.length ≤ 50 →
    (∀ M' o6' o7', St M0 M' a (ws ++ (oddN xs bd).map (errD "InvalidNumber")) → Z.nx (eC k r vs r' ns g a o5 o6' o7') M') → fori (gTp (gsCons (gNm 6) (gsCons (gNm 7) gsNil)) 2) t__law_call_due_2 (zipD xs (bd.map bdD)) Z (eC k r vs r' ns g a o5 o6 o7) M
  | [], bd, a, ws, M, o5, o6, o7, hS, _, _, q => x_nil (q M o6 o7 (by simpa [oddN] using hS))
  | x :: xs, [], a, ws, M, o5, o6, o7, hS, _, _, q => x_nil (q M o6 o7 (by simpa [oddN] using hS))
  | x :: xs, b :: bs, a, ws, M, o5, o6, o7, hS, hv, hl, q => by
    simp only [List.length_cons] at hl
    have e0 : zipD (x :: xs) ((b :: bs).map bdD) = .tup [x, bdD b] :: zipD xs (bs.map bdD) := rfl
    rw [e0]
    refine x_cons ?_
    have hx := hv x List.mem_cons_self
    have go : ∀ M' ws', ws'.length ≤ 1 → St M0 M' a (ws ++ ws') → ws' ++ (oddN xs bs).map (errD "InvalidNumber") = (oddN (x :: xs) (b :: bs)).map (errD "InvalidNumber") → fori (gTp (gsCons (gNm 6) (gsCons (gNm 7) gsNil)) 2) t__law_call_due_2 (zipD xs (bs.map bdD)) Z (eC k r vs r' ns g a o5 (some x) (some (bdD b))) M' := fun M' ws' hw h he =>
      nums_loop xs bs a _ M' _ _ _ h (fun y hy => hv y (List.mem_cons_of_mem _ hy)) (by rw [List.length_append]; omega) (fun M2 o2 o2' h2 => q M2 o2 o2' (by rw [← he, ← List.append_assoc]; exact h2))
    have good : isNum x b.1 b.2 = true → fori (gTp (gsCons (gNm 6) (gsCons (gNm 7) gsNil)) 2) t__law_call_due_2 (zipD xs (bs.map bdD)) Z (eC k r vs r' ns g a o5 (some x) (some (bdD b))) M := fun h =>
      go M [] (by simp) (by simpa using hS) (by rw [oddN, if_pos h]; rfl)
    have bad : isNum x b.1 b.2 = false → dDrop (dApp (dVar 4) (dTup (dCons (dC (.str "InvalidNumber")) (dCons (dTup (dCons (dVar 6) dNil)) dNil)))) { nx := fori (gTp (gsCons (gNm 6) (gsCons (gNm 7) gsNil)) 2) t__law_call_due_2 (zipD xs (bs.map bdD)) Z, rt := Z.rt, bk := Z.nx, ct := fori (gTp (gsCons (gNm 6) (gsCons (gNm 7) gsNil)) 2) t__law_call_due_2 (zipD xs (bs.map bdD)) Z } (eC k r vs r' ns g a o5 (some x) (some (bdD b))) M := fun h =>
      app_err hS (by omega) (err_read rfl) fun M' h' => go M' [errD "InvalidNumber" x] (by simp) h' (by rw [oddN, if_neg (by rw [h]; exact Bool.false_ne_true)]; rfl)
    simp only [gTp, gsCons, gNm, gsNil, eC, List.set_cons_succ, List.set_cons_zero]
    refine ⟨rfl, ?_⟩
    simp only [t__law_call_due_2, dIfS]
    refine odd_test hx.t ?_
    cases e : isNum x b.1 b.2 with
    | true =>
      simp only [Bool.not_true, Bool.false_eq_true, if_false, dNext]
      exact good e
    | false =>
      simp only [Bool.not_false, if_true]
      exact bad e
/-- what is wrong, in order -/
theorem wrongs_eq : wrongs k vs ns g = vs.flatMap (dueV k) ++ (oddN ns k.bd).map (errD "InvalidNumber") ++ dueGa g := by
  unfold wrongs dueV; rw [List.append_assoc]
theorem gauge_test {a : Addr} {o5 o6 o7 : Option D} {M : Mu} {K : Bool → Mu → Prop} (hg : Any g) (q : K (!gaugeOk g) M) :
    (dAnd (dB (dOp notND (dVar 3) (dC .non))) (dNot (dAnd (dB (dCB isiD (dCons (dVar 3) (dCons (dC (.ty "str")) dNil)))) (dB (dCall sp__law_is_word DX0 (dCons (dVar 3) dNil)))))) (eC k r vs r' ns g a o5 o6 o7) M K := by
  have ht := hg.t
  cases g <;> first | (cases (show false = true from ht); done) | skip
  all_goals simp only [dAnd, dNot, dB, dCB, dCall, dOp, dCons, dNil, dC, eC, dVar, List.getElem?_cons_succ, List.getElem?_cons_zero]
  all_goals simp [inst, tyN, isA, tyNames, tysOf, DL.isNon]
  case str z =>
    refine ⟨z, rfl, hg.tg.2 z rfl, ?_⟩
    have e : gaugeOk (.str z) = isName (.str z) := by simp [gaugeOk, DL.isNon]
    rw [e] at q
    cases h : isName (.str z) <;> rw [h] at q <;> simpa [isB] using q
  case non =>
    have e : gaugeOk .non = true := rfl
    rw [e] at q; exact q
  all_goals exact q
theorem wr_gd (hv : ∀ v ∈ vs, Any v) (hn : ∀ n ∈ ns, Any n) (hg : Any g) : ∀ x ∈ wrongs k vs ns g, gd 4 x = true := by
  intro x hx
  rw [wrongs_eq, List.mem_append, List.mem_append, List.mem_flatMap, List.mem_map] at hx
  rcases hx with (⟨v, h1, h2⟩ | ⟨n, h1, rfl⟩) | h
  · unfold dueV at h2
    split at h2
    · unfold duePl at h2
      split at h2
      · cases h2
      · rw [List.mem_singleton.mp h2]; exact err_gd (by decide +kernel) (hv v h1).g
    · unfold dueRg at h2
      split at h2
      · cases h2
      · rw [List.mem_singleton.mp h2]; exact err_gd (by decide +kernel) rfl
  · have : ∀ {xs : List D} {bd : List (Int × Int)} {y : D}, y ∈ oddN xs bd → y ∈ xs := by
      intro xs
      induction xs with
      | nil => intro bd y h; cases bd <;> cases h
      | cons z xs ih =>
        intro bd y h
        cases bd with
        | nil => cases h
        | cons b bs =>
          rw [oddN] at h
          split at h
          · exact List.mem_cons_of_mem _ (ih h)
          · rcases List.mem_cons.mp h with rfl | h
            · exact List.mem_cons_self
            · exact List.mem_cons_of_mem _ (ih h)
    exact err_gd (by decide +kernel) (hn n (this h1)).g
  · unfold dueGa at h
    split at h
    · cases h
    · rw [List.mem_singleton.mp h]; exact err_gd (by decide +kernel) hg.g
theorem ixL {x : D} {xs : List D} {a : Addr} {M : Mu} {Q : DK} (h : M a = some (.lst (x :: xs))) (q : Q x M) : ixE (.ref a) (.int 0) M Q := by
  simp only [ixE, dctT, h, ixD]
  have : atI (x :: xs) 0 = some x := atI_get (m := 0) rfl
  simp only [this]
  exact q
/-- the end: the first error, or the saying -/
theorem due_5 {a : Addr} {o5 o6 o7 : Option D} {M : Mu} {T : DS} {Y : DEnds} {ws : List D} (hw : ∀ x ∈ ws, gd 4 x = true) (hl : ws.length ≤ 100) (hS : St M0 M a ws)
    (q1 : ∀ x l, ws = x :: l → Y.rt x M) (q2 : ws = [] → T Y (eC k r vs r' ns g a o5 o6 o7) M) :
    (dSeq (dIfS (dLdT (dB (dOp neD (dVar 4) (dLst dNil)))) (dRet (dOp ixE (dVar 4) (dC (.int 0)))) dNext) T) Y (eC k r vs r' ns g a o5 o6 o7) M := by
  simp only [dSeq, dIfS, dLdT]
  refine ⟨fun x => x = a, fun x ex => by subst ex; exact ⟨_, hS.at_⟩, fun s hs0 hs => ?_⟩
  have eT : ld M (fun x => x = a) s 9 (.ref a) = .lst s (ws.map (ld M (fun x => x = a) s 8)) := by
    rw [ld, if_pos rfl, hS.at_]
  have em : ws.map (ld M (fun x => x = a) s 8) = ws := by
    rw [show ws = ws.map id by simp, List.map_map]
    exact List.map_congr_left fun x hx => ld_gd (hw x (by simpa using hx))
  rw [em] at eT
  simp only [eC, List.map_cons, List.map_nil, Option.map_some, dB, dOp, dLst, dNil, dVar, List.getElem?_cons_succ, List.getElem?_cons_zero, eT]
  have gws : gd 5 (.lst s ws) = true := by
    have : gd 5 (.lst s ws) = (decide (ws.length ≤ 50000) && ws.all (gd 4)) := rfl
    rw [this, List.all_eq_true.mpr hw, decide_eq_true (show ws.length ≤ 50000 by omega)]; rfl
  refine ⟨by simp, ?_⟩
  simp only [neD]
  refine ⟨by
    have h1 : pyN 30 (.lst s ws) = true := gd_py (gd_le gws (by decide))
    have h2 : pyN 30 (.lst 0 []) = true := rfl
    simp only [eqOk, h1, h2, Bool.and_self, Bool.or_true], ?_⟩
  simp only [isB]
  refine ⟨fun b m' e => hs b m' (drop_some e), ?_⟩
  rw [back_drop]
  cases ws with
  | nil =>
    have e : eqB (.lst s []) (.lst 0 []) = true := rfl
    rw [e]
    simp only [Bool.not_true, Bool.false_eq_true, if_false, dNext]
    exact q2 rfl
  | cons x l =>
    have e : eqB (.lst s (x :: l)) (.lst 0 []) = false := rfl
    rw [e]
    simp only [Bool.not_false, if_true, dRet, dOp, dC, dVar, List.getElem?_cons_succ, List.getElem?_cons_zero]
    exact ixL hS.at_ (q1 x l rfl)
/-- numbers that are within their bounds -/
theorem nums_in : ∀ {xs : List D} {bd : List (Int × Int)}, (∀ p ∈ bd, -100 ≤ p.1 ∧ p.2 ≤ 100) → xs.length = bd.length → oddN xs bd = [] → ∃ is : List Int, xs = is.map .int ∧ ∀ i ∈ is, small9 i
  | [], _, _, _, _ => ⟨[], rfl, fun i h => by cases h⟩
  | x :: xs, [], _, h, _ => by cases h
  | x :: xs, b :: bs, hb, hl, h => by
    rw [oddN] at h
    cases e : isNum x b.1 b.2 with
    | false => rw [e] at h; simp at h
    | true =>
      rw [e] at h
      obtain ⟨is, e1, e2⟩ := nums_in (fun p hp => hb p (List.mem_cons_of_mem _ hp)) (by simpa using hl) (by simpa using h)
      cases x <;> first | (cases e; done) | skip
      rename_i i
      have e' : (decide (b.1 ≤ i) && decide (i ≤ b.2)) = true := e
      simp only [Bool.and_eq_true, decide_eq_true_eq] at e'
      have := hb b List.mem_cons_self
      refine ⟨i :: is, by rw [e1]; rfl, fun j hj => ?_⟩
      rcases List.mem_cons.mp hj with rfl | hj
      · unfold small9; omega
      · exact e2 j hj
theorem no_wrongs (h : wrongs k vs ns g = []) : (∀ v ∈ vs, dueV k v = []) ∧ oddN ns k.bd = [] ∧ gaugeOk g = true := by
  rw [wrongs_eq] at h
  simp only [List.append_eq_nil_iff, List.map_eq_nil_iff, List.flatMap_eq_nil_iff] at h
  refine ⟨h.1.1, h.1.2, ?_⟩
  have := h.2
  unfold dueGa at this
  split at this
  · assumption
  · cases this
end K21
/-! The defs of this law keep their promises, over data: what is due of a call. -/
namespace K21
open PySem L2 DL HS HB
variable {k : Kd} {r r' : Nat} {vs ns : List D} {g : D} {M0 : Mu} {Z : DEnds}
theorem len2 {α : Type} : ∀ {l : List α}, l.length = 2 → ∃ a b, l = [a, b]
  | [a, b], _ => ⟨a, b, rfl⟩
  | [], h => by cases h
  | [a], h => by cases h
  | a :: b :: c :: l, h => by simp at h
theorem shape_of {is : List Int} {rs : List Rg} (hs : k.squall = false) (hi : is.length = k.bd.length) (hr : rs.length = many k) : Shape k is rs := by
  have h1 : ∀ {l : List Int}, l.length = 1 → ∃ n, l = [n] := fun h => List.length_eq_one_iff.mp h
  have r1 : ∀ {l : List Rg}, l.length = 1 → ∃ n, l = [n] := fun h => List.length_eq_one_iff.mp h
  have r2 : ∀ {l : List Rg}, l.length = 2 → ∃ a b, l = [a, b] := fun h => len2 h
  have i2 : ∀ {l : List Int}, l.length = 2 → ∃ a b, l = [a, b] := fun h => len2 h
  cases k
  case squallmost => cases hs
  case squallleast => cases hs
  case ifthen =>
    obtain ⟨a, b, rfl⟩ := r2 hr; obtain ⟨n, m, rfl⟩ := i2 hi; exact .ift n m a b
  case under => obtain ⟨a, b, rfl⟩ := r2 hr; obtain ⟨n, rfl⟩ := h1 hi; exact .two rfl (by decide) n a b
  case level => obtain ⟨a, b, rfl⟩ := r2 hr; obtain ⟨n, rfl⟩ := h1 hi; exact .two rfl (by decide) n a b
  all_goals obtain ⟨a, rfl⟩ := r1 hr; obtain ⟨n, rfl⟩ := h1 hi; exact .one rfl rfl n a
theorem reg_ok {v : D} (h : dueRg v = []) : ∃ ks : Rg, seq v = some (ks.map tupI) ∧ 1 ≤ ks.length ∧ ks.length ≤ 40 ∧ ∀ k ∈ ks, isPlace (tupI k) = true := by
  unfold dueRg at h
  split at h
  case h_2 => cases h
  rename_i e
  unfold regOdd at e
  split at e
  · cases e
  · rename_i xs hx
    split at e
    · rename_i hl
      have hp : ∀ (ys : List D) (n : Nat), fstOdd n ys = none → ∀ y ∈ ys, isPlace y = true := by
        intro ys
        induction ys with
        | nil => intro n _ y hy; cases hy
        | cons z ys ih =>
          intro n h y hy
          rw [fstOdd] at h
          cases ez : isPlace z with
          | false => rw [ez] at h; cases h
          | true =>
            rw [ez] at h
            rcases List.mem_cons.mp hy with rfl | hy
            · exact ez
            · exact ih (n + 1) (by simpa using h) y hy
      obtain ⟨ks, rfl, _⟩ := odd_none e
      simp only [List.length_map] at hl
      exact ⟨ks, hx, hl.1, hl.2, fun k hk => hp _ _ e _ (List.mem_map.mpr ⟨k, hk, rfl⟩)⟩
    · cases e
theorem lst_seq {v : D} {xs : List D} (hv : seq v = some xs) {M : Mu} {Q : DK} (q : Q (.lst 0 xs) M) : lstD [v] M Q := by
  cases v <;> first | (cases hv; done) | skip
  all_goals cases hv
  all_goals simpa [lstD] using q
theorem gauge_gd (hg : Any g) (h : gaugeOk g = true) : gd 1 g = true := by
  have := hg.g
  rcases gauge_cases h with rfl | ⟨z, rfl⟩
  · rfl
  · have := gd_str this
    simp [gd, this]
theorem due_3 {a : Addr} {o5 o6 o7 : Option D} {M : Mu} (hv : ∀ v ∈ vs, Any v) (hn : ∀ n ∈ ns, Any n) (hg : Any g) (hvl : vs.length = many k) (hnl : ns.length = k.bd.length) (hs : k.squall = false) (hw : wrongs k vs ns g = [])
    (q : ∀ o : Sy, Nice o → o.kd = k → o.g = g → o.ns.map .int = ns → handed o vs → Z.rt (.tup [.str "", o.lw]) M) : t__law_call_due_3 Z (eC k r vs r' ns g a o5 o6 o7) M := by
  obtain ⟨w1, w2, w3⟩ := no_wrongs hw
  have e : dueV k = dueRg := by unfold dueV; rw [hs]; rfl
  rw [e] at w1
  have hm : many k ≤ 2 := by unfold many; split <;> omega
  simp only [t__law_call_due_3, dRet, dTup, dCB, dLc, dIt, dCons, dNil, dC, eC, dVar, List.getElem?_cons_succ, List.getElem?_cons_zero, tupD]
  refine compi_rel (P := fun v d => ∃ rr, d = regD rr ∧ Reg rr ∧ Hand v rr) _ _ _ (fun v hvm Q' q' => ?_) (by simp; omega) (fun ds hP => ?_)
  · simp only [wipeD, gNm, dCB, dSortSet, dCons, dNil, dVar, List.getElem?_cons_succ, List.getElem?_cons_zero, List.set_cons_succ, List.set_cons_zero, List.foldl]
    obtain ⟨ks, hk, l1, l2, hp⟩ := reg_ok (w1 v hvm)
    refine lst_seq hk ?_
    refine ⟨0, ks, 3, 64, rfl, by omega, by decide, fun k hk' => place_bd64 (hp k hk'), fun ls m1 m2 m3 => ?_⟩
    simp only [tupD]
    obtain ⟨hr, hrl⟩ := reg_of ⟨m1, m2, m3⟩ hp (by omega) (by omega)
    exact q' _ ⟨ls, rfl, hr, ⟨ks, hk, fun k => (m1 k).symm, l2⟩⟩
  · have hrs : ∀ {xs ds : List D}, Paired (fun v d => ∃ rr, d = regD rr ∧ Reg rr ∧ Hand v rr) xs ds → ∃ rs : List Rg, ds = rs.map regD ∧ Paired Hand xs rs ∧ ∀ r ∈ rs, Reg r := by
      intro xs ds h
      induction h with
      | nil => exact ⟨[], rfl, .nil, fun r h => by cases h⟩
      | cons h1 h2 ih =>
        obtain ⟨rr, rfl, a1, a2⟩ := h1
        obtain ⟨rs, rfl, b1, b2⟩ := ih
        refine ⟨rr :: rs, rfl, .cons a2 b1, fun r h => ?_⟩
        rcases List.mem_cons.mp h with rfl | h
        · exact a1
        · exact b2 r h
    obtain ⟨rs, rfl, hh, hreg⟩ := hrs hP
    have hpl : ∀ {xs : List D} {rs : List Rg}, Paired Hand xs rs → xs.length = rs.length := by
      intro xs rs h
      induction h with
      | nil => rfl
      | cons _ _ ih => simp [ih]
    obtain ⟨is, rfl, hi⟩ := nums_in (fun p hp => (bd_ok k p hp).2) hnl w2
    simp only [List.nil_append]
    refine ⟨by simp, by simp, ?_⟩
    refine q ⟨k, is, rs, g⟩ ⟨⟨shape_of hs (by simpa using hnl) (by rw [← hpl hh]; exact hvl), w3, hreg, hi⟩, w2, gauge_gd hg w3⟩ rfl rfl rfl ?_
    unfold handed
    rw [if_neg (by simp only; rw [hs]; exact Bool.false_ne_true)]
    exact hh
theorem due_4 {a : Addr} {o5 o6 o7 : Option D} {M : Mu} (hv : ∀ v ∈ vs, Any v) (hn : ∀ n ∈ ns, Any n) (hg : Any g) (hvl : vs.length = many k) (hnl : ns.length = k.bd.length) (hw : wrongs k vs ns g = [])
    (q : ∀ o : Sy, Nice o → o.kd = k → o.g = g → o.ns.map .int = ns → handed o vs → Z.rt (.tup [.str "", o.lw]) M) : t__law_call_due_4 Z (eC k r vs r' ns g a o5 o6 o7) M := by
  simp only [t__law_call_due_4, dSeq, dIfS, dB, dCall, eC, dCons, dNil, dVar, List.getElem?_cons_succ, List.getElem?_cons_zero]
  refine ⟨k, rfl, ?_⟩
  cases hs : k.squall with
  | false =>
    simp only [isB, Bool.false_eq_true, if_false, dNext]
    exact due_3 hv hn hg hvl hnl hs hw q
  | true =>
    obtain ⟨w1, w2, w3⟩ := no_wrongs hw
    have e : dueV k = duePl := by unfold dueV; rw [hs]; rfl
    rw [e] at w1
    have hm : many k = 1 := by cases k <;> first | rfl | cases hs
    obtain ⟨v, rfl⟩ := List.length_eq_one_iff.mp (hvl.trans hm)
    have hp : isPlace v = true := by
      have := w1 v List.mem_cons_self
      unfold duePl at this
      split at this
      · assumption
      · cases this
    obtain ⟨kk, rfl, _⟩ := place_ints hp
    obtain ⟨is, rfl, hi⟩ := nums_in (fun p hp => (bd_ok k p hp).2) hnl w2
    have hb1 : k.bd.length = 1 := by cases k <;> first | rfl | cases hs
    obtain ⟨n, rfl⟩ := List.length_eq_one_iff.mp (show is.length = 1 by simpa using hnl.trans hb1)
    simp only [isB, if_true, dRet, dTup, dCB, dOp, dC, dCons, dNil, dVar, List.getElem?_cons_succ, List.getElem?_cons_zero, tupD]
    have ix : ∀ Q' : DK, Q' (tupI kk) M → ixE (.lst r [tupI kk]) (.int 0) M Q' := fun Q' q' => by
      simp only [ixE, dctT, ixD]
      have : atI [tupI kk] 0 = some (tupI kk) := atI_get (m := 0) rfl
      simp only [this]
      exact q'
    refine ix _ ⟨by simp, by simp, by simp, by simp, ?_⟩
    refine q ⟨k, [n], [[kk]], g⟩ ⟨⟨.sq hs n kk, w3, fun rr h => ?_, hi⟩, w2, gauge_gd hg w3⟩ rfl rfl rfl ?_
    · rw [List.mem_singleton.mp h]
      exact ⟨by simp, fun j hj => by rw [List.mem_singleton.mp hj]; exact hp, by simp, by simp⟩
    · unfold handed
      rw [if_pos (by simp only; exact hs)]
      exact ⟨kk, rfl, rfl⟩
theorem pure__law_call_due : ∀ ds M Q E, sp__law_call_due ds M Q E → ds.length = (["_law_kind", "_law_regs", "_law_nums", "_law_by_z"] : List Str).length ∧ t__law_call_due { nx := fun _ M' => fzK Q .non M', rt := fzK Q } (startD ["_law_kind", "_law_regs", "_law_nums", "_law_by_z", "_law_wrong", "_law_value", "_law_number", "_law_ends"] ds) M := by
  rintro ds M Q E ⟨k, r, vs, r', ns, g, rfl, hvl, hnl, hv, hn, hg, q1, q2⟩
  refine ⟨rfl, ?_⟩
  show t__law_call_due { nx := fun _ M' => fzK Q .non M', rt := fzK Q } [some (.str k.s), some (.lst r vs), some (.lst r' ns), some g, none, none, none, none] M
  have hm : many k ≤ 2 := by unfold many; split <;> omega
  have hb : k.bd.length ≤ 2 := by rw [bd_two]; split <;> omega
  simp only [t__law_call_due, dSeq, dAsg, dLstO, dNil]
  refine ⟨by simp, fun a ha => ?_⟩
  simp only [gNm, List.set_cons_succ, List.set_cons_zero]
  have hS : St M (setM M a (.lst [])) a [] := ⟨(Ex.refl M).set ha, setM_same, ha⟩
  simp only [t__law_call_due_8, dSeq, dFor, dIt, dVar, List.getElem?_cons_succ, List.getElem?_cons_zero]
  refine regs_loop vs a [] _ none none none hS hv (by simp; omega) (fun a1 M1 o5 h1 => ?_)
  rw [List.nil_append] at h1
  simp only [t__law_call_due_7, dSeq, dFor, dZip, dCall, dCons, dNil, eC, dVar, List.getElem?_cons_succ, List.getElem?_cons_zero]
  refine ⟨k, rfl, ?_⟩
  have hdl : ∀ xs : List D, (xs.flatMap (dueV k)).length ≤ xs.length := by
    intro xs
    induction xs with
    | nil => simp
    | cons x xs ih =>
      have hd : (dueV k x).length ≤ 1 := by
        unfold dueV
        split
        · unfold duePl; split <;> simp
        · unfold dueRg; split <;> simp
      rw [List.flatMap_cons, List.length_append, List.length_cons]; omega
  have hd1 := hdl vs
  refine nums_loop ns k.bd a1 _ M1 o5 none none h1 hn (by omega) (fun M2 o6 o7 h2 => ?_)
  have hd2 := odd_len ns k.bd
  simp only [t__law_call_due_6, dSeq, dIfS]
  refine gauge_test hg ?_
  have fin : ∀ M3, St M M3 a1 (wrongs k vs ns g) → t__law_call_due_5 { nx := fun _ M' => fzK Q .non M', rt := fzK Q } (eC k r vs r' ns g a1 o5 o6 o7) M3 := fun M3 h3 => by
    have ex3 := h3.ex
    refine due_5 (T := t__law_call_due_4) (wr_gd hv hn hg) ?_ h3 (fun x l e => ?_) (fun e => ?_)
    · rw [wrongs_eq, List.length_append, List.length_append, List.length_map]
      have : (dueGa g).length ≤ 1 := by unfold dueGa; split <;> simp
      omega
    · refine fz_new ex3 ?_
      rw [rs_gd (wr_gd hv hn hg x (by rw [e]; exact List.mem_cons_self))]
      exact q1 x l e
    · refine due_4 hv hn hg hvl hnl e fun o ho ek eg en hh => ?_
      refine fz_new ex3 ?_
      have hgd : gd 5 (.tup [.str "", o.lw]) = true := by
        have h1 : gd 4 (.str "") = true := by decide +kernel
        have h2 := gd_lw (siz_of ho) ho.fair.g
        show (decide (2 ≤ 50000) && (gd 4 (.str "") && (gd 4 o.lw && true))) = true
        rw [h1, h2]; rfl
      rw [rs_gd hgd]
      exact q2 e o ho ek eg en hh
  cases hgk : gaugeOk g with
  | true =>
    simp only [Bool.not_true, Bool.false_eq_true, if_false, dNext]
    refine fin M2 ?_
    rw [wrongs_eq, dueGa, if_pos hgk, List.append_nil]; exact h2
  | false =>
    simp only [Bool.not_false, if_true]
    refine app_err h2 (by rw [List.length_append, List.length_map]; omega) (err_read rfl) fun M3 h3 => fin M3 ?_
    rw [wrongs_eq, dueGa, if_neg (by rw [hgk]; exact Bool.false_ne_true)]; exact h3
end K21
/-! The defs of this law keep their promises, over data: the law, parts. -/
namespace K21
open PySem L2 DL HS HB
variable {k : Kd} {vs ns : List D} {g : D} {M : Mu} {Q : DK}
/-! ### what is handed in -/
theorem any_int (n : Int) : Any (.int n) := ⟨⟨⟨rfl, fun xs e => by cases e⟩, fun xs e => by cases e⟩, rfl⟩
theorem any_place {kk : List Int} (h : isPlace (tupI kk) = true) : Any (tupI kk) := by
  have hl := (place_bds h).1
  refine ⟨⟨ty1_tupI hl, fun xs e => ?_⟩, gd_ints 1 (by omega)⟩
  cases e
  refine ⟨by rw [List.length_map]; omega, fun x hx => ?_⟩
  obtain ⟨i, _, rfl⟩ := List.mem_map.mp hx
  exact ⟨rfl, fun xs e => by cases e⟩
theorem any_reg {r : Rg} (h : Reg r) : Any (.lst 0 (r.map tupI)) :=
  ⟨((lst_hand h).ok h).1, gd_list (by rw [List.length_map]; have := h.ne.2; omega) fun x hx => by
    obtain ⟨kk, hk, rfl⟩ := List.mem_map.mp hx
    exact gd_ints 0 (by have := (place_bds (h.pl kk hk)).1; omega)⟩
theorem any_gauge {g : D} (h : gaugeOk g = true) (hg : gd 1 g = true) : Any g := by
  rcases gauge_cases h with rfl | ⟨z, rfl⟩
  · exact ⟨⟨⟨rfl, fun xs e => by cases e⟩, fun xs e => by cases e⟩, rfl⟩
  · exact ⟨⟨⟨rfl, fun xs e => by cases e⟩, fun xs e => by cases e⟩, gd_le hg (by decide)⟩
/-! ### a call that is refused -/
def exN : List Str := ["InvalidNumber", "InvalidGauge", "InvalidPlace", "InvalidRegion"]
/-- the error that is told as x is raised -/
def Rz (x : D) (r : Nat) (E : DXK) (M : Mu) : Prop := ∀ n fs, n ∈ exN → errB fs x → noRF r fs = true → E n fs M
theorem err_of {c : Str} {v : D} {fs : List (Str × D)} (h1 : fld fs "code" = some (.str c)) (h2 : attrsB fs c = some [v]) (hx : noX v = true) : errB fs (errD c v) :=
  ⟨c, [v], h1, h2, by simp [noXL, hx], rfl⟩
theorem rz_num {v : D} {r : Nat} {E : DXK} (hv : gd 2 v = true) (hr : noR r v = true) (h : Rz (errD "InvalidNumber" v) r E M) : E "InvalidNumber" (eNum v) M :=
  h _ _ (by simp [exN]) (err_of rfl rfl (noX_gd hv)) (by show (noR r v && true) = true; rw [hr]; rfl)
theorem rz_gauge {v : D} {r : Nat} {E : DXK} (hv : gd 2 v = true) (hr : noR r v = true) (h : Rz (errD "InvalidGauge" v) r E M) : E "InvalidGauge" (eGauge v) M :=
  h _ _ (by simp [exN]) (err_of rfl rfl (noX_gd hv)) (by show (noR r v && true) = true; rw [hr]; rfl)
theorem rz_place {v : D} {r : Nat} {E : DXK} (hv : gd 2 v = true) (hr : noR r v = true) (h : Rz (errD "InvalidPlace" v) r E M) : E "InvalidPlace" (ePlaceS v) M :=
  h _ _ (by simp [exN]) (err_of rfl rfl (noX_gd hv)) (by show (noR r v && true) = true; rw [hr]; rfl)
theorem rz_reg {i : Int} {r : Nat} {E : DXK} (h : Rz (errD "InvalidRegion" (.int i)) r E M) : E "InvalidRegion" (eRegion i) M :=
  h _ _ (by simp [exN]) (err_of rfl rfl rfl) rfl
theorem odd_nil : oddN [] [] = [] := rfl
theorem due_none {v : D} (h : regOdd v = none) : dueRg v = [] := by unfold dueRg; rw [h]
theorem due_some {v : D} {i : Int} (h : regOdd v = some i) : dueRg v = [errD "InvalidRegion" (.int i)] := by unfold dueRg; rw [h]
theorem ga_no {g : D} (h : gaugeOk g = false) : dueGa g = [errD "InvalidGauge" g] := by unfold dueGa; rw [if_neg (by rw [h]; exact Bool.false_ne_true)]
theorem ga_ok {g : D} (h : gaugeOk g = true) : dueGa g = [] := by unfold dueGa; rw [if_pos h]
section
variable {r : Nat} {E : DXK} {x : D} {l : List D} {b : Int × Int}
theorem one_odd (hs : k.squall = false) (hb : k.bd = [b]) {v n : D} (hv : Any v) (hn : Any n) (hg : Any g) (rn : noR r n = true) (rg : noR r g = true) (hw : wrongs k [v] [n] g = x :: l) (hE : Rz x r E M) : spOne k.s [v, n, g] M Q E := by
  have e : dueV k = dueRg := by unfold dueV; rw [hs]; rfl
  rw [wrongs_eq, e, hb] at hw
  simp only [List.flatMap_cons, List.flatMap_nil, List.append_nil] at hw
  refine ⟨v, n, g, b, rfl, (bT_kd k).trans (congrArg some hb), hv.r, hn.t, hg.tg, fun i e1 => ?_, fun e1 e2 => ?_, fun e1 e2 e3 => ?_, fun ks ls e0 e1 _ e2 e3 => ?_⟩
  · rw [due_some e1] at hw
    cases hw
    exact rz_reg hE
  · rw [due_none e1, oddN, if_neg (by rw [e2]; exact Bool.false_ne_true)] at hw
    cases hw
    exact rz_num hn.g rn hE
  · rw [due_none e1, oddN, if_pos e2, odd_nil, ga_no e3] at hw
    cases hw
    exact rz_gauge hg.g rg hE
  · rw [due_none e1, oddN, if_pos e2, odd_nil, ga_ok e3] at hw
    cases hw
theorem place_odd (hs : k.squall = true) (hb : k.bd = [b]) {v n : D} (hv : Any v) (hn : Any n) (hg : Any g) (rv : noR r v = true) (rn : noR r n = true) (rg : noR r g = true) (hw : wrongs k [v] [n] g = x :: l) (hE : Rz x r E M) : spPlace k.s [v, n, g] M Q E := by
  have e : dueV k = duePl := by unfold dueV; rw [hs]; rfl
  rw [wrongs_eq, e, hb] at hw
  simp only [List.flatMap_cons, List.flatMap_nil, List.append_nil] at hw
  refine ⟨v, n, g, b, rfl, (bT_kd k).trans (congrArg some hb), hv.r.1, hn.t, hg.tg, fun e1 => ?_, fun e1 e2 => ?_, fun e1 e2 e3 => ?_, fun e1 e2 e3 => ?_⟩
  · rw [duePl, if_neg (by rw [e1]; exact Bool.false_ne_true)] at hw
    cases hw
    exact rz_place hv.g rv hE
  · rw [duePl, if_pos e1, oddN, if_neg (by rw [e2]; exact Bool.false_ne_true)] at hw
    cases hw
    exact rz_num hn.g rn hE
  · rw [duePl, if_pos e1, oddN, if_pos e2, odd_nil, ga_no e3] at hw
    cases hw
    exact rz_gauge hg.g rg hE
  · rw [duePl, if_pos e1, oddN, if_pos e2, odd_nil, ga_ok e3] at hw
    cases hw
theorem odd_mem : ∀ {xs : List D} {bd : List (Int × Int)} {y : D}, y ∈ oddN xs bd → y ∈ xs := by
  intro xs
  induction xs with
  | nil => intro bd y h; cases bd <;> cases h
  | cons z xs ih =>
    intro bd y h
    cases bd with
    | nil => cases h
    | cons b bs =>
      rw [oddN] at h
      split at h
      · exact List.mem_cons_of_mem _ (ih h)
      · rcases List.mem_cons.mp h with rfl | h
        · exact List.mem_cons_self
        · exact List.mem_cons_of_mem _ (ih h)
theorem two_odd (hs : k.squall = false) {v u : D} (hv : Any v) (hu : Any u) (hn : ∀ n ∈ ns, Any n) (hnl : ns.length = k.bd.length) (hg : Any g) (rn : ∀ n ∈ ns, noR r n = true) (rg : noR r g = true) (hw : wrongs k [v, u] ns g = x :: l) (hE : Rz x r E M) : two k.s v u g ns k.bd M Q E := by
  have e : dueV k = dueRg := by unfold dueV; rw [hs]; rfl
  rw [wrongs_eq, e] at hw
  simp only [List.flatMap_cons, List.flatMap_nil, List.append_nil] at hw
  refine ⟨bT_kd k, hnl, hv.r, hu.r, fun n h => (hn n h).t, hg.tg, fun i e1 => ?_, fun i e1 e2 => ?_, fun y m e1 e2 e3 => ?_, fun e1 e2 e3 e4 => ?_, fun ks ls ks2 ls2 _ _ e1 e2 _ _ e3 e4 => ?_⟩
  · rw [due_some e1] at hw
    cases hw
    exact rz_reg hE
  · rw [due_none e1, due_some e2] at hw
    cases hw
    exact rz_reg hE
  · rw [due_none e1, due_none e2, e3] at hw
    cases hw
    have hm : y ∈ ns := odd_mem (by rw [e3]; exact List.mem_cons_self)
    exact rz_num (hn y hm).g (rn y hm) hE
  · rw [due_none e1, due_none e2, e3, ga_no e4] at hw
    cases hw
    exact rz_gauge hg.g rg hE
  · rw [due_none e1, due_none e2, e3, ga_ok e4] at hw
    cases hw
theorem call_odd (hvl : vs.length = many k) (hnl : ns.length = k.bd.length) (hv : ∀ v ∈ vs, Any v) (hn : ∀ n ∈ ns, Any n) (hg : Any g) (rv : ∀ v ∈ vs, noR r v = true) (rn : ∀ n ∈ ns, noR r n = true) (rg : noR r g = true)
    (hw : wrongs k vs ns g = x :: l) (hE : Rz x r E M) : callP k vs ns g M Q E := by
  have m1 : ∀ {y : D} {ys : List D}, y ∈ y :: ys := fun {y ys} => List.mem_cons_self
  cases k
  case ifthen =>
    obtain ⟨v, u, rfl⟩ := len2 hvl; obtain ⟨n, m, rfl⟩ := len2 hnl
    exact ⟨v, n, u, m, g, _, rfl, two_odd (k := .ifthen) rfl (hv v (by simp)) (hv u (by simp)) hn rfl hg rn rg hw hE⟩
  case under =>
    obtain ⟨v, u, rfl⟩ := len2 hvl; obtain ⟨n, rfl⟩ := List.length_eq_one_iff.mp hnl
    exact ⟨v, u, n, g, _, rfl, two_odd (k := .under) rfl (hv v (by simp)) (hv u (by simp)) hn rfl hg rn rg hw hE⟩
  case level =>
    obtain ⟨v, u, rfl⟩ := len2 hvl; obtain ⟨n, rfl⟩ := List.length_eq_one_iff.mp hnl
    exact ⟨v, u, n, g, _, rfl, two_odd (k := .level) rfl (hv v (by simp)) (hv u (by simp)) hn rfl hg rn rg hw hE⟩
  case squallmost =>
    obtain ⟨v, rfl⟩ := List.length_eq_one_iff.mp hvl; obtain ⟨n, rfl⟩ := List.length_eq_one_iff.mp hnl
    exact place_odd (k := .squallmost) rfl rfl (hv v (by simp)) (hn n (by simp)) hg (rv v (by simp)) (rn n (by simp)) rg hw hE
  case squallleast =>
    obtain ⟨v, rfl⟩ := List.length_eq_one_iff.mp hvl; obtain ⟨n, rfl⟩ := List.length_eq_one_iff.mp hnl
    exact place_odd (k := .squallleast) rfl rfl (hv v (by simp)) (hn n (by simp)) hg (rv v (by simp)) (rn n (by simp)) rg hw hE
  case atmost =>
    obtain ⟨v, rfl⟩ := List.length_eq_one_iff.mp hvl; obtain ⟨n, rfl⟩ := List.length_eq_one_iff.mp hnl
    exact one_odd (k := .atmost) rfl rfl (hv v (by simp)) (hn n (by simp)) hg (rn n (by simp)) rg hw hE
  case atleast =>
    obtain ⟨v, rfl⟩ := List.length_eq_one_iff.mp hvl; obtain ⟨n, rfl⟩ := List.length_eq_one_iff.mp hnl
    exact one_odd (k := .atleast) rfl rfl (hv v (by simp)) (hn n (by simp)) hg (rn n (by simp)) rg hw hE
  case exactly =>
    obtain ⟨v, rfl⟩ := List.length_eq_one_iff.mp hvl; obtain ⟨n, rfl⟩ := List.length_eq_one_iff.mp hnl
    exact one_odd (k := .exactly) rfl rfl (hv v (by simp)) (hn n (by simp)) hg (rn n (by simp)) rg hw hE
end
/-! ### lent lists -/
theorem noR_wr {r : Nat} (rv : ∀ v ∈ vs, noR r v = true) (rn : ∀ n ∈ ns, noR r n = true) (rg : noR r g = true) : ∀ x ∈ wrongs k vs ns g, noR r x = true := by
  have er : ∀ (c : Str) (v : D), noR r v = true → noR r (errD c v) = true := fun c v h => by
    show (true && (noRL r [v] && true)) = true
    rw [noRL, h]; rfl
  intro x hx
  rw [wrongs_eq, List.mem_append, List.mem_append, List.mem_flatMap, List.mem_map] at hx
  rcases hx with (⟨v, h1, h2⟩ | ⟨n, h1, rfl⟩) | h
  · unfold dueV at h2
    split at h2
    · unfold duePl at h2
      split at h2
      · cases h2
      · rw [List.mem_singleton.mp h2]; exact er _ _ (rv v h1)
    · unfold dueRg at h2
      split at h2
      · cases h2
      · rw [List.mem_singleton.mp h2]; exact er _ _ rfl
  · exact er _ _ (rn n (odd_mem h1))
  · unfold dueGa at h
    split at h
    · cases h
    · rw [List.mem_singleton.mp h]; exact er _ _ rg
theorem noR_lst {r : Nat} {xs : List D} {m : MO} (h : noRM r m = true) (e : m = .lst xs) : ∀ x ∈ xs, noR r x = true := by
  subst e
  have : noRL r xs = true := h
  rw [noRL_all, List.all_eq_true] at this
  exact this
theorem ld_all {lent : Addr → Prop} {r n : Nat} (hv : ∀ v ∈ vs, Any v) : vs.map (ld M lent r n) = vs := map_same fun v h => ld_gd (hv v h).g
theorem noR_copy {r : Nat} {v : D} (h : noR r v = true) (h0 : r ≠ 0) : noR r (copyD v) = true := by
  cases v <;> first | exact h | skip
  rename_i t xs
  have h' : (decide (t ≠ r) && noRL r xs) = true := h
  rw [Bool.and_eq_true] at h'
  show (decide (0 ≠ r) && noRL r xs) = true
  rw [h'.2, Bool.and_true]
  exact decide_eq_true (fun e => h0 e.symm)
theorem lend_copied {A : Addr} {E : DXK} (hA : M A = some (.lst vs)) (hl : vs.length ≤ 10) (hv : ∀ v ∈ vs, Any v) (q : Q (.lst 0 (vs.map copyD)) M) : lendSp sp__law_copied [.ref A] M Q E := by
  refine ⟨fun a => a = A, fun a e => by subst e; exact ⟨_, hA⟩, fun r hr hno hnl => ?_⟩
  have e1 : ld M (fun a => a = A) r 9 (.ref A) = .lst r vs := by rw [ld, if_pos rfl, hA]; simp only [ld_all hv]
  simp only [List.map_cons, List.map_nil, e1]
  refine ⟨r, vs, rfl, hl, hv, fun _ => ⟨?_, fun a m e => hno a m (drop_some e), by rw [back_drop]; exact q⟩⟩
  show (decide (0 ≠ r) && noRL r (vs.map copyD)) = true
  rw [Bool.and_eq_true]
  refine ⟨decide_eq_true (fun e => hr e.symm), ?_⟩
  rw [noRL_all, List.all_eq_true]
  intro x hx
  obtain ⟨v, h, rfl⟩ := List.mem_map.mp hx
  exact noR_copy (noR_lst (hno A _ hA) rfl v h) hr
end K21
/-! The defs of this law keep their promises, over data: the law. -/
namespace K21
open PySem L2 DL HS HB
variable {k : Kd} {vs ns : List D} {g : D} {M : Mu} {Q : DK} {b A B : Addr} {Z : DEnds} {s0 s2 : D} {o : Sy} {fs1 : List Addr}
/-- where the lists stand -/
structure W (b A B : Addr) (k : Kd) (vs ns : List D) (M : Mu) : Prop where
  b : M b = some (.bg 1)
  A : M A = some (.lst vs)
  B : M B = some (.lst ns)
  v : ∀ v ∈ vs, Any v
  n : ∀ n ∈ ns, Any n
  vl : vs.length = many k
  nl : ns.length = k.bd.length
abbrev eL (s0 : D) (b : Addr) (s2 : D) (k : Kd) (o : Sy) (A B : Addr) (g : D) (o8 o9 o10 o11 o12 o13 o14 : Option D) : DEnv :=
  [some s0, some (.ref b), some s2, some (.str k.s), some o.lw, some (.ref A), some (.ref B), some g, o8, o9, o10, o11, o12, o13, o14]
theorem told_pk (q : Q o.lw M) : sp__law_told [o.pk] M Q DX0 := ⟨o, rfl, q⟩
theorem lw_gd (ho : Nice o) : gd 4 o.lw = true := gd_lw (siz_of ho) ho.fair.g
theorem same_p {x y : D} {E : DXK} (hx : gd 6 x = true) (hy : gd 6 y = true) (e : py x = py y) (q : Q (.bl true) M) : sp__law_same [x, y] M Q E := same_t (X := E) hx hy e q
theorem try_err {tl : DAct} {x : D} (h : ∀ (E0 : DXK) (Q0 : DK), (∀ n fs, n ∈ xnames → errB fs x → E0 n fs M) → tl E0 M Q0) (q : Q x M) : TT__law_try xnames tl M Q :=
  fun E0 Q0 hE _ => h E0 Q0 fun n fs hn he => hE n fs M x hn he q
theorem try_ok {tl : DAct} {d : D} (h : ∀ (E0 : DXK) (Q0 : DK), Q0 d M → tl E0 M Q0) (q : Q (.tup [.str "", d]) M) : TT__law_try xnames tl M Q :=
  fun E0 Q0 _ hQ => h E0 Q0 (hQ d M q)
theorem law_1 {g : D} {o8 o9 o10 o11 o12 o13 : Option D} (ho : Nice o) (q : Z.nx (eL s0 b s2 k o A B g o8 o9 o10 o11 o12 o13 (some o.pk)) M) : t_law_1 xnames fs1 Z (eL s0 b s2 k o A B g o8 o9 o10 o11 o12 o13 (some o.pk)) M := by
  simp only [t_law_1, dIfS, dNot, dB, dCall, dCons, dNil, eL, dVar, List.getElem?_cons_succ, List.getElem?_cons_zero]
  refine told_pk (same_p (gd_le (lw_gd ho) (by decide)) (gd_le (lw_gd ho) (by decide)) rfl ?_)
  simp only [isB, Bool.not_true, Bool.false_eq_true, if_false, dNext]
  exact q
theorem law_2 {g w : D} {o8 o9 o10 o11 o12 : Option D} (ho : Nice o) (hw : Any w) (hg : gaugeOk w = false) (q : Z.nx (eL s0 b s2 k o A B g o8 o9 o10 o11 o12 (some w) (some o.pk)) M) : t_law_2 xnames fs1 Z (eL s0 b s2 k o A B g o8 o9 o10 o11 o12 (some w) (some o.pk)) M := by
  have hgd : gd 4 (errD "InvalidGauge" w) = true := err_gd (by decide +kernel) hw.g
  simp only [t_law_2, dSeq, dIfS, dNot, dB, dCall, dTup, dLam, dCons, dNil, dC, eL, dVar, List.getElem?_cons_succ, List.getElem?_cons_zero]
  refine try_err (x := errD "InvalidGauge" w) (fun E0 Q0 hE => ?_) ⟨by simp, by simp, same_p (gd_le hgd (by decide)) (gd_le hgd (by decide)) rfl ?_⟩
  · have e1 : insF "Saying" o.pk M = some (sayF (.str o.kd.s) o.g (o.rs.map regD) (o.ns.map .int)) := say_ins M
    have l1 : (sayF (.str o.kd.s) o.g (o.rs.map regD) (o.ns.map .int)).lookup ("with_gauge" : Str) = none := rfl
    simp only [y_law_3, dMeth, dCons, dNil, dVar, List.getElem?_cons_succ, List.getElem?_cons_zero, e1]
    exact ⟨l1, _, _, _, _, w, rfl, regs_plain _, ints_plain _ _, hw.tg, fun _ => hE _ _ (by simp [xnames]) (err_of rfl rfl (noX_gd hw.g)), fun h => by rw [hg] at h; cases h⟩
  simp only [isB, Bool.not_true, Bool.false_eq_true, if_false, dNext]
  exact law_1 ho q
theorem law_3 {g : D} {o8 o9 o10 o11 o12 o13 o14 : Option D} (ho : Nice o) (hb : M b = some (.bg 1)) (q : ∀ o13 o14, Z.nx (eL s0 b s2 k o A B g o8 o9 o10 o11 o12 o13 o14) M) : t_law_3 xnames fs1 Z (eL s0 b s2 k o A B g o8 o9 o10 o11 o12 o13 o14) M := by
  simp only [t_law_3, dSeq, dAsg, dCall, dTup, dCons, dNil, eL, dVar, List.getElem?_cons_succ, List.getElem?_cons_zero]
  refine ⟨b, rfl, hb, fun w hw hg => ⟨o, rfl, ho, by simp, ?_⟩⟩
  simp only [gTp, gsCons, gNm, gsNil, List.set_cons_succ, List.set_cons_zero]
  exact ⟨rfl, law_2 ho hw hg (q _ _)⟩
/-- what is due: the error, or the saying -/
def Due (k : Kd) (vs ns : List D) (g due : D) : Prop := (∃ l, wrongs k vs ns g = due :: l) ∨ ∃ p : Sy, wrongs k vs ns g = [] ∧ Nice p ∧ p.kd = k ∧ p.g = g ∧ p.ns.map .int = ns ∧ handed p vs ∧ due = .tup [.str "", p.lw]
theorem two_gd {d : D} (h : gd 4 d = true) : gd 5 (.tup [.str "", d]) = true := by
  have h1 : gd 4 (.str "") = true := by decide +kernel
  show (decide (2 ≤ 50000) && (gd 4 (.str "") && (gd 4 d && true))) = true
  rw [h1, h]; rfl
theorem due_gd {due : D} (w : W b A B k vs ns M) (hg : Any g) (h : Due k vs ns g due) : gd 5 due = true := by
  rcases h with ⟨l, e⟩ | ⟨p, _, hp, _, _, _, _, rfl⟩
  · exact gd_le (wr_gd w.v w.n hg due (by rw [e]; exact List.mem_cons_self)) (by decide)
  · exact two_gd (lw_gd hp)
theorem ld_ref {lent : Addr → Prop} {r : Nat} {X : Addr} {xs : List D} (hX : M X = some (.lst xs)) (hl : lent X) (hv : ∀ v ∈ xs, Any v) : ld M lent r 9 (.ref X) = .lst r xs := by
  rw [ld, if_pos hl, hX]; simp only [ld_all hv]
theorem eA {r : Nat} (w : W b A B k vs ns M) : ld M (fun a => a = A ∨ a = B) r 9 (.ref A) = .lst r vs := ld_ref w.A (Or.inl rfl) w.v
theorem eB {r : Nat} (w : W b A B k vs ns M) : ld M (fun a => a = A ∨ a = B) r 9 (.ref B) = .lst r ns := ld_ref w.B (Or.inr rfl) w.n
/-- the call is tried -/
theorem try_1 {due : D} {o8 o9 o10 o11 o12 o13 o14 : Option D} (w : W b A B k vs ns M) (hg : Any g) (h : Due k vs ns g due) (q : Q due M) :
    TT__law_try xnames (fun E M' Q' => y_law_1 E (eL s0 b s2 k o A B g o8 o9 o10 o11 o12 o13 o14) M' Q') M Q := by
  have lentOk : ∀ a, (a = A ∨ a = B) → ∃ xs, M a = some (.lst xs) := fun a h => by
    rcases h with rfl | rfl
    · exact ⟨_, w.A⟩
    · exact ⟨_, w.B⟩
  rcases h with ⟨l, e⟩ | ⟨p, e, hp, rfl, rfl, rfl, hh, rfl⟩
  · refine try_err (x := due) (fun E0 Q0 hE => ?_) q
    simp only [y_law_1, dCall, dCons, dNil, eL, dVar, List.getElem?_cons_succ, List.getElem?_cons_zero]
    refine ⟨fun a => a = A ∨ a = B, lentOk, fun r hr hno hnl => ?_⟩
    simp only [List.map_cons, List.map_nil, eA w, eB w, ld_gd (gd_kd k 1), ld_gd hg.g]
    have rg : noR r g = true := by
      have : (true && (true && (true && (noR r g && true)))) = true := hnl
      simpa using this
    refine ⟨k, _, _, g, vs, ns, rfl, rfl, rfl, call_odd (r := r) w.vl w.nl w.v w.n hg (noR_lst (hno A _ w.A) rfl) (noR_lst (hno B _ w.B) rfl) rg e fun n fs hn he hr' => ?_⟩
    refine fun _ => ⟨hr', fun a m e => hno a m (drop_some e), ?_⟩
    rw [back_drop]
    exact hE n fs (by simp only [exN, List.mem_cons, List.not_mem_nil, or_false] at hn; rcases hn with rfl | rfl | rfl | rfl <;> simp [xnames]) he
  · refine try_ok (d := p.lw) (fun E0 Q0 hQ => ?_) q
    simp only [y_law_1, dCall, dCons, dNil, eL, dVar, List.getElem?_cons_succ, List.getElem?_cons_zero]
    refine ⟨fun a => a = A ∨ a = B, lentOk, fun r hr hno hnl => ?_⟩
    simp only [List.map_cons, List.map_nil, eA w, eB w, ld_gd (gd_kd p.kd 1), ld_gd hg.g]
    refine ⟨p.kd, _, _, p.g, vs, _, rfl, rfl, rfl, call_good hp.fair hp.nb hh ?_⟩
    refine fun _ => ⟨noR_pk hp.fair.g, fun a m e => hno a m (drop_some e), ?_⟩
    rw [back_drop]
    exact told_pk hQ
theorem try_2 {o8 o9 o10 o11 o12 o13 o14 : Option D} (ho : Nice o) (q : Q (.tup [.str "", o.lw]) M) :
    TT__law_try xnames (fun E M' Q' => y_law_2 E (eL s0 b s2 k o A B g o8 o9 o10 o11 o12 o13 o14) M' Q') M Q := by
  refine try_ok (d := o.lw) (fun E0 Q0 hQ => ?_) q
  simp only [y_law_2, dCall, dCons, dNil, eL, dVar, List.getElem?_cons_succ, List.getElem?_cons_zero]
  exact ⟨o, rfl, ho, told_pk hQ⟩
theorem py_copy (v : D) : py (copyD v) = py v := by cases v <;> rfl
theorem kept_eq {r : Nat} : py (.lst 0 [.lst 0 (vs.map copyD), .lst 0 (ns.map copyD)]) = py (.lst 0 [.lst r vs, .lst r ns]) := by
  have e : ∀ xs : List D, (xs.map copyD).map py = xs.map py := fun xs => by
    rw [List.map_map]; exact List.map_congr_left fun x _ => py_copy x
  simp only [py, DL.pyL_map, List.map_cons, List.map_nil, e]
theorem gd_copy {n : Nat} {v : D} (h : gd n v = true) : gd n (copyD v) = true := by
  cases v <;> first | exact h | skip
  cases n <;> exact h
theorem kept_gd {r s t : Nat} (h1 : vs.length ≤ 100) (h2 : ns.length ≤ 100) (hv : ∀ v ∈ vs, gd 2 v = true) (hn : ∀ v ∈ ns, gd 2 v = true) : gd 4 (.lst r [.lst s vs, .lst t ns]) = true := by
  have e1 : gd 3 (.lst s vs) = true := by
    show (decide (vs.length ≤ 50000) && vs.all (gd 2)) = true
    rw [decide_eq_true (show vs.length ≤ 50000 by omega), List.all_eq_true.mpr hv]; rfl
  have e2 : gd 3 (.lst t ns) = true := by
    show (decide (ns.length ≤ 50000) && ns.all (gd 2)) = true
    rw [decide_eq_true (show ns.length ≤ 50000 by omega), List.all_eq_true.mpr hn]; rfl
  show (decide (2 ≤ 50000) && (gd 3 (.lst s vs) && (gd 3 (.lst t ns) && true))) = true
  rw [e1, e2]; rfl
theorem law_4 {due : D} {o8 o9 o12 o13 o14 : Option D} (w : W b A B k vs ns M) (hg : Any g) (h : Due k vs ns g due) (ho : Nice o) (hf : o12 = some (.lst 0 (fs1.map .ref)))
    (q : ∀ o13 o14, Z.nx (eL s0 b s2 k o A B g o8 o9 (some (.lst 0 [.lst 0 (vs.map copyD), .lst 0 (ns.map copyD)])) (some due) o12 o13 o14) M) :
    t_law_4 xnames fs1 Z (eL s0 b s2 k o A B g o8 o9 (some (.lst 0 [.lst 0 (vs.map copyD), .lst 0 (ns.map copyD)])) (some due) o12 o13 o14) M := by
  subst hf
  have hm : many k ≤ 2 := by unfold many; split <;> omega
  have hb2 : k.bd.length ≤ 2 := by rw [bd_two]; split <;> omega
  have vl := w.vl
  have nl := w.nl
  have gdue := due_gd w hg h
  simp only [t_law_4, dSeq, dIfS, dOr, dNot, dB, dCall, dTries, dLst, dTup, dCons, dNil, dC, dVar, eL, List.getElem?_cons_succ, List.getElem?_cons_zero]
  refine ⟨0, rfl, by simp, ?_⟩
  refine try_1 w hg h (try_2 ho ?_)
  have g6 : gd 6 (.lst 0 [due, .tup [.str "", o.lw]]) = true := gd_list (by simp) fun x hx => by
    simp only [List.mem_cons, List.not_mem_nil, or_false] at hx
    rcases hx with rfl | rfl
    · exact gdue
    · exact two_gd (lw_gd ho)
  refine ⟨by simp, by simp, same_p g6 g6 rfl ?_⟩
  simp only [isB, Bool.not_true, Bool.false_eq_true, if_false, dLdT]
  refine ⟨fun a => a = A ∨ a = B, fun a h => ?_, fun r hr hno => ?_⟩
  · rcases h with rfl | rfl
    · exact ⟨_, w.A⟩
    · exact ⟨_, w.B⟩
  have gk : gd 4 (.lst 0 [.lst 0 (vs.map copyD), .lst 0 (ns.map copyD)]) = true := kept_gd (by rw [List.length_map]; omega) (by rw [List.length_map]; omega)
    (fun x hx => by obtain ⟨v, h, rfl⟩ := List.mem_map.mp hx; exact gd_copy (w.v v h).g) (fun x hx => by obtain ⟨v, h, rfl⟩ := List.mem_map.mp hx; exact gd_copy (w.n v h).g)
  have gk2 : gd 4 (.lst 0 [.lst r vs, .lst r ns]) = true := kept_gd (by omega) (by omega) (fun v h => (w.v v h).g) (fun v h => (w.n v h).g)
  simp only [List.map_cons, List.map_nil, Option.map_some, dB, dOp, dLst, dCons, dNil, dVar, List.getElem?_cons_succ, List.getElem?_cons_zero, eA w, eB w, ld_gd gk, neD]
  refine ⟨by simp, ?_, ?_⟩
  · have h1 : pyN 30 (.lst 0 [.lst 0 (vs.map copyD), .lst 0 (ns.map copyD)]) = true := gd_py (gd_le gk (by decide))
    have h2 : pyN 30 (.lst 0 [.lst r vs, .lst r ns]) = true := gd_py (gd_le gk2 (by decide))
    simp only [eqOk, h1, h2, Bool.and_self, Bool.or_true]
  rw [eqB_py gk kept_eq]
  simp only [isB, Bool.not_true]
  refine ⟨fun a m e => hno a m (drop_some e), ?_⟩
  rw [back_drop]
  simp only [Bool.false_eq_true, if_false, dNext]
  exact law_3 ho w.b q
end K21
/-! The defs of this law keep their promises, over data: the law. -/
namespace K21
open PySem L2 DL HS HB
variable {k : Kd} {vs ns : List D} {g : D} {M : Mu} {Q : DK} {b A B : Addr} {Z : DEnds} {s0 s2 : D} {o : Sy}
theorem law_7 {o8 o9 o11 o12 o13 o14 : Option D} (w : W b A B k vs ns M) (hg : Any g) (ho : Nice o)
    (q : ∀ o11 o12 o13 o14, Z.nx (eL s0 b s2 k o A B g o8 o9 (some (.lst 0 [.lst 0 (vs.map copyD), .lst 0 (ns.map copyD)])) o11 o12 o13 o14) M) :
    t_law_7 xnames Z (eL s0 b s2 k o A B g o8 o9 (some (.lst 0 [.lst 0 (vs.map copyD), .lst 0 (ns.map copyD)])) o11 o12 o13 o14) M := by
  simp only [t_law_7, dSeq, dAsg, dCall, dCons, dNil, eL, dVar, List.getElem?_cons_succ, List.getElem?_cons_zero]
  have go : ∀ due, Due k vs ns g due → (dAsks 12 2 fun fs1 => t_law_4 xnames fs1) Z (eL s0 b s2 k o A B g o8 o9 (some (.lst 0 [.lst 0 (vs.map copyD), .lst 0 (ns.map copyD)])) (some due) o12 o13 o14) M := fun due h fs1 _ => by
    simp only [eL, List.set_cons_succ, List.set_cons_zero]
    exact law_4 w hg h ho rfl fun o13 o14 => q _ _ _ _
  refine ⟨fun a => a = A ∨ a = B, fun a h => ?_, fun r hr hno hnl => ?_⟩
  · rcases h with rfl | rfl
    · exact ⟨_, w.A⟩
    · exact ⟨_, w.B⟩
  simp only [List.map_cons, List.map_nil, eA w, eB w, ld_gd (gd_kd k 1), ld_gd hg.g]
  have rg : noR r g = true := by
    have : (true && (true && (true && (noR r g && true)))) = true := hnl
    simpa using this
  have nw := noR_wr (k := k) (noR_lst (hno A _ w.A) rfl) (noR_lst (hno B _ w.B) rfl) rg
  refine ⟨k, r, vs, r, ns, g, rfl, w.vl, w.nl, w.v, w.n, hg, fun x l e _ => ⟨nw x (by rw [e]; exact List.mem_cons_self), fun a m e => hno a m (drop_some e), ?_⟩, fun e p hp ek eg en hh _ => ⟨?_, fun a m e => hno a m (drop_some e), ?_⟩⟩
  · rw [back_drop]
    simp only [gNm, List.set_cons_succ, List.set_cons_zero]
    exact go x (.inl ⟨l, e⟩)
  · show (true && (noR r p.lw && true)) = true
    rw [noR_lw hp.fair.g]; rfl
  · rw [back_drop]
    simp only [gNm, List.set_cons_succ, List.set_cons_zero]
    exact go _ (.inr ⟨p, e, hp, ek, eg, en, hh, rfl⟩)
theorem law_8 {o8 o9 o10 o11 o12 o13 o14 : Option D} (w : W b A B k vs ns M) (hg : Any g) (ho : Nice o)
    (q : ∀ o10 o11 o12 o13 o14, Z.nx (eL s0 b s2 k o A B g o8 o9 o10 o11 o12 o13 o14) M) :
    t_law_8 xnames Z (eL s0 b s2 k o A B g o8 o9 o10 o11 o12 o13 o14) M := by
  have hm : many k ≤ 2 := by unfold many; split <;> omega
  have hb2 : k.bd.length ≤ 2 := by rw [bd_two]; split <;> omega
  simp only [t_law_8, dSeq, dAsg, dLst, dCall, dCons, dNil, eL, dVar, List.getElem?_cons_succ, List.getElem?_cons_zero]
  refine lend_copied w.A (by rw [w.vl]; omega) w.v (lend_copied w.B (by rw [w.nl]; omega) w.n ⟨by simp, ?_⟩)
  simp only [gNm, List.set_cons_succ, List.set_cons_zero]
  exact law_7 w hg ho (q _)
theorem law_9 {o8 o9 o10 o11 o12 o13 o14 : Option D} (w : W b A B k vs ns M) (hg : Any g) (ho : Nice o)
    (q : ∀ g o10 o11 o12 o13 o14, Z.nx (eL s0 b s2 k o A B g o8 o9 o10 o11 o12 o13 o14) M) :
    t_law_9 xnames Z (eL s0 b s2 k o A B g o8 o9 o10 o11 o12 o13 o14) M := by
  simp only [t_law_9, dSeq, dIfS, dB, dOp, dCall, dCons, dNil, dC, eL, dVar, List.getElem?_cons_succ, List.getElem?_cons_zero]
  refine ⟨b, 4, rfl, w.b, ⟨by decide, by decide⟩, fun n n0 n1 => ?_⟩
  simp only [eqD]
  refine ⟨rfl, ?_⟩
  simp only [isB]
  split
  · simp only [dAsg, dCall, dCons, dNil, dVar, List.getElem?_cons_succ, List.getElem?_cons_zero]
    refine ⟨b, rfl, w.b, fun v hv _ => ?_⟩
    simp only [gNm, List.set_cons_succ, List.set_cons_zero]
    exact law_8 w hv ho (q v)
  · simp only [dNext]
    exact law_8 w hg ho (q g)
theorem rng_mem {n : Nat} {x : D} (h : x ∈ rngD 0 n) : ∃ i : Nat, x = .int (i : Int) ∧ i < n := by
  obtain ⟨i, hi, rfl⟩ := List.mem_map.mp h
  exact ⟨i, by simp, List.mem_range.mp hi⟩
theorem ix_nat {n i : Nat} (h : i < n) : ixN n (i : Int) = some i := by
  unfold ixN
  rw [if_pos (by omega), if_pos (by omega)]
  simp
theorem W.setA {v : D} {i : Nat} (w : W b A B k vs ns M) (hv : Any v) (h1 : b ≠ A) (h2 : B ≠ A) : W b A B k (vs.set i v) ns (setM M A (.lst (vs.set i v))) :=
  ⟨by rw [setM_ne h1]; exact w.b, setM_same, by rw [setM_ne h2]; exact w.B, fun x hx => by
    rcases List.mem_or_eq_of_mem_set hx with h | rfl
    · exact w.v x h
    · exact hv, w.n, by rw [List.length_set]; exact w.vl, w.nl⟩
theorem W.setB {v : D} {i : Nat} (w : W b A B k vs ns M) (hv : Any v) (h1 : b ≠ B) (h2 : A ≠ B) : W b A B k vs (ns.set i v) (setM M B (.lst (ns.set i v))) :=
  ⟨by rw [setM_ne h1]; exact w.b, by rw [setM_ne h2]; exact w.A, setM_same, w.v, fun x hx => by
    rcases List.mem_or_eq_of_mem_set hx with h | rfl
    · exact w.n x h
    · exact hv, w.vl, by rw [List.length_set]; exact w.nl⟩
theorem len_own {xs : List D} (h : M A = some (.lst xs)) (q : Q (.int xs.length) M) : lenD [.ref A] M Q := by
  simp only [lenD, h]; exact q
theorem law_10 {o8 o9 o10 o11 o12 o13 o14 : Option D} (w : W b A B k vs ns M) (hbB : b ≠ B) (hAB : A ≠ B) (hg : Any g) (ho : Nice o)
    (q : ∀ M' g o9 o10 o11 o12 o13 o14, M' b = some (.bg 1) → Z.nx (eL s0 b s2 k o A B g o8 o9 o10 o11 o12 o13 o14) M') :
    t_law_10 xnames Z (eL s0 b s2 k o A B g o8 o9 o10 o11 o12 o13 o14) M := by
  have hb2 : k.bd.length ≤ 2 := by rw [bd_two]; split <;> omega
  have nl := w.nl
  simp only [t_law_10, dSeq, dFor, dRng1, dCB, dCons, dNil, eL, dVar, List.getElem?_cons_succ, List.getElem?_cons_zero]
  refine len_own w.B ⟨by omega, ?_⟩
  refine fori_inv (P := fun ρ M => ∃ ns o9, ρ = eL s0 b s2 k o A B g o8 o9 o10 o11 o12 o13 o14 ∧ W b A B k vs ns M) (fun x hx ρ M hP nx hnx => ?_) ⟨ns, o9, rfl, w⟩ (fun ρ M hP => ?_)
  · obtain ⟨ns', o9', rfl, w'⟩ := hP
    obtain ⟨i, rfl, hi⟩ := rng_mem hx
    simp only [gNm, eL, List.set_cons_succ, List.set_cons_zero, t_law_6, dIfS, dB, dOp, dCall, dCons, dNil, dC, dVar, List.getElem?_cons_succ, List.getElem?_cons_zero]
    refine ⟨b, 3, rfl, w'.b, ⟨by decide, by decide⟩, fun n n0 n1 => ?_⟩
    simp only [eqD]
    refine ⟨rfl, ?_⟩
    simp only [isB]
    split
    · simp only [dAsg, dCall, dOp, dCons, dNil, dVar, List.getElem?_cons_succ, List.getElem?_cons_zero]
      have hlt : i < (k.bd.map bdD).length := by rw [List.length_map]; simp at hi; omega
      have ix : ∀ Q' : DK, Q' (bdD (k.bd[i]'(by simpa using hlt))) M → ixE (.lst 0 (k.bd.map bdD)) (.int (i : Int)) M Q' := fun Q' q' => by
        have hx := atI_nat hlt
        simp only [ixE, dctT, ixD, hx, List.getElem_map]
        exact q'
      refine ⟨k, rfl, ix _ ⟨b, _, _, rfl, w'.b, fun v hv => ?_⟩⟩
      have nl' := w'.nl
      simp only [gIx, dVar, List.getElem?_cons_succ, List.getElem?_cons_zero, w'.B, ix_nat (show i < ns'.length by rw [nl', ← nl]; simpa using hi)]
      exact hnx _ _ ⟨_, _, rfl, w'.setB hv hbB hAB⟩
    · simp only [dNext]
      exact hnx _ _ ⟨_, _, rfl, w'⟩
  · obtain ⟨ns', o9', rfl, w'⟩ := hP
    exact law_9 w' hg ho fun g o10 o11 o12 o13 o14 => q _ g _ o10 o11 o12 o13 o14 w'.b
theorem law_11 {o8 o9 o10 o11 o12 o13 o14 : Option D} (w : W b A B k vs ns M) (hbA : b ≠ A) (hbB : b ≠ B) (hAB : A ≠ B) (hg : Any g) (ho : Nice o)
    (q : ∀ M' g o9 o10 o11 o12 o13 o14, M' b = some (.bg 1) → Z.nx (eL s0 b s2 k o A B g o8 o9 o10 o11 o12 o13 o14) M') :
    t_law_11 xnames Z (eL s0 b s2 k o A B g o8 o9 o10 o11 o12 o13 o14) M := by
  have hm : many k ≤ 2 := by unfold many; split <;> omega
  have vl := w.vl
  simp only [t_law_11, dSeq, dFor, dRng1, dCB, dCons, dNil, eL, dVar, List.getElem?_cons_succ, List.getElem?_cons_zero]
  refine len_own w.A ⟨by omega, ?_⟩
  refine fori_inv (P := fun ρ M => ∃ vs o9, ρ = eL s0 b s2 k o A B g o8 o9 o10 o11 o12 o13 o14 ∧ W b A B k vs ns M) (fun x hx ρ M hP nx hnx => ?_) ⟨vs, o9, rfl, w⟩ (fun ρ M hP => ?_)
  · obtain ⟨vs', o9', rfl, w'⟩ := hP
    obtain ⟨i, rfl, hi⟩ := rng_mem hx
    simp only [gNm, eL, List.set_cons_succ, List.set_cons_zero, t_law_5, dIfS, dB, dOp, dCall, dCons, dNil, dC, dVar, List.getElem?_cons_succ, List.getElem?_cons_zero]
    refine ⟨b, 3, rfl, w'.b, ⟨by decide, by decide⟩, fun n n0 n1 => ?_⟩
    simp only [eqD]
    refine ⟨rfl, ?_⟩
    simp only [isB]
    split
    · simp only [dAsg, dIf, dB, dCall, dOp, dCons, dNil, dVar, List.getElem?_cons_succ, List.getElem?_cons_zero]
      have vl' := w'.vl
      have put : ∀ v, Any v → gIx (dVar 5) (dVar 9) v (eL s0 b s2 k o A B g o8 (some (.int i)) o10 o11 o12 o13 o14) M nx := fun v hv => by
        simp only [gIx, eL, dVar, List.getElem?_cons_succ, List.getElem?_cons_zero, w'.A, ix_nat (show i < vs'.length by rw [vl', ← vl]; simpa using hi)]
        exact hnx _ _ ⟨_, _, rfl, w'.setA hv hbA (fun e => hAB e.symm)⟩
      refine ⟨k, rfl, ?_⟩
      simp only [isB]
      split
      · exact ⟨b, rfl, w'.b, fun v hv => put v hv⟩
      · exact ⟨b, rfl, w'.b, fun v hv => put v hv⟩
    · simp only [dNext]
      exact hnx _ _ ⟨_, _, rfl, w'⟩
  · obtain ⟨vs', o9', rfl, w'⟩ := hP
    exact law_10 w' hbB hAB hg ho q
theorem law_12 {o5 o6 o7 o8 o9 o10 o11 o12 o13 o14 : Option D} (ho : Good o) (hk : o.kd = k) (hb : M b = some (.bg 1))
    (q : ∀ M' A B g o8 o9 o10 o11 o12 o13 o14, M' b = some (.bg 1) → Z.nx (eL s0 b s2 k o A B g o8 o9 o10 o11 o12 o13 o14) M') :
    t_law_12 xnames Z [some s0, some (.ref b), some s2, some (.str k.s), some o.lw, o5, o6, o7, o8, o9, o10, o11, o12, o13, o14] M := by
  have hn : Nice o := ⟨ho.fair, ho.nb, ho.gg⟩
  subst hk
  have end_ : ∀ (A : Addr) (vs : List D) (M0 : Mu), M0 = M → M A = none → (∀ v ∈ vs, Any v) → vs.length = many o.kd → ∀ (B : Addr), (setM M A (.lst vs)) B = none → t_law_11 xnames Z (eL s0 b s2 o.kd o A B o.g o8 o9 o10 o11 o12 o13 o14) (setM (setM M A (.lst vs)) B (.lst (o.ns.map .int))) := by
    intro A vs M0 _ hA hv hvl B hB
    have hbA : b ≠ A := fun e => by rw [e, hA] at hb; cases hb
    have hAB : A ≠ B := fun e => by rw [← e, setM_same] at hB; cases hB
    have hbB : b ≠ B := fun e => by rw [← e, setM_ne hbA, hb] at hB; cases hB
    have hlen : (o.ns.map D.int).length = o.kd.bd.length := by
      have sh := ho.fair.sh
      rw [List.length_map]
      cases o with | mk kd ns rs g => simp only at sh ⊢; cases sh <;> first | rfl | (cases kd <;> first | rfl | contradiction)
    refine law_11 ⟨by rw [setM_ne hbB, setM_ne hbA]; exact hb, by rw [setM_ne hAB]; exact setM_same, setM_same, hv, fun x hx => ?_, hvl, hlen⟩ hbA hbB hAB (any_gauge ho.fair.g ho.gg) hn fun M' g o9 o10 o11 o12 o13 o14 h => q M' A B g o8 o9 o10 o11 o12 o13 o14 h
    obtain ⟨i, _, rfl⟩ := List.mem_map.mp hx
    exact any_int i
  have e2 : ∀ (M : Mu) (Q : DK), ixE o.lw (.int 2) M Q = Q (.tup (o.rs.map regD)) M := fun M Q => ix2
  have e1 : ∀ (M : Mu) (Q : DK), ixE o.lw (.int 1) M Q = Q (.tup (o.ns.map .int)) M := fun M Q => HB.ix1
  have e3 : ∀ (M : Mu) (Q : DK), ixE o.lw (.int 3) M Q = Q o.g M := fun M Q => by
    have : atI [D.str o.kd.s, D.tup (o.ns.map .int), D.tup (o.rs.map regD), o.g] 3 = some o.g := atI_get (m := 3) rfl
    simp only [Sy.lw, ixE, dctT, ixD, this]
  simp only [t_law_12, dSeq, dAsg, dTup, dIf, dB, dCall, dCons, dNil, dVar, List.getElem?_cons_succ, List.getElem?_cons_zero]
  refine ⟨o.kd, rfl, ?_⟩
  cases hs : o.kd.squall with
  | true =>
    have sh := ho.fair.sh
    obtain ⟨kk, hkk⟩ : ∃ kk, o.rs = [[kk]] := by
      cases o with | mk kd ns rs g =>
        simp only at sh hs ⊢
        cases sh with
        | one h2 h => rw [hs] at h; cases h
        | two h2 => cases kd <;> first | (cases h2; done) | cases hs
        | ift => cases hs
        | sq h n k => exact ⟨k, rfl⟩
    have hm : many o.kd = 1 := by unfold many; rw [if_neg (by cases hk : o.kd <;> rw [hk] at hs <;> first | (cases hs; done) | decide)]
    simp only [isB, if_true, dLstO, dOp, dC, dCons, dNil, dVar, dCB, List.getElem?_cons_succ, List.getElem?_cons_zero, e2, e1, e3, hkk, List.map_cons, List.map_nil, HB.ix0, regD]
    refine ⟨by simp, fun A hA => ?_⟩
    simp only [lstOD]
    intro B hB
    refine ⟨by simp, ?_⟩
    simp only [gTp, gsCons, gNm, gsNil, List.set_cons_succ, List.set_cons_zero]
    refine ⟨rfl, end_ A [tupI kk] M rfl hA (fun v hv => ?_) hm.symm B hB⟩
    rw [List.mem_singleton.mp hv]
    exact any_place ((ho.fair.rg [kk] (by rw [hkk]; simp)).pl kk (by simp))
  | false =>
    have hrl : o.rs.length = many o.kd := by
      have sh := ho.fair.sh
      cases o with | mk kd ns rs g =>
        simp only at sh hs ⊢
        unfold many
        cases sh with
        | one h2 h => rw [h2]; rfl
        | two h2 => rw [h2]; rfl
        | ift => rfl
        | sq h n k => rw [hs] at h; cases h
    have hm : many o.kd ≤ 2 := by unfold many; split <;> omega
    simp only [isB, Bool.false_eq_true, if_false, dLcO, dIt, dOp, dC, dCons, dNil, dVar, dCB, List.getElem?_cons_succ, List.getElem?_cons_zero, e2, e1, e3]
    refine compi_of (h := regD) (f := fun r => D.lst 0 (r.map tupI)) o.rs [] _ (fun r hr Q' q' => ?_) (by simp; omega) ?_
    · simp only [wipeD, gNm, dCB, dCons, dNil, dVar, List.getElem?_cons_succ, List.getElem?_cons_zero, List.set_cons_succ, List.set_cons_zero, List.foldl, regD, lstD]
      exact q'
    rw [List.nil_append]
    intro A hA
    simp only [lstOD]
    intro B hB
    refine ⟨by simp, ?_⟩
    simp only [gTp, gsCons, gNm, gsNil, List.set_cons_succ, List.set_cons_zero]
    refine ⟨rfl, end_ A (o.rs.map fun r => D.lst 0 (r.map tupI)) M rfl hA (fun v hv => ?_) (by rw [List.length_map]; exact hrl) B hB⟩
    obtain ⟨r, hr, rfl⟩ := List.mem_map.mp hv
    exact any_reg (ho.fair.rg r hr)
theorem pure_law : ∀ ds M Q E, sp_law ds M Q E → ds.length = (["_law_script"] : List Str).length ∧ t_law xnames { nx := fun _ M' => Q .non M', rt := Q } (startD ["_law_script", "_law_bag", "_law_turn", "_law_kind", "_law_one", "_law_regs", "_law_nums", "_law_by_z", "_law_region", "_law_k", "_law_kept", "_law_due", "_law_asks", "_law_odd", "_law_made_here"] ds) M := by
  rintro ds M Q E ⟨ns, rfl, hl, hM, q⟩
  refine ⟨rfl, ?_⟩
  show t_law xnames { nx := fun _ M' => Q .non M', rt := Q } [some (.scr ns), none, none, none, none, none, none, none, none, none, none, none, none, none, none] M
  simp only [t_law, dSeq, dAsg, dCall, dCons, dNil, dVar, List.getElem?_cons_succ, List.getElem?_cons_zero]
  refine ⟨ns, rfl, hl, fun b hb => ?_⟩
  simp only [gNm, List.set_cons_succ, List.set_cons_zero]
  simp only [t_law_15, dSeq, dFor, dRng1, dCons, dNil, dC]
  refine ⟨by decide, ?_⟩
  refine fori_inv (P := fun ρ M => ∃ o2 o3 o4 o5 o6 o7 o8 o9 o10 o11 o12 o13 o14, ρ = [some (.scr ns), some (.ref b), o2, o3, o4, o5, o6, o7, o8, o9, o10, o11, o12, o13, o14] ∧ M b = some (.bg 1)) (fun x hx ρ M hP nx hnx => ?_) ⟨_, _, _, _, _, _, _, _, _, _, _, _, _, rfl, setM_same⟩ (fun ρ M hP => ?_)
  · obtain ⟨o2, o3, o4, o5, o6, o7, o8, o9, o10, o11, o12, o13, o14, rfl, hb'⟩ := hP
    simp only [gNm, List.set_cons_succ, List.set_cons_zero]
    simp only [t_law_14, dSeq, dAsg, dCall, dCons, dNil, dVar, List.getElem?_cons_succ, List.getElem?_cons_zero]
    refine ⟨rfl, b, _, _, rfl, hb', rfl, ⟨by simp [allK], by simp [allK]⟩, fun y hy => ?_⟩
    obtain ⟨k, _, rfl⟩ := List.mem_map.mp hy
    simp only [gNm, List.set_cons_succ, List.set_cons_zero]
    simp only [t_law_13, dSeq, dAsg, dCall, dCons, dNil, dVar, List.getElem?_cons_succ, List.getElem?_cons_zero]
    refine ⟨b, k, rfl, hb', fun o ek hg => ?_⟩
    simp only [gNm, List.set_cons_succ, List.set_cons_zero]
    exact law_12 hg ek hb' fun M A B g o8 o9 o10 o11 o12 o13 o14 hb => hnx _ M ⟨_, _, _, _, _, _, o8, o9, o10, o11, o12, o13, o14, rfl, hb⟩
  · obtain ⟨o2, o3, o4, o5, o6, o7, o8, o9, o10, o11, o12, o13, o14, rfl, hb'⟩ := hP
    simp only [dRet, dC]
    exact q M
end K21

/-! Each def keeps its promise: the walks. Printed by a program of mine. -/
namespace K21
open PySem L2 DL LamX HS HB
section
variable {P : Program} {w : World} {K : PySem.W.Frag} {mg : Str → Option Value} {base : Heap} {cl : Str → Addr} {tb : List (Addr × Str)}
theorem dv_is_number (G : Gb P w K mg base cl) {f : Addr} (cdv : Value) (A : Around) (outer : List Env) (sh : Shared) (H : Hp) (E0 : XK) (c : Wd) (hcc : Cc cl tb c) (hr : Room 0 (A.deeper (PyProof.Rows.envOfC "is_number" (defScope s_is_number) sh.heap.objs.size f cdv))) :
    PDSs c (cxOf (L2N.CX P w) P w K mg base ["value", "least", "most"] "is_number" (defScope s_is_number) f cdv A outer sh H E0) (defBody s_is_number) (t_is_number) :=
    (pdss_one (pds_ret (pd_and (pd_callB isi_D rfl G.b_isinstance (by decide +kernel) (pda_cons (pd_var 0) (pda_cons (pd_ty G.b_int (by decide +kernel)) pda_nil))) (pd_and (pd_not (pd_callB isi_D rfl G.b_isinstance (by decide +kernel) (pda_cons (pd_var 0) (pda_cons (pd_ty G.b_bool (by decide +kernel)) pda_nil)))) (pd_one (pd_chain opD_le opD_le (pd_var 1) (pd_var 0) (pd_var 2)))))))
theorem ok_is_number (G : Gb P w K mg base cl) {dvs : List V} {kws : List (Str × V)} {f : Addr} {fd : FuncData} (F : FunD K "is_number" "is_number" (defArgs s_is_number) (defBody s_is_number) (defScope s_is_number) dvs kws f fd) : FnOk P w K mg base (L2N.CX P w) 1 f fd ["value", "least", "most"] (upX K cl tb sp_is_number) :=
  fnX F sc_is_number (t := fun _ => t_is_number) (fun cdv A outer sh H E0 c E hcc hr tk => dv_is_number G cdv A outer sh H E0 c hcc hr) pure_is_number
theorem dv_is_name (G : Gb P w K mg base cl) {f : Addr} (cdv : Value) (A : Around) (outer : List Env) (sh : Shared) (H : Hp) (E0 : XK) (c : Wd) (hcc : Cc cl tb c) (hr : Room 0 (A.deeper (PyProof.Rows.envOfC "is_name" (defScope s_is_name) sh.heap.objs.size f cdv))) :
    PDSs c (cxOf (L2N.CX P w) P w K mg base ["value", "letter"] "is_name" (defScope s_is_name) f cdv A outer sh H E0) (defBody s_is_name) (t_is_name) :=
    (pdss_cons (pds_if (PW.pt (pdw_or (pdt_not (pdt_val (pd_callB isi_D rfl G.b_isinstance (by decide +kernel) (pda_cons (pd_var 0) (pda_cons (pd_ty G.b_str (by decide +kernel)) pda_nil))))) (pdw_one (pdt_not (pdt_chain opD_le opD_le pd_int (pd_callB len_D rfl G.b_len PySem.boot_len (pda_cons (pd_var 0) pda_nil)) (pd_globC G.c_MOST_LETTERS)))))) (pdss_one (pds_ret pd_bl)) pdss_nil)
      (pdss_one (pds_ret (pd_callB (all_D rfl) rfl G.b_all (by decide +kernel) (pda_cons (pd_lc (own := [("letter", 1)]) (us := [1]) rfl sc_is_name.nd (pdi_any (pd_var 0)) (blkOk_by (N := ["value", "letter"]) (sc := defScope s_is_name) (own := [("letter", 1)]) (by decide +kernel)) (fun c1 sc1 _ _ _ _ _ => (pdg_name (i := 1) sc_is_name.nd)) (fun c1 sc1 _ _ _ _ _ => pdts_nil) (fun c1 sc1 _ _ _ _ _ => (pd_cmp (opD_inE hr.units) (pd_var 1) (pd_globC G.c_LETTERS)))) pda_nil)))))
theorem ok_is_name (G : Gb P w K mg base cl) {dvs : List V} {kws : List (Str × V)} {f : Addr} {fd : FuncData} (F : FunD K "is_name" "is_name" (defArgs s_is_name) (defBody s_is_name) (defScope s_is_name) dvs kws f fd) : FnOk P w K mg base (L2N.CX P w) 1 f fd ["value"] (upX K cl tb sp_is_name) :=
  fnXz F sc_is_name (t := fun _ => t_is_name) (fun cdv A outer sh H E0 c E hcc hr tk => dv_is_name G cdv A outer sh H E0 c hcc hr) pure_is_name
theorem dv_is_cell (G : Gb P w K mg base cl) (F_is_number : Fnd P w K mg base cl tb 1 "is_number" s_is_number ["value", "least", "most"] sp_is_number) {f : Addr} (cdv : Value) (A : Around) (outer : List Env) (sh : Shared) (H : Hp) (E0 : XK) (c : Wd) (hcc : Cc cl tb c) (hr : Room 1 (A.deeper (PyProof.Rows.envOfC "is_cell" (defScope s_is_cell) sh.heap.objs.size f cdv))) :
    PDSs c (cxOf (L2N.CX P w) P w K mg base ["value"] "is_cell" (defScope s_is_cell) f cdv A outer sh H E0) (defBody s_is_cell) (t_is_cell) :=
    (pdss_cons (pds_if (PW.pt (pdw_or (pdt_not (pdt_val (pd_callB isi_D rfl G.b_isinstance (by decide +kernel) (pda_cons (pd_var 0) (pda_cons (pd_ty G.b_tuple (by decide +kernel)) pda_nil))))) (pdw_one (pdt_cmp (ne_flat hr.units) (pd_callB len_D rfl G.b_len PySem.boot_len (pda_cons (pd_var 0) pda_nil)) pd_int)))) (pdss_one (pds_ret pd_bl)) pdss_nil)
      (pdss_one (pds_ret (pd_and (pd_call hcc F_is_number (hr.mono (by decide)) tk0 (pda_cons (pd_ixE hr.units (pd_var 0) pd_int) (pda_cons pd_int (pda_cons (pd_globC G.c_LAST_INDEX) pda_nil)))) (pd_one (pd_call hcc F_is_number (hr.mono (by decide)) tk0 (pda_cons (pd_ixE hr.units (pd_var 0) pd_int) (pda_cons pd_int (pda_cons (pd_globC G.c_LAST_INDEX) pda_nil)))))))))
theorem ok_is_cell (G : Gb P w K mg base cl) (F_is_number : Fnd P w K mg base cl tb 1 "is_number" s_is_number ["value", "least", "most"] sp_is_number) {dvs : List V} {kws : List (Str × V)} {f : Addr} {fd : FuncData} (F : FunD K "is_cell" "is_cell" (defArgs s_is_cell) (defBody s_is_cell) (defScope s_is_cell) dvs kws f fd) : FnOk P w K mg base (L2N.CX P w) 2 f fd ["value"] (upX K cl tb sp_is_cell) :=
  fnXz F sc_is_cell (t := fun _ => t_is_cell) (fun cdv A outer sh H E0 c E hcc hr tk => dv_is_cell G F_is_number cdv A outer sh H E0 c hcc hr) pure_is_cell
theorem dv_is_place (G : Gb P w K mg base cl) (F_is_cell : Fnd P w K mg base cl tb 2 "is_cell" s_is_cell ["value"] sp_is_cell) (F_is_number : Fnd P w K mg base cl tb 1 "is_number" s_is_number ["value", "least", "most"] sp_is_number) {f : Addr} (cdv : Value) (A : Around) (outer : List Env) (sh : Shared) (H : Hp) (E0 : XK) (c : Wd) (hcc : Cc cl tb c) (hr : Room 2 (A.deeper (PyProof.Rows.envOfC "is_place" (defScope s_is_place) sh.heap.objs.size f cdv))) :
    PDSs c (cxOf (L2N.CX P w) P w K mg base ["value"] "is_place" (defScope s_is_place) f cdv A outer sh H E0) (defBody s_is_place) (t_is_place) :=
    (pdss_cons (pds_if (PW.pt (pdw_or (pdt_not (pdt_val (pd_callB isi_D rfl G.b_isinstance (by decide +kernel) (pda_cons (pd_var 0) (pda_cons (pd_ty G.b_tuple (by decide +kernel)) pda_nil))))) (pdw_one (pdt_cmp (ne_flat hr.units) (pd_callB len_D rfl G.b_len PySem.boot_len (pda_cons (pd_var 0) pda_nil)) pd_int)))) (pdss_one (pds_ret pd_bl)) pdss_nil)
      (pdss_one (pds_ret (pd_and (pd_call hcc F_is_number (hr.mono (by decide)) tk0 (pda_cons (pd_ixE hr.units (pd_var 0) pd_int) (pda_cons pd_int (pda_cons (pd_globC G.c_LAST_HOUR) pda_nil)))) (pd_one (pd_call hcc F_is_cell (hr.mono (by decide)) tk0 (pda_cons (pd_slice (pd_var 0) (pdo_some pd_int) pdo_none) pda_nil)))))))
theorem ok_is_place (G : Gb P w K mg base cl) (F_is_cell : Fnd P w K mg base cl tb 2 "is_cell" s_is_cell ["value"] sp_is_cell) (F_is_number : Fnd P w K mg base cl tb 1 "is_number" s_is_number ["value", "least", "most"] sp_is_number) {dvs : List V} {kws : List (Str × V)} {f : Addr} {fd : FuncData} (F : FunD K "is_place" "is_place" (defArgs s_is_place) (defBody s_is_place) (defScope s_is_place) dvs kws f fd) : FnOk P w K mg base (L2N.CX P w) 3 f fd ["value"] (upX K cl tb sp_is_place) :=
  fnXz F sc_is_place (t := fun _ => t_is_place) (fun cdv A outer sh H E0 c E hcc hr tk => dv_is_place G F_is_cell F_is_number cdv A outer sh H E0 c hcc hr) pure_is_place
theorem dv_first_outside (G : Gb P w K mg base cl) (F_is_number : Fnd P w K mg base cl tb 1 "is_number" s_is_number ["value", "least", "most"] sp_is_number) {f : Addr} (cdv : Value) (A : Around) (outer : List Env) (sh : Shared) (H : Hp) (E0 : XK) (c : Wd) (hcc : Cc cl tb c) (hr : Room 1 (A.deeper (PyProof.Rows.envOfC "first_outside" (defScope s_first_outside) sh.heap.objs.size f cdv))) :
    PDSs c (cxOf (L2N.CX P w) P w K mg base ["kind", "numbers", "wrong", "number", "least", "most"] "first_outside" (defScope s_first_outside) f cdv A outer sh H E0) (defBody s_first_outside) (t_first_outside) :=
    (pdss_cons (pds_setLc (i := 2) (own := [("number", 3), ("least", 4), ("most", 5)]) (us := [3, 4, 5]) rfl sc_first_outside.nd (pdi_zipC G.b_zip (pda_cons (pd_var 1) (pda_cons (pd_ixK G.k_BOUNDS (pd_var 0)) pda_nil))) (blkOk_by (N := ["kind", "numbers", "wrong", "number", "least", "most"]) (sc := defScope s_first_outside) (own := [("number", 3), ("least", 4), ("most", 5)]) (by decide +kernel)) (fun c1 sc1 _ _ _ _ _ => (pdg_tup rfl (pdgs_cons (pdg_name (i := 3) sc_first_outside.nd) (pdgs_cons (pdg_tup rfl (pdgs_cons (pdg_name (i := 4) sc_first_outside.nd) (pdgs_cons (pdg_name (i := 5) sc_first_outside.nd) pdgs_nil))) pdgs_nil)))) (fun c1 sc1 _ _ _ _ _ => (pdts_one (pdt_not (pdt_val (pd_call (hcc.sc sc1) F_is_number (hr.mono (by decide)) tk0 (pda_cons (pd_var 3) (pda_cons (pd_var 4) (pda_cons (pd_var 5) pda_nil)))))))) (fun c1 sc1 _ _ _ _ _ => (pd_var 3)) (sw_true rfl rfl rfl (by decide +kernel)))
      (pdss_one (pds_ret (pd_slice (pd_var 2) pdo_none (pdo_some pd_int)))))
theorem ok_first_outside (G : Gb P w K mg base cl) (F_is_number : Fnd P w K mg base cl tb 1 "is_number" s_is_number ["value", "least", "most"] sp_is_number) {dvs : List V} {kws : List (Str × V)} {f : Addr} {fd : FuncData} (F : FunD K "first_outside" "first_outside" (defArgs s_first_outside) (defBody s_first_outside) (defScope s_first_outside) dvs kws f fd) : FnOk P w K mg base (L2N.CX P w) 2 f fd ["kind", "numbers"] (upX K cl tb sp_first_outside) :=
  fnXz F sc_first_outside (t := fun _ => t_first_outside) (fun cdv A outer sh H E0 c E hcc hr tk => dv_first_outside G F_is_number cdv A outer sh H E0 c hcc hr) pure_first_outside
theorem dv_check_gauge (G : Gb P w K mg base cl) (F_is_name : Fnd P w K mg base cl tb 1 "is_name" s_is_name ["value"] sp_is_name) {f : Addr} (cdv : Value) (A : Around) (outer : List Env) (sh : Shared) (H : Hp) (E0 : XK) (c : Wd) (E : DXK) (hcc : Cc cl tb c) (hr : Room 2 (A.deeper (PyProof.Rows.envOfC "check_gauge" (defScope s_check_gauge) sh.heap.objs.size f cdv))) (tk : Tk c (cxOf (L2N.CX P w) P w K mg base ["gauge"] "check_gauge" (defScope s_check_gauge) f cdv A outer sh H E0) E) :
    PDSs c (cxOf (L2N.CX P w) P w K mg base ["gauge"] "check_gauge" (defScope s_check_gauge) f cdv A outer sh H E0) (defBody s_check_gauge) (t_check_gauge E) :=
    (pdss_one (pds_if (PW.pt (pdw_and (pdt_cmp opD_isnot (pd_var 0) pd_non) (pdw_one (pdt_not (pdt_val (pd_call hcc F_is_name (hr.mono (by decide)) tk0 (pda_cons (pd_var 0) pda_nil))))))) (pdss_one (pds_raise hcc.cl rfl G.x_InvalidGauge (hr.mono (by decide)) tk (pda_cons (pd_var 0) pda_nil))) pdss_nil))
theorem ok_check_gauge (G : Gb P w K mg base cl) (F_is_name : Fnd P w K mg base cl tb 1 "is_name" s_is_name ["value"] sp_is_name) {dvs : List V} {kws : List (Str × V)} {f : Addr} {fd : FuncData} (F : FunD K "check_gauge" "check_gauge" (defArgs s_check_gauge) (defBody s_check_gauge) (defScope s_check_gauge) dvs kws f fd) : FnOk P w K mg base (L2N.CX P w) 3 f fd ["gauge"] (upX K cl tb sp_check_gauge) :=
  fnXz F sc_check_gauge (t := fun E => t_check_gauge E) (fun cdv A outer sh H E0 c E hcc hr tk => dv_check_gauge G F_is_name cdv A outer sh H E0 c E hcc hr tk) pure_check_gauge
theorem dv_kept_region (G : Gb P w K mg base cl) (F_is_place : Fnd P w K mg base cl tb 3 "is_place" s_is_place ["value"] sp_is_place) {f : Addr} (cdv : Value) (A : Around) (outer : List Env) (sh : Shared) (H : Hp) (E0 : XK) (c : Wd) (E : DXK) (hcc : Cc cl tb c) (hr : Room 3 (A.deeper (PyProof.Rows.envOfC "kept_region" (defScope s_kept_region) sh.heap.objs.size f cdv))) (tk : Tk c (cxOf (L2N.CX P w) P w K mg base ["region", "at", "place"] "kept_region" (defScope s_kept_region) f cdv A outer sh H E0) E) :
    PDSs c (cxOf (L2N.CX P w) P w K mg base ["region", "at", "place"] "kept_region" (defScope s_kept_region) f cdv A outer sh H E0) (defBody s_kept_region) (t_kept_region E) :=
    (pdss_cons (pds_if (PW.pt (pdw_or (pdt_not (pdt_val (pd_callB isi_D rfl G.b_isinstance (by decide +kernel) (pda_cons (pd_var 0) (pda_cons (pd_tup (pda_cons (pd_ty G.b_list (by decide +kernel)) (pda_cons (pd_ty G.b_tuple (by decide +kernel)) pda_nil))) pda_nil))))) (pdw_one (pdt_not (pdt_chain opD_le opD_le pd_int (pd_callB len_D rfl G.b_len PySem.boot_len (pda_cons (pd_var 0) pda_nil)) (pd_globC G.c_MOST_PLACES)))))) (pdss_one (pds_raise hcc.cl rfl G.x_InvalidRegion (hr.mono (by decide)) tk (pda_cons (pd_neg pd_int) pda_nil))) pdss_nil)
      (pdss_cons (pds_for (vs := [1, 2]) (passes_of rfl) rfl (pdi_enT G.b_enumerate (pda_cons (pd_var 0) pda_nil)) (pdg_tup rfl (pdgs_cons (pdg_name (i := 1) sc_kept_region.nd) (pdgs_cons (pdg_name (i := 2) sc_kept_region.nd) pdgs_nil))) (pdss_one (pds_if (pdt_not (pdt_val (pd_call hcc F_is_place (hr.mono (by decide)) tk0 (pda_cons (pd_var 2) pda_nil)))) (pdss_one (pds_raise hcc.cl rfl G.x_InvalidRegion (hr.mono (by decide)) tk (pda_cons (pd_var 1) pda_nil))) pdss_nil)))
      (pdss_one (pds_ret (pd_callTy tup_D rfl G.b_tuple (by decide +kernel) (pda_cons (pd_sortSc (i := 2) hr.units rfl sc_kept_region.nd (pd_var 0) (blkOk_by (N := ["region", "at", "place"]) (sc := defScope s_kept_region) (own := [("place", 2)]) (by decide +kernel)) (fun _ _ _ _ _ => pg_name (i := 2) sc_kept_region.nd rfl (by first | exact Or.inl rfl | exact Or.inr rfl)) (fun _ _ _ _ _ => pe_var (i := 2) rfl (by first | exact Or.inl rfl | exact Or.inr (Or.inl rfl) | exact Or.inr (Or.inr rfl))) G.b_sorted) pda_nil))))))
theorem ok_kept_region (G : Gb P w K mg base cl) (F_is_place : Fnd P w K mg base cl tb 3 "is_place" s_is_place ["value"] sp_is_place) {dvs : List V} {kws : List (Str × V)} {f : Addr} {fd : FuncData} (F : FunD K "kept_region" "kept_region" (defArgs s_kept_region) (defBody s_kept_region) (defScope s_kept_region) dvs kws f fd) : FnOk P w K mg base (L2N.CX P w) 4 f fd ["region"] (upX K cl tb sp_kept_region) :=
  fnXz F sc_kept_region (t := fun E => t_kept_region E) (fun cdv A outer sh H E0 c E hcc hr tk => dv_kept_region G F_is_place cdv A outer sh H E0 c E hcc hr tk) pure_kept_region
theorem dv_kept_place (G : Gb P w K mg base cl) (F_is_place : Fnd P w K mg base cl tb 3 "is_place" s_is_place ["value"] sp_is_place) {f : Addr} (cdv : Value) (A : Around) (outer : List Env) (sh : Shared) (H : Hp) (E0 : XK) (c : Wd) (E : DXK) (hcc : Cc cl tb c) (hr : Room 3 (A.deeper (PyProof.Rows.envOfC "kept_place" (defScope s_kept_place) sh.heap.objs.size f cdv))) (tk : Tk c (cxOf (L2N.CX P w) P w K mg base ["place"] "kept_place" (defScope s_kept_place) f cdv A outer sh H E0) E) :
    PDSs c (cxOf (L2N.CX P w) P w K mg base ["place"] "kept_place" (defScope s_kept_place) f cdv A outer sh H E0) (defBody s_kept_place) (t_kept_place E) :=
    (pdss_cons (pds_if (pdt_not (pdt_val (pd_call hcc F_is_place (hr.mono (by decide)) tk0 (pda_cons (pd_var 0) pda_nil)))) (pdss_one (pds_raise hcc.cl rfl G.x_InvalidPlace (hr.mono (by decide)) tk (pda_cons (pd_var 0) pda_nil))) pdss_nil)
      (pdss_one (pds_ret (pd_tup (pda_cons (pd_var 0) pda_nil)))))
theorem ok_kept_place (G : Gb P w K mg base cl) (F_is_place : Fnd P w K mg base cl tb 3 "is_place" s_is_place ["value"] sp_is_place) {dvs : List V} {kws : List (Str × V)} {f : Addr} {fd : FuncData} (F : FunD K "kept_place" "kept_place" (defArgs s_kept_place) (defBody s_kept_place) (defScope s_kept_place) dvs kws f fd) : FnOk P w K mg base (L2N.CX P w) 4 f fd ["place"] (upX K cl tb sp_kept_place) :=
  fnXz F sc_kept_place (t := fun E => t_kept_place E) (fun cdv A outer sh H E0 c E hcc hr tk => dv_kept_place G F_is_place cdv A outer sh H E0 c E hcc hr tk) pure_kept_place
theorem dv_made (G : Gb P w K mg base cl) (M_Saying_4 : Mkr P w K mg base cl tb 1 "Saying" 4 [] ["self", "kind", "regions", "numbers", "gauge"] (fun ds es => ds ++ es) sp_Saying___init__) (F_check_gauge : Fnd P w K mg base cl tb 3 "check_gauge" s_check_gauge ["gauge"] sp_check_gauge) (F_first_outside : Fnd P w K mg base cl tb 2 "first_outside" s_first_outside ["kind", "numbers"] sp_first_outside) {f : Addr} (cdv : Value) (A : Around) (outer : List Env) (sh : Shared) (H : Hp) (E0 : XK) (c : Wd) (E : DXK) (hcc : Cc cl tb c) (hr : Room 3 (A.deeper (PyProof.Rows.envOfC "made" (defScope s_made) sh.heap.objs.size f cdv))) (tk : Tk c (cxOf (L2N.CX P w) P w K mg base ["kind", "regions", "numbers", "gauge", "wrong"] "made" (defScope s_made) f cdv A outer sh H E0) E) :
    PDSs c (cxOf (L2N.CX P w) P w K mg base ["kind", "regions", "numbers", "gauge", "wrong"] "made" (defScope s_made) f cdv A outer sh H E0) (defBody s_made) (t_made E) :=
    (pdss_cons (pds_set (i := 4) sc_made.nd (pd_call hcc F_first_outside (hr.mono (by decide)) tk0 (pda_cons (pd_var 0) (pda_cons (pd_var 2) pda_nil))))
      (pdss_cons (pds_if (pdt_cmp opD_gt (pd_callB len_D rfl G.b_len PySem.boot_len (pda_cons (pd_var 4) pda_nil)) pd_int) (pdss_one (pds_raise hcc.cl rfl G.x_InvalidNumber (hr.mono (by decide)) tk (pda_cons (pd_ixE hr.units (pd_var 4) pd_int) pda_nil))) pdss_nil)
      (pdss_cons (pds_expr (pd_call hcc F_check_gauge (hr.mono (by decide)) tk (pda_cons (pd_var 3) pda_nil)))
      (pdss_one (pds_ret (pd_makeK (ks := []) hcc M_Saying_4 (hr.mono (by decide)) tk0 (pda_cons (pd_var 0) (pda_cons (pd_var 1) (pda_cons (pd_var 2) (pda_cons (pd_var 3) pda_nil)))) pdk_nil))))))
theorem ok_made (G : Gb P w K mg base cl) (M_Saying_4 : Mkr P w K mg base cl tb 1 "Saying" 4 [] ["self", "kind", "regions", "numbers", "gauge"] (fun ds es => ds ++ es) sp_Saying___init__) (F_check_gauge : Fnd P w K mg base cl tb 3 "check_gauge" s_check_gauge ["gauge"] sp_check_gauge) (F_first_outside : Fnd P w K mg base cl tb 2 "first_outside" s_first_outside ["kind", "numbers"] sp_first_outside) {dvs : List V} {kws : List (Str × V)} {f : Addr} {fd : FuncData} (F : FunD K "made" "made" (defArgs s_made) (defBody s_made) (defScope s_made) dvs kws f fd) : FnOk P w K mg base (L2N.CX P w) 4 f fd ["kind", "regions", "numbers", "gauge"] (upX K cl tb sp_made) :=
  fnXz F sc_made (t := fun E => t_made E) (fun cdv A outer sh H E0 c E hcc hr tk => dv_made G M_Saying_4 F_check_gauge F_first_outside cdv A outer sh H E0 c E hcc hr tk) pure_made
theorem dv_at_most (G : Gb P w K mg base cl) (F_kept_region : Fnd P w K mg base cl tb 4 "kept_region" s_kept_region ["region"] sp_kept_region) (F_made : Fnd P w K mg base cl tb 4 "made" s_made ["kind", "regions", "numbers", "gauge"] sp_made) {f : Addr} (cdv : Value) (A : Around) (outer : List Env) (sh : Shared) (H : Hp) (E0 : XK) (c : Wd) (E : DXK) (hcc : Cc cl tb c) (hr : Room 4 (A.deeper (PyProof.Rows.envOfC "at_most" (defScope s_at_most) sh.heap.objs.size f cdv))) (tk : Tk c (cxOf (L2N.CX P w) P w K mg base ["region", "limit", "gauge"] "at_most" (defScope s_at_most) f cdv A outer sh H E0) E) :
    PDSs c (cxOf (L2N.CX P w) P w K mg base ["region", "limit", "gauge"] "at_most" (defScope s_at_most) f cdv A outer sh H E0) (defBody s_at_most) (t_at_most E) :=
    (pdss_one (pds_ret (pd_call hcc F_made (hr.mono (by decide)) tk (pda_cons pd_str (pda_cons (pd_lst (pda_cons (pd_call hcc F_kept_region (hr.mono (by decide)) tk (pda_cons (pd_var 0) pda_nil)) pda_nil)) (pda_cons (pd_lst (pda_cons (pd_var 1) pda_nil)) (pda_cons (pd_var 2) pda_nil)))))))
theorem ok_at_most (G : Gb P w K mg base cl) (F_kept_region : Fnd P w K mg base cl tb 4 "kept_region" s_kept_region ["region"] sp_kept_region) (F_made : Fnd P w K mg base cl tb 4 "made" s_made ["kind", "regions", "numbers", "gauge"] sp_made) {dvs : List V} {kws : List (Str × V)} {f : Addr} {fd : FuncData} (F : FunD K "at_most" "at_most" (defArgs s_at_most) (defBody s_at_most) (defScope s_at_most) dvs kws f fd) : FnOk P w K mg base (L2N.CX P w) 5 f fd ["region", "limit", "gauge"] (upX K cl tb sp_at_most) :=
  fnXz F sc_at_most (t := fun E => t_at_most E) (fun cdv A outer sh H E0 c E hcc hr tk => dv_at_most G F_kept_region F_made cdv A outer sh H E0 c E hcc hr tk) pure_at_most
theorem dv_at_least (G : Gb P w K mg base cl) (F_kept_region : Fnd P w K mg base cl tb 4 "kept_region" s_kept_region ["region"] sp_kept_region) (F_made : Fnd P w K mg base cl tb 4 "made" s_made ["kind", "regions", "numbers", "gauge"] sp_made) {f : Addr} (cdv : Value) (A : Around) (outer : List Env) (sh : Shared) (H : Hp) (E0 : XK) (c : Wd) (E : DXK) (hcc : Cc cl tb c) (hr : Room 4 (A.deeper (PyProof.Rows.envOfC "at_least" (defScope s_at_least) sh.heap.objs.size f cdv))) (tk : Tk c (cxOf (L2N.CX P w) P w K mg base ["region", "amount", "gauge"] "at_least" (defScope s_at_least) f cdv A outer sh H E0) E) :
    PDSs c (cxOf (L2N.CX P w) P w K mg base ["region", "amount", "gauge"] "at_least" (defScope s_at_least) f cdv A outer sh H E0) (defBody s_at_least) (t_at_least E) :=
    (pdss_one (pds_ret (pd_call hcc F_made (hr.mono (by decide)) tk (pda_cons pd_str (pda_cons (pd_lst (pda_cons (pd_call hcc F_kept_region (hr.mono (by decide)) tk (pda_cons (pd_var 0) pda_nil)) pda_nil)) (pda_cons (pd_lst (pda_cons (pd_var 1) pda_nil)) (pda_cons (pd_var 2) pda_nil)))))))
theorem ok_at_least (G : Gb P w K mg base cl) (F_kept_region : Fnd P w K mg base cl tb 4 "kept_region" s_kept_region ["region"] sp_kept_region) (F_made : Fnd P w K mg base cl tb 4 "made" s_made ["kind", "regions", "numbers", "gauge"] sp_made) {dvs : List V} {kws : List (Str × V)} {f : Addr} {fd : FuncData} (F : FunD K "at_least" "at_least" (defArgs s_at_least) (defBody s_at_least) (defScope s_at_least) dvs kws f fd) : FnOk P w K mg base (L2N.CX P w) 5 f fd ["region", "amount", "gauge"] (upX K cl tb sp_at_least) :=
  fnXz F sc_at_least (t := fun E => t_at_least E) (fun cdv A outer sh H E0 c E hcc hr tk => dv_at_least G F_kept_region F_made cdv A outer sh H E0 c E hcc hr tk) pure_at_least
theorem dv_exactly (G : Gb P w K mg base cl) (F_kept_region : Fnd P w K mg base cl tb 4 "kept_region" s_kept_region ["region"] sp_kept_region) (F_made : Fnd P w K mg base cl tb 4 "made" s_made ["kind", "regions", "numbers", "gauge"] sp_made) {f : Addr} (cdv : Value) (A : Around) (outer : List Env) (sh : Shared) (H : Hp) (E0 : XK) (c : Wd) (E : DXK) (hcc : Cc cl tb c) (hr : Room 4 (A.deeper (PyProof.Rows.envOfC "exactly" (defScope s_exactly) sh.heap.objs.size f cdv))) (tk : Tk c (cxOf (L2N.CX P w) P w K mg base ["region", "limit", "gauge"] "exactly" (defScope s_exactly) f cdv A outer sh H E0) E) :
    PDSs c (cxOf (L2N.CX P w) P w K mg base ["region", "limit", "gauge"] "exactly" (defScope s_exactly) f cdv A outer sh H E0) (defBody s_exactly) (t_exactly E) :=
    (pdss_one (pds_ret (pd_call hcc F_made (hr.mono (by decide)) tk (pda_cons pd_str (pda_cons (pd_lst (pda_cons (pd_call hcc F_kept_region (hr.mono (by decide)) tk (pda_cons (pd_var 0) pda_nil)) pda_nil)) (pda_cons (pd_lst (pda_cons (pd_var 1) pda_nil)) (pda_cons (pd_var 2) pda_nil)))))))
theorem ok_exactly (G : Gb P w K mg base cl) (F_kept_region : Fnd P w K mg base cl tb 4 "kept_region" s_kept_region ["region"] sp_kept_region) (F_made : Fnd P w K mg base cl tb 4 "made" s_made ["kind", "regions", "numbers", "gauge"] sp_made) {dvs : List V} {kws : List (Str × V)} {f : Addr} {fd : FuncData} (F : FunD K "exactly" "exactly" (defArgs s_exactly) (defBody s_exactly) (defScope s_exactly) dvs kws f fd) : FnOk P w K mg base (L2N.CX P w) 5 f fd ["region", "limit", "gauge"] (upX K cl tb sp_exactly) :=
  fnXz F sc_exactly (t := fun E => t_exactly E) (fun cdv A outer sh H E0 c E hcc hr tk => dv_exactly G F_kept_region F_made cdv A outer sh H E0 c E hcc hr tk) pure_exactly
theorem dv_under (G : Gb P w K mg base cl) (F_kept_region : Fnd P w K mg base cl tb 4 "kept_region" s_kept_region ["region"] sp_kept_region) (F_made : Fnd P w K mg base cl tb 4 "made" s_made ["kind", "regions", "numbers", "gauge"] sp_made) {f : Addr} (cdv : Value) (A : Around) (outer : List Env) (sh : Shared) (H : Hp) (E0 : XK) (c : Wd) (E : DXK) (hcc : Cc cl tb c) (hr : Room 4 (A.deeper (PyProof.Rows.envOfC "under" (defScope s_under) sh.heap.objs.size f cdv))) (tk : Tk c (cxOf (L2N.CX P w) P w K mg base ["region", "other", "more", "gauge"] "under" (defScope s_under) f cdv A outer sh H E0) E) :
    PDSs c (cxOf (L2N.CX P w) P w K mg base ["region", "other", "more", "gauge"] "under" (defScope s_under) f cdv A outer sh H E0) (defBody s_under) (t_under E) :=
    (pdss_one (pds_ret (pd_call hcc F_made (hr.mono (by decide)) tk (pda_cons pd_str (pda_cons (pd_lst (pda_cons (pd_call hcc F_kept_region (hr.mono (by decide)) tk (pda_cons (pd_var 0) pda_nil)) (pda_cons (pd_call hcc F_kept_region (hr.mono (by decide)) tk (pda_cons (pd_var 1) pda_nil)) pda_nil))) (pda_cons (pd_lst (pda_cons (pd_var 2) pda_nil)) (pda_cons (pd_var 3) pda_nil)))))))
theorem ok_under (G : Gb P w K mg base cl) (F_kept_region : Fnd P w K mg base cl tb 4 "kept_region" s_kept_region ["region"] sp_kept_region) (F_made : Fnd P w K mg base cl tb 4 "made" s_made ["kind", "regions", "numbers", "gauge"] sp_made) {dvs : List V} {kws : List (Str × V)} {f : Addr} {fd : FuncData} (F : FunD K "under" "under" (defArgs s_under) (defBody s_under) (defScope s_under) dvs kws f fd) : FnOk P w K mg base (L2N.CX P w) 5 f fd ["region", "other", "more", "gauge"] (upX K cl tb sp_under) :=
  fnXz F sc_under (t := fun E => t_under E) (fun cdv A outer sh H E0 c E hcc hr tk => dv_under G F_kept_region F_made cdv A outer sh H E0 c E hcc hr tk) pure_under
theorem dv_level (G : Gb P w K mg base cl) (F_kept_region : Fnd P w K mg base cl tb 4 "kept_region" s_kept_region ["region"] sp_kept_region) (F_made : Fnd P w K mg base cl tb 4 "made" s_made ["kind", "regions", "numbers", "gauge"] sp_made) {f : Addr} (cdv : Value) (A : Around) (outer : List Env) (sh : Shared) (H : Hp) (E0 : XK) (c : Wd) (E : DXK) (hcc : Cc cl tb c) (hr : Room 4 (A.deeper (PyProof.Rows.envOfC "level" (defScope s_level) sh.heap.objs.size f cdv))) (tk : Tk c (cxOf (L2N.CX P w) P w K mg base ["region", "other", "more", "gauge"] "level" (defScope s_level) f cdv A outer sh H E0) E) :
    PDSs c (cxOf (L2N.CX P w) P w K mg base ["region", "other", "more", "gauge"] "level" (defScope s_level) f cdv A outer sh H E0) (defBody s_level) (t_level E) :=
    (pdss_one (pds_ret (pd_call hcc F_made (hr.mono (by decide)) tk (pda_cons pd_str (pda_cons (pd_lst (pda_cons (pd_call hcc F_kept_region (hr.mono (by decide)) tk (pda_cons (pd_var 0) pda_nil)) (pda_cons (pd_call hcc F_kept_region (hr.mono (by decide)) tk (pda_cons (pd_var 1) pda_nil)) pda_nil))) (pda_cons (pd_lst (pda_cons (pd_var 2) pda_nil)) (pda_cons (pd_var 3) pda_nil)))))))
theorem ok_level (G : Gb P w K mg base cl) (F_kept_region : Fnd P w K mg base cl tb 4 "kept_region" s_kept_region ["region"] sp_kept_region) (F_made : Fnd P w K mg base cl tb 4 "made" s_made ["kind", "regions", "numbers", "gauge"] sp_made) {dvs : List V} {kws : List (Str × V)} {f : Addr} {fd : FuncData} (F : FunD K "level" "level" (defArgs s_level) (defBody s_level) (defScope s_level) dvs kws f fd) : FnOk P w K mg base (L2N.CX P w) 5 f fd ["region", "other", "more", "gauge"] (upX K cl tb sp_level) :=
  fnXz F sc_level (t := fun E => t_level E) (fun cdv A outer sh H E0 c E hcc hr tk => dv_level G F_kept_region F_made cdv A outer sh H E0 c E hcc hr tk) pure_level
theorem dv_if_then (G : Gb P w K mg base cl) (F_kept_region : Fnd P w K mg base cl tb 4 "kept_region" s_kept_region ["region"] sp_kept_region) (F_made : Fnd P w K mg base cl tb 4 "made" s_made ["kind", "regions", "numbers", "gauge"] sp_made) {f : Addr} (cdv : Value) (A : Around) (outer : List Env) (sh : Shared) (H : Hp) (E0 : XK) (c : Wd) (E : DXK) (hcc : Cc cl tb c) (hr : Room 4 (A.deeper (PyProof.Rows.envOfC "if_then" (defScope s_if_then) sh.heap.objs.size f cdv))) (tk : Tk c (cxOf (L2N.CX P w) P w K mg base ["region", "amount", "other", "least", "gauge"] "if_then" (defScope s_if_then) f cdv A outer sh H E0) E) :
    PDSs c (cxOf (L2N.CX P w) P w K mg base ["region", "amount", "other", "least", "gauge"] "if_then" (defScope s_if_then) f cdv A outer sh H E0) (defBody s_if_then) (t_if_then E) :=
    (pdss_one (pds_ret (pd_call hcc F_made (hr.mono (by decide)) tk (pda_cons pd_str (pda_cons (pd_lst (pda_cons (pd_call hcc F_kept_region (hr.mono (by decide)) tk (pda_cons (pd_var 0) pda_nil)) (pda_cons (pd_call hcc F_kept_region (hr.mono (by decide)) tk (pda_cons (pd_var 2) pda_nil)) pda_nil))) (pda_cons (pd_lst (pda_cons (pd_var 1) (pda_cons (pd_var 3) pda_nil))) (pda_cons (pd_var 4) pda_nil)))))))
theorem ok_if_then (G : Gb P w K mg base cl) (F_kept_region : Fnd P w K mg base cl tb 4 "kept_region" s_kept_region ["region"] sp_kept_region) (F_made : Fnd P w K mg base cl tb 4 "made" s_made ["kind", "regions", "numbers", "gauge"] sp_made) {dvs : List V} {kws : List (Str × V)} {f : Addr} {fd : FuncData} (F : FunD K "if_then" "if_then" (defArgs s_if_then) (defBody s_if_then) (defScope s_if_then) dvs kws f fd) : FnOk P w K mg base (L2N.CX P w) 5 f fd ["region", "amount", "other", "least", "gauge"] (upX K cl tb sp_if_then) :=
  fnXz F sc_if_then (t := fun E => t_if_then E) (fun cdv A outer sh H E0 c E hcc hr tk => dv_if_then G F_kept_region F_made cdv A outer sh H E0 c E hcc hr tk) pure_if_then
theorem dv_squall_most (G : Gb P w K mg base cl) (F_kept_place : Fnd P w K mg base cl tb 4 "kept_place" s_kept_place ["place"] sp_kept_place) (F_made : Fnd P w K mg base cl tb 4 "made" s_made ["kind", "regions", "numbers", "gauge"] sp_made) {f : Addr} (cdv : Value) (A : Around) (outer : List Env) (sh : Shared) (H : Hp) (E0 : XK) (c : Wd) (E : DXK) (hcc : Cc cl tb c) (hr : Room 4 (A.deeper (PyProof.Rows.envOfC "squall_most" (defScope s_squall_most) sh.heap.objs.size f cdv))) (tk : Tk c (cxOf (L2N.CX P w) P w K mg base ["place", "limit", "gauge"] "squall_most" (defScope s_squall_most) f cdv A outer sh H E0) E) :
    PDSs c (cxOf (L2N.CX P w) P w K mg base ["place", "limit", "gauge"] "squall_most" (defScope s_squall_most) f cdv A outer sh H E0) (defBody s_squall_most) (t_squall_most E) :=
    (pdss_one (pds_ret (pd_call hcc F_made (hr.mono (by decide)) tk (pda_cons pd_str (pda_cons (pd_lst (pda_cons (pd_call hcc F_kept_place (hr.mono (by decide)) tk (pda_cons (pd_var 0) pda_nil)) pda_nil)) (pda_cons (pd_lst (pda_cons (pd_var 1) pda_nil)) (pda_cons (pd_var 2) pda_nil)))))))
theorem ok_squall_most (G : Gb P w K mg base cl) (F_kept_place : Fnd P w K mg base cl tb 4 "kept_place" s_kept_place ["place"] sp_kept_place) (F_made : Fnd P w K mg base cl tb 4 "made" s_made ["kind", "regions", "numbers", "gauge"] sp_made) {dvs : List V} {kws : List (Str × V)} {f : Addr} {fd : FuncData} (F : FunD K "squall_most" "squall_most" (defArgs s_squall_most) (defBody s_squall_most) (defScope s_squall_most) dvs kws f fd) : FnOk P w K mg base (L2N.CX P w) 5 f fd ["place", "limit", "gauge"] (upX K cl tb sp_squall_most) :=
  fnXz F sc_squall_most (t := fun E => t_squall_most E) (fun cdv A outer sh H E0 c E hcc hr tk => dv_squall_most G F_kept_place F_made cdv A outer sh H E0 c E hcc hr tk) pure_squall_most
theorem dv_squall_least (G : Gb P w K mg base cl) (F_kept_place : Fnd P w K mg base cl tb 4 "kept_place" s_kept_place ["place"] sp_kept_place) (F_made : Fnd P w K mg base cl tb 4 "made" s_made ["kind", "regions", "numbers", "gauge"] sp_made) {f : Addr} (cdv : Value) (A : Around) (outer : List Env) (sh : Shared) (H : Hp) (E0 : XK) (c : Wd) (E : DXK) (hcc : Cc cl tb c) (hr : Room 4 (A.deeper (PyProof.Rows.envOfC "squall_least" (defScope s_squall_least) sh.heap.objs.size f cdv))) (tk : Tk c (cxOf (L2N.CX P w) P w K mg base ["place", "amount", "gauge"] "squall_least" (defScope s_squall_least) f cdv A outer sh H E0) E) :
    PDSs c (cxOf (L2N.CX P w) P w K mg base ["place", "amount", "gauge"] "squall_least" (defScope s_squall_least) f cdv A outer sh H E0) (defBody s_squall_least) (t_squall_least E) :=
    (pdss_one (pds_ret (pd_call hcc F_made (hr.mono (by decide)) tk (pda_cons pd_str (pda_cons (pd_lst (pda_cons (pd_call hcc F_kept_place (hr.mono (by decide)) tk (pda_cons (pd_var 0) pda_nil)) pda_nil)) (pda_cons (pd_lst (pda_cons (pd_var 1) pda_nil)) (pda_cons (pd_var 2) pda_nil)))))))
theorem ok_squall_least (G : Gb P w K mg base cl) (F_kept_place : Fnd P w K mg base cl tb 4 "kept_place" s_kept_place ["place"] sp_kept_place) (F_made : Fnd P w K mg base cl tb 4 "made" s_made ["kind", "regions", "numbers", "gauge"] sp_made) {dvs : List V} {kws : List (Str × V)} {f : Addr} {fd : FuncData} (F : FunD K "squall_least" "squall_least" (defArgs s_squall_least) (defBody s_squall_least) (defScope s_squall_least) dvs kws f fd) : FnOk P w K mg base (L2N.CX P w) 5 f fd ["place", "amount", "gauge"] (upX K cl tb sp_squall_least) :=
  fnXz F sc_squall_least (t := fun E => t_squall_least E) (fun cdv A outer sh H E0 c E hcc hr tk => dv_squall_least G F_kept_place F_made cdv A outer sh H E0 c E hcc hr tk) pure_squall_least
theorem dv__law_open (G : Gb P w K mg base cl) {f : Addr} (cdv : Value) (A : Around) (outer : List Env) (sh : Shared) (H : Hp) (E0 : XK) (c : Wd) (hcc : Cc cl tb c) (hr : Room 0 (A.deeper (PyProof.Rows.envOfC "_law_open" (defScope s__law_open) sh.heap.objs.size f cdv))) :
    PDSs c (cxOf (L2N.CX P w) P w K mg base ["_law_script", "_law_mixed", "_law_cell"] "_law_open" (defScope s__law_open) f cdv A outer sh H E0) (defBody s__law_open) (t__law_open) :=
    (pdss_cons (pds_set (i := 1) sc__law_open.nd pd_int)
      (pdss_cons (pds_for (vs := [2]) (passes_of rfl) rfl (pdi_any (pd_slice (pd_var 0) pdo_none (pdo_some pd_int))) (pdg_name (i := 2) sc__law_open.nd) (pdss_one (pds_set (i := 1) sc__law_open.nd (pd_op opD_mod (pd_callTy int_D rfl G.b_int (by decide +kernel) (pda_cons (pd_op opD_add (pd_op opD_add (pd_op opD_mulE (pd_var 1) pd_int) (pd_op opD_mulE (pd_op opD_mod (pd_callTy int_D rfl G.b_int (by decide +kernel) (pda_cons (pd_var 2) pda_nil)) pd_int) pd_int)) pd_int) pda_nil)) pd_int))))
      (pdss_one (pds_ret (pd_bag5 (pda_cons (pd_callTy lst_D rfl G.b_list (by decide +kernel) (pda_cons (pd_slice (pd_var 0) pdo_none (pdo_some pd_int)) pda_nil)) (pda_cons pd_int (pda_cons pd_int (pda_cons (pd_var 1) (pda_cons pd_int pda_nil))))))))))
theorem ok__law_open (G : Gb P w K mg base cl) {dvs : List V} {kws : List (Str × V)} {f : Addr} {fd : FuncData} (F : FunD K "_law_open" "_law_open" (defArgs s__law_open) (defBody s__law_open) (defScope s__law_open) dvs kws f fd) : FnOk P w K mg base (L2N.CX P w) 1 f fd ["_law_script"] (upX K cl tb sp__law_open) :=
  fnX F sc__law_open (t := fun _ => t__law_open) (fun cdv A outer sh H E0 c E hcc hr tk => dv__law_open G cdv A outer sh H E0 c hcc hr) pure__law_open
theorem dv__law_draw (G : Gb P w K mg base cl) {f : Addr} (cdv : Value) (A : Around) (outer : List Env) (sh : Shared) (H : Hp) (E0 : XK) (c : Wd) (hcc : Cc cl tb c) (hr : Room 0 (A.deeper (PyProof.Rows.envOfC "_law_draw" (defScope s__law_draw) sh.heap.objs.size f cdv))) :
    PDSs c (cxOf (L2N.CX P w) P w K mg base ["_law_bag", "_law_sides", "_law_cell", "_law_small", "_law_digit", "_law_seed", "_law_step"] "_law_draw" (defScope s__law_draw) f cdv A outer sh H E0) (defBody s__law_draw) (t__law_draw) :=
    (pdss_cons (pds_asg (vs := []) (pd_op opD_add (pd_ixE hr.units (pd_var 0) pd_int) pd_int) (pdg_ix (pd_var 0) pd_int))
      (pdss_cons (pds_if (PW.pt (pdw_and (pdt_cmp (eq_flat hr.units) (pd_ixE hr.units (pd_var 0) pd_int) pd_int) (pdw_one (pdt_cmp opD_lt (pd_ixE hr.units (pd_var 0) pd_int) (pd_callB len_D rfl G.b_len PySem.boot_len (pda_cons (pd_ixE hr.units (pd_var 0) pd_int) pda_nil)))))) (pdss_cons (pds_set (i := 2) sc__law_draw.nd (pd_ixE hr.units (pd_ixE hr.units (pd_var 0) pd_int) (pd_ixE hr.units (pd_var 0) pd_int)))
      (pdss_cons (pds_asg (vs := []) (pd_op opD_add (pd_ixE hr.units (pd_var 0) pd_int) pd_int) (pdg_ix (pd_var 0) pd_int))
      (pdss_one (pds_if (pdt_cmp opD_ge (pd_callB abs_D rfl G.b_abs (by decide +kernel) (pda_cons (pd_var 2) pda_nil)) (pd_op opD_pow pd_int pd_int)) (pdss_one (pds_asg (vs := []) (pd_callB abs_D rfl G.b_abs (by decide +kernel) (pda_cons (pd_var 2) pda_nil)) (pdg_ix (pd_var 0) pd_int))) (pdss_cons (pds_set (i := 3) sc__law_draw.nd (pd_op opD_add (pd_op opD_mulE (pd_op opD_mod (pd_callTy int_D rfl G.b_int (by decide +kernel) (pda_cons (pd_var 2) pda_nil)) pd_int) pd_int) pd_int))
      (pdss_one (pds_asg (vs := []) (pd_op opD_mod (pd_callTy int_D rfl G.b_int (by decide +kernel) (pda_cons (pd_op opD_add (pd_op opD_mulE (pd_ixE hr.units (pd_var 0) pd_int) pd_int) (pd_var 3)) pda_nil)) pd_int) (pdg_ix (pd_var 0) pd_int)))))))) pdss_nil)
      (pdss_cons (pds_if (pdt_cmp opD_gt (pd_ixE hr.units (pd_var 0) pd_int) pd_int) (pdss_cons (pds_set (i := 4) sc__law_draw.nd (pd_op opD_mod (pd_callTy int_D rfl G.b_int (by decide +kernel) (pda_cons (pd_ixE hr.units (pd_var 0) pd_int) pda_nil)) (pd_var 1)))
      (pdss_cons (pds_asg (vs := []) (pd_op opD_fdiv (pd_ixE hr.units (pd_var 0) pd_int) (pd_var 1)) (pdg_ix (pd_var 0) pd_int))
      (pdss_one (pds_ret (pd_var 4))))) pdss_nil)
      (pdss_cons (pds_set (i := 5) sc__law_draw.nd (pd_ixE hr.units (pd_var 0) pd_int))
      (pdss_cons (pds_set (i := 6) sc__law_draw.nd (pd_op opD_add (pd_op opD_add (pd_op opD_mulE (pd_var 5) pd_int) (pd_op opD_mulE (pd_ixE hr.units (pd_var 0) pd_int) pd_int)) pd_int))
      (pdss_cons (pds_asg (vs := []) (pd_op opD_mod (pd_callTy int_D rfl G.b_int (by decide +kernel) (pda_cons (pd_op opD_add (pd_op opD_mulE (pd_op opD_mulE (pd_var 5) (pd_var 5)) pd_int) (pd_var 6)) pda_nil)) pd_int) (pdg_ix (pd_var 0) pd_int))
      (pdss_one (pds_ret (pd_op opD_mod (pd_callTy int_D rfl G.b_int (by decide +kernel) (pda_cons (pd_op opD_add (pd_op opD_fdiv (pd_ixE hr.units (pd_var 0) pd_int) pd_int) (pd_op opD_mulE (pd_op opD_mod (pd_callTy int_D rfl G.b_int (by decide +kernel) (pda_cons (pd_ixE hr.units (pd_var 0) pd_int) pda_nil)) pd_int) pd_int)) pda_nil)) (pd_var 1))))))))))
theorem ok__law_draw (G : Gb P w K mg base cl) {dvs : List V} {kws : List (Str × V)} {f : Addr} {fd : FuncData} (F : FunD K "_law_draw" "_law_draw" (defArgs s__law_draw) (defBody s__law_draw) (defScope s__law_draw) dvs kws f fd) : FnOk P w K mg base (L2N.CX P w) 1 f fd ["_law_bag", "_law_sides"] (upX K cl tb sp0__law_draw) :=
  fnX F sc__law_draw (t := fun _ => t__law_draw) (fun cdv A outer sh H E0 c E hcc hr tk => dv__law_draw G cdv A outer sh H E0 c hcc hr) pure__law_draw
theorem dv__law_of (G : Gb P w K mg base cl) (F__law_draw : Fnd P w K mg base cl tb 1 "_law_draw" s__law_draw ["_law_bag", "_law_sides"] sp__law_draw) {f : Addr} (cdv : Value) (A : Around) (outer : List Env) (sh : Shared) (H : Hp) (E0 : XK) (c : Wd) (hcc : Cc cl tb c) (hr : Room 1 (A.deeper (PyProof.Rows.envOfC "_law_of" (defScope s__law_of) sh.heap.objs.size f cdv))) :
    PDSs c (cxOf (L2N.CX P w) P w K mg base ["_law_bag", "_law_things"] "_law_of" (defScope s__law_of) f cdv A outer sh H E0) (defBody s__law_of) (t__law_of) :=
    (pdss_one (pds_ret (pd_ixE hr.units (pd_var 1) (pd_call hcc F__law_draw (hr.mono (by decide)) tk0 (pda_cons (pd_var 0) (pda_cons (pd_callB len_D rfl G.b_len PySem.boot_len (pda_cons (pd_var 1) pda_nil)) pda_nil))))))
theorem ok__law_of (G : Gb P w K mg base cl) (F__law_draw : Fnd P w K mg base cl tb 1 "_law_draw" s__law_draw ["_law_bag", "_law_sides"] sp__law_draw) {dvs : List V} {kws : List (Str × V)} {f : Addr} {fd : FuncData} (F : FunD K "_law_of" "_law_of" (defArgs s__law_of) (defBody s__law_of) (defScope s__law_of) dvs kws f fd) : FnOk P w K mg base (L2N.CX P w) 2 f fd ["_law_bag", "_law_things"] (upX K cl tb sp__law_of) :=
  fnX F sc__law_of (t := fun _ => t__law_of) (fun cdv A outer sh H E0 c E hcc hr tk => dv__law_of G F__law_draw cdv A outer sh H E0 c hcc hr) pure__law_of
theorem dv__law_same (G : Gb P w K mg base cl) {sp__law_same : DSp} {k : Nat} (F__law_same : Fnd P w K mg base cl tb k "_law_same" s__law_same ["_law_found", "_law_due"] sp__law_same) {f : Addr} (cdv : Value) (A : Around) (outer : List Env) (sh : Shared) (H : Hp) (E0 : XK) (c : Wd) (hcc : Cc cl tb c) (hr : Room k (A.deeper (PyProof.Rows.envOfC "_law_same" (defScope s__law_same) sh.heap.objs.size f cdv))) :
    PDSs c (cxOf (L2N.CX P w) P w K mg base ["_law_found", "_law_due", "_law_key", "_law_one", "_law_other"] "_law_same" (defScope s__law_same) f cdv A outer sh H E0) (defBody s__law_same) (t__law_same sp__law_same) :=
    (pdss_cons (pds_if (PW.pt (pdw_or (pdt_cmp opD_is (pd_var 1) pd_non) (pdw_one (pdt_cmp opD_is (pd_var 0) pd_non)))) (pdss_one (pds_ret (pd_and (pd_cmp opD_is (pd_var 1) pd_non) (pd_one (pd_cmp opD_is (pd_var 0) pd_non))))) pdss_nil)
      (pdss_cons (pds_if (pdt_val (pd_callB isi_D rfl G.b_isinstance (by decide +kernel) (pda_cons (pd_var 1) (pda_cons (pd_ty G.b_dict (by decide +kernel)) pda_nil)))) (pdss_cons (pds_if (PW.pt (pdw_or (pdt_not (pdt_val (pd_callB isi_D rfl G.b_isinstance (by decide +kernel) (pda_cons (pd_var 0) (pda_cons (pd_ty G.b_dict (by decide +kernel)) pda_nil))))) (pdw_one (pdt_not (pdt_val (pd_call hcc F__law_same hr tk0 (pda_cons (pd_callTy lst_D rfl G.b_list (by decide +kernel) (pda_cons (pd_var 0) pda_nil)) (pda_cons (pd_callB (sort_D hr.units) rfl G.b_sorted (by decide +kernel) (pda_cons (pd_callTy lst_D rfl G.b_list (by decide +kernel) (pda_cons (pd_var 1) pda_nil)) pda_nil)) pda_nil)))))))) (pdss_one (pds_ret pd_bl)) pdss_nil)
      (pdss_one (pds_ret (pd_callB (all_D rfl) rfl G.b_all (by decide +kernel) (pda_cons (pd_lc (own := [("_law_key", 2)]) (us := [2]) rfl sc__law_same.nd (pdi_any (pd_var 1)) (blkOk_by (N := ["_law_found", "_law_due", "_law_key", "_law_one", "_law_other"]) (sc := defScope s__law_same) (own := [("_law_key", 2)]) (by decide +kernel)) (fun c1 sc1 _ _ _ _ _ => (pdg_name (i := 2) sc__law_same.nd)) (fun c1 sc1 _ _ _ _ _ => pdts_nil) (fun c1 sc1 _ _ _ _ _ => (pd_call (hcc.sc sc1) F__law_same hr tk0 (pda_cons (pd_ixE hr.units (pd_var 0) (pd_var 2)) (pda_cons (pd_ixE hr.units (pd_var 1) (pd_var 2)) pda_nil))))) pda_nil))))) pdss_nil)
      (pdss_cons (pds_if (pdt_val (pd_callB isi_D rfl G.b_isinstance (by decide +kernel) (pda_cons (pd_var 1) (pda_cons (pd_tup (pda_cons (pd_ty G.b_list (by decide +kernel)) (pda_cons (pd_ty G.b_tuple (by decide +kernel)) pda_nil))) pda_nil)))) (pdss_cons (pds_if (PW.pt (pdw_or (pdt_cmp (ne_flat hr.units) (pd_callB isi_D rfl G.b_isinstance (by decide +kernel) (pda_cons (pd_var 0) (pda_cons (pd_ty G.b_list (by decide +kernel)) pda_nil))) (pd_callB isi_D rfl G.b_isinstance (by decide +kernel) (pda_cons (pd_var 1) (pda_cons (pd_ty G.b_list (by decide +kernel)) pda_nil)))) (pdw_one (pdt_cmp (ne_flat hr.units) (pd_callB isi_D rfl G.b_isinstance (by decide +kernel) (pda_cons (pd_var 0) (pda_cons (pd_ty G.b_tuple (by decide +kernel)) pda_nil))) (pd_callB isi_D rfl G.b_isinstance (by decide +kernel) (pda_cons (pd_var 1) (pda_cons (pd_ty G.b_tuple (by decide +kernel)) pda_nil))))))) (pdss_one (pds_ret pd_bl)) pdss_nil)
      (pdss_one (pds_ret (pd_and (pd_cmp (eq_flat hr.units) (pd_callB len_D rfl G.b_len PySem.boot_len (pda_cons (pd_var 0) pda_nil)) (pd_callB len_D rfl G.b_len PySem.boot_len (pda_cons (pd_var 1) pda_nil))) (pd_one (pd_callB (all_D rfl) rfl G.b_all (by decide +kernel) (pda_cons (pd_lc (own := [("_law_one", 3), ("_law_other", 4)]) (us := [3, 4]) rfl sc__law_same.nd (pdi_zip G.b_zip (pda_cons (pd_var 0) (pda_cons (pd_var 1) pda_nil))) (blkOk_by (N := ["_law_found", "_law_due", "_law_key", "_law_one", "_law_other"]) (sc := defScope s__law_same) (own := [("_law_one", 3), ("_law_other", 4)]) (by decide +kernel)) (fun c1 sc1 _ _ _ _ _ => (pdg_tup rfl (pdgs_cons (pdg_name (i := 3) sc__law_same.nd) (pdgs_cons (pdg_name (i := 4) sc__law_same.nd) pdgs_nil)))) (fun c1 sc1 _ _ _ _ _ => pdts_nil) (fun c1 sc1 _ _ _ _ _ => (pd_call (hcc.sc sc1) F__law_same hr tk0 (pda_cons (pd_var 3) (pda_cons (pd_var 4) pda_nil))))) pda_nil))))))) pdss_nil)
      (pdss_cons (pds_if (PW.pt (pdw_or (pdt_cmp (ne_flat hr.units) (pd_callB isi_D rfl G.b_isinstance (by decide +kernel) (pda_cons (pd_var 1) (pda_cons (pd_ty G.b_bool (by decide +kernel)) pda_nil))) (pd_callB isi_D rfl G.b_isinstance (by decide +kernel) (pda_cons (pd_var 0) (pda_cons (pd_ty G.b_bool (by decide +kernel)) pda_nil)))) (pdw_one (pdt_cmp (ne_flat hr.units) (pd_callB isi_D rfl G.b_isinstance (by decide +kernel) (pda_cons (pd_var 1) (pda_cons (pd_ty G.b_int (by decide +kernel)) pda_nil))) (pd_callB isi_D rfl G.b_isinstance (by decide +kernel) (pda_cons (pd_var 0) (pda_cons (pd_ty G.b_int (by decide +kernel)) pda_nil))))))) (pdss_one (pds_ret pd_bl)) pdss_nil)
      (pdss_one (pds_ret (pd_and (pd_cmp (eq_flat hr.units) (pd_callB isi_D rfl G.b_isinstance (by decide +kernel) (pda_cons (pd_var 1) (pda_cons (pd_ty G.b_str (by decide +kernel)) pda_nil))) (pd_callB isi_D rfl G.b_isinstance (by decide +kernel) (pda_cons (pd_var 0) (pda_cons (pd_ty G.b_str (by decide +kernel)) pda_nil)))) (pd_one (pd_cmp (eq_flat hr.units) (pd_var 0) (pd_var 1))))))))))
theorem same_ok (G : Gb P w K mg base cl) {f : Addr} {fd : FuncData} (F : FunD K "_law_same" "_law_same" (defArgs s__law_same) (defBody s__law_same) (defScope s__law_same) [] [] f fd) (hm : mg "_law_same" = some (.ref f)) (hb : Binds K fd ["_law_found", "_law_due"] []) : ∀ n : Nat, Fnd P w K mg base cl tb (n + 2) "_law_same" s__law_same ["_law_found", "_law_due"] (spSame n)
  | 0 => ⟨f, fd, F, fnX F sc__law_same (t := fun _ => t__law_same (spPrev 0)) (fun cdv A outer sh H E c E' hcc hr _ => dv__law_same (sp__law_same := spPrev 0) G (Fnd.no F hm hb) cdv A outer sh H E c hcc hr) (pure__law_same 0), hm, hb⟩
  | n + 1 => ⟨f, fd, F, fnX F sc__law_same (t := fun _ => t__law_same (spPrev (n + 1))) (fun cdv A outer sh H E c E' hcc hr _ => dv__law_same (sp__law_same := spPrev (n + 1)) G (same_ok G F hm hb n) cdv A outer sh H E c hcc hr) (pure__law_same (n + 1)), hm, hb⟩
theorem dv__law_field (G : Gb P w K mg base cl) {f : Addr} (cdv : Value) (A : Around) (outer : List Env) (sh : Shared) (H : Hp) (E : XK) (p : Addr × Obj) (c : Wd) (m : Str) (dd : Addr) (hcl : c.cl = cl) (hex : c.ex = some (p.1, c.cl m, dd)) (hz : L2N.Zn (.ref (c.cl m)) (some dd) p.2) (hv : ∃ vs, p.2.data = .fields vs) (hr : L2H.RoomH 0 (A.deeper (PyProof.Rows.envOfC "_law_field" (defScope s__law_field) sh.heap.objs.size f cdv))) :
    PDSs c (L2H.cxH CX0 P w K mg base ["_law_e"] "_law_field" (defScope s__law_field) f cdv A outer sh H E p) (defBody s__law_field) (t__law_field xnames) :=
    (pdss_cons (pds_if (pdt_cmp (opD_inE (RoomH.units hr)) (pd_xf (G.xf hcl (by decide)) hex List.mem_cons_self hz hv (pd_var 0)) (pd_lst (pda_cons pd_str (pda_cons pd_str (pda_cons pd_str (pda_cons pd_str (pda_cons pd_str (pda_cons pd_str pda_nil)))))))) (pdss_one (pds_ret (pd_tup (pda_cons (pd_xf (G.xf hcl (by decide)) hex List.mem_cons_self hz hv (pd_var 0)) pda_nil)))) pdss_nil)
      (pdss_cons (pds_if (pdt_cmp (opD_inE (RoomH.units hr)) (pd_xf (G.xf hcl (by decide)) hex List.mem_cons_self hz hv (pd_var 0)) (pd_lst (pda_cons pd_str (pda_cons pd_str (pda_cons pd_str (pda_cons pd_str pda_nil)))))) (pdss_one (pds_ret (pd_tup (pda_cons (pd_xf (G.xf hcl (by decide)) hex List.mem_cons_self hz hv (pd_var 0)) pda_nil)))) pdss_nil)
      (pdss_cons (pds_if (pdt_cmp (eq_flat (RoomH.units hr)) (pd_xf (G.xf hcl (by decide)) hex List.mem_cons_self hz hv (pd_var 0)) pd_str) (pdss_one (pds_ret (pd_tup (pda_cons (pd_xf (G.xf hcl (by decide)) hex List.mem_cons_self hz hv (pd_var 0)) pda_nil)))) pdss_nil)
      (pdss_cons (pds_if (pdt_cmp (eq_flat (RoomH.units hr)) (pd_xf (G.xf hcl (by decide)) hex List.mem_cons_self hz hv (pd_var 0)) pd_str) (pdss_one (pds_ret (pd_tup (pda_cons (pd_xf (G.xf hcl (by decide)) hex List.mem_cons_self hz hv (pd_var 0)) (pda_cons (pd_xf (G.xf hcl (by decide)) hex List.mem_cons_self hz hv (pd_var 0)) pda_nil))))) pdss_nil)
      (pdss_one (pds_ret (pd_if (pdt_cmp (eq_flat (RoomH.units hr)) (pd_xf (G.xf hcl (by decide)) hex List.mem_cons_self hz hv (pd_var 0)) pd_str) (pd_tup (pda_cons (pd_xf (G.xf hcl (by decide)) hex List.mem_cons_self hz hv (pd_var 0)) pda_nil)) (pd_tup pda_nil))))))))
theorem ok__law_field (G : Gb P w K mg base cl) {f : Addr} {fd : FuncData} (F : FunD K "_law_field" "_law_field" (defArgs s__law_field) (defBody s__law_field) (defScope s__law_field) [] [] f fd) : FnHp P w K mg base CX0 1 f fd ["_law_e"] (upH K cl (sp__law_field xnames)) :=
  fnH F sc__law_field (fun cdv A outer sh H E p c m dd hcl hex hz hv hr => dv__law_field G cdv A outer sh H E p c m dd hcl hex hz hv hr) (pure__law_field xnames)
theorem dv__law_try (G : Gb P w K mg base cl) (F__law_field : FndH P w K mg base cl 1 "_law_field" s__law_field ["_law_e"] (sp__law_field xnames)) {g : Addr} {A : Around} {outer : List Env} (f : Addr) (tl : DAct) (cdv : Value) (s : Shared) (H : Hp) (cg : Wd) (hcc : Cc cl tb cg) (hr : Room 1 (A.deeper (PyProof.Rows.envOfC "_law_try" (defScope s__law_try) s.heap.objs.size g cdv)))
    (act : ∀ (cb : Wd) (E' : DXK) (pn : List (Addr × Obj)) (xe : Value → Shared → Prop) (p1 p2 : Pos), Cc cl tb cb → Kp cg cb → Tk cb ((cxOf CX0 P w K mg base ["_law_ask", "_law_e"] "_law_try" (defScope s__law_try) g cdv A outer s H E0).tr pn xe) E' → PD cb ((cxOf CX0 P w K mg base ["_law_ask", "_law_e"] "_law_try" (defScope s__law_try) g cdv A outer s H E0).tr pn xe) (.Call (.Name "_law_ask" p1) [] [] p2) (dAct f tl E')) :
    PDSs cg (cxOf CX0 P w K mg base ["_law_ask", "_law_e"] "_law_try" (defScope s__law_try) g cdv A outer s H E0) (defBody s__law_try) (t__law_try xnames f tl) :=
    (pdss_one (pds_try2 (i := 1) (G.cat hcc.cl) hcc.ex sc__law_try.nd ⟨rfl, by decide, .inl G.g_SkyError⟩ ⟨rfl, by decide, .inl G.g_Missing⟩
      (fun cb E' pn xe kp tk hp => (pdss_one (pds_ret (pd_tup (pda_cons pd_str (pda_cons (act cb E' pn xe _ _ (hcc.sc kp.sc) kp tk) pda_nil))))))
      (fun c2 a oe m dd pn hcl2 htb2 hex2 hz hv => (pdss_one (pds_ret (pd_tup (pda_cons (pd_xf (G.xf (hcl2.trans hcc.cl) (by decide)) hex2 List.mem_cons_self hz hv (pd_var 1)) (pda_cons (pd_callH (hcl2.trans hcc.cl) hex2 List.mem_cons_self rfl hz hv F__law_field ((roomH_suite hr a).mono (by decide)) (pda_cons (pd_var 1) pda_nil)) pda_nil))))))))
theorem dv__law_tries {X : Cx} {k : Nat} (G : Gb X.prog X.w X.K X.mg X.base cl) {g__law_try : Addr} {fd__law_try : FuncData} (F__law_try : FunD X.K "_law_try" "_law_try" (defArgs s__law_try) (defBody s__law_try) (defScope s__law_try) [] [] g__law_try fd__law_try ∧ X.mg "_law_try" = some (.ref g__law_try) ∧ L2.Binds X.K fd__law_try ["_law_ask"] []) (F__law_field : FndH X.prog X.w X.K X.mg X.base cl 1 "_law_field" s__law_field ["_law_e"] (sp__law_field xnames)) {gt : Addr} (cdv : Value) (s : Shared) (H : Hp) (cg : Wd) (acts : List (Addr × DAct)) (hcc : Cc cl tb cg) (hr : Room (k + 2) (X.A.deeper (PyProof.Rows.envOfC "_law_tries" (defScope s__law_tries) s.heap.objs.size gt cdv)))
    (ha : ActsAt cl tb k cg X s H (X.A.deeper (PyProof.Rows.envOfC "_law_tries" (defScope s__law_tries) s.heap.objs.size gt cdv)) (PyProof.Rows.envOfC "_law_tries" (defScope s__law_tries) s.heap.objs.size gt cdv :: X.stack) ["_law_ask", "_law_e"] "_law_try" s__law_try g__law_try "_law_ask" acts) :
    PDSs cg (cxOf CX0 X.prog X.w X.K X.mg X.base ["_law_asks", "_law_ask"] "_law_tries" (defScope s__law_tries) gt cdv X.A X.stack s H E0) (defBody s__law_tries) (t__law_tries xnames acts) :=
    (pdss_one (pds_ret (pd_lcA (own := [("_law_ask", 1)]) (us := [1]) rfl sc__law_tries.nd (pdi_any (pd_var 0)) (blkOk_by (N := ["_law_asks", "_law_ask"]) (sc := defScope s__law_tries) (own := [("_law_ask", 1)]) (by decide +kernel)) (fun c1 sc1 _ _ _ _ _ => (pdg_name (i := 1) sc__law_tries.nd)) (fun c1 kp1 _ _ _ _ _ en => (pd_callA (k := k) (Ng := ["_law_ask", "_law_e"]) (hcc.sc kp1.sc) F__law_try.1 F__law_try.2.1 F__law_try.2.2 sc__law_try (fun cdv2 s2 H2 f2 cg2 tl hcc2 hr2 act => dv__law_try G F__law_field f2 tl cdv2 s2 H2 cg2 hcc2 (hr2.mono (by omega)) act) (pure__law_try xnames) (acts_blk ha kp1 en) hr (pd_var 1))))))
theorem dv__law_kinds (G : Gb P w K mg base cl) {f : Addr} (cdv : Value) (A : Around) (outer : List Env) (sh : Shared) (H : Hp) (E0 : XK) (c : Wd) (hcc : Cc cl tb c) (hr : Room 0 (A.deeper (PyProof.Rows.envOfC "_law_kinds" (defScope s__law_kinds) sh.heap.objs.size f cdv))) :
    PDSs c (cxOf (L2N.CX P w) P w K mg base [] "_law_kinds" (defScope s__law_kinds) f cdv A outer sh H E0) (defBody s__law_kinds) (t__law_kinds) :=
    (pdss_one (pds_ret (pd_lst (pda_cons pd_str (pda_cons pd_str (pda_cons pd_str (pda_cons pd_str (pda_cons pd_str (pda_cons pd_str (pda_cons pd_str (pda_cons pd_str pda_nil)))))))))))
theorem ok__law_kinds (G : Gb P w K mg base cl) {dvs : List V} {kws : List (Str × V)} {f : Addr} {fd : FuncData} (F : FunD K "_law_kinds" "_law_kinds" (defArgs s__law_kinds) (defBody s__law_kinds) (defScope s__law_kinds) dvs kws f fd) : FnOk P w K mg base (L2N.CX P w) 1 f fd [] (upX K cl tb sp__law_kinds) :=
  fnXz F sc__law_kinds (t := fun _ => t__law_kinds) (fun cdv A outer sh H E0 c E hcc hr tk => dv__law_kinds G cdv A outer sh H E0 c hcc hr) pure__law_kinds
theorem dv__law_is_squall (G : Gb P w K mg base cl) {f : Addr} (cdv : Value) (A : Around) (outer : List Env) (sh : Shared) (H : Hp) (E0 : XK) (c : Wd) (hcc : Cc cl tb c) (hr : Room 0 (A.deeper (PyProof.Rows.envOfC "_law_is_squall" (defScope s__law_is_squall) sh.heap.objs.size f cdv))) :
    PDSs c (cxOf (L2N.CX P w) P w K mg base ["_law_kind"] "_law_is_squall" (defScope s__law_is_squall) f cdv A outer sh H E0) (defBody s__law_is_squall) (t__law_is_squall) :=
    (pdss_one (pds_ret (pd_cmp (opD_inE hr.units) (pd_var 0) (pd_tup (pda_cons pd_str (pda_cons pd_str pda_nil))))))
theorem ok__law_is_squall (G : Gb P w K mg base cl) {dvs : List V} {kws : List (Str × V)} {f : Addr} {fd : FuncData} (F : FunD K "_law_is_squall" "_law_is_squall" (defArgs s__law_is_squall) (defBody s__law_is_squall) (defScope s__law_is_squall) dvs kws f fd) : FnOk P w K mg base (L2N.CX P w) 1 f fd ["_law_kind"] (upX K cl tb sp__law_is_squall) :=
  fnXz F sc__law_is_squall (t := fun _ => t__law_is_squall) (fun cdv A outer sh H E0 c E hcc hr tk => dv__law_is_squall G cdv A outer sh H E0 c hcc hr) pure__law_is_squall
theorem dv__law_bounds (G : Gb P w K mg base cl) {f : Addr} (cdv : Value) (A : Around) (outer : List Env) (sh : Shared) (H : Hp) (E0 : XK) (c : Wd) (hcc : Cc cl tb c) (hr : Room 0 (A.deeper (PyProof.Rows.envOfC "_law_bounds" (defScope s__law_bounds) sh.heap.objs.size f cdv))) :
    PDSs c (cxOf (L2N.CX P w) P w K mg base ["_law_kind"] "_law_bounds" (defScope s__law_bounds) f cdv A outer sh H E0) (defBody s__law_bounds) (t__law_bounds) :=
    (pdss_cons (pds_if (pdt_cmp (opD_inE hr.units) (pd_var 0) (pd_tup (pda_cons pd_str (pda_cons pd_str pda_nil)))) (pdss_one (pds_ret (pd_lst (pda_cons (pd_tup (pda_cons pd_int (pda_cons pd_int pda_nil))) pda_nil)))) pdss_nil)
      (pdss_cons (pds_if (pdt_cmp (eq_flat hr.units) (pd_var 0) pd_str) (pdss_one (pds_ret (pd_lst (pda_cons (pd_tup (pda_cons pd_int (pda_cons pd_int pda_nil))) (pda_cons (pd_tup (pda_cons pd_int (pda_cons pd_int pda_nil))) pda_nil))))) pdss_nil)
      (pdss_cons (pds_if (pdt_cmp (eq_flat hr.units) (pd_var 0) pd_str) (pdss_one (pds_ret (pd_lst (pda_cons (pd_tup (pda_cons (pd_neg pd_int) (pda_cons pd_int pda_nil))) pda_nil)))) pdss_nil)
      (pdss_one (pds_ret (pd_if (pdt_cmp (eq_flat hr.units) (pd_var 0) pd_str) (pd_lst (pda_cons (pd_tup (pda_cons (pd_neg pd_int) (pda_cons pd_int pda_nil))) pda_nil)) (pd_lst (pda_cons (pd_tup (pda_cons pd_int (pda_cons pd_int pda_nil))) pda_nil))))))))
theorem ok__law_bounds (G : Gb P w K mg base cl) {dvs : List V} {kws : List (Str × V)} {f : Addr} {fd : FuncData} (F : FunD K "_law_bounds" "_law_bounds" (defArgs s__law_bounds) (defBody s__law_bounds) (defScope s__law_bounds) dvs kws f fd) : FnOk P w K mg base (L2N.CX P w) 1 f fd ["_law_kind"] (upX K cl tb sp__law_bounds) :=
  fnXz F sc__law_bounds (t := fun _ => t__law_bounds) (fun cdv A outer sh H E0 c E hcc hr tk => dv__law_bounds G cdv A outer sh H E0 c hcc hr) pure__law_bounds
theorem dv__law_any_number (G : Gb P w K mg base cl) (F__law_draw : Fnd P w K mg base cl tb 1 "_law_draw" s__law_draw ["_law_bag", "_law_sides"] sp__law_draw) (F__law_of : Fnd P w K mg base cl tb 2 "_law_of" s__law_of ["_law_bag", "_law_things"] sp__law_of) {f : Addr} (cdv : Value) (A : Around) (outer : List Env) (sh : Shared) (H : Hp) (E0 : XK) (c : Wd) (hcc : Cc cl tb c) (hr : Room 2 (A.deeper (PyProof.Rows.envOfC "_law_any_number" (defScope s__law_any_number) sh.heap.objs.size f cdv))) :
    PDSs c (cxOf (L2N.CX P w) P w K mg base ["_law_bag", "_law_ends", "_law_least", "_law_most", "_law_small"] "_law_any_number" (defScope s__law_any_number) f cdv A outer sh H E0) (defBody s__law_any_number) (t__law_any_number) :=
    (pdss_cons (pds_asg (vs := [2, 3]) (pd_var 1) (pdg_tup rfl (pdgs_cons (pdg_name (i := 2) sc__law_any_number.nd) (pdgs_cons (pdg_name (i := 3) sc__law_any_number.nd) pdgs_nil))))
      (pdss_cons (pds_set (i := 4) sc__law_any_number.nd (pd_callB (min_D rfl) rfl G.b_min (by decide +kernel) (pda_cons (pd_var 3) (pda_cons (pd_callB (max_D rfl) rfl G.b_max (by decide +kernel) (pda_cons (pd_var 2) (pda_cons (pd_op opD_sub (pd_call hcc F__law_draw (hr.mono (by decide)) tk0 (pda_cons (pd_var 0) (pda_cons pd_int pda_nil))) pd_int) pda_nil))) pda_nil))))
      (pdss_one (pds_ret (pd_call hcc F__law_of (hr.mono (by decide)) tk0 (pda_cons (pd_var 0) (pda_cons (pd_lst (pda_cons (pd_var 2) (pda_cons (pd_var 3) (pda_cons (pd_op opD_add (pd_var 2) (pd_call hcc F__law_draw (hr.mono (by decide)) tk0 (pda_cons (pd_var 0) (pda_cons (pd_op opD_add (pd_op opD_sub (pd_var 3) (pd_var 2)) pd_int) pda_nil)))) (pda_cons (pd_var 4) pda_nil))))) pda_nil)))))))
theorem ok__law_any_number (G : Gb P w K mg base cl) (F__law_draw : Fnd P w K mg base cl tb 1 "_law_draw" s__law_draw ["_law_bag", "_law_sides"] sp__law_draw) (F__law_of : Fnd P w K mg base cl tb 2 "_law_of" s__law_of ["_law_bag", "_law_things"] sp__law_of) {dvs : List V} {kws : List (Str × V)} {f : Addr} {fd : FuncData} (F : FunD K "_law_any_number" "_law_any_number" (defArgs s__law_any_number) (defBody s__law_any_number) (defScope s__law_any_number) dvs kws f fd) : FnOk P w K mg base (L2N.CX P w) 3 f fd ["_law_bag", "_law_ends"] (upX K cl tb sp__law_any_number) :=
  fnXz F sc__law_any_number (t := fun _ => t__law_any_number) (fun cdv A outer sh H E0 c E hcc hr tk => dv__law_any_number G F__law_draw F__law_of cdv A outer sh H E0 c hcc hr) pure__law_any_number
theorem dv__law_any_gauge (G : Gb P w K mg base cl) (F__law_of : Fnd P w K mg base cl tb 2 "_law_of" s__law_of ["_law_bag", "_law_things"] sp__law_of) {f : Addr} (cdv : Value) (A : Around) (outer : List Env) (sh : Shared) (H : Hp) (E0 : XK) (c : Wd) (hcc : Cc cl tb c) (hr : Room 2 (A.deeper (PyProof.Rows.envOfC "_law_any_gauge" (defScope s__law_any_gauge) sh.heap.objs.size f cdv))) :
    PDSs c (cxOf (L2N.CX P w) P w K mg base ["_law_bag"] "_law_any_gauge" (defScope s__law_any_gauge) f cdv A outer sh H E0) (defBody s__law_any_gauge) (t__law_any_gauge) :=
    (pdss_one (pds_ret (pd_call hcc F__law_of (hr.mono (by decide)) tk0 (pda_cons (pd_var 0) (pda_cons (pd_lst (pda_cons pd_non (pda_cons pd_non (pda_cons pd_str (pda_cons pd_str (pda_cons pd_str (pda_cons pd_str (pda_cons pd_str (pda_cons pd_str pda_nil))))))))) pda_nil)))))
theorem ok__law_any_gauge (G : Gb P w K mg base cl) (F__law_of : Fnd P w K mg base cl tb 2 "_law_of" s__law_of ["_law_bag", "_law_things"] sp__law_of) {dvs : List V} {kws : List (Str × V)} {f : Addr} {fd : FuncData} (F : FunD K "_law_any_gauge" "_law_any_gauge" (defArgs s__law_any_gauge) (defBody s__law_any_gauge) (defScope s__law_any_gauge) dvs kws f fd) : FnOk P w K mg base (L2N.CX P w) 3 f fd ["_law_bag"] (upX K cl tb sp__law_any_gauge) :=
  fnXz F sc__law_any_gauge (t := fun _ => t__law_any_gauge) (fun cdv A outer sh H E0 c E hcc hr tk => dv__law_any_gauge G F__law_of cdv A outer sh H E0 c hcc hr) pure__law_any_gauge
theorem dv__law_any_place (G : Gb P w K mg base cl) (F__law_draw : Fnd P w K mg base cl tb 1 "_law_draw" s__law_draw ["_law_bag", "_law_sides"] sp__law_draw) (F__law_of : Fnd P w K mg base cl tb 2 "_law_of" s__law_of ["_law_bag", "_law_things"] sp__law_of) {f : Addr} (cdv : Value) (A : Around) (outer : List Env) (sh : Shared) (H : Hp) (E0 : XK) (c : Wd) (hcc : Cc cl tb c) (hr : Room 2 (A.deeper (PyProof.Rows.envOfC "_law_any_place" (defScope s__law_any_place) sh.heap.objs.size f cdv))) :
    PDSs c (cxOf (L2N.CX P w) P w K mg base ["_law_bag"] "_law_any_place" (defScope s__law_any_place) f cdv A outer sh H E0) (defBody s__law_any_place) (t__law_any_place) :=
    (pdss_one (pds_ret (pd_tup (pda_cons (pd_call hcc F__law_of (hr.mono (by decide)) tk0 (pda_cons (pd_var 0) (pda_cons (pd_lst (pda_cons pd_int (pda_cons pd_int (pda_cons (pd_call hcc F__law_draw (hr.mono (by decide)) tk0 (pda_cons (pd_var 0) (pda_cons pd_int pda_nil))) pda_nil)))) pda_nil))) (pda_cons (pd_call hcc F__law_draw (hr.mono (by decide)) tk0 (pda_cons (pd_var 0) (pda_cons pd_int pda_nil))) (pda_cons (pd_call hcc F__law_draw (hr.mono (by decide)) tk0 (pda_cons (pd_var 0) (pda_cons pd_int pda_nil))) pda_nil))))))
theorem ok__law_any_place (G : Gb P w K mg base cl) (F__law_draw : Fnd P w K mg base cl tb 1 "_law_draw" s__law_draw ["_law_bag", "_law_sides"] sp__law_draw) (F__law_of : Fnd P w K mg base cl tb 2 "_law_of" s__law_of ["_law_bag", "_law_things"] sp__law_of) {dvs : List V} {kws : List (Str × V)} {f : Addr} {fd : FuncData} (F : FunD K "_law_any_place" "_law_any_place" (defArgs s__law_any_place) (defBody s__law_any_place) (defScope s__law_any_place) dvs kws f fd) : FnOk P w K mg base (L2N.CX P w) 3 f fd ["_law_bag"] (upX K cl tb sp__law_any_place) :=
  fnXz F sc__law_any_place (t := fun _ => t__law_any_place) (fun cdv A outer sh H E0 c E hcc hr tk => dv__law_any_place G F__law_draw F__law_of cdv A outer sh H E0 c hcc hr) pure__law_any_place
theorem dv__law_any_region (G : Gb P w K mg base cl) (F__law_any_place : Fnd P w K mg base cl tb 3 "_law_any_place" s__law_any_place ["_law_bag"] sp__law_any_place) (F__law_draw : Fnd P w K mg base cl tb 1 "_law_draw" s__law_draw ["_law_bag", "_law_sides"] sp__law_draw) {f : Addr} (cdv : Value) (A : Around) (outer : List Env) (sh : Shared) (H : Hp) (E0 : XK) (c : Wd) (hcc : Cc cl tb c) (hr : Room 3 (A.deeper (PyProof.Rows.envOfC "_law_any_region" (defScope s__law_any_region) sh.heap.objs.size f cdv))) :
    PDSs c (cxOf (L2N.CX P w) P w K mg base ["_law_bag", "_law_most", "_law_k"] "_law_any_region" (defScope s__law_any_region) f cdv A outer sh H E0) (defBody s__law_any_region) (t__law_any_region) :=
    (pdss_one (pds_ret (pd_callTy tup_D rfl G.b_tuple (by decide +kernel) (pda_cons (pd_sortSet hr.units rfl (pd_lc (own := [("_law_k", 2)]) (us := [2]) rfl sc__law_any_region.nd (pdi_range1 G.b_range (pda_cons (pd_op opD_add pd_int (pd_call hcc F__law_draw (hr.mono (by decide)) tk0 (pda_cons (pd_var 0) (pda_cons (pd_var 1) pda_nil)))) pda_nil)) (blkOk_by (N := ["_law_bag", "_law_most", "_law_k"]) (sc := defScope s__law_any_region) (own := [("_law_k", 2)]) (by decide +kernel)) (fun c1 sc1 _ _ _ _ _ => (pdg_name (i := 2) sc__law_any_region.nd)) (fun c1 sc1 _ _ _ _ _ => pdts_nil) (fun c1 sc1 _ _ _ _ _ => (pd_call (hcc.sc sc1) F__law_any_place (hr.mono (by decide)) tk0 (pda_cons (pd_var 0) pda_nil)))) G.b_sorted G.b_set) pda_nil))))
theorem ok__law_any_region (G : Gb P w K mg base cl) (F__law_any_place : Fnd P w K mg base cl tb 3 "_law_any_place" s__law_any_place ["_law_bag"] sp__law_any_place) (F__law_draw : Fnd P w K mg base cl tb 1 "_law_draw" s__law_draw ["_law_bag", "_law_sides"] sp__law_draw) {dvs : List V} {kws : List (Str × V)} {f : Addr} {fd : FuncData} (F : FunD K "_law_any_region" "_law_any_region" (defArgs s__law_any_region) (defBody s__law_any_region) (defScope s__law_any_region) dvs kws f fd) : FnOk P w K mg base (L2N.CX P w) 4 f fd ["_law_bag", "_law_most"] (upX K cl tb sp__law_any_region) :=
  fnXz F sc__law_any_region (t := fun _ => t__law_any_region) (fun cdv A outer sh H E0 c E hcc hr tk => dv__law_any_region G F__law_any_place F__law_draw cdv A outer sh H E0 c hcc hr) pure__law_any_region
theorem dv__law_any_saying (G : Gb P w K mg base cl) (F__law_any_gauge : Fnd P w K mg base cl tb 3 "_law_any_gauge" s__law_any_gauge ["_law_bag"] sp__law_any_gauge) (F__law_any_number : Fnd P w K mg base cl tb 3 "_law_any_number" s__law_any_number ["_law_bag", "_law_ends"] sp__law_any_number) (F__law_any_place : Fnd P w K mg base cl tb 3 "_law_any_place" s__law_any_place ["_law_bag"] sp__law_any_place) (F__law_any_region : Fnd P w K mg base cl tb 4 "_law_any_region" s__law_any_region ["_law_bag", "_law_most"] sp__law_any_region) (F__law_bounds : Fnd P w K mg base cl tb 1 "_law_bounds" s__law_bounds ["_law_kind"] sp__law_bounds) (F__law_is_squall : Fnd P w K mg base cl tb 1 "_law_is_squall" s__law_is_squall ["_law_kind"] sp__law_is_squall) {f : Addr} (cdv : Value) (A : Around) (outer : List Env) (sh : Shared) (H : Hp) (E0 : XK) (c : Wd) (hcc : Cc cl tb c) (hr : Room 4 (A.deeper (PyProof.Rows.envOfC "_law_any_saying" (defScope s__law_any_saying) sh.heap.objs.size f cdv))) :
    PDSs c (cxOf (L2N.CX P w) P w K mg base ["_law_bag", "_law_kind", "_law_nums", "_law_ends", "_law_many", "_law_k"] "_law_any_saying" (defScope s__law_any_saying) f cdv A outer sh H E0) (defBody s__law_any_saying) (t__law_any_saying) :=
    (pdss_cons (pds_set (i := 2) sc__law_any_saying.nd (pd_callTy tup_D rfl G.b_tuple (by decide +kernel) (pda_cons (pd_lc (own := [("_law_ends", 3)]) (us := [3]) rfl sc__law_any_saying.nd (pdi_any (pd_call hcc F__law_bounds (hr.mono (by decide)) tk0 (pda_cons (pd_var 1) pda_nil))) (blkOk_by (N := ["_law_bag", "_law_kind", "_law_nums", "_law_ends", "_law_many", "_law_k"]) (sc := defScope s__law_any_saying) (own := [("_law_ends", 3)]) (by decide +kernel)) (fun c1 sc1 _ _ _ _ _ => (pdg_name (i := 3) sc__law_any_saying.nd)) (fun c1 sc1 _ _ _ _ _ => pdts_nil) (fun c1 sc1 _ _ _ _ _ => (pd_call (hcc.sc sc1) F__law_any_number (hr.mono (by decide)) tk0 (pda_cons (pd_var 0) (pda_cons (pd_var 3) pda_nil))))) pda_nil)))
      (pdss_cons (pds_if (pdt_val (pd_call hcc F__law_is_squall (hr.mono (by decide)) tk0 (pda_cons (pd_var 1) pda_nil))) (pdss_one (pds_ret (pd_tup (pda_cons (pd_var 1) (pda_cons (pd_var 2) (pda_cons (pd_tup (pda_cons (pd_tup (pda_cons (pd_call hcc F__law_any_place (hr.mono (by decide)) tk0 (pda_cons (pd_var 0) pda_nil)) pda_nil)) pda_nil)) (pda_cons (pd_call hcc F__law_any_gauge (hr.mono (by decide)) tk0 (pda_cons (pd_var 0) pda_nil)) pda_nil))))))) pdss_nil)
      (pdss_cons (pds_set (i := 4) sc__law_any_saying.nd (pd_if (pdt_cmp (opD_inE hr.units) (pd_var 1) (pd_tup (pda_cons pd_str (pda_cons pd_str (pda_cons pd_str pda_nil))))) pd_int pd_int))
      (pdss_one (pds_ret (pd_tup (pda_cons (pd_var 1) (pda_cons (pd_var 2) (pda_cons (pd_callTy tup_D rfl G.b_tuple (by decide +kernel) (pda_cons (pd_lc (own := [("_law_k", 5)]) (us := [5]) rfl sc__law_any_saying.nd (pdi_range1 G.b_range (pda_cons (pd_var 4) pda_nil)) (blkOk_by (N := ["_law_bag", "_law_kind", "_law_nums", "_law_ends", "_law_many", "_law_k"]) (sc := defScope s__law_any_saying) (own := [("_law_k", 5)]) (by decide +kernel)) (fun c1 sc1 _ _ _ _ _ => (pdg_name (i := 5) sc__law_any_saying.nd)) (fun c1 sc1 _ _ _ _ _ => pdts_nil) (fun c1 sc1 _ _ _ _ _ => (pd_call (hcc.sc sc1) F__law_any_region (hr.mono (by decide)) tk0 (pda_cons (pd_var 0) (pda_cons pd_int pda_nil))))) pda_nil)) (pda_cons (pd_call hcc F__law_any_gauge (hr.mono (by decide)) tk0 (pda_cons (pd_var 0) pda_nil)) pda_nil))))))))))
theorem ok__law_any_saying (G : Gb P w K mg base cl) (F__law_any_gauge : Fnd P w K mg base cl tb 3 "_law_any_gauge" s__law_any_gauge ["_law_bag"] sp__law_any_gauge) (F__law_any_number : Fnd P w K mg base cl tb 3 "_law_any_number" s__law_any_number ["_law_bag", "_law_ends"] sp__law_any_number) (F__law_any_place : Fnd P w K mg base cl tb 3 "_law_any_place" s__law_any_place ["_law_bag"] sp__law_any_place) (F__law_any_region : Fnd P w K mg base cl tb 4 "_law_any_region" s__law_any_region ["_law_bag", "_law_most"] sp__law_any_region) (F__law_bounds : Fnd P w K mg base cl tb 1 "_law_bounds" s__law_bounds ["_law_kind"] sp__law_bounds) (F__law_is_squall : Fnd P w K mg base cl tb 1 "_law_is_squall" s__law_is_squall ["_law_kind"] sp__law_is_squall) {dvs : List V} {kws : List (Str × V)} {f : Addr} {fd : FuncData} (F : FunD K "_law_any_saying" "_law_any_saying" (defArgs s__law_any_saying) (defBody s__law_any_saying) (defScope s__law_any_saying) dvs kws f fd) : FnOk P w K mg base (L2N.CX P w) 5 f fd ["_law_bag", "_law_kind"] (upX K cl tb sp__law_any_saying) :=
  fnXz F sc__law_any_saying (t := fun _ => t__law_any_saying) (fun cdv A outer sh H E0 c E hcc hr tk => dv__law_any_saying G F__law_any_gauge F__law_any_number F__law_any_place F__law_any_region F__law_bounds F__law_is_squall cdv A outer sh H E0 c hcc hr) pure__law_any_saying
theorem dv__law_call (G : Gb P w K mg base cl) (G_at_least_2_gauge : FndK P w K mg base cl tb 5 "at_least" 2 ["gauge"] ["region", "amount", "gauge"] (fun ds es => ds ++ es) sp_at_least) (G_at_most_2_gauge : FndK P w K mg base cl tb 5 "at_most" 2 ["gauge"] ["region", "limit", "gauge"] (fun ds es => ds ++ es) sp_at_most) (G_exactly_2_gauge : FndK P w K mg base cl tb 5 "exactly" 2 ["gauge"] ["region", "limit", "gauge"] (fun ds es => ds ++ es) sp_exactly) (G_if_then_4_gauge : FndK P w K mg base cl tb 5 "if_then" 4 ["gauge"] ["region", "amount", "other", "least", "gauge"] (fun ds es => ds ++ es) sp_if_then) (G_level_3_gauge : FndK P w K mg base cl tb 5 "level" 3 ["gauge"] ["region", "other", "more", "gauge"] (fun ds es => ds ++ es) sp_level) (G_squall_least_2_gauge : FndK P w K mg base cl tb 5 "squall_least" 2 ["gauge"] ["place", "amount", "gauge"] (fun ds es => ds ++ es) sp_squall_least) (G_squall_most_2_gauge : FndK P w K mg base cl tb 5 "squall_most" 2 ["gauge"] ["place", "limit", "gauge"] (fun ds es => ds ++ es) sp_squall_most) (G_under_3_gauge : FndK P w K mg base cl tb 5 "under" 3 ["gauge"] ["region", "other", "more", "gauge"] (fun ds es => ds ++ es) sp_under) {f : Addr} (cdv : Value) (A : Around) (outer : List Env) (sh : Shared) (H : Hp) (E0 : XK) (c : Wd) (E : DXK) (hcc : Cc cl tb c) (hr : Room 5 (A.deeper (PyProof.Rows.envOfC "_law_call" (defScope s__law_call) sh.heap.objs.size f cdv))) (tk : Tk c (cxOf (L2N.CX P w) P w K mg base ["_law_kind", "_law_regs", "_law_nums", "_law_by_z"] "_law_call" (defScope s__law_call) f cdv A outer sh H E0) E) :
    PDSs c (cxOf (L2N.CX P w) P w K mg base ["_law_kind", "_law_regs", "_law_nums", "_law_by_z"] "_law_call" (defScope s__law_call) f cdv A outer sh H E0) (defBody s__law_call) (t__law_call E) :=
    (pdss_cons (pds_if (pdt_cmp (eq_flat hr.units) (pd_var 0) pd_str) (pdss_one (pds_ret (pd_callG (ks := ["gauge"]) hcc G_at_most_2_gauge (hr.mono (by decide)) tk (pda_cons (pd_ixE hr.units (pd_var 1) pd_int) (pda_cons (pd_ixE hr.units (pd_var 2) pd_int) pda_nil)) (pdk_cons (pd_var 3) pdk_nil)))) pdss_nil)
      (pdss_cons (pds_if (pdt_cmp (eq_flat hr.units) (pd_var 0) pd_str) (pdss_one (pds_ret (pd_callG (ks := ["gauge"]) hcc G_at_least_2_gauge (hr.mono (by decide)) tk (pda_cons (pd_ixE hr.units (pd_var 1) pd_int) (pda_cons (pd_ixE hr.units (pd_var 2) pd_int) pda_nil)) (pdk_cons (pd_var 3) pdk_nil)))) pdss_nil)
      (pdss_cons (pds_if (pdt_cmp (eq_flat hr.units) (pd_var 0) pd_str) (pdss_one (pds_ret (pd_callG (ks := ["gauge"]) hcc G_exactly_2_gauge (hr.mono (by decide)) tk (pda_cons (pd_ixE hr.units (pd_var 1) pd_int) (pda_cons (pd_ixE hr.units (pd_var 2) pd_int) pda_nil)) (pdk_cons (pd_var 3) pdk_nil)))) pdss_nil)
      (pdss_cons (pds_if (pdt_cmp (eq_flat hr.units) (pd_var 0) pd_str) (pdss_one (pds_ret (pd_callG (ks := ["gauge"]) hcc G_under_3_gauge (hr.mono (by decide)) tk (pda_cons (pd_ixE hr.units (pd_var 1) pd_int) (pda_cons (pd_ixE hr.units (pd_var 1) pd_int) (pda_cons (pd_ixE hr.units (pd_var 2) pd_int) pda_nil))) (pdk_cons (pd_var 3) pdk_nil)))) pdss_nil)
      (pdss_cons (pds_if (pdt_cmp (eq_flat hr.units) (pd_var 0) pd_str) (pdss_one (pds_ret (pd_callG (ks := ["gauge"]) hcc G_level_3_gauge (hr.mono (by decide)) tk (pda_cons (pd_ixE hr.units (pd_var 1) pd_int) (pda_cons (pd_ixE hr.units (pd_var 1) pd_int) (pda_cons (pd_ixE hr.units (pd_var 2) pd_int) pda_nil))) (pdk_cons (pd_var 3) pdk_nil)))) pdss_nil)
      (pdss_cons (pds_if (pdt_cmp (eq_flat hr.units) (pd_var 0) pd_str) (pdss_one (pds_ret (pd_callG (ks := ["gauge"]) hcc G_if_then_4_gauge (hr.mono (by decide)) tk (pda_cons (pd_ixE hr.units (pd_var 1) pd_int) (pda_cons (pd_ixE hr.units (pd_var 2) pd_int) (pda_cons (pd_ixE hr.units (pd_var 1) pd_int) (pda_cons (pd_ixE hr.units (pd_var 2) pd_int) pda_nil)))) (pdk_cons (pd_var 3) pdk_nil)))) pdss_nil)
      (pdss_cons (pds_if (pdt_cmp (eq_flat hr.units) (pd_var 0) pd_str) (pdss_one (pds_ret (pd_callG (ks := ["gauge"]) hcc G_squall_most_2_gauge (hr.mono (by decide)) tk (pda_cons (pd_ixE hr.units (pd_var 1) pd_int) (pda_cons (pd_ixE hr.units (pd_var 2) pd_int) pda_nil)) (pdk_cons (pd_var 3) pdk_nil)))) pdss_nil)
      (pdss_one (pds_ret (pd_callG (ks := ["gauge"]) hcc G_squall_least_2_gauge (hr.mono (by decide)) tk (pda_cons (pd_ixE hr.units (pd_var 1) pd_int) (pda_cons (pd_ixE hr.units (pd_var 2) pd_int) pda_nil)) (pdk_cons (pd_var 3) pdk_nil)))))))))))
theorem ok__law_call (G : Gb P w K mg base cl) (G_at_least_2_gauge : FndK P w K mg base cl tb 5 "at_least" 2 ["gauge"] ["region", "amount", "gauge"] (fun ds es => ds ++ es) sp_at_least) (G_at_most_2_gauge : FndK P w K mg base cl tb 5 "at_most" 2 ["gauge"] ["region", "limit", "gauge"] (fun ds es => ds ++ es) sp_at_most) (G_exactly_2_gauge : FndK P w K mg base cl tb 5 "exactly" 2 ["gauge"] ["region", "limit", "gauge"] (fun ds es => ds ++ es) sp_exactly) (G_if_then_4_gauge : FndK P w K mg base cl tb 5 "if_then" 4 ["gauge"] ["region", "amount", "other", "least", "gauge"] (fun ds es => ds ++ es) sp_if_then) (G_level_3_gauge : FndK P w K mg base cl tb 5 "level" 3 ["gauge"] ["region", "other", "more", "gauge"] (fun ds es => ds ++ es) sp_level) (G_squall_least_2_gauge : FndK P w K mg base cl tb 5 "squall_least" 2 ["gauge"] ["place", "amount", "gauge"] (fun ds es => ds ++ es) sp_squall_least) (G_squall_most_2_gauge : FndK P w K mg base cl tb 5 "squall_most" 2 ["gauge"] ["place", "limit", "gauge"] (fun ds es => ds ++ es) sp_squall_most) (G_under_3_gauge : FndK P w K mg base cl tb 5 "under" 3 ["gauge"] ["region", "other", "more", "gauge"] (fun ds es => ds ++ es) sp_under) {dvs : List V} {kws : List (Str × V)} {f : Addr} {fd : FuncData} (F : FunD K "_law_call" "_law_call" (defArgs s__law_call) (defBody s__law_call) (defScope s__law_call) dvs kws f fd) : FnOk P w K mg base (L2N.CX P w) 6 f fd ["_law_kind", "_law_regs", "_law_nums", "_law_by_z"] (upX K cl tb sp__law_call) :=
  fnXz F sc__law_call (t := fun E => t__law_call E) (fun cdv A outer sh H E0 c E hcc hr tk => dv__law_call G G_at_least_2_gauge G_at_most_2_gauge G_exactly_2_gauge G_if_then_4_gauge G_level_3_gauge G_squall_least_2_gauge G_squall_most_2_gauge G_under_3_gauge cdv A outer sh H E0 c E hcc hr tk) pure__law_call
theorem dv__law_made (G : Gb P w K mg base cl) (F__law_call : Fnd P w K mg base cl tb 6 "_law_call" s__law_call ["_law_kind", "_law_regs", "_law_nums", "_law_by_z"] sp__law_call) (F__law_is_squall : Fnd P w K mg base cl tb 1 "_law_is_squall" s__law_is_squall ["_law_kind"] sp__law_is_squall) {f : Addr} (cdv : Value) (A : Around) (outer : List Env) (sh : Shared) (H : Hp) (E0 : XK) (c : Wd) (E : DXK) (hcc : Cc cl tb c) (hr : Room 6 (A.deeper (PyProof.Rows.envOfC "_law_made" (defScope s__law_made) sh.heap.objs.size f cdv))) (tk : Tk c (cxOf (L2N.CX P w) P w K mg base ["_law_one", "_law_kind", "_law_nums", "_law_regs", "_law_by_z", "_law_region"] "_law_made" (defScope s__law_made) f cdv A outer sh H E0) E) :
    PDSs c (cxOf (L2N.CX P w) P w K mg base ["_law_one", "_law_kind", "_law_nums", "_law_regs", "_law_by_z", "_law_region"] "_law_made" (defScope s__law_made) f cdv A outer sh H E0) (defBody s__law_made) (t__law_made E) :=
    (pdss_cons (pds_asg (vs := [1, 2, 3, 4]) (pd_var 0) (pdg_tup rfl (pdgs_cons (pdg_name (i := 1) sc__law_made.nd) (pdgs_cons (pdg_name (i := 2) sc__law_made.nd) (pdgs_cons (pdg_name (i := 3) sc__law_made.nd) (pdgs_cons (pdg_name (i := 4) sc__law_made.nd) pdgs_nil))))))
      (pdss_cons (pds_if (pdt_val (pd_call hcc F__law_is_squall (hr.mono (by decide)) tk0 (pda_cons (pd_var 1) pda_nil))) (pdss_one (pds_ret (pd_call hcc F__law_call (hr.mono (by decide)) tk (pda_cons (pd_var 1) (pda_cons (pd_lst (pda_cons (pd_ixE hr.units (pd_ixE hr.units (pd_var 3) pd_int) pd_int) pda_nil)) (pda_cons (pd_var 2) (pda_cons (pd_var 4) pda_nil))))))) pdss_nil)
      (pdss_one (pds_ret (pd_call hcc F__law_call (hr.mono (by decide)) tk (pda_cons (pd_var 1) (pda_cons (pd_lc (own := [("_law_region", 5)]) (us := [5]) rfl sc__law_made.nd (pdi_any (pd_var 3)) (blkOk_by (N := ["_law_one", "_law_kind", "_law_nums", "_law_regs", "_law_by_z", "_law_region"]) (sc := defScope s__law_made) (own := [("_law_region", 5)]) (by decide +kernel)) (fun c1 sc1 _ _ _ _ _ => (pdg_name (i := 5) sc__law_made.nd)) (fun c1 sc1 _ _ _ _ _ => pdts_nil) (fun c1 sc1 _ _ _ _ _ => (pd_callTy lst_D rfl G.b_list (by decide +kernel) (pda_cons (pd_var 5) pda_nil)))) (pda_cons (pd_var 2) (pda_cons (pd_var 4) pda_nil)))))))))
theorem ok__law_made (G : Gb P w K mg base cl) (F__law_call : Fnd P w K mg base cl tb 6 "_law_call" s__law_call ["_law_kind", "_law_regs", "_law_nums", "_law_by_z"] sp__law_call) (F__law_is_squall : Fnd P w K mg base cl tb 1 "_law_is_squall" s__law_is_squall ["_law_kind"] sp__law_is_squall) {dvs : List V} {kws : List (Str × V)} {f : Addr} {fd : FuncData} (F : FunD K "_law_made" "_law_made" (defArgs s__law_made) (defBody s__law_made) (defScope s__law_made) dvs kws f fd) : FnOk P w K mg base (L2N.CX P w) 7 f fd ["_law_one"] (upX K cl tb sp__law_made) :=
  fnXz F sc__law_made (t := fun E => t__law_made E) (fun cdv A outer sh H E0 c E hcc hr tk => dv__law_made G F__law_call F__law_is_squall cdv A outer sh H E0 c E hcc hr tk) pure__law_made
theorem dv__law_told (G : Gb P w K mg base cl) (F_Saying_numbers : Mtd P w K mg base cl tb 1 "Saying" "numbers" ["self"] sp_Saying_numbers) (F_Saying_regions : Mtd P w K mg base cl tb 1 "Saying" "regions" ["self"] sp_Saying_regions) {f : Addr} (cdv : Value) (A : Around) (outer : List Env) (sh : Shared) (H : Hp) (E0 : XK) (c : Wd) (hcc : Cc cl tb c) (hr : Room 1 (A.deeper (PyProof.Rows.envOfC "_law_told" (defScope s__law_told) sh.heap.objs.size f cdv))) :
    PDSs c (cxOf (L2N.CX P w) P w K mg base ["_law_made_here"] "_law_told" (defScope s__law_told) f cdv A outer sh H E0) (defBody s__law_told) (t__law_told) :=
    (pdss_one (pds_ret (pd_tup (pda_cons (pd_fld hcc.cl G.cls_Saying (pd_var 0)) (pda_cons (pd_callTy tup_D rfl G.b_tuple (by decide +kernel) (pda_cons (pd_meth0 hcc F_Saying_numbers (hr.mono (by decide)) tk0 (pd_var 0)) pda_nil)) (pda_cons (pd_callTy tup_D rfl G.b_tuple (by decide +kernel) (pda_cons (pd_meth0 hcc F_Saying_regions (hr.mono (by decide)) tk0 (pd_var 0)) pda_nil)) (pda_cons (pd_fld hcc.cl G.cls_Saying (pd_var 0)) pda_nil)))))))
theorem ok__law_told (G : Gb P w K mg base cl) (F_Saying_numbers : Mtd P w K mg base cl tb 1 "Saying" "numbers" ["self"] sp_Saying_numbers) (F_Saying_regions : Mtd P w K mg base cl tb 1 "Saying" "regions" ["self"] sp_Saying_regions) {dvs : List V} {kws : List (Str × V)} {f : Addr} {fd : FuncData} (F : FunD K "_law_told" "_law_told" (defArgs s__law_told) (defBody s__law_told) (defScope s__law_told) dvs kws f fd) : FnOk P w K mg base (L2N.CX P w) 2 f fd ["_law_made_here"] (upX K cl tb sp__law_told) :=
  fnXz F sc__law_told (t := fun _ => t__law_told) (fun cdv A outer sh H E0 c E hcc hr tk => dv__law_told G F_Saying_numbers F_Saying_regions cdv A outer sh H E0 c hcc hr) pure__law_told
theorem dv__law_is_word (G : Gb P w K mg base cl) {f : Addr} (cdv : Value) (A : Around) (outer : List Env) (sh : Shared) (H : Hp) (E0 : XK) (c : Wd) (hcc : Cc cl tb c) (hr : Room 0 (A.deeper (PyProof.Rows.envOfC "_law_is_word" (defScope s__law_is_word) sh.heap.objs.size f cdv))) :
    PDSs c (cxOf (L2N.CX P w) P w K mg base ["_law_text", "_law_sign"] "_law_is_word" (defScope s__law_is_word) f cdv A outer sh H E0) (defBody s__law_is_word) (t__law_is_word) :=
    (pdss_one (pds_ret (pd_and (pd_chain opD_le opD_le pd_int (pd_callB len_D rfl G.b_len PySem.boot_len (pda_cons (pd_var 0) pda_nil)) pd_int) (pd_one (pd_callB (all_D rfl) rfl G.b_all (by decide +kernel) (pda_cons (pd_lc (own := [("_law_sign", 1)]) (us := [1]) rfl sc__law_is_word.nd (pdi_any (pd_var 0)) (blkOk_by (N := ["_law_text", "_law_sign"]) (sc := defScope s__law_is_word) (own := [("_law_sign", 1)]) (by decide +kernel)) (fun c1 sc1 _ _ _ _ _ => (pdg_name (i := 1) sc__law_is_word.nd)) (fun c1 sc1 _ _ _ _ _ => pdts_nil) (fun c1 sc1 _ _ _ _ _ => (pd_cmp (opD_inE hr.units) (pd_var 1) pd_str))) pda_nil))))))
theorem ok__law_is_word (G : Gb P w K mg base cl) {dvs : List V} {kws : List (Str × V)} {f : Addr} {fd : FuncData} (F : FunD K "_law_is_word" "_law_is_word" (defArgs s__law_is_word) (defBody s__law_is_word) (defScope s__law_is_word) dvs kws f fd) : FnOk P w K mg base (L2N.CX P w) 1 f fd ["_law_text"] (upX K cl tb sp__law_is_word) :=
  fnXz F sc__law_is_word (t := fun _ => t__law_is_word) (fun cdv A outer sh H E0 c E hcc hr tk => dv__law_is_word G cdv A outer sh H E0 c hcc hr) pure__law_is_word
theorem dv__law_is_place (G : Gb P w K mg base cl) {f : Addr} (cdv : Value) (A : Around) (outer : List Env) (sh : Shared) (H : Hp) (E0 : XK) (c : Wd) (hcc : Cc cl tb c) (hr : Room 0 (A.deeper (PyProof.Rows.envOfC "_law_is_place" (defScope s__law_is_place) sh.heap.objs.size f cdv))) :
    PDSs c (cxOf (L2N.CX P w) P w K mg base ["_law_value", "_law_part"] "_law_is_place" (defScope s__law_is_place) f cdv A outer sh H E0) (defBody s__law_is_place) (t__law_is_place) :=
    (pdss_cons (pds_if (PW.pt (pdw_or (pdt_not (pdt_val (pd_callB isi_D rfl G.b_isinstance (by decide +kernel) (pda_cons (pd_var 0) (pda_cons (pd_ty G.b_tuple (by decide +kernel)) pda_nil))))) (pdw_one (pdt_cmp (ne_flat hr.units) (pd_callB len_D rfl G.b_len PySem.boot_len (pda_cons (pd_var 0) pda_nil)) pd_int)))) (pdss_one (pds_ret pd_bl)) pdss_nil)
      (pdss_cons (pds_if (pdt_not (pdt_val (pd_callB (all_D rfl) rfl G.b_all (by decide +kernel) (pda_cons (pd_lc (own := [("_law_part", 1)]) (us := [1]) rfl sc__law_is_place.nd (pdi_any (pd_var 0)) (blkOk_by (N := ["_law_value", "_law_part"]) (sc := defScope s__law_is_place) (own := [("_law_part", 1)]) (by decide +kernel)) (fun c1 sc1 _ _ _ _ _ => (pdg_name (i := 1) sc__law_is_place.nd)) (fun c1 sc1 _ _ _ _ _ => pdts_nil) (fun c1 sc1 _ _ _ _ _ => (pd_and (pd_callB isi_D rfl G.b_isinstance (by decide +kernel) (pda_cons (pd_var 1) (pda_cons (pd_ty G.b_int (by decide +kernel)) pda_nil))) (pd_one (pd_not (pd_callB isi_D rfl G.b_isinstance (by decide +kernel) (pda_cons (pd_var 1) (pda_cons (pd_ty G.b_bool (by decide +kernel)) pda_nil)))))))) pda_nil)))) (pdss_one (pds_ret pd_bl)) pdss_nil)
      (pdss_one (pds_ret (pd_and (pd_chain opD_le opD_le pd_int (pd_ixE hr.units (pd_var 0) pd_int) pd_int) (pd_and (pd_chain opD_le opD_le pd_int (pd_ixE hr.units (pd_var 0) pd_int) pd_int) (pd_one (pd_chain opD_le opD_le pd_int (pd_ixE hr.units (pd_var 0) pd_int) pd_int))))))))
theorem ok__law_is_place (G : Gb P w K mg base cl) {dvs : List V} {kws : List (Str × V)} {f : Addr} {fd : FuncData} (F : FunD K "_law_is_place" "_law_is_place" (defArgs s__law_is_place) (defBody s__law_is_place) (defScope s__law_is_place) dvs kws f fd) : FnOk P w K mg base (L2N.CX P w) 1 f fd ["_law_value"] (upX K cl tb sp__law_is_place) :=
  fnXz F sc__law_is_place (t := fun _ => t__law_is_place) (fun cdv A outer sh H E0 c E hcc hr tk => dv__law_is_place G cdv A outer sh H E0 c hcc hr) pure__law_is_place
theorem dv__law_odd_gauge (G : Gb P w K mg base cl) (F__law_of : Fnd P w K mg base cl tb 2 "_law_of" s__law_of ["_law_bag", "_law_things"] sp__law_of) {f : Addr} (cdv : Value) (A : Around) (outer : List Env) (sh : Shared) (H : Hp) (E0 : XK) (c : Wd) (hcc : Cc cl tb c) (hr : Room 2 (A.deeper (PyProof.Rows.envOfC "_law_odd_gauge" (defScope s__law_odd_gauge) sh.heap.objs.size f cdv))) :
    PDSs c (cxOf (L2N.CX P w) P w K mg base ["_law_bag"] "_law_odd_gauge" (defScope s__law_odd_gauge) f cdv A outer sh H E0) (defBody s__law_odd_gauge) (t__law_odd_gauge) :=
    (pdss_one (pds_ret (pd_call hcc F__law_of (hr.mono (by decide)) tk0 (pda_cons (pd_var 0) (pda_cons (pd_lst (pda_cons pd_str (pda_cons pd_str (pda_cons pd_str (pda_cons pd_int (pda_cons pd_bl (pda_cons (pd_lst (pda_cons pd_str pda_nil)) (pda_cons (pd_tup (pda_cons pd_str pda_nil)) (pda_cons pd_str (pda_cons pd_str (pda_cons pd_int pda_nil))))))))))) pda_nil)))))
theorem ok__law_odd_gauge (G : Gb P w K mg base cl) (F__law_of : Fnd P w K mg base cl tb 2 "_law_of" s__law_of ["_law_bag", "_law_things"] sp__law_of) {dvs : List V} {kws : List (Str × V)} {f : Addr} {fd : FuncData} (F : FunD K "_law_odd_gauge" "_law_odd_gauge" (defArgs s__law_odd_gauge) (defBody s__law_odd_gauge) (defScope s__law_odd_gauge) dvs kws f fd) : FnOk P w K mg base (L2N.CX P w) 3 f fd ["_law_bag"] (upX K cl tb sp__law_odd_gauge) :=
  fnXz F sc__law_odd_gauge (t := fun _ => t__law_odd_gauge) (fun cdv A outer sh H E0 c E hcc hr tk => dv__law_odd_gauge G F__law_of cdv A outer sh H E0 c hcc hr) pure__law_odd_gauge
theorem dv__law_odd_region (G : Gb P w K mg base cl) (F__law_of : Fnd P w K mg base cl tb 2 "_law_of" s__law_of ["_law_bag", "_law_things"] sp__law_of) {f : Addr} (cdv : Value) (A : Around) (outer : List Env) (sh : Shared) (H : Hp) (E0 : XK) (c : Wd) (hcc : Cc cl tb c) (hr : Room 2 (A.deeper (PyProof.Rows.envOfC "_law_odd_region" (defScope s__law_odd_region) sh.heap.objs.size f cdv))) :
    PDSs c (cxOf (L2N.CX P w) P w K mg base ["_law_bag", "_law_good", "_law_bad", "_law_at"] "_law_odd_region" (defScope s__law_odd_region) f cdv A outer sh H E0) (defBody s__law_odd_region) (t__law_odd_region) :=
    (pdss_cons (pds_par sc__law_odd_region.nd (pda_cons (pd_tup (pda_cons pd_int (pda_cons pd_int (pda_cons pd_int pda_nil)))) (pda_cons (pd_call hcc F__law_of (hr.mono (by decide)) tk0 (pda_cons (pd_var 0) (pda_cons (pd_lst (pda_cons pd_non (pda_cons (pd_tup (pda_cons pd_int (pda_cons pd_int pda_nil))) (pda_cons (pd_lst (pda_cons pd_int (pda_cons pd_int (pda_cons pd_int pda_nil)))) (pda_cons (pd_tup (pda_cons pd_int (pda_cons pd_int (pda_cons pd_int pda_nil)))) (pda_cons (pd_tup (pda_cons (pd_neg pd_int) (pda_cons pd_int (pda_cons pd_int pda_nil)))) (pda_cons (pd_tup (pda_cons pd_int (pda_cons pd_int (pda_cons pd_int pda_nil)))) (pda_cons (pd_tup (pda_cons pd_int (pda_cons pd_int (pda_cons pd_int pda_nil)))) (pda_cons (pd_tup (pda_cons pd_bl (pda_cons pd_int (pda_cons pd_int pda_nil)))) (pda_cons (pd_tup (pda_cons pd_str (pda_cons pd_int (pda_cons pd_int pda_nil)))) (pda_cons (pd_tup (pda_cons pd_int (pda_cons pd_int (pda_cons pd_int (pda_cons pd_int pda_nil))))) (pda_cons pd_int (pda_cons pd_str (pda_cons (pd_tup pda_nil) pda_nil)))))))))))))) pda_nil))) pda_nil)) (ps_par (by rfl) sc__law_odd_region.nd rfl rfl (by decide) rfl rfl (pda_cons (pd_tup (pda_cons pd_int (pda_cons pd_int (pda_cons pd_int pda_nil)))) (pda_cons (pd_call hcc F__law_of (hr.mono (by decide)) tk0 (pda_cons (pd_var 0) (pda_cons (pd_lst (pda_cons pd_non (pda_cons (pd_tup (pda_cons pd_int (pda_cons pd_int pda_nil))) (pda_cons (pd_lst (pda_cons pd_int (pda_cons pd_int (pda_cons pd_int pda_nil)))) (pda_cons (pd_tup (pda_cons pd_int (pda_cons pd_int (pda_cons pd_int pda_nil)))) (pda_cons (pd_tup (pda_cons (pd_neg pd_int) (pda_cons pd_int (pda_cons pd_int pda_nil)))) (pda_cons (pd_tup (pda_cons pd_int (pda_cons pd_int (pda_cons pd_int pda_nil)))) (pda_cons (pd_tup (pda_cons pd_int (pda_cons pd_int (pda_cons pd_int pda_nil)))) (pda_cons (pd_tup (pda_cons pd_bl (pda_cons pd_int (pda_cons pd_int pda_nil)))) (pda_cons (pd_tup (pda_cons pd_str (pda_cons pd_int (pda_cons pd_int pda_nil)))) (pda_cons (pd_tup (pda_cons pd_int (pda_cons pd_int (pda_cons pd_int (pda_cons pd_int pda_nil))))) (pda_cons pd_int (pda_cons pd_str (pda_cons (pd_tup pda_nil) pda_nil)))))))))))))) pda_nil))) pda_nil)) (by rfl)))
      (pdss_cons (pds_set (i := 3) sc__law_odd_region.nd (pd_call hcc F__law_of (hr.mono (by decide)) tk0 (pda_cons (pd_var 0) (pda_cons (pd_lst (pda_cons pd_int (pda_cons pd_int (pda_cons pd_int (pda_cons pd_int pda_nil))))) pda_nil))))
      (pdss_one (pds_ret (pd_call hcc F__law_of (hr.mono (by decide)) tk0 (pda_cons (pd_var 0) (pda_cons (pd_lst (pda_cons pd_non (pda_cons pd_int (pda_cons pd_str (pda_cons pd_bl (pda_cons (pd_lst pda_nil) (pda_cons (pd_tup pda_nil) (pda_cons (pd_op opD_mulE (pd_lst (pda_cons (pd_var 1) pda_nil)) pd_int) (pda_cons (pd_op opD_mulE (pd_lst (pda_cons (pd_var 1) pda_nil)) pd_int) (pda_cons (pd_callTy tup_D rfl G.b_tuple (by decide +kernel) (pda_cons (pd_op opD_mulE (pd_lst (pda_cons (pd_var 1) pda_nil)) pd_int) pda_nil)) (pda_cons (pd_var 1) (pda_cons (pd_lst (pda_cons (pd_var 2) pda_nil)) (pda_cons (pd_op opD_add (pd_op opD_mulE (pd_lst (pda_cons (pd_var 1) pda_nil)) (pd_var 3)) (pd_lst (pda_cons (pd_var 2) pda_nil))) (pda_cons (pd_lst (pda_cons (pd_var 1) (pda_cons (pd_var 2) (pda_cons pd_non pda_nil)))) (pda_cons (pd_lst (pda_cons (pd_tup (pda_cons pd_int (pda_cons pd_int (pda_cons pd_int pda_nil)))) pda_nil)) (pda_cons (pd_tup (pda_cons (pd_tup (pda_cons pd_int (pda_cons pd_int (pda_cons pd_int pda_nil)))) (pda_cons (pd_var 1) pda_nil))) pda_nil)))))))))))))))) pda_nil)))))))
theorem ok__law_odd_region (G : Gb P w K mg base cl) (F__law_of : Fnd P w K mg base cl tb 2 "_law_of" s__law_of ["_law_bag", "_law_things"] sp__law_of) {dvs : List V} {kws : List (Str × V)} {f : Addr} {fd : FuncData} (F : FunD K "_law_odd_region" "_law_odd_region" (defArgs s__law_odd_region) (defBody s__law_odd_region) (defScope s__law_odd_region) dvs kws f fd) : FnOk P w K mg base (L2N.CX P w) 3 f fd ["_law_bag"] (upX K cl tb sp__law_odd_region) :=
  fnXz F sc__law_odd_region (t := fun _ => t__law_odd_region) (fun cdv A outer sh H E0 c E hcc hr tk => dv__law_odd_region G F__law_of cdv A outer sh H E0 c hcc hr) pure__law_odd_region
theorem dv__law_odd_place (G : Gb P w K mg base cl) (F__law_of : Fnd P w K mg base cl tb 2 "_law_of" s__law_of ["_law_bag", "_law_things"] sp__law_of) {f : Addr} (cdv : Value) (A : Around) (outer : List Env) (sh : Shared) (H : Hp) (E0 : XK) (c : Wd) (hcc : Cc cl tb c) (hr : Room 2 (A.deeper (PyProof.Rows.envOfC "_law_odd_place" (defScope s__law_odd_place) sh.heap.objs.size f cdv))) :
    PDSs c (cxOf (L2N.CX P w) P w K mg base ["_law_bag"] "_law_odd_place" (defScope s__law_odd_place) f cdv A outer sh H E0) (defBody s__law_odd_place) (t__law_odd_place) :=
    (pdss_one (pds_ret (pd_call hcc F__law_of (hr.mono (by decide)) tk0 (pda_cons (pd_var 0) (pda_cons (pd_lst (pda_cons pd_non (pda_cons pd_int (pda_cons pd_str (pda_cons (pd_lst (pda_cons pd_int (pda_cons pd_int (pda_cons pd_int pda_nil)))) (pda_cons (pd_tup (pda_cons pd_int (pda_cons pd_int pda_nil))) (pda_cons (pd_tup (pda_cons pd_int (pda_cons pd_int (pda_cons pd_int pda_nil)))) (pda_cons (pd_tup (pda_cons pd_int (pda_cons pd_int (pda_cons pd_int pda_nil)))) (pda_cons (pd_tup (pda_cons pd_int (pda_cons pd_int (pda_cons (pd_neg pd_int) pda_nil)))) (pda_cons (pd_tup (pda_cons pd_int (pda_cons pd_bl (pda_cons pd_int pda_nil)))) (pda_cons (pd_tup (pda_cons pd_int (pda_cons pd_int (pda_cons pd_int pda_nil)))) (pda_cons (pd_lst (pda_cons (pd_tup (pda_cons pd_int (pda_cons pd_int (pda_cons pd_int pda_nil)))) pda_nil)) (pda_cons (pd_tup (pda_cons pd_int (pda_cons pd_int (pda_cons pd_int (pda_cons pd_int pda_nil))))) pda_nil))))))))))))) pda_nil)))))
theorem ok__law_odd_place (G : Gb P w K mg base cl) (F__law_of : Fnd P w K mg base cl tb 2 "_law_of" s__law_of ["_law_bag", "_law_things"] sp__law_of) {dvs : List V} {kws : List (Str × V)} {f : Addr} {fd : FuncData} (F : FunD K "_law_odd_place" "_law_odd_place" (defArgs s__law_odd_place) (defBody s__law_odd_place) (defScope s__law_odd_place) dvs kws f fd) : FnOk P w K mg base (L2N.CX P w) 3 f fd ["_law_bag"] (upX K cl tb sp__law_odd_place) :=
  fnXz F sc__law_odd_place (t := fun _ => t__law_odd_place) (fun cdv A outer sh H E0 c E hcc hr tk => dv__law_odd_place G F__law_of cdv A outer sh H E0 c hcc hr) pure__law_odd_place
theorem dv__law_odd_number (G : Gb P w K mg base cl) (F__law_of : Fnd P w K mg base cl tb 2 "_law_of" s__law_of ["_law_bag", "_law_things"] sp__law_of) {f : Addr} (cdv : Value) (A : Around) (outer : List Env) (sh : Shared) (H : Hp) (E0 : XK) (c : Wd) (hcc : Cc cl tb c) (hr : Room 2 (A.deeper (PyProof.Rows.envOfC "_law_odd_number" (defScope s__law_odd_number) sh.heap.objs.size f cdv))) :
    PDSs c (cxOf (L2N.CX P w) P w K mg base ["_law_bag", "_law_ends"] "_law_odd_number" (defScope s__law_odd_number) f cdv A outer sh H E0) (defBody s__law_odd_number) (t__law_odd_number) :=
    (pdss_one (pds_ret (pd_call hcc F__law_of (hr.mono (by decide)) tk0 (pda_cons (pd_var 0) (pda_cons (pd_lst (pda_cons (pd_op opD_sub (pd_ixE hr.units (pd_var 1) pd_int) pd_int) (pda_cons (pd_op opD_add (pd_ixE hr.units (pd_var 1) pd_int) pd_int) (pda_cons pd_non (pda_cons pd_bl (pda_cons pd_bl (pda_cons pd_str (pda_cons (pd_tup (pda_cons pd_int pda_nil)) (pda_cons (pd_lst (pda_cons pd_int pda_nil)) (pda_cons (pd_op opD_pow pd_int pd_int) (pda_cons (pd_neg (pd_op opD_pow pd_int pd_int)) pda_nil))))))))))) pda_nil)))))
theorem ok__law_odd_number (G : Gb P w K mg base cl) (F__law_of : Fnd P w K mg base cl tb 2 "_law_of" s__law_of ["_law_bag", "_law_things"] sp__law_of) {dvs : List V} {kws : List (Str × V)} {f : Addr} {fd : FuncData} (F : FunD K "_law_odd_number" "_law_odd_number" (defArgs s__law_odd_number) (defBody s__law_odd_number) (defScope s__law_odd_number) dvs kws f fd) : FnOk P w K mg base (L2N.CX P w) 3 f fd ["_law_bag", "_law_ends"] (upX K cl tb sp__law_odd_number) :=
  fnXz F sc__law_odd_number (t := fun _ => t__law_odd_number) (fun cdv A outer sh H E0 c E hcc hr tk => dv__law_odd_number G F__law_of cdv A outer sh H E0 c hcc hr) pure__law_odd_number
theorem dv__law_region_due (G : Gb P w K mg base cl) (F__law_is_place : Fnd P w K mg base cl tb 1 "_law_is_place" s__law_is_place ["_law_value"] sp__law_is_place) {f : Addr} (cdv : Value) (A : Around) (outer : List Env) (sh : Shared) (H : Hp) (E0 : XK) (c : Wd) (hcc : Cc cl tb c) (hr : Room 1 (A.deeper (PyProof.Rows.envOfC "_law_region_due" (defScope s__law_region_due) sh.heap.objs.size f cdv))) :
    PDSs c (cxOf (L2N.CX P w) P w K mg base ["_law_value", "_law_k"] "_law_region_due" (defScope s__law_region_due) f cdv A outer sh H E0) (defBody s__law_region_due) (t__law_region_due) :=
    (pdss_cons (pds_if (PW.pt (pdw_or (pdt_not (pdt_val (pd_callB isi_D rfl G.b_isinstance (by decide +kernel) (pda_cons (pd_var 0) (pda_cons (pd_tup (pda_cons (pd_ty G.b_list (by decide +kernel)) (pda_cons (pd_ty G.b_tuple (by decide +kernel)) pda_nil))) pda_nil))))) (pdw_one (pdt_not (pdt_chain opD_le opD_le pd_int (pd_callB len_D rfl G.b_len PySem.boot_len (pda_cons (pd_var 0) pda_nil)) pd_int))))) (pdss_one (pds_ret (pd_lst (pda_cons (pd_tup (pda_cons pd_str (pda_cons (pd_tup (pda_cons (pd_neg pd_int) pda_nil)) pda_nil))) pda_nil)))) pdss_nil)
      (pdss_one (pds_ret (pd_slice (pd_lc (own := [("_law_k", 1)]) (us := [1]) rfl sc__law_region_due.nd (pdi_range1 G.b_range (pda_cons (pd_callB len_D rfl G.b_len PySem.boot_len (pda_cons (pd_var 0) pda_nil)) pda_nil)) (blkOk_by (N := ["_law_value", "_law_k"]) (sc := defScope s__law_region_due) (own := [("_law_k", 1)]) (by decide +kernel)) (fun c1 sc1 _ _ _ _ _ => (pdg_name (i := 1) sc__law_region_due.nd)) (fun c1 sc1 _ _ _ _ _ => (pdts_one (pdt_not (pdt_val (pd_call (hcc.sc sc1) F__law_is_place (hr.mono (by decide)) tk0 (pda_cons (pd_ixE hr.units (pd_var 0) (pd_var 1)) pda_nil)))))) (fun c1 sc1 _ _ _ _ _ => (pd_tup (pda_cons pd_str (pda_cons (pd_tup (pda_cons (pd_var 1) pda_nil)) pda_nil))))) pdo_none (pdo_some pd_int)))))
theorem ok__law_region_due (G : Gb P w K mg base cl) (F__law_is_place : Fnd P w K mg base cl tb 1 "_law_is_place" s__law_is_place ["_law_value"] sp__law_is_place) {dvs : List V} {kws : List (Str × V)} {f : Addr} {fd : FuncData} (F : FunD K "_law_region_due" "_law_region_due" (defArgs s__law_region_due) (defBody s__law_region_due) (defScope s__law_region_due) dvs kws f fd) : FnOk P w K mg base (L2N.CX P w) 2 f fd ["_law_value"] (upX K cl tb sp__law_region_due) :=
  fnXz F sc__law_region_due (t := fun _ => t__law_region_due) (fun cdv A outer sh H E0 c E hcc hr tk => dv__law_region_due G F__law_is_place cdv A outer sh H E0 c hcc hr) pure__law_region_due
theorem dv__law_call_due (G : Gb P w K mg base cl) (F__law_bounds : Fnd P w K mg base cl tb 1 "_law_bounds" s__law_bounds ["_law_kind"] sp__law_bounds) (F__law_is_place : Fnd P w K mg base cl tb 1 "_law_is_place" s__law_is_place ["_law_value"] sp__law_is_place) (F__law_is_squall : Fnd P w K mg base cl tb 1 "_law_is_squall" s__law_is_squall ["_law_kind"] sp__law_is_squall) (F__law_is_word : Fnd P w K mg base cl tb 1 "_law_is_word" s__law_is_word ["_law_text"] sp__law_is_word) (F__law_region_due : Fnd P w K mg base cl tb 2 "_law_region_due" s__law_region_due ["_law_value"] sp__law_region_due) {f : Addr} (cdv : Value) (A : Around) (outer : List Env) (sh : Shared) (H : Hp) (E0 : XK) (c : Wd) (hcc : Cc cl tb c) (hr : Room 2 (A.deeper (PyProof.Rows.envOfC "_law_call_due" (defScope s__law_call_due) sh.heap.objs.size f cdv))) :
    PDSs c (cxOf (L2N.CX P w) P w K mg base ["_law_kind", "_law_regs", "_law_nums", "_law_by_z", "_law_wrong", "_law_value", "_law_number", "_law_ends"] "_law_call_due" (defScope s__law_call_due) f cdv A outer sh H E0) (defBody s__law_call_due) (t__law_call_due) :=
    (pdss_cons (pds_set (i := 4) sc__law_call_due.nd (pd_lstO pda_nil))
      (pdss_cons (pds_for (vs := [5]) (passes_of rfl) rfl (pdi_any (pd_var 1)) (pdg_name (i := 5) sc__law_call_due.nd) (pdss_one (pds_if (pdt_not (pdt_val (pd_call hcc F__law_is_squall (hr.mono (by decide)) tk0 (pda_cons (pd_var 0) pda_nil)))) (pdss_one (pds_set (i := 4) sc__law_call_due.nd (pd_op opD_addO (pd_var 4) (pd_call hcc F__law_region_due (hr.mono (by decide)) tk0 (pda_cons (pd_var 5) pda_nil))))) (pdss_one (pds_if (pdt_not (pdt_val (pd_call hcc F__law_is_place (hr.mono (by decide)) tk0 (pda_cons (pd_var 5) pda_nil)))) (pdss_one (pds_expr (pd_append (pd_var 4) (pd_tup (pda_cons pd_str (pda_cons (pd_tup (pda_cons (pd_var 5) pda_nil)) pda_nil)))))) pdss_nil)))))
      (pdss_cons (pds_for (vs := [6, 7]) (passes_of rfl) rfl (pdi_zip G.b_zip (pda_cons (pd_var 2) (pda_cons (pd_call hcc F__law_bounds (hr.mono (by decide)) tk0 (pda_cons (pd_var 0) pda_nil)) pda_nil))) (pdg_tup rfl (pdgs_cons (pdg_name (i := 6) sc__law_call_due.nd) (pdgs_cons (pdg_name (i := 7) sc__law_call_due.nd) pdgs_nil))) (pdss_one (pds_if (PW.pt (pdw_or (pdt_not (pdt_val (pd_callB isi_D rfl G.b_isinstance (by decide +kernel) (pda_cons (pd_var 6) (pda_cons (pd_ty G.b_int (by decide +kernel)) pda_nil))))) (pdw_or (pdt_val (pd_callB isi_D rfl G.b_isinstance (by decide +kernel) (pda_cons (pd_var 6) (pda_cons (pd_ty G.b_bool (by decide +kernel)) pda_nil)))) (pdw_one (pdt_not (pdt_chain opD_le opD_le (pd_ixE hr.units (pd_var 7) pd_int) (pd_var 6) (pd_ixE hr.units (pd_var 7) pd_int))))))) (pdss_one (pds_expr (pd_append (pd_var 4) (pd_tup (pda_cons pd_str (pda_cons (pd_tup (pda_cons (pd_var 6) pda_nil)) pda_nil)))))) pdss_nil)))
      (pdss_cons (pds_if (PW.pt (pdw_and (pdt_cmp opD_isnot (pd_var 3) pd_non) (pdw_one (pdt_not (PW.pt (pdw_and (pdt_val (pd_callB isi_D rfl G.b_isinstance (by decide +kernel) (pda_cons (pd_var 3) (pda_cons (pd_ty G.b_str (by decide +kernel)) pda_nil)))) (pdw_one (pdt_val (pd_call hcc F__law_is_word (hr.mono (by decide)) tk0 (pda_cons (pd_var 3) pda_nil)))))))))) (pdss_one (pds_expr (pd_append (pd_var 4) (pd_tup (pda_cons pd_str (pda_cons (pd_tup (pda_cons (pd_var 3) pda_nil)) pda_nil)))))) pdss_nil)
      (pdss_cons (pds_if (pdt_ld (fun c1 sc1 => (pdt_cmp (ne_flat hr.units) (pd_var 4) (pd_lst pda_nil)))) (pdss_one (pds_ret (pd_ixE hr.units (pd_var 4) pd_int))) pdss_nil)
      (pdss_cons (pds_if (pdt_val (pd_call hcc F__law_is_squall (hr.mono (by decide)) tk0 (pda_cons (pd_var 0) pda_nil))) (pdss_one (pds_ret (pd_tup (pda_cons pd_str (pda_cons (pd_tup (pda_cons (pd_var 0) (pda_cons (pd_callTy tup_D rfl G.b_tuple (by decide +kernel) (pda_cons (pd_var 2) pda_nil)) (pda_cons (pd_tup (pda_cons (pd_tup (pda_cons (pd_ixE hr.units (pd_var 1) pd_int) pda_nil)) pda_nil)) (pda_cons (pd_var 3) pda_nil))))) pda_nil))))) pdss_nil)
      (pdss_one (pds_ret (pd_tup (pda_cons pd_str (pda_cons (pd_tup (pda_cons (pd_var 0) (pda_cons (pd_callTy tup_D rfl G.b_tuple (by decide +kernel) (pda_cons (pd_var 2) pda_nil)) (pda_cons (pd_callTy tup_D rfl G.b_tuple (by decide +kernel) (pda_cons (pd_lc (own := [("_law_value", 5)]) (us := [5]) rfl sc__law_call_due.nd (pdi_any (pd_var 1)) (blkOk_by (N := ["_law_kind", "_law_regs", "_law_nums", "_law_by_z", "_law_wrong", "_law_value", "_law_number", "_law_ends"]) (sc := defScope s__law_call_due) (own := [("_law_value", 5)]) (by decide +kernel)) (fun c1 sc1 _ _ _ _ _ => (pdg_name (i := 5) sc__law_call_due.nd)) (fun c1 sc1 _ _ _ _ _ => pdts_nil) (fun c1 sc1 _ _ _ _ _ => (pd_callTy tup_D rfl G.b_tuple (by decide +kernel) (pda_cons (pd_sortSet hr.units rfl (pd_callTy lst_D rfl G.b_list (by decide +kernel) (pda_cons (pd_var 5) pda_nil)) G.b_sorted G.b_set) pda_nil)))) pda_nil)) (pda_cons (pd_var 3) pda_nil))))) pda_nil)))))))))))
theorem ok__law_call_due (G : Gb P w K mg base cl) (F__law_bounds : Fnd P w K mg base cl tb 1 "_law_bounds" s__law_bounds ["_law_kind"] sp__law_bounds) (F__law_is_place : Fnd P w K mg base cl tb 1 "_law_is_place" s__law_is_place ["_law_value"] sp__law_is_place) (F__law_is_squall : Fnd P w K mg base cl tb 1 "_law_is_squall" s__law_is_squall ["_law_kind"] sp__law_is_squall) (F__law_is_word : Fnd P w K mg base cl tb 1 "_law_is_word" s__law_is_word ["_law_text"] sp__law_is_word) (F__law_region_due : Fnd P w K mg base cl tb 2 "_law_region_due" s__law_region_due ["_law_value"] sp__law_region_due) {dvs : List V} {kws : List (Str × V)} {f : Addr} {fd : FuncData} (F : FunD K "_law_call_due" "_law_call_due" (defArgs s__law_call_due) (defBody s__law_call_due) (defScope s__law_call_due) dvs kws f fd) : FnOk P w K mg base (L2N.CX P w) 3 f fd ["_law_kind", "_law_regs", "_law_nums", "_law_by_z"] (upX K cl tb sp__law_call_due) :=
  fnXz F sc__law_call_due (t := fun _ => t__law_call_due) (fun cdv A outer sh H E0 c E hcc hr tk => dv__law_call_due G F__law_bounds F__law_is_place F__law_is_squall F__law_is_word F__law_region_due cdv A outer sh H E0 c hcc hr) pure__law_call_due
theorem dv__law_copied (G : Gb P w K mg base cl) {f : Addr} (cdv : Value) (A : Around) (outer : List Env) (sh : Shared) (H : Hp) (E0 : XK) (c : Wd) (hcc : Cc cl tb c) (hr : Room 0 (A.deeper (PyProof.Rows.envOfC "_law_copied" (defScope s__law_copied) sh.heap.objs.size f cdv))) :
    PDSs c (cxOf (L2N.CX P w) P w K mg base ["_law_values", "_law_value"] "_law_copied" (defScope s__law_copied) f cdv A outer sh H E0) (defBody s__law_copied) (t__law_copied) :=
    (pdss_one (pds_ret (pd_lc (own := [("_law_value", 1)]) (us := [1]) rfl sc__law_copied.nd (pdi_any (pd_var 0)) (blkOk_by (N := ["_law_values", "_law_value"]) (sc := defScope s__law_copied) (own := [("_law_value", 1)]) (by decide +kernel)) (fun c1 sc1 _ _ _ _ _ => (pdg_name (i := 1) sc__law_copied.nd)) (fun c1 sc1 _ _ _ _ _ => pdts_nil) (fun c1 sc1 _ _ _ _ _ => (pd_if (pdt_val (pd_callB isi_D rfl G.b_isinstance (by decide +kernel) (pda_cons (pd_var 1) (pda_cons (pd_ty G.b_list (by decide +kernel)) pda_nil)))) (pd_callTy lst_D rfl G.b_list (by decide +kernel) (pda_cons (pd_var 1) pda_nil)) (pd_var 1))))))
theorem ok__law_copied (G : Gb P w K mg base cl) {dvs : List V} {kws : List (Str × V)} {f : Addr} {fd : FuncData} (F : FunD K "_law_copied" "_law_copied" (defArgs s__law_copied) (defBody s__law_copied) (defScope s__law_copied) dvs kws f fd) : FnOk P w K mg base (L2N.CX P w) 1 f fd ["_law_values"] (upX K cl tb sp__law_copied) :=
  fnXz F sc__law_copied (t := fun _ => t__law_copied) (fun cdv A outer sh H E0 c E hcc hr tk => dv__law_copied G cdv A outer sh H E0 c hcc hr) pure__law_copied
theorem dv_law (G : Gb P w K mg base cl) {g__law_try : Addr} {fd__law_try : FuncData} {g__law_tries : Addr} {fd__law_tries : FuncData} (F_Saying_with_gauge : Mtd P w K mg base cl tb 4 "Saying" "with_gauge" ["self", "gauge"] sp_Saying_with_gauge) (F__law_any_saying : Fnd P w K mg base cl tb 5 "_law_any_saying" s__law_any_saying ["_law_bag", "_law_kind"] sp__law_any_saying) (F__law_bounds : Fnd P w K mg base cl tb 1 "_law_bounds" s__law_bounds ["_law_kind"] sp__law_bounds) (F__law_call : Fnd P w K mg base cl tb 6 "_law_call" s__law_call ["_law_kind", "_law_regs", "_law_nums", "_law_by_z"] sp__law_call) (F__law_call_due : Fnd P w K mg base cl tb 3 "_law_call_due" s__law_call_due ["_law_kind", "_law_regs", "_law_nums", "_law_by_z"] sp__law_call_due) (F__law_copied : Fnd P w K mg base cl tb 1 "_law_copied" s__law_copied ["_law_values"] sp__law_copied) (F__law_draw : Fnd P w K mg base cl tb 1 "_law_draw" s__law_draw ["_law_bag", "_law_sides"] sp__law_draw) (F__law_is_squall : Fnd P w K mg base cl tb 1 "_law_is_squall" s__law_is_squall ["_law_kind"] sp__law_is_squall) (F__law_kinds : Fnd P w K mg base cl tb 1 "_law_kinds" s__law_kinds [] sp__law_kinds) (F__law_made : Fnd P w K mg base cl tb 7 "_law_made" s__law_made ["_law_one"] sp__law_made) (F__law_odd_gauge : Fnd P w K mg base cl tb 3 "_law_odd_gauge" s__law_odd_gauge ["_law_bag"] sp__law_odd_gauge) (F__law_odd_number : Fnd P w K mg base cl tb 3 "_law_odd_number" s__law_odd_number ["_law_bag", "_law_ends"] sp__law_odd_number) (F__law_odd_place : Fnd P w K mg base cl tb 3 "_law_odd_place" s__law_odd_place ["_law_bag"] sp__law_odd_place) (F__law_odd_region : Fnd P w K mg base cl tb 3 "_law_odd_region" s__law_odd_region ["_law_bag"] sp__law_odd_region) (F__law_of : Fnd P w K mg base cl tb 2 "_law_of" s__law_of ["_law_bag", "_law_things"] sp__law_of) (F__law_open : Fnd P w K mg base cl tb 1 "_law_open" s__law_open ["_law_script"] sp__law_open) (F__law_same : Fnd P w K mg base cl tb 8 "_law_same" s__law_same ["_law_found", "_law_due"] sp__law_same) (F__law_told : Fnd P w K mg base cl tb 2 "_law_told" s__law_told ["_law_made_here"] sp__law_told) (F__law_tries : FunD K "_law_tries" "_law_tries" (defArgs s__law_tries) (defBody s__law_tries) (defScope s__law_tries) [] [] g__law_tries fd__law_tries ∧ mg "_law_tries" = some (.ref g__law_tries) ∧ L2.Binds K fd__law_tries ["_law_asks"] []) (F__law_field : FndH P w K mg base cl 1 "_law_field" s__law_field ["_law_e"] (sp__law_field xnames)) (F__law_try : FunD K "_law_try" "_law_try" (defArgs s__law_try) (defBody s__law_try) (defScope s__law_try) [] [] g__law_try fd__law_try ∧ mg "_law_try" = some (.ref g__law_try) ∧ L2.Binds K fd__law_try ["_law_ask"] []) {cc Pt : Addr} (htb : (Pt, (PyProof.Rows.envOfC "law" (defScope s_law) 0 0 .none).qual ++ "<lambda>") ∈ tb) (hu : ∀ p ∈ tb, p.1 = Pt → p.2 = (PyProof.Rows.envOfC "law" (defScope s_law) 0 0 .none).qual ++ "<lambda>") (TB : TabB base mg cc Pt) {f : Addr} (cdv : Value) (hcode : cdv = .ref cc) (A : Around) (outer : List Env) (sh : Shared) (H : Hp) (E0 : XK) (c : Wd) (hcc : Cc cl tb c) (hr : Room 13 (A.deeper (PyProof.Rows.envOfC "law" (defScope s_law) sh.heap.objs.size f cdv))) :
    PDSs c (cxOf (L2N.CX P w) P w K mg base ["_law_script", "_law_bag", "_law_turn", "_law_kind", "_law_one", "_law_regs", "_law_nums", "_law_by_z", "_law_region", "_law_k", "_law_kept", "_law_due", "_law_asks", "_law_odd", "_law_made_here"] "law" (defScope s_law) f cdv A outer sh H E0) (defBody s_law) (t_law xnames) :=
    (pdss_cons (pds_set (i := 1) sc_law.nd (pd_call hcc F__law_open (hr.mono (by decide)) tk0 (pda_cons (pd_var 0) pda_nil)))
      (pdss_cons (pds_for (vs := [2]) (passes_of rfl) rfl (pdi_range1 G.b_range (pda_cons pd_int pda_nil)) (pdg_name (i := 2) sc_law.nd) (pdss_cons (pds_set (i := 3) sc_law.nd (pd_call hcc F__law_of (hr.mono (by decide)) tk0 (pda_cons (pd_var 1) (pda_cons (pd_call0 hcc F__law_kinds (hr.mono (by decide)) tk0) pda_nil))))
      (pdss_cons (pds_set (i := 4) sc_law.nd (pd_call hcc F__law_any_saying (hr.mono (by decide)) tk0 (pda_cons (pd_var 1) (pda_cons (pd_var 3) pda_nil))))
      (pdss_cons (pds_asg (vs := [5, 6, 7]) (pd_tup (pda_cons (pd_if (pdt_val (pd_call hcc F__law_is_squall (hr.mono (by decide)) tk0 (pda_cons (pd_var 3) pda_nil))) (pd_lstO (pda_cons (pd_ixE hr.units (pd_ixE hr.units (pd_ixE hr.units (pd_var 4) pd_int) pd_int) pd_int) pda_nil)) (pd_lcO (own := [("_law_region", 8)]) (us := [8]) rfl sc_law.nd (pdi_any (pd_ixE hr.units (pd_var 4) pd_int)) (blkOk_by (N := ["_law_script", "_law_bag", "_law_turn", "_law_kind", "_law_one", "_law_regs", "_law_nums", "_law_by_z", "_law_region", "_law_k", "_law_kept", "_law_due", "_law_asks", "_law_odd", "_law_made_here"]) (sc := defScope s_law) (own := [("_law_region", 8)]) (by decide +kernel)) (fun c1 sc1 _ _ _ _ _ => (pdg_name (i := 8) sc_law.nd)) (fun c1 sc1 _ _ _ _ _ => pdts_nil) (fun c1 sc1 _ _ _ _ _ => (pd_callTy lst_D rfl G.b_list (by decide +kernel) (pda_cons (pd_var 8) pda_nil))))) (pda_cons (pd_callTy lstO_D rfl G.b_list (by decide +kernel) (pda_cons (pd_ixE hr.units (pd_var 4) pd_int) pda_nil)) (pda_cons (pd_ixE hr.units (pd_var 4) pd_int) pda_nil)))) (pdg_tup rfl (pdgs_cons (pdg_name (i := 5) sc_law.nd) (pdgs_cons (pdg_name (i := 6) sc_law.nd) (pdgs_cons (pdg_name (i := 7) sc_law.nd) pdgs_nil)))))
      (pdss_cons (pds_for (vs := [9]) (passes_of rfl) rfl (pdi_range1 G.b_range (pda_cons (pd_callB len_D rfl G.b_len PySem.boot_len (pda_cons (pd_var 5) pda_nil)) pda_nil)) (pdg_name (i := 9) sc_law.nd) (pdss_one (pds_if (pdt_cmp (eq_flat hr.units) (pd_call hcc F__law_draw (hr.mono (by decide)) tk0 (pda_cons (pd_var 1) (pda_cons pd_int pda_nil))) pd_int) (pdss_one (pds_asg (vs := []) (pd_if (pdt_val (pd_call hcc F__law_is_squall (hr.mono (by decide)) tk0 (pda_cons (pd_var 3) pda_nil))) (pd_call hcc F__law_odd_place (hr.mono (by decide)) tk0 (pda_cons (pd_var 1) pda_nil)) (pd_call hcc F__law_odd_region (hr.mono (by decide)) tk0 (pda_cons (pd_var 1) pda_nil))) (pdg_ix (pd_var 5) (pd_var 9)))) pdss_nil)))
      (pdss_cons (pds_for (vs := [9]) (passes_of rfl) rfl (pdi_range1 G.b_range (pda_cons (pd_callB len_D rfl G.b_len PySem.boot_len (pda_cons (pd_var 6) pda_nil)) pda_nil)) (pdg_name (i := 9) sc_law.nd) (pdss_one (pds_if (pdt_cmp (eq_flat hr.units) (pd_call hcc F__law_draw (hr.mono (by decide)) tk0 (pda_cons (pd_var 1) (pda_cons pd_int pda_nil))) pd_int) (pdss_one (pds_asg (vs := []) (pd_call hcc F__law_odd_number (hr.mono (by decide)) tk0 (pda_cons (pd_var 1) (pda_cons (pd_ixE hr.units (pd_call hcc F__law_bounds (hr.mono (by decide)) tk0 (pda_cons (pd_var 3) pda_nil)) (pd_var 9)) pda_nil))) (pdg_ix (pd_var 6) (pd_var 9)))) pdss_nil)))
      (pdss_cons (pds_if (pdt_cmp (eq_flat hr.units) (pd_call hcc F__law_draw (hr.mono (by decide)) tk0 (pda_cons (pd_var 1) (pda_cons pd_int pda_nil))) pd_int) (pdss_one (pds_set (i := 7) sc_law.nd (pd_call hcc F__law_odd_gauge (hr.mono (by decide)) tk0 (pda_cons (pd_var 1) pda_nil)))) pdss_nil)
      (pdss_cons (pds_set (i := 10) sc_law.nd (pd_lst (pda_cons (pd_call hcc F__law_copied.lend (hr.mono (by decide)) tk0 (pda_cons (pd_var 5) pda_nil)) (pda_cons (pd_call hcc F__law_copied.lend (hr.mono (by decide)) tk0 (pda_cons (pd_var 6) pda_nil)) pda_nil))))
      (pdss_cons (pds_set (i := 11) sc_law.nd (pd_call hcc F__law_call_due.lend (hr.mono (by decide)) tk0 (pda_cons (pd_var 3) (pda_cons (pd_var 5) (pda_cons (pd_var 6) (pda_cons (pd_var 7) pda_nil))))))
      (pdss_asks (ls := [⟨_, _, _, none⟩, ⟨_, _, _, some 0⟩]) hcc sc_law.nd (pa_cons (pe_lamV (l := ⟨_, _, _, none⟩) TB hcode htb hu (fun ok => (lamS_by (sc := defScope s_law) (by decide +kernel)).has ok) rfl rfl) (pa_cons (pe_lamVD (l := ⟨_, _, _, some 0⟩) TB hcode htb hu (fun ok => (lamP_by (N := ["_law_script", "_law_bag", "_law_turn", "_law_kind", "_law_one", "_law_regs", "_law_nums", "_law_by_z", "_law_region", "_law_k", "_law_kept", "_law_due", "_law_asks", "_law_odd", "_law_made_here"]) (sc := defScope s_law) (p := "_law_a") (by decide +kernel)).has ok) rfl pe_int rfl rfl) pa_nil)) (by decide) (fun c_fs1 fs1 hcc_fs1 okc_fs1 hls_fs1 =>
      (pdss_cons (pds_if (PW.pt (pdw_or (pdt_not (pdt_val (pd_call hcc_fs1 F__law_same (hr.mono (by decide)) tk0 (pda_cons (pd_tries (k := 10) (Ng := ["_law_ask", "_law_e"]) (Nt := ["_law_asks", "_law_ask"]) (x := "_law_try") (st := s__law_try) (a := "_law_ask") (tLs := [(fun E2 => y_law_1 E2), (fun E2 => y_law_2 E2)]) hcc_fs1 okc_fs1 F__law_tries.1 F__law_tries.2.1 F__law_tries.2.2 sc__law_tries hls_fs1 ⟨_, _, rfl, lmOk_s (lamS_by (sc := defScope s_law) (by decide +kernel)),
      (fun A2 o2 s2 H2 X2 f2 k2 cL E2 hcc2 tk2 hr2 => (pd_call hcc2 F__law_told (hr2.mono (by decide)) tk0 (pda_cons (pd_call hcc2 F__law_call.lend (hr2.mono (by decide)) tk2 (pda_cons (pd_var 3) (pda_cons (pd_var 5) (pda_cons (pd_var 6) (pda_cons (pd_var 7) pda_nil))))) pda_nil))), ⟨_, _, rfl, lmOk_d (lamP_by (N := ["_law_script", "_law_bag", "_law_turn", "_law_kind", "_law_one", "_law_regs", "_law_nums", "_law_by_z", "_law_region", "_law_k", "_law_kept", "_law_due", "_law_asks", "_law_odd", "_law_made_here"]) (sc := defScope s_law) (p := "_law_a") (by decide +kernel)),
      (fun A2 o2 s2 H2 X2 f2 k2 cL E2 hcc2 tk2 hr2 => (pd_call hcc2 F__law_told (hr2.mono (by decide)) tk0 (pda_cons (pd_call hcc2 F__law_made (hr2.mono (by decide)) tk2 (pda_cons (pd_var 4) pda_nil)) pda_nil))), rfl⟩⟩ (fun cdv2 s2 H2 cg acts hcc2 hr2 ha => dv__law_tries G F__law_try F__law_field cdv2 s2 H2 cg acts hcc2 hr2 ha) (pure__law_tries xnames) rfl (by first | exact Or.inl rfl | exact Or.inr (Or.inl rfl) | exact Or.inr (Or.inr rfl)) (by decide) (by decide) (hr.mono (by decide)) (pd_var 12)) (pda_cons (pd_lst (pda_cons (pd_var 11) (pda_cons (pd_tup (pda_cons pd_str (pda_cons (pd_var 4) pda_nil))) pda_nil))) pda_nil))))) (pdw_one (pdt_ld (fun c1 sc1 => (pdt_cmp (ne_flat hr.units) (pd_var 10) (pd_lst (pda_cons (pd_var 5) (pda_cons (pd_var 6) pda_nil))))))))) (pdss_one (pds_ret pd_bl)) pdss_nil)
      (pdss_cons (pds_asg (vs := [13, 14]) (pd_tup (pda_cons (pd_call hcc_fs1 F__law_odd_gauge (hr.mono (by decide)) tk0 (pda_cons (pd_var 1) pda_nil)) (pda_cons (pd_call hcc_fs1 F__law_made (hr.mono (by decide)) tk0 (pda_cons (pd_var 4) pda_nil)) pda_nil))) (pdg_tup rfl (pdgs_cons (pdg_name (i := 13) sc_law.nd) (pdgs_cons (pdg_name (i := 14) sc_law.nd) pdgs_nil))))
      (pdss_cons (pds_if (pdt_not (pdt_val (pd_call hcc_fs1 F__law_same (hr.mono (by decide)) tk0 (pda_cons (pd_lam (k := 11) (Ng := ["_law_ask", "_law_e"]) hcc_fs1 htb hu F__law_try.1 F__law_try.2.1 F__law_try.2.2 sc__law_try (fun cdv2 s2 H2 f2 cg tl hcc2 hr2 act => dv__law_try G F__law_field f2 tl cdv2 s2 H2 cg hcc2 (hr2.mono (by decide)) act) (pure__law_try xnames) TB hcode (hr.mono (by decide)) (lamS_by (sc := defScope s_law) (by decide +kernel))
      (fun A2 o2 s2 H2 X2 f2 k2 cL E2 hcc2 tk2 hr2 => (pd_meth hcc2 F_Saying_with_gauge (hr2.mono (by decide)) tk2 (pd_var 14) (pda_cons (pd_var 13) pda_nil)))) (pda_cons (pd_tup (pda_cons pd_str (pda_cons (pd_tup (pda_cons (pd_var 13) pda_nil)) pda_nil))) pda_nil))))) (pdss_one (pds_ret pd_bl)) pdss_nil)
      (pdss_one (pds_if (pdt_not (pdt_val (pd_call hcc_fs1 F__law_same (hr.mono (by decide)) tk0 (pda_cons (pd_call hcc_fs1 F__law_told (hr.mono (by decide)) tk0 (pda_cons (pd_var 14) pda_nil)) (pda_cons (pd_var 4) pda_nil))))) (pdss_one (pds_ret pd_bl)) pdss_nil))))))))))))))))
      (pdss_one (pds_ret pd_bl))))
theorem ok_law (G : Gb P w K mg base cl) {g__law_try : Addr} {fd__law_try : FuncData} {g__law_tries : Addr} {fd__law_tries : FuncData} (F_Saying_with_gauge : Mtd P w K mg base cl tb 4 "Saying" "with_gauge" ["self", "gauge"] sp_Saying_with_gauge) (F__law_any_saying : Fnd P w K mg base cl tb 5 "_law_any_saying" s__law_any_saying ["_law_bag", "_law_kind"] sp__law_any_saying) (F__law_bounds : Fnd P w K mg base cl tb 1 "_law_bounds" s__law_bounds ["_law_kind"] sp__law_bounds) (F__law_call : Fnd P w K mg base cl tb 6 "_law_call" s__law_call ["_law_kind", "_law_regs", "_law_nums", "_law_by_z"] sp__law_call) (F__law_call_due : Fnd P w K mg base cl tb 3 "_law_call_due" s__law_call_due ["_law_kind", "_law_regs", "_law_nums", "_law_by_z"] sp__law_call_due) (F__law_copied : Fnd P w K mg base cl tb 1 "_law_copied" s__law_copied ["_law_values"] sp__law_copied) (F__law_draw : Fnd P w K mg base cl tb 1 "_law_draw" s__law_draw ["_law_bag", "_law_sides"] sp__law_draw) (F__law_is_squall : Fnd P w K mg base cl tb 1 "_law_is_squall" s__law_is_squall ["_law_kind"] sp__law_is_squall) (F__law_kinds : Fnd P w K mg base cl tb 1 "_law_kinds" s__law_kinds [] sp__law_kinds) (F__law_made : Fnd P w K mg base cl tb 7 "_law_made" s__law_made ["_law_one"] sp__law_made) (F__law_odd_gauge : Fnd P w K mg base cl tb 3 "_law_odd_gauge" s__law_odd_gauge ["_law_bag"] sp__law_odd_gauge) (F__law_odd_number : Fnd P w K mg base cl tb 3 "_law_odd_number" s__law_odd_number ["_law_bag", "_law_ends"] sp__law_odd_number) (F__law_odd_place : Fnd P w K mg base cl tb 3 "_law_odd_place" s__law_odd_place ["_law_bag"] sp__law_odd_place) (F__law_odd_region : Fnd P w K mg base cl tb 3 "_law_odd_region" s__law_odd_region ["_law_bag"] sp__law_odd_region) (F__law_of : Fnd P w K mg base cl tb 2 "_law_of" s__law_of ["_law_bag", "_law_things"] sp__law_of) (F__law_open : Fnd P w K mg base cl tb 1 "_law_open" s__law_open ["_law_script"] sp__law_open) (F__law_same : Fnd P w K mg base cl tb 8 "_law_same" s__law_same ["_law_found", "_law_due"] sp__law_same) (F__law_told : Fnd P w K mg base cl tb 2 "_law_told" s__law_told ["_law_made_here"] sp__law_told) (F__law_tries : FunD K "_law_tries" "_law_tries" (defArgs s__law_tries) (defBody s__law_tries) (defScope s__law_tries) [] [] g__law_tries fd__law_tries ∧ mg "_law_tries" = some (.ref g__law_tries) ∧ L2.Binds K fd__law_tries ["_law_asks"] []) (F__law_field : FndH P w K mg base cl 1 "_law_field" s__law_field ["_law_e"] (sp__law_field xnames)) (F__law_try : FunD K "_law_try" "_law_try" (defArgs s__law_try) (defBody s__law_try) (defScope s__law_try) [] [] g__law_try fd__law_try ∧ mg "_law_try" = some (.ref g__law_try) ∧ L2.Binds K fd__law_try ["_law_ask"] []) {Pt : Addr} (htb : (Pt, (PyProof.Rows.envOfC "law" (defScope s_law) 0 0 .none).qual ++ "<lambda>") ∈ tb) (hu : ∀ p ∈ tb, p.1 = Pt → p.2 = (PyProof.Rows.envOfC "law" (defScope s_law) 0 0 .none).qual ++ "<lambda>") (TB : TabB base mg (He.codeOf K ("law", none)) Pt) {fd : FuncData} (F : FunD K "law" "law" (defArgs s_law) (defBody s_law) (defScope s_law) [] [] (He.fAd K ("law", none)) fd) : FnOk P w K mg base (L2N.CX P w) 14 (He.fAd K ("law", none)) fd ["_law_script"] (upX K cl tb sp_law) :=
  fnXc (p := ("law", none)) F sc_law (t := fun _ => t_law xnames) (fun cdv A outer sh H E0 c E hcode hcc hr tk => dv_law G F_Saying_with_gauge F__law_any_saying F__law_bounds F__law_call F__law_call_due F__law_copied F__law_draw F__law_is_squall F__law_kinds F__law_made F__law_odd_gauge F__law_odd_number F__law_odd_place F__law_odd_region F__law_of F__law_open F__law_same F__law_told F__law_tries F__law_field F__law_try htb hu TB cdv hcode A outer sh H E0 c hcc hr) pure_law
theorem dv_Saying___init__ (G : Gb P w K mg base cl) {f : Addr} (cdv : Value) (A : Around) (outer : List Env) (sh : Shared) (H : Hp) (E0 : XK) (c : Wd) (hcc : Cc cl tb c) (hr : Room 0 (A.deeper (PyProof.Rows.envOfC "Saying.__init__" (defScope s_Saying___init__) sh.heap.objs.size f cdv))) :
    PDSs c (cxOf (L2N.CX P w) P w K mg base ["self", "kind", "regions", "numbers", "gauge"] "Saying.__init__" (defScope s_Saying___init__) f cdv A outer sh H E0) (defBody s_Saying___init__) (t_Saying___init__) :=
    (pdss_cons (pds_setF hcc.cl G.cls_Saying (pd_var 0) (pd_var 1))
      (pdss_cons (pds_setF hcc.cl G.cls_Saying (pd_var 0) (pd_var 4))
      (pdss_cons (pds_setF hcc.cl G.cls_Saying (pd_var 0) (pd_callTy tup_D rfl G.b_tuple (by decide +kernel) (pda_cons (pd_var 2) pda_nil)))
      (pdss_one (pds_setF hcc.cl G.cls_Saying (pd_var 0) (pd_callTy tup_D rfl G.b_tuple (by decide +kernel) (pda_cons (pd_var 3) pda_nil)))))))
theorem ok_Saying___init__ (G : Gb P w K mg base cl) {dvs : List V} {kws : List (Str × V)} {f : Addr} {fd : FuncData} (F : FunD K "__init__" "Saying.__init__" (defArgs s_Saying___init__) (defBody s_Saying___init__) (defScope s_Saying___init__) dvs kws f fd) : FnOk P w K mg base (L2N.CX P w) 1 f fd ["self", "kind", "regions", "numbers", "gauge"] (upX K cl tb sp_Saying___init__) :=
  fnXz F sc_Saying___init__ (t := fun _ => t_Saying___init__) (fun cdv A outer sh H E0 c E hcc hr tk => dv_Saying___init__ G cdv A outer sh H E0 c hcc hr) pure_Saying___init__
theorem dv_Saying_numbers (G : Gb P w K mg base cl) {f : Addr} (cdv : Value) (A : Around) (outer : List Env) (sh : Shared) (H : Hp) (E0 : XK) (c : Wd) (hcc : Cc cl tb c) (hr : Room 0 (A.deeper (PyProof.Rows.envOfC "Saying.numbers" (defScope s_Saying_numbers) sh.heap.objs.size f cdv))) :
    PDSs c (cxOf (L2N.CX P w) P w K mg base ["self"] "Saying.numbers" (defScope s_Saying_numbers) f cdv A outer sh H E0) (defBody s_Saying_numbers) (t_Saying_numbers) :=
    (pdss_one (pds_ret (pd_callTy lstO_D rfl G.b_list (by decide +kernel) (pda_cons (pd_fld hcc.cl G.cls_Saying (pd_var 0)) pda_nil))))
theorem ok_Saying_numbers (G : Gb P w K mg base cl) {dvs : List V} {kws : List (Str × V)} {f : Addr} {fd : FuncData} (F : FunD K "numbers" "Saying.numbers" (defArgs s_Saying_numbers) (defBody s_Saying_numbers) (defScope s_Saying_numbers) dvs kws f fd) : FnOk P w K mg base (L2N.CX P w) 1 f fd ["self"] (upX K cl tb sp_Saying_numbers) :=
  fnXz F sc_Saying_numbers (t := fun _ => t_Saying_numbers) (fun cdv A outer sh H E0 c E hcc hr tk => dv_Saying_numbers G cdv A outer sh H E0 c hcc hr) pure_Saying_numbers
theorem dv_Saying_regions (G : Gb P w K mg base cl) {f : Addr} (cdv : Value) (A : Around) (outer : List Env) (sh : Shared) (H : Hp) (E0 : XK) (c : Wd) (hcc : Cc cl tb c) (hr : Room 0 (A.deeper (PyProof.Rows.envOfC "Saying.regions" (defScope s_Saying_regions) sh.heap.objs.size f cdv))) :
    PDSs c (cxOf (L2N.CX P w) P w K mg base ["self"] "Saying.regions" (defScope s_Saying_regions) f cdv A outer sh H E0) (defBody s_Saying_regions) (t_Saying_regions) :=
    (pdss_one (pds_ret (pd_callTy lstO_D rfl G.b_list (by decide +kernel) (pda_cons (pd_fld hcc.cl G.cls_Saying (pd_var 0)) pda_nil))))
theorem ok_Saying_regions (G : Gb P w K mg base cl) {dvs : List V} {kws : List (Str × V)} {f : Addr} {fd : FuncData} (F : FunD K "regions" "Saying.regions" (defArgs s_Saying_regions) (defBody s_Saying_regions) (defScope s_Saying_regions) dvs kws f fd) : FnOk P w K mg base (L2N.CX P w) 1 f fd ["self"] (upX K cl tb sp_Saying_regions) :=
  fnXz F sc_Saying_regions (t := fun _ => t_Saying_regions) (fun cdv A outer sh H E0 c E hcc hr tk => dv_Saying_regions G cdv A outer sh H E0 c hcc hr) pure_Saying_regions
theorem dv_Saying_with_gauge (G : Gb P w K mg base cl) (M_Saying_4 : Mkr P w K mg base cl tb 1 "Saying" 4 [] ["self", "kind", "regions", "numbers", "gauge"] (fun ds es => ds ++ es) sp_Saying___init__) (F_check_gauge : Fnd P w K mg base cl tb 3 "check_gauge" s_check_gauge ["gauge"] sp_check_gauge) {f : Addr} (cdv : Value) (A : Around) (outer : List Env) (sh : Shared) (H : Hp) (E0 : XK) (c : Wd) (E : DXK) (hcc : Cc cl tb c) (hr : Room 3 (A.deeper (PyProof.Rows.envOfC "Saying.with_gauge" (defScope s_Saying_with_gauge) sh.heap.objs.size f cdv))) (tk : Tk c (cxOf (L2N.CX P w) P w K mg base ["self", "gauge"] "Saying.with_gauge" (defScope s_Saying_with_gauge) f cdv A outer sh H E0) E) :
    PDSs c (cxOf (L2N.CX P w) P w K mg base ["self", "gauge"] "Saying.with_gauge" (defScope s_Saying_with_gauge) f cdv A outer sh H E0) (defBody s_Saying_with_gauge) (t_Saying_with_gauge E) :=
    (pdss_cons (pds_expr (pd_call hcc F_check_gauge (hr.mono (by decide)) tk (pda_cons (pd_var 1) pda_nil)))
      (pdss_one (pds_ret (pd_makeK (ks := []) hcc M_Saying_4 (hr.mono (by decide)) tk0 (pda_cons (pd_fld hcc.cl G.cls_Saying (pd_var 0)) (pda_cons (pd_fld hcc.cl G.cls_Saying (pd_var 0)) (pda_cons (pd_fld hcc.cl G.cls_Saying (pd_var 0)) (pda_cons (pd_var 1) pda_nil)))) pdk_nil))))
theorem ok_Saying_with_gauge (G : Gb P w K mg base cl) (M_Saying_4 : Mkr P w K mg base cl tb 1 "Saying" 4 [] ["self", "kind", "regions", "numbers", "gauge"] (fun ds es => ds ++ es) sp_Saying___init__) (F_check_gauge : Fnd P w K mg base cl tb 3 "check_gauge" s_check_gauge ["gauge"] sp_check_gauge) {dvs : List V} {kws : List (Str × V)} {f : Addr} {fd : FuncData} (F : FunD K "with_gauge" "Saying.with_gauge" (defArgs s_Saying_with_gauge) (defBody s_Saying_with_gauge) (defScope s_Saying_with_gauge) dvs kws f fd) : FnOk P w K mg base (L2N.CX P w) 4 f fd ["self", "gauge"] (upX K cl tb sp_Saying_with_gauge) :=
  fnXz F sc_Saying_with_gauge (t := fun E => t_Saying_with_gauge E) (fun cdv A outer sh H E0 c E hcc hr tk => dv_Saying_with_gauge G M_Saying_4 F_check_gauge cdv A outer sh H E0 c E hcc hr tk) pure_Saying_with_gauge
end
end K21
/-! The head and the end. Printed by a program of mine. -/
namespace K21
open PySem PySem.Spec PyProof.Rows L2 DL HS LamX HB
theorem law_sp : ∀ (ns : List Int) (M : Mu), ns.length ≤ 63 → M = (fun _ => none) → sp_law [.scr ns] M (fun d _ => d = .bl true) DX0 := fun ns M hl hM => ⟨ns, rfl, hl, hM, fun _ => rfl⟩
theorem facts {w : World} {K : PySem.W.Frag} {h : Heap} {mg : Str → Option Value} {f : Addr} (X : K.In h) (G : h.Ns mainGlobals mg) (hfa : mg ("law" : Str) = some (.ref f)) (cy : SaysY fal fnl tsl (lml.map (·.1)) sdl exb w h K) :
    LawAtS PySem.Challenge.rw_highestsky_k21_sayings_refused w K (L2N.CX R.prog w) 14 63 "_law_script" mg f h := by
  have c := cy.x
  have cm : exb K = true := (He.ba c.more).1
  have cd := c.t.d
  obtain ⟨fd_is_number, f_is_number⟩ := cd.def_ 0 (d := d_is_number) rfl
  have b_is_number := f_is_number.bindsN (ps := ["value", "least", "most"]) bn_is_number
  have m_is_number := He.glo_ok X G (cd.fact 0 (f := .glo "is_number") rfl)
  obtain ⟨fd_is_name, f_is_name⟩ := cd.def_ 1 (d := d_is_name) rfl
  have b_is_name := f_is_name.bindsN (ps := ["value"]) bn_is_name
  have m_is_name := He.glo_ok X G (cd.fact 1 (f := .glo "is_name") rfl)
  obtain ⟨fd_is_cell, f_is_cell⟩ := cd.def_ 2 (d := d_is_cell) rfl
  have b_is_cell := f_is_cell.bindsN (ps := ["value"]) bn_is_cell
  have m_is_cell := He.glo_ok X G (cd.fact 2 (f := .glo "is_cell") rfl)
  obtain ⟨fd_is_place, f_is_place⟩ := cd.def_ 3 (d := d_is_place) rfl
  have b_is_place := f_is_place.bindsN (ps := ["value"]) bn_is_place
  have m_is_place := He.glo_ok X G (cd.fact 3 (f := .glo "is_place") rfl)
  obtain ⟨fd_first_outside, f_first_outside⟩ := cd.def_ 4 (d := d_first_outside) rfl
  have b_first_outside := f_first_outside.bindsN (ps := ["kind", "numbers"]) bn_first_outside
  have m_first_outside := He.glo_ok X G (cd.fact 4 (f := .glo "first_outside") rfl)
  obtain ⟨fd_check_gauge, f_check_gauge⟩ := cd.def_ 5 (d := d_check_gauge) rfl
  have b_check_gauge := f_check_gauge.bindsN (ps := ["gauge"]) bn_check_gauge
  have m_check_gauge := He.glo_ok X G (cd.fact 5 (f := .glo "check_gauge") rfl)
  obtain ⟨fd_kept_region, f_kept_region⟩ := cd.def_ 6 (d := d_kept_region) rfl
  have b_kept_region := f_kept_region.bindsN (ps := ["region"]) bn_kept_region
  have m_kept_region := He.glo_ok X G (cd.fact 6 (f := .glo "kept_region") rfl)
  obtain ⟨fd_kept_place, f_kept_place⟩ := cd.def_ 7 (d := d_kept_place) rfl
  have b_kept_place := f_kept_place.bindsN (ps := ["place"]) bn_kept_place
  have m_kept_place := He.glo_ok X G (cd.fact 7 (f := .glo "kept_place") rfl)
  obtain ⟨fd_made, f_made⟩ := cd.def_ 8 (d := d_made) rfl
  have b_made := f_made.bindsN (ps := ["kind", "regions", "numbers", "gauge"]) bn_made
  have m_made := He.glo_ok X G (cd.fact 8 (f := .glo "made") rfl)
  obtain ⟨fd_at_most, f_at_most⟩ := cd.def_ 9 (d := d_at_most) rfl
  have m_at_most := He.glo_ok X G (cd.fact 9 (f := .glo "at_most") rfl)
  obtain ⟨fd_at_least, f_at_least⟩ := cd.def_ 10 (d := d_at_least) rfl
  have m_at_least := He.glo_ok X G (cd.fact 10 (f := .glo "at_least") rfl)
  obtain ⟨fd_exactly, f_exactly⟩ := cd.def_ 11 (d := d_exactly) rfl
  have m_exactly := He.glo_ok X G (cd.fact 11 (f := .glo "exactly") rfl)
  obtain ⟨fd_under, f_under⟩ := cd.def_ 12 (d := d_under) rfl
  have m_under := He.glo_ok X G (cd.fact 12 (f := .glo "under") rfl)
  obtain ⟨fd_level, f_level⟩ := cd.def_ 13 (d := d_level) rfl
  have m_level := He.glo_ok X G (cd.fact 13 (f := .glo "level") rfl)
  obtain ⟨fd_if_then, f_if_then⟩ := cd.def_ 14 (d := d_if_then) rfl
  have m_if_then := He.glo_ok X G (cd.fact 14 (f := .glo "if_then") rfl)
  obtain ⟨fd_squall_most, f_squall_most⟩ := cd.def_ 15 (d := d_squall_most) rfl
  have m_squall_most := He.glo_ok X G (cd.fact 15 (f := .glo "squall_most") rfl)
  obtain ⟨fd_squall_least, f_squall_least⟩ := cd.def_ 16 (d := d_squall_least) rfl
  have m_squall_least := He.glo_ok X G (cd.fact 16 (f := .glo "squall_least") rfl)
  obtain ⟨fd__law_open, f__law_open⟩ := cd.def_ 17 (d := d__law_open) rfl
  have b__law_open := f__law_open.bindsN (ps := ["_law_script"]) bn__law_open
  have m__law_open := He.glo_ok X G (cd.fact 17 (f := .glo "_law_open") rfl)
  obtain ⟨fd__law_draw, f__law_draw⟩ := cd.def_ 18 (d := d__law_draw) rfl
  have b__law_draw := f__law_draw.bindsN (ps := ["_law_bag", "_law_sides"]) bn__law_draw
  have m__law_draw := He.glo_ok X G (cd.fact 18 (f := .glo "_law_draw") rfl)
  obtain ⟨fd__law_of, f__law_of⟩ := cd.def_ 19 (d := d__law_of) rfl
  have b__law_of := f__law_of.bindsN (ps := ["_law_bag", "_law_things"]) bn__law_of
  have m__law_of := He.glo_ok X G (cd.fact 19 (f := .glo "_law_of") rfl)
  obtain ⟨fd__law_same, f__law_same⟩ := cd.def_ 20 (d := d__law_same) rfl
  have b__law_same := f__law_same.bindsN (ps := ["_law_found", "_law_due"]) bn__law_same
  have m__law_same := He.glo_ok X G (cd.fact 20 (f := .glo "_law_same") rfl)
  obtain ⟨fd__law_field, f__law_field⟩ := cd.def_ 21 (d := d__law_field) rfl
  have b__law_field := f__law_field.bindsN (ps := ["_law_e"]) bn__law_field
  have m__law_field := He.glo_ok X G (cd.fact 21 (f := .glo "_law_field") rfl)
  obtain ⟨fd__law_try, f__law_try⟩ := cd.def_ 22 (d := d__law_try) rfl
  have b__law_try := f__law_try.bindsN (ps := ["_law_ask"]) bn__law_try
  have m__law_try := He.glo_ok X G (cd.fact 22 (f := .glo "_law_try") rfl)
  obtain ⟨fd__law_tries, f__law_tries⟩ := cd.def_ 23 (d := d__law_tries) rfl
  have b__law_tries := f__law_tries.bindsN (ps := ["_law_asks"]) bn__law_tries
  have m__law_tries := He.glo_ok X G (cd.fact 23 (f := .glo "_law_tries") rfl)
  obtain ⟨fd__law_kinds, f__law_kinds⟩ := cd.def_ 24 (d := d__law_kinds) rfl
  have b__law_kinds := f__law_kinds.bindsN (ps := []) bn__law_kinds
  have m__law_kinds := He.glo_ok X G (cd.fact 24 (f := .glo "_law_kinds") rfl)
  obtain ⟨fd__law_is_squall, f__law_is_squall⟩ := cd.def_ 25 (d := d__law_is_squall) rfl
  have b__law_is_squall := f__law_is_squall.bindsN (ps := ["_law_kind"]) bn__law_is_squall
  have m__law_is_squall := He.glo_ok X G (cd.fact 25 (f := .glo "_law_is_squall") rfl)
  obtain ⟨fd__law_bounds, f__law_bounds⟩ := cd.def_ 26 (d := d__law_bounds) rfl
  have b__law_bounds := f__law_bounds.bindsN (ps := ["_law_kind"]) bn__law_bounds
  have m__law_bounds := He.glo_ok X G (cd.fact 26 (f := .glo "_law_bounds") rfl)
  obtain ⟨fd__law_any_number, f__law_any_number⟩ := cd.def_ 27 (d := d__law_any_number) rfl
  have b__law_any_number := f__law_any_number.bindsN (ps := ["_law_bag", "_law_ends"]) bn__law_any_number
  have m__law_any_number := He.glo_ok X G (cd.fact 27 (f := .glo "_law_any_number") rfl)
  obtain ⟨fd__law_any_gauge, f__law_any_gauge⟩ := cd.def_ 28 (d := d__law_any_gauge) rfl
  have b__law_any_gauge := f__law_any_gauge.bindsN (ps := ["_law_bag"]) bn__law_any_gauge
  have m__law_any_gauge := He.glo_ok X G (cd.fact 28 (f := .glo "_law_any_gauge") rfl)
  obtain ⟨fd__law_any_place, f__law_any_place⟩ := cd.def_ 29 (d := d__law_any_place) rfl
  have b__law_any_place := f__law_any_place.bindsN (ps := ["_law_bag"]) bn__law_any_place
  have m__law_any_place := He.glo_ok X G (cd.fact 29 (f := .glo "_law_any_place") rfl)
  obtain ⟨fd__law_any_region, f__law_any_region⟩ := cd.def_ 30 (d := d__law_any_region) rfl
  have b__law_any_region := f__law_any_region.bindsN (ps := ["_law_bag", "_law_most"]) bn__law_any_region
  have m__law_any_region := He.glo_ok X G (cd.fact 30 (f := .glo "_law_any_region") rfl)
  obtain ⟨fd__law_any_saying, f__law_any_saying⟩ := cd.def_ 31 (d := d__law_any_saying) rfl
  have b__law_any_saying := f__law_any_saying.bindsN (ps := ["_law_bag", "_law_kind"]) bn__law_any_saying
  have m__law_any_saying := He.glo_ok X G (cd.fact 31 (f := .glo "_law_any_saying") rfl)
  obtain ⟨fd__law_call, f__law_call⟩ := cd.def_ 32 (d := d__law_call) rfl
  have b__law_call := f__law_call.bindsN (ps := ["_law_kind", "_law_regs", "_law_nums", "_law_by_z"]) bn__law_call
  have m__law_call := He.glo_ok X G (cd.fact 32 (f := .glo "_law_call") rfl)
  obtain ⟨fd__law_made, f__law_made⟩ := cd.def_ 33 (d := d__law_made) rfl
  have b__law_made := f__law_made.bindsN (ps := ["_law_one"]) bn__law_made
  have m__law_made := He.glo_ok X G (cd.fact 33 (f := .glo "_law_made") rfl)
  obtain ⟨fd__law_told, f__law_told⟩ := cd.def_ 34 (d := d__law_told) rfl
  have b__law_told := f__law_told.bindsN (ps := ["_law_made_here"]) bn__law_told
  have m__law_told := He.glo_ok X G (cd.fact 34 (f := .glo "_law_told") rfl)
  obtain ⟨fd__law_is_word, f__law_is_word⟩ := cd.def_ 35 (d := d__law_is_word) rfl
  have b__law_is_word := f__law_is_word.bindsN (ps := ["_law_text"]) bn__law_is_word
  have m__law_is_word := He.glo_ok X G (cd.fact 35 (f := .glo "_law_is_word") rfl)
  obtain ⟨fd__law_is_place, f__law_is_place⟩ := cd.def_ 36 (d := d__law_is_place) rfl
  have b__law_is_place := f__law_is_place.bindsN (ps := ["_law_value"]) bn__law_is_place
  have m__law_is_place := He.glo_ok X G (cd.fact 36 (f := .glo "_law_is_place") rfl)
  obtain ⟨fd__law_odd_gauge, f__law_odd_gauge⟩ := cd.def_ 37 (d := d__law_odd_gauge) rfl
  have b__law_odd_gauge := f__law_odd_gauge.bindsN (ps := ["_law_bag"]) bn__law_odd_gauge
  have m__law_odd_gauge := He.glo_ok X G (cd.fact 37 (f := .glo "_law_odd_gauge") rfl)
  obtain ⟨fd__law_odd_region, f__law_odd_region⟩ := cd.def_ 38 (d := d__law_odd_region) rfl
  have b__law_odd_region := f__law_odd_region.bindsN (ps := ["_law_bag"]) bn__law_odd_region
  have m__law_odd_region := He.glo_ok X G (cd.fact 38 (f := .glo "_law_odd_region") rfl)
  obtain ⟨fd__law_odd_place, f__law_odd_place⟩ := cd.def_ 39 (d := d__law_odd_place) rfl
  have b__law_odd_place := f__law_odd_place.bindsN (ps := ["_law_bag"]) bn__law_odd_place
  have m__law_odd_place := He.glo_ok X G (cd.fact 39 (f := .glo "_law_odd_place") rfl)
  obtain ⟨fd__law_odd_number, f__law_odd_number⟩ := cd.def_ 40 (d := d__law_odd_number) rfl
  have b__law_odd_number := f__law_odd_number.bindsN (ps := ["_law_bag", "_law_ends"]) bn__law_odd_number
  have m__law_odd_number := He.glo_ok X G (cd.fact 40 (f := .glo "_law_odd_number") rfl)
  obtain ⟨fd__law_region_due, f__law_region_due⟩ := cd.def_ 41 (d := d__law_region_due) rfl
  have b__law_region_due := f__law_region_due.bindsN (ps := ["_law_value"]) bn__law_region_due
  have m__law_region_due := He.glo_ok X G (cd.fact 41 (f := .glo "_law_region_due") rfl)
  obtain ⟨fd__law_call_due, f__law_call_due⟩ := cd.def_ 42 (d := d__law_call_due) rfl
  have b__law_call_due := f__law_call_due.bindsN (ps := ["_law_kind", "_law_regs", "_law_nums", "_law_by_z"]) bn__law_call_due
  have m__law_call_due := He.glo_ok X G (cd.fact 42 (f := .glo "_law_call_due") rfl)
  obtain ⟨fd__law_copied, f__law_copied⟩ := cd.def_ 43 (d := d__law_copied) rfl
  have b__law_copied := f__law_copied.bindsN (ps := ["_law_values"]) bn__law_copied
  have m__law_copied := He.glo_ok X G (cd.fact 43 (f := .glo "_law_copied") rfl)
  obtain ⟨fd_law, f_law⟩ := cd.def_ 44 (d := d_law) rfl
  obtain ⟨fd_Saying___init__, f_Saying___init__⟩ := cd.def_ 45 (d := d_Saying___init__) rfl
  have b_Saying___init__ := f_Saying___init__.bindsN (ps := ["self", "kind", "regions", "numbers", "gauge"]) bn_Saying___init__
  obtain ⟨fd_Saying_numbers, f_Saying_numbers⟩ := cd.def_ 46 (d := d_Saying_numbers) rfl
  have b_Saying_numbers := f_Saying_numbers.bindsN (ps := ["self"]) bn_Saying_numbers
  obtain ⟨fd_Saying_regions, f_Saying_regions⟩ := cd.def_ 47 (d := d_Saying_regions) rfl
  have b_Saying_regions := f_Saying_regions.bindsN (ps := ["self"]) bn_Saying_regions
  obtain ⟨fd_Saying_with_gauge, f_Saying_with_gauge⟩ := cd.def_ 48 (d := d_Saying_with_gauge) rfl
  have b_Saying_with_gauge := f_Saying_with_gauge.bindsN (ps := ["self", "gauge"]) bn_Saying_with_gauge
  obtain ⟨fi0, g0⟩ := cd.def_ 49 (d := di_InvalidGauge) rfl
  have bi0 := g0.bindsN (ps := ["self", "value"]) bni_InvalidGauge
  obtain ⟨fi1, g1⟩ := cd.def_ 50 (d := di_InvalidNumber) rfl
  have bi1 := g1.bindsN (ps := ["self", "value"]) bni_InvalidNumber
  obtain ⟨fi2, g2⟩ := cd.def_ 51 (d := di_InvalidPlace) rfl
  have bi2 := g2.bindsN (ps := ["self", "value"]) bni_InvalidPlace
  obtain ⟨fi3, g3⟩ := cd.def_ 52 (d := di_InvalidRegion) rfl
  have bi3 := g3.bindsN (ps := ["self", "at"]) bni_InvalidRegion
  have e := hfa.symm.trans (He.glo_ok X G (cd.fact 44 (f := .glo "law") rfl))
  cases e
  have hnd := of_decide_eq_true (exb_at cm 21 rfl)
  have bL := FunD.bindsA (ps := ["_law_script"]) f_law bn_law
  refine ⟨fd_law, (lml.map (·.1)).map (He.cT K), upX K (fun n => He.ga K n) (lml.map fun p => ((He.cT K p.1).2, p.2)) sp_law, fun p hp => ?_, fun p hp => ?_, fun p hp => ?_, fun s v => bL s [v] rfl, fun H a ns hl _ hT hS => law_end2 law_sp H a ns hl (fun p hp => ?_) hS, fun base _ _ TB => ?_⟩
  · obtain ⟨q, hq, rfl⟩ := List.mem_map.mp hp; exact c.empty q hq
  · obtain ⟨q, hq, rfl⟩ := List.mem_map.mp hp; exact c.out q hq
  · obtain ⟨q, hq, rfl⟩ := List.mem_map.mp hp; exact PySem.W.codeHd_of_K X (c.hd q hq)
  · obtain ⟨q, hq, rfl⟩ := List.mem_map.mp hp; exact hT (He.cT K q.1) (List.mem_map.mpr ⟨q.1, List.mem_map.mpr ⟨q, hq, rfl⟩, rfl⟩)
  have hno_Saying : ∀ f ∈ fields_Saying, NoAttr K (He.ga K "Saying") f := by
    intro f hf
    simp only [fields_Saying, List.mem_cons, List.not_mem_nil, or_false] at hf
    rcases hf with rfl | rfl | rfl | rfl
    · exact He.noat_ok (cd.fact 54 (f := .noat "Saying" "kind") rfl)
    · exact He.noat_ok (cd.fact 55 (f := .noat "Saying" "gauge") rfl)
    · exact He.noat_ok (cd.fact 56 (f := .noat "Saying" "held_regions") rfl)
    · exact He.noat_ok (cd.fact 57 (f := .noat "Saying" "held_numbers") rfl)
  have hcls_Saying : Cls K (He.ga K "Saying") := He.cls_ok (cd.fact 53 (f := .cls "Saying") rfl)
  have GB : Gb R.prog w K mg base (fun n => He.ga K n) := ⟨He.free_ok X G (cd.fact 62 (f := .free "abs") rfl),
    He.free_ok X G (cd.fact 63 (f := .free "all") rfl),
    He.free_ok X G (cd.fact 64 (f := .free "bool") rfl),
    He.free_ok X G (cd.fact 65 (f := .free "dict") rfl),
    He.free_ok X G (cd.fact 66 (f := .free "enumerate") rfl),
    He.free_ok X G (cd.fact 67 (f := .free "int") rfl),
    He.free_ok X G (cd.fact 68 (f := .free "isinstance") rfl),
    He.free_ok X G (cd.fact 69 (f := .free "len") rfl),
    He.free_ok X G (cd.fact 70 (f := .free "list") rfl),
    He.free_ok X G (cd.fact 71 (f := .free "max") rfl),
    He.free_ok X G (cd.fact 72 (f := .free "min") rfl),
    He.free_ok X G (cd.fact 73 (f := .free "range") rfl),
    He.free_ok X G (cd.fact 74 (f := .free "set") rfl),
    He.free_ok X G (cd.fact 75 (f := .free "sorted") rfl),
    He.free_ok X G (cd.fact 76 (f := .free "str") rfl),
    He.free_ok X G (cd.fact 77 (f := .free "tuple") rfl),
    He.free_ok X G (cd.fact 78 (f := .free "zip") rfl),
    gcB_ok X G (exb_at cm 0 rfl),
    gcB_ok X G (exb_at cm 1 rfl),
    gcB_ok X G (exb_at cm 2 rfl),
    gcB_ok X G (exb_at cm 3 rfl),
    gcB_ok X G (exb_at cm 4 rfl),
    kt_ok (He.glo_ok X G (cd.fact 52 (f := .glo "BOUNDS") rfl)) (tab_at c.t 0 rfl) (exb_at cm 5 rfl),
    ⟨oexB_ok (exb_at cm 6 rfl), ⟨_, fi0, _, (iniB_ok (exb_at cm 7 rfl)).1, (iniB_ok (exb_at cm 7 rfl)).2, ini_InvalidGauge (oexB_ok (exb_at cm 6 rfl)) (exb_at cm 8 rfl) g0, bi0⟩, He.glo_ok X G (cd.fact 45 (f := .glo "InvalidGauge") rfl)⟩,
    ⟨oexB_ok (exb_at cm 9 rfl), ⟨_, fi1, _, (iniB_ok (exb_at cm 10 rfl)).1, (iniB_ok (exb_at cm 10 rfl)).2, ini_InvalidNumber (oexB_ok (exb_at cm 9 rfl)) (exb_at cm 11 rfl) g1, bi1⟩, He.glo_ok X G (cd.fact 46 (f := .glo "InvalidNumber") rfl)⟩,
    ⟨oexB_ok (exb_at cm 12 rfl), ⟨_, fi2, _, (iniB_ok (exb_at cm 13 rfl)).1, (iniB_ok (exb_at cm 13 rfl)).2, ini_InvalidPlace (oexB_ok (exb_at cm 12 rfl)) (exb_at cm 14 rfl) g2, bi2⟩, He.glo_ok X G (cd.fact 47 (f := .glo "InvalidPlace") rfl)⟩,
    ⟨oexB_ok (exb_at cm 15 rfl), ⟨_, fi3, _, (iniB_ok (exb_at cm 16 rfl)).1, (iniB_ok (exb_at cm 16 rfl)).2, ini_InvalidRegion (oexB_ok (exb_at cm 15 rfl)) (exb_at cm 17 rfl) g3, bi3⟩, He.glo_ok X G (cd.fact 48 (f := .glo "InvalidRegion") rfl)⟩,
    ⟨hcls_Saying, hno_Saying⟩,
    He.glo_ok X G (cd.fact 51 (f := .glo "Saying") rfl),
    He.glo_ok X G (cd.fact 49 (f := .glo "SkyError") rfl),
    He.glo_ok X G (cd.fact 50 (f := .glo "Missing") rfl),
    fun n hn => of_decide_eq_true (List.all_eq_true.mp (exb_at cm 18 rfl) n hn),
    fun n hn => ⟨xfB_ok (List.all_eq_true.mp (exb_at cm 19 rfl) n hn), List.all_eq_true.mp (exb_at cm 20 rfl) n hn⟩⟩
  let tb := lml.map fun p => ((He.cT K p.1).2, p.2)
  have F_is_number : Fnd R.prog w K mg base (fun n => He.ga K n) tb 1 "is_number" s_is_number ["value", "least", "most"] sp_is_number := ⟨_, fd_is_number, f_is_number, ok_is_number GB f_is_number, m_is_number, b_is_number⟩
  have F_is_name : Fnd R.prog w K mg base (fun n => He.ga K n) tb 1 "is_name" s_is_name ["value"] sp_is_name := ⟨_, fd_is_name, f_is_name, ok_is_name GB f_is_name, m_is_name, b_is_name⟩
  have F_is_cell : Fnd R.prog w K mg base (fun n => He.ga K n) tb 2 "is_cell" s_is_cell ["value"] sp_is_cell := ⟨_, fd_is_cell, f_is_cell, ok_is_cell GB F_is_number f_is_cell, m_is_cell, b_is_cell⟩
  have F_is_place : Fnd R.prog w K mg base (fun n => He.ga K n) tb 3 "is_place" s_is_place ["value"] sp_is_place := ⟨_, fd_is_place, f_is_place, ok_is_place GB F_is_cell F_is_number f_is_place, m_is_place, b_is_place⟩
  have F_first_outside : Fnd R.prog w K mg base (fun n => He.ga K n) tb 2 "first_outside" s_first_outside ["kind", "numbers"] sp_first_outside := ⟨_, fd_first_outside, f_first_outside, ok_first_outside GB F_is_number f_first_outside, m_first_outside, b_first_outside⟩
  have F_check_gauge : Fnd R.prog w K mg base (fun n => He.ga K n) tb 3 "check_gauge" s_check_gauge ["gauge"] sp_check_gauge := ⟨_, fd_check_gauge, f_check_gauge, ok_check_gauge GB F_is_name f_check_gauge, m_check_gauge, b_check_gauge⟩
  have F_kept_region : Fnd R.prog w K mg base (fun n => He.ga K n) tb 4 "kept_region" s_kept_region ["region"] sp_kept_region := ⟨_, fd_kept_region, f_kept_region, ok_kept_region GB F_is_place f_kept_region, m_kept_region, b_kept_region⟩
  have F_kept_place : Fnd R.prog w K mg base (fun n => He.ga K n) tb 4 "kept_place" s_kept_place ["place"] sp_kept_place := ⟨_, fd_kept_place, f_kept_place, ok_kept_place GB F_is_place f_kept_place, m_kept_place, b_kept_place⟩
  have M_Saying_4 : Mkr R.prog w K mg base (fun n => He.ga K n) tb 1 "Saying" 4 [] ["self", "kind", "regions", "numbers", "gauge"] (fun ds es => ds ++ es) sp_Saying___init__ := ⟨_, fd_Saying___init__, He.mkr_ok (cd.fact 61 (f := .mkr "Saying") rfl), ok_Saying___init__ GB f_Saying___init__, kb_M_Saying_4 f_Saying___init__, He.glo_ok X G (cd.fact 51 (f := .glo "Saying") rfl)⟩
  have F_made : Fnd R.prog w K mg base (fun n => He.ga K n) tb 4 "made" s_made ["kind", "regions", "numbers", "gauge"] sp_made := ⟨_, fd_made, f_made, ok_made GB M_Saying_4 F_check_gauge F_first_outside f_made, m_made, b_made⟩
  have G_at_most_2_gauge : FndK R.prog w K mg base (fun n => He.ga K n) tb 5 "at_most" 2 ["gauge"] ["region", "limit", "gauge"] (fun ds es => ds ++ es) sp_at_most := ⟨_, fd_at_most, ok_at_most GB F_kept_region F_made f_at_most, kb_G_at_most_2_gauge f_at_most (fun z => by cases z), m_at_most, f_at_most.kp⟩
  have G_at_least_2_gauge : FndK R.prog w K mg base (fun n => He.ga K n) tb 5 "at_least" 2 ["gauge"] ["region", "amount", "gauge"] (fun ds es => ds ++ es) sp_at_least := ⟨_, fd_at_least, ok_at_least GB F_kept_region F_made f_at_least, kb_G_at_least_2_gauge f_at_least (fun z => by cases z), m_at_least, f_at_least.kp⟩
  have G_exactly_2_gauge : FndK R.prog w K mg base (fun n => He.ga K n) tb 5 "exactly" 2 ["gauge"] ["region", "limit", "gauge"] (fun ds es => ds ++ es) sp_exactly := ⟨_, fd_exactly, ok_exactly GB F_kept_region F_made f_exactly, kb_G_exactly_2_gauge f_exactly (fun z => by cases z), m_exactly, f_exactly.kp⟩
  have G_under_3_gauge : FndK R.prog w K mg base (fun n => He.ga K n) tb 5 "under" 3 ["gauge"] ["region", "other", "more", "gauge"] (fun ds es => ds ++ es) sp_under := ⟨_, fd_under, ok_under GB F_kept_region F_made f_under, kb_G_under_3_gauge f_under (fun z => by cases z), m_under, f_under.kp⟩
  have G_level_3_gauge : FndK R.prog w K mg base (fun n => He.ga K n) tb 5 "level" 3 ["gauge"] ["region", "other", "more", "gauge"] (fun ds es => ds ++ es) sp_level := ⟨_, fd_level, ok_level GB F_kept_region F_made f_level, kb_G_level_3_gauge f_level (fun z => by cases z), m_level, f_level.kp⟩
  have G_if_then_4_gauge : FndK R.prog w K mg base (fun n => He.ga K n) tb 5 "if_then" 4 ["gauge"] ["region", "amount", "other", "least", "gauge"] (fun ds es => ds ++ es) sp_if_then := ⟨_, fd_if_then, ok_if_then GB F_kept_region F_made f_if_then, kb_G_if_then_4_gauge f_if_then (fun z => by cases z), m_if_then, f_if_then.kp⟩
  have G_squall_most_2_gauge : FndK R.prog w K mg base (fun n => He.ga K n) tb 5 "squall_most" 2 ["gauge"] ["place", "limit", "gauge"] (fun ds es => ds ++ es) sp_squall_most := ⟨_, fd_squall_most, ok_squall_most GB F_kept_place F_made f_squall_most, kb_G_squall_most_2_gauge f_squall_most (fun z => by cases z), m_squall_most, f_squall_most.kp⟩
  have G_squall_least_2_gauge : FndK R.prog w K mg base (fun n => He.ga K n) tb 5 "squall_least" 2 ["gauge"] ["place", "amount", "gauge"] (fun ds es => ds ++ es) sp_squall_least := ⟨_, fd_squall_least, ok_squall_least GB F_kept_place F_made f_squall_least, kb_G_squall_least_2_gauge f_squall_least (fun z => by cases z), m_squall_least, f_squall_least.kp⟩
  have F__law_open : Fnd R.prog w K mg base (fun n => He.ga K n) tb 1 "_law_open" s__law_open ["_law_script"] sp__law_open := ⟨_, fd__law_open, f__law_open, ok__law_open GB f__law_open, m__law_open, b__law_open⟩
  have F__law_draw : Fnd R.prog w K mg base (fun n => He.ga K n) tb 1 "_law_draw" s__law_draw ["_law_bag", "_law_sides"] sp__law_draw := ⟨_, fd__law_draw, f__law_draw, HB.drawB_ok (ok__law_draw GB f__law_draw), m__law_draw, b__law_draw⟩
  have F__law_of : Fnd R.prog w K mg base (fun n => He.ga K n) tb 2 "_law_of" s__law_of ["_law_bag", "_law_things"] sp__law_of := ⟨_, fd__law_of, f__law_of, ok__law_of GB F__law_draw f__law_of, m__law_of, b__law_of⟩
  have F__law_same : Fnd R.prog w K mg base (fun n => He.ga K n) tb 8 "_law_same" s__law_same ["_law_found", "_law_due"] sp__law_same := same_ok GB f__law_same m__law_same b__law_same 6
  have F__law_field : FndH R.prog w K mg base (fun n => He.ga K n) 1 "_law_field" s__law_field ["_law_e"] (sp__law_field xnames) := ⟨_, fd__law_field, f__law_field, ok__law_field GB f__law_field, m__law_field, b__law_field⟩
  have F__law_try := And.intro f__law_try (And.intro m__law_try b__law_try)
  have F__law_tries := And.intro f__law_tries (And.intro m__law_tries b__law_tries)
  have F__law_kinds : Fnd R.prog w K mg base (fun n => He.ga K n) tb 1 "_law_kinds" s__law_kinds [] sp__law_kinds := ⟨_, fd__law_kinds, f__law_kinds, ok__law_kinds GB f__law_kinds, m__law_kinds, b__law_kinds⟩
  have F__law_is_squall : Fnd R.prog w K mg base (fun n => He.ga K n) tb 1 "_law_is_squall" s__law_is_squall ["_law_kind"] sp__law_is_squall := ⟨_, fd__law_is_squall, f__law_is_squall, ok__law_is_squall GB f__law_is_squall, m__law_is_squall, b__law_is_squall⟩
  have F__law_bounds : Fnd R.prog w K mg base (fun n => He.ga K n) tb 1 "_law_bounds" s__law_bounds ["_law_kind"] sp__law_bounds := ⟨_, fd__law_bounds, f__law_bounds, ok__law_bounds GB f__law_bounds, m__law_bounds, b__law_bounds⟩
  have F__law_any_number : Fnd R.prog w K mg base (fun n => He.ga K n) tb 3 "_law_any_number" s__law_any_number ["_law_bag", "_law_ends"] sp__law_any_number := ⟨_, fd__law_any_number, f__law_any_number, ok__law_any_number GB F__law_draw F__law_of f__law_any_number, m__law_any_number, b__law_any_number⟩
  have F__law_any_gauge : Fnd R.prog w K mg base (fun n => He.ga K n) tb 3 "_law_any_gauge" s__law_any_gauge ["_law_bag"] sp__law_any_gauge := ⟨_, fd__law_any_gauge, f__law_any_gauge, ok__law_any_gauge GB F__law_of f__law_any_gauge, m__law_any_gauge, b__law_any_gauge⟩
  have F__law_any_place : Fnd R.prog w K mg base (fun n => He.ga K n) tb 3 "_law_any_place" s__law_any_place ["_law_bag"] sp__law_any_place := ⟨_, fd__law_any_place, f__law_any_place, ok__law_any_place GB F__law_draw F__law_of f__law_any_place, m__law_any_place, b__law_any_place⟩
  have F__law_any_region : Fnd R.prog w K mg base (fun n => He.ga K n) tb 4 "_law_any_region" s__law_any_region ["_law_bag", "_law_most"] sp__law_any_region := ⟨_, fd__law_any_region, f__law_any_region, ok__law_any_region GB F__law_any_place F__law_draw f__law_any_region, m__law_any_region, b__law_any_region⟩
  have F__law_any_saying : Fnd R.prog w K mg base (fun n => He.ga K n) tb 5 "_law_any_saying" s__law_any_saying ["_law_bag", "_law_kind"] sp__law_any_saying := ⟨_, fd__law_any_saying, f__law_any_saying, ok__law_any_saying GB F__law_any_gauge F__law_any_number F__law_any_place F__law_any_region F__law_bounds F__law_is_squall f__law_any_saying, m__law_any_saying, b__law_any_saying⟩
  have F__law_call : Fnd R.prog w K mg base (fun n => He.ga K n) tb 6 "_law_call" s__law_call ["_law_kind", "_law_regs", "_law_nums", "_law_by_z"] sp__law_call := ⟨_, fd__law_call, f__law_call, ok__law_call GB G_at_least_2_gauge G_at_most_2_gauge G_exactly_2_gauge G_if_then_4_gauge G_level_3_gauge G_squall_least_2_gauge G_squall_most_2_gauge G_under_3_gauge f__law_call, m__law_call, b__law_call⟩
  have F__law_made : Fnd R.prog w K mg base (fun n => He.ga K n) tb 7 "_law_made" s__law_made ["_law_one"] sp__law_made := ⟨_, fd__law_made, f__law_made, ok__law_made GB F__law_call F__law_is_squall f__law_made, m__law_made, b__law_made⟩
  have F_Saying_numbers : Mtd R.prog w K mg base (fun n => He.ga K n) tb 1 "Saying" "numbers" ["self"] sp_Saying_numbers := ⟨_, fd_Saying_numbers, ok_Saying_numbers GB f_Saying_numbers, b_Saying_numbers, He.meth_ok (cd.fact 58 (f := .meth "Saying" "numbers") rfl), hcls_Saying⟩
  have F_Saying_regions : Mtd R.prog w K mg base (fun n => He.ga K n) tb 1 "Saying" "regions" ["self"] sp_Saying_regions := ⟨_, fd_Saying_regions, ok_Saying_regions GB f_Saying_regions, b_Saying_regions, He.meth_ok (cd.fact 59 (f := .meth "Saying" "regions") rfl), hcls_Saying⟩
  have F__law_told : Fnd R.prog w K mg base (fun n => He.ga K n) tb 2 "_law_told" s__law_told ["_law_made_here"] sp__law_told := ⟨_, fd__law_told, f__law_told, ok__law_told GB F_Saying_numbers F_Saying_regions f__law_told, m__law_told, b__law_told⟩
  have F__law_is_word : Fnd R.prog w K mg base (fun n => He.ga K n) tb 1 "_law_is_word" s__law_is_word ["_law_text"] sp__law_is_word := ⟨_, fd__law_is_word, f__law_is_word, ok__law_is_word GB f__law_is_word, m__law_is_word, b__law_is_word⟩
  have F__law_is_place : Fnd R.prog w K mg base (fun n => He.ga K n) tb 1 "_law_is_place" s__law_is_place ["_law_value"] sp__law_is_place := ⟨_, fd__law_is_place, f__law_is_place, ok__law_is_place GB f__law_is_place, m__law_is_place, b__law_is_place⟩
  have F__law_odd_gauge : Fnd R.prog w K mg base (fun n => He.ga K n) tb 3 "_law_odd_gauge" s__law_odd_gauge ["_law_bag"] sp__law_odd_gauge := ⟨_, fd__law_odd_gauge, f__law_odd_gauge, ok__law_odd_gauge GB F__law_of f__law_odd_gauge, m__law_odd_gauge, b__law_odd_gauge⟩
  have F__law_odd_region : Fnd R.prog w K mg base (fun n => He.ga K n) tb 3 "_law_odd_region" s__law_odd_region ["_law_bag"] sp__law_odd_region := ⟨_, fd__law_odd_region, f__law_odd_region, ok__law_odd_region GB F__law_of f__law_odd_region, m__law_odd_region, b__law_odd_region⟩
  have F__law_odd_place : Fnd R.prog w K mg base (fun n => He.ga K n) tb 3 "_law_odd_place" s__law_odd_place ["_law_bag"] sp__law_odd_place := ⟨_, fd__law_odd_place, f__law_odd_place, ok__law_odd_place GB F__law_of f__law_odd_place, m__law_odd_place, b__law_odd_place⟩
  have F__law_odd_number : Fnd R.prog w K mg base (fun n => He.ga K n) tb 3 "_law_odd_number" s__law_odd_number ["_law_bag", "_law_ends"] sp__law_odd_number := ⟨_, fd__law_odd_number, f__law_odd_number, ok__law_odd_number GB F__law_of f__law_odd_number, m__law_odd_number, b__law_odd_number⟩
  have F__law_region_due : Fnd R.prog w K mg base (fun n => He.ga K n) tb 2 "_law_region_due" s__law_region_due ["_law_value"] sp__law_region_due := ⟨_, fd__law_region_due, f__law_region_due, ok__law_region_due GB F__law_is_place f__law_region_due, m__law_region_due, b__law_region_due⟩
  have F__law_call_due : Fnd R.prog w K mg base (fun n => He.ga K n) tb 3 "_law_call_due" s__law_call_due ["_law_kind", "_law_regs", "_law_nums", "_law_by_z"] sp__law_call_due := ⟨_, fd__law_call_due, f__law_call_due, ok__law_call_due GB F__law_bounds F__law_is_place F__law_is_squall F__law_is_word F__law_region_due f__law_call_due, m__law_call_due, b__law_call_due⟩
  have F__law_copied : Fnd R.prog w K mg base (fun n => He.ga K n) tb 1 "_law_copied" s__law_copied ["_law_values"] sp__law_copied := ⟨_, fd__law_copied, f__law_copied, ok__law_copied GB f__law_copied, m__law_copied, b__law_copied⟩
  have F_Saying_with_gauge : Mtd R.prog w K mg base (fun n => He.ga K n) tb 4 "Saying" "with_gauge" ["self", "gauge"] sp_Saying_with_gauge := ⟨_, fd_Saying_with_gauge, ok_Saying_with_gauge GB M_Saying_4 F_check_gauge f_Saying_with_gauge, b_Saying_with_gauge, He.meth_ok (cd.fact 60 (f := .meth "Saying" "with_gauge") rfl), hcls_Saying⟩
  have lm0 := tb_one hnd (p := (("law", none), ((PyProof.Rows.envOfC "law" (defScope s_law) 0 0 .none).qual ++ "<lambda>"))) (by exact List.mem_of_getElem? (i := 0) rfl)
  have TB0 := TB (He.cT K ("law", none)) (List.mem_map.mpr ⟨("law", none), List.mem_of_getElem? (i := 0) rfl, rfl⟩)
  exact ok_law GB F_Saying_with_gauge F__law_any_saying F__law_bounds F__law_call F__law_call_due F__law_copied F__law_draw F__law_is_squall F__law_kinds F__law_made F__law_odd_gauge F__law_odd_number F__law_odd_place F__law_odd_region F__law_of F__law_open F__law_same F__law_told F__law_tries F__law_field F__law_try lm0.1 lm0.2 TB0 f_law
end K21
open PySem PySem.W PySem.Calls PyProof.Rows
theorem PySem.Challenge.cw_highestsky_k21_sayings_refused_holds : PySem.Challenge.rw_highestsky_k21_sayings_refused.Holds := by
  w_on; o_law
  refine HandSHeadRun.head_any (r := OpenLaw.row PySem.Challenge.rw_highestsky_k21_sayings_refused) (q := view (OpenLaw.row PySem.Challenge.rw_highestsky_k21_sayings_refused).prog [65]) (H := K21.hk) (ob := K21.ob) (M := 20000) (loose := K21.loo) (d := HandSHeadRun.topDef (OpenLaw.row PySem.Challenge.rw_highestsky_k21_sayings_refused).prog 65) (kwd := []) K21.ob_eq
    (by kernel_rfl) (fun s => by kernel_rfl) K21.run (by kernel_rfl) (by kernel_rfl) (by kernel_rfl) (by rfl) (by first | assumption | decide +kernel) (by decide +kernel) ⟨rfl, rfl, rfl, rfl, rfl, by decide +kernel⟩ ?hw ?hc
  case hw => w_witness2
  case hc =>
    refine LamX.walk_ofTsE (l := PySem.Challenge.rw_highestsky_k21_sayings_refused) (n := 63) (k := 14) (x := "_law_script") (CX := fun w => L2N.CX (PySem.Challenge.rw_highestsky_k21_sayings_refused).prog w) rfl (by decide) (by kernel_rfl) ⟨rfl, by decide, by decide⟩ ?F (fun w H s e s' z => DL.cx_end _ w H s e s' z)
    intro w mg fa h Y G hmg0
    obtain ⟨K, KX, c⟩ := Y
    have hmg : mg ("law" : PySem.Str) = some (.ref fa) := by
      have e : (HandSHeadRun.topDef (OpenLaw.row PySem.Challenge.rw_highestsky_k21_sayings_refused).prog 65).name = ("law" : PySem.Str) := by kernel_rfl
      rw [← e]
      exact hmg0
    exact ⟨K, KX, K21.facts KX G hmg c⟩
