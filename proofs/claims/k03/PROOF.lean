import PyProof.Rows.All
import Wide.All
import OpenK.AllK
import Wide.FinOn
import HandS.ForMost
import HandS.ForExc
import HandS.Evl
import HandS.ExcInit
import HandS.Head0
import HandS.Head1
import HandS.Head2
import HandS.HeadEnd
import HandS.HeadHook1
import HandS.HeadHook2
import KE.KStateDown
import PySem.Challenge.RW_turnedback_k03_whole_ways
import HandS.IsInst
import HandS.HotCalls
import HandS.Wide
import HandS.TupAny
import HandS.SortInts
import HandS.Conv
import HandS.Zip
import HandS.SetFor
import HandS.CallSlots
import HandS.SortOrd
import HandS.WordsDict
import HandS.Defaults
import HandS.ExcIs
import HandS.ExcField
import KE.KExcIs
import HandS.Text
import HandS.StrSplit
import PyProof.Rows.IntBool
import HandS.Style
import KE.GoesMore
import PyProof.EnumMake
import HandS.Iter
import KE.BitLaws
set_option Elab.async false
set_option linter.all false
set_option maxRecDepth 100000
set_option maxHeartbeats 4000000
namespace WL
open PySem PySem.W PySem.Calls PySem.Spec PyProof.Rows L2 Evl He
/-! ### what the head of a law looks at -/
def biNames : List Str := ["isinstance", "int", "bool", "len", "range", "tuple", "list", "dict", "str", "all", "set", "abs", "sorted", "min", "max", "sum", "enumerate", "zip", "reversed", "any", "ValueError"]
def exNames : List Str := ["RoomError", "BadRoom", "BadArrangement", "BadWay", "BadThing", "BadShape", "BadRules", "BadValue", "BadMove", "BadText", "NotInside", "NotOne", "NotDown", "NotChain", "TooMany", "NothingToUndo", "NothingToRedo"]
def exFlds : List Str := ["key", "name", "line", "row", "word", "column"]
def exSub (x y : Str) : Bool := decide (x = y) || decide (y = "RoomError")
/-! ### what the head tells: facts of the module, defs, one Bool more -/
abbrev AlW : Type := AlD × Bool
def obsW (n : Nat) (fa : List Fa) (fn : List DefD) (ex : PySem.W.Frag → Bool) (g : Addr → Option Obj) : AlW := (obsD fa fn (frG g (asD g n)), ex (frG g (asD g n)))
def hookW (n : Nat) (fa : List Fa) (fn : List DefD) (ex : PySem.W.Frag → Bool) : PySem.W.Hook where
  α := AlW
  obs := fun s => obsW n fa fn ex s.heap.get?
  val := fun _ => (valD fn, true)
  says := fun _ h => ∃ K : PySem.W.Frag, K.In h ∧ SaysD fa fn K ∧ ex K = true
  of := fun _ _ e => ⟨_, frG_in, congrArg (fun z : AlW => z.1) e, congrArg (fun z : AlW => z.2) e⟩
  keeps := fun _ _ _ ⟨K, hK, c⟩ k => ⟨K, PySem.W.Frag.In.keeps hK k, c⟩
theorem obsW_eq {n : Nat} {fa : List Fa} {fn : List DefD} {ex : PySem.W.Frag → Bool} {g : Addr → Option Obj} {s : Shared} (h : ∀ a, g a = s.heap.get? a) : obsW n fa fn ex g = (hookW n fa fn ex).obs s := by
  have e : g = s.heap.get? := funext h
  rw [e] <;> rfl
def oexB (K : PySem.W.Frag) (C : Addr) : Bool := (match K.lookup C with
  | some ⟨.type t, _, .cls cd, sl⟩ => (match cd.mro, sl.toList with
    | .ref C' :: bm, [_, _, _, _, some (.builtin n), _] => decide (t = "type") && (decide (C' = C) && (decide (n = "ValueError.__new__") && (cd.hasDict && (!cd.hasDel && PySem.HandSPX.refsVE bm))))
    | _, _ => false)
  | _ => false) && (decide (PySem.W.findIn K (.ref C) "__setattr__" = some (some (.builtin "object.__setattr__"))) && (decide (PySem.W.subIn K (.ref C) (.type "BaseException") = some true) && (decide (PySem.W.typeIn K (.ref C) = some (.type "type")) && PySem.W.keepIn K (.ref C))))
def excB (K : PySem.W.Frag) (D : Addr) : Bool := decide (PySem.W.findIn K (.ref D) "__getattribute__" = some (some (.builtin "BaseException.__getattribute__"))) && (decide (PySem.W.findIn K (.ref D) "__getattr__" = some none) && (decide (PySem.W.subIn K (.ref D) (.type "BaseException") = some true) && (PySem.W.hasDictIn K D && (decide (PySem.W.findIn K (.ref D) "__class__" = some (some (.builtin "object.__class__"))) && (decide (PySem.W.specialIn K (.builtin "object.__class__") "__get__" = some (some (.builtin "getset_descriptor.__get__"))) && (decide (PySem.W.takesIn K (.builtin "object.__class__") = some true) && decide (PySem.W.mroIn K D (.type "object") = some true)))))))
def gloB (K : PySem.W.Frag) (x : Str) : Bool := eqO (PySem.W.nsIn K mainGlobals x) (some (some (.ref (ga K x))))
def xwB (K : PySem.W.Frag) : Bool := (exNames.all fun x => gloB K x && (excB K (ga K x) && (decide (PySem.W.kitCls K (.ref (ga K x)) (.type "ValueError") = some true) && exFlds.all fun f => decide (PySem.W.findIn K (.ref (ga K x)) f = some none)))) &&
  exNames.all fun x => exNames.all fun y => decide (PySem.W.kitCls K (.ref (ga K x)) (.ref (ga K y)) = some (exSub x y))
/-! ### the head in parts -/
theorem runEq_of {r : PySem.W.OpenRow} {q : Program} {H : PySem.W.Hook} {ob : PySem.W.SharedT → H.α} {M : Nat} {loose : List PySem.Str} {w : World}
    (h1 : ∀ os : OsState, (HandSHeadRun.endF (HandSHeadRun.stepQ (HandSHeadRun.denQ HandSHeadRun.tabQ) r.prog w) M r.prog w os).map (fun s => HandSHeadRun.looksF r.prog (boot_heap w.params) s.abs) = some true)
    (h2 : ∀ os : OsState, (HandSHeadRun.endF (HandSHeadRun.stepQ (HandSHeadRun.denQ HandSHeadRun.tabQ) r.prog w) M r.prog w os).map (fun s => HandSHeadRun.seenQ q loose (PySem.importedModules r.prog.main.body) (fun s => PySem.W.xlAt q [] s && PySem.W.recOk r.toRowW.records s) s.abs) = some (PySem.W.openGood q loose))
    (h3 : ∀ os : OsState, (HandSHeadRun.endF (HandSHeadRun.stepQ (HandSHeadRun.denQ HandSHeadRun.tabQ) r.prog w) M r.prog w os).map ob = some (H.val w)) : HandSHeadRun.RunEq r q H ob M loose w := fun os => by
  have a := h1 os
  have b := h2 os
  have c := h3 os
  cases e : HandSHeadRun.endF (HandSHeadRun.stepQ (HandSHeadRun.denQ HandSHeadRun.tabQ) r.prog w) M r.prog w os with
  | none => rw [e] at a; cases a
  | some s =>
    rw [e] at a b c
    rw [Option.map_some] at a b c ⊢
    rw [Option.some.inj a, Option.some.inj b, Option.some.inj c]
def obP (n : Nat) (fa : List Fa) (fn : List DefD) (s : PySem.W.SharedT) : AlD := obsD fa fn (frG (HandSHeadRun.getT s) (asD (HandSHeadRun.getT s) n))
def obX (n : Nat) (ex : PySem.W.Frag → Bool) (s : PySem.W.SharedT) : Bool := ex (frG (HandSHeadRun.getT s) (asD (HandSHeadRun.getT s) n))
theorem obP_app {E : Option PySem.W.SharedT} {n : Nat} {fa1 fa2 : List Fa} {fn1 fn2 : List DefD} (a : E.map (obP n fa1 fn1) = some (valD fn1)) (b : E.map (obP n fa2 fn2) = some (valD fn2)) : E.map (obP n (fa1 ++ fa2) (fn1 ++ fn2)) = some (valD (fn1 ++ fn2)) := by
  cases E with
  | none => cases a
  | some s =>
    rw [Option.map_some] at a b ⊢
    have a := Option.some.inj a
    have b := Option.some.inj b
    unfold obP obsD valD at a b ⊢
    obtain ⟨a1, a2⟩ := Prod.mk.inj a
    obtain ⟨b1, b2⟩ := Prod.mk.inj b
    rw [List.all_append, List.all_append, List.map_append, List.map_append, a2, b2]
    obtain ⟨a3, a4⟩ := Bool.and_eq_true_iff.mp a1
    obtain ⟨b3, b4⟩ := Bool.and_eq_true_iff.mp b1
    rw [a3, a4, b3, b4]
    rfl
theorem obP_all {E : Option PySem.W.SharedT} {n : Nat} {fa : List Fa} {fn : List DefD} {ex : PySem.W.Frag → Bool} (a : E.map (obP n fa fn) = some (valD fn)) (b : E.map (obX n ex) = some true) : E.map (fun s => obsW n fa fn ex (HandSHeadRun.getT s)) = some (valD fn, true) := by
  cases E with
  | none => cases a
  | some s =>
    rw [Option.map_some] at a b ⊢
    have a := Option.some.inj a
    have b := Option.some.inj b
    unfold obP at a
    unfold obX at b
    unfold obsW
    rw [a, b]
end WL
set_option Elab.async false
set_option linter.all false
set_option maxRecDepth 100000
set_option maxHeartbeats 0
namespace K3
open PySem PySem.W PySem.Calls PySem.Spec PyProof.Rows L2 Evl WL He
/-! ### the head -/
def top (i : Nat) : Stmt := PySem.Challenge.pw_turnedback_k03_whole_ways.main.body.getD i (.Pass ⟨0, 0, 0, 0⟩)
abbrev s_is_int : Stmt := top 19
abbrev s_is_between : Stmt := top 20
abbrev s_is_arrangement : Stmt := top 22
abbrev s_stay : Stmt := top 23
abbrev s_mul : Stmt := top 24
abbrev s_inv : Stmt := top 25
abbrev s_wrong_key : Stmt := top 29
abbrev s_check_room : Stmt := top 30
abbrev s_is_line : Stmt := top 34
abbrev s_wrong_line : Stmt := top 35
abbrev s_is_lines : Stmt := top 36
abbrev s_check_lines : Stmt := top 37
abbrev s_check_way : Stmt := top 38
abbrev s_made_lines : Stmt := top 39
abbrev s_steps_of : Stmt := top 40
abbrev s_used_lines : Stmt := top 41
abbrev s_signs_of : Stmt := top 42
abbrev s_is_way : Stmt := top 43
abbrev s_made : Stmt := top 44
abbrev s_length : Stmt := top 45
abbrev s_plain : Stmt := top 46
abbrev s__law_stream : Stmt := top 48
abbrev s__law_next : Stmt := top 49
abbrev s__law_pick : Stmt := top 50
abbrev s__law_from : Stmt := top 51
abbrev s__law_shuffled : Stmt := top 52
abbrev s__law_number : Stmt := top 53
abbrev s__law_same : Stmt := top 54
abbrev s__law_copy : Stmt := top 55
abbrev s__law_named : Stmt := top 56
abbrev s__law_attributes : Stmt := top 57
abbrev s__law_stay : Stmt := top 58
abbrev s__law_mul : Stmt := top 59
abbrev s__law_inv : Stmt := top 60
abbrev s__law_conj : Stmt := top 61
abbrev s__law_any_arr : Stmt := top 62
abbrev s__law_spec_places : Stmt := top 63
abbrev s__law_within : Stmt := top 64
abbrev s__law_over : Stmt := top 65
abbrev s__law_spec_moves : Stmt := top 66
abbrev s__law_turn : Stmt := top 67
abbrev s__law_spec_plain : Stmt := top 68
abbrev s__law_spec : Stmt := top 69
abbrev s__law_mixed : Stmt := top 70
abbrev s__law_planted : Stmt := top 71
abbrev s__law_any_room : Stmt := top 72
abbrev s__law_is_line : Stmt := top 73
abbrev s__law_bad_line : Stmt := top 74
abbrev s__law_made : Stmt := top 75
abbrev s__law_lengths : Stmt := top 76
abbrev s__law_plain : Stmt := top 77
abbrev s__law_row_made : Stmt := top 78
abbrev s__law_way : Stmt := top 79
abbrev s__law_doubling : Stmt := top 80
abbrev s__law_with_steps : Stmt := top 81
abbrev s__law_bent_line : Stmt := top 82
abbrev s__law_bent_way : Stmt := top 83
abbrev s__law_base_way : Stmt := top 84
abbrev s__law_ask : Stmt := top 85
abbrev s__law_due : Stmt := top 86
abbrev s__law_room : Stmt := top 87
abbrev s_law : Stmt := top 88
end K3
set_option Elab.async false
set_option linter.all false
set_option maxRecDepth 100000
set_option maxHeartbeats 0
namespace K3
open PySem PySem.W PySem.Calls PySem.Spec PyProof.Rows L2 Evl WL He
def dd (x : Str) (st : Stmt) (dv : List Dv) : DefD := ⟨(x, none), x, x, defArgs st, defBody st, defScope st, dv, []⟩
def clsMeth (st : Stmt) : Stmt := match st with
  | .ClassDef _ _ _ b _ _ _ _ _ _ _ => b.getD 0 (.Pass ⟨0, 0, 0, 0⟩)
  | _ => .Pass ⟨0, 0, 0, 0⟩
def di (x : Str) (q : Str) (st : Stmt) : DefD := ⟨(x, some "__init__"), "__init__", q, defArgs (clsMeth st), defBody (clsMeth st), defScope (clsMeth st), [], []⟩
def fn0 : List DefD := ([dd "is_int" s_is_int [], dd "is_between" s_is_between [], dd "is_arrangement" s_is_arrangement [], dd "stay" s_stay [], dd "mul" s_mul [], dd "inv" s_inv [], dd "wrong_key" s_wrong_key [], dd "check_room" s_check_room [], dd "is_line" s_is_line [], dd "wrong_line" s_wrong_line [], dd "is_lines" s_is_lines [.int 2500], dd "check_lines" s_check_lines [], dd "check_way" s_check_way [], dd "made_lines" s_made_lines [], dd "steps_of" s_steps_of [], dd "used_lines" s_used_lines [], dd "signs_of" s_signs_of [], dd "is_way" s_is_way [], dd "made" s_made [], dd "length" s_length []] : List DefD) ++ ([dd "plain" s_plain [], dd "_law_stream" s__law_stream [], dd "_law_next" s__law_next [], dd "_law_pick" s__law_pick [], dd "_law_from" s__law_from [], dd "_law_shuffled" s__law_shuffled [], dd "_law_number" s__law_number [], dd "_law_same" s__law_same [], dd "_law_copy" s__law_copy [], dd "_law_named" s__law_named [], dd "_law_attributes" s__law_attributes [], dd "_law_stay" s__law_stay [], dd "_law_mul" s__law_mul [], dd "_law_inv" s__law_inv [], dd "_law_conj" s__law_conj [], dd "_law_any_arr" s__law_any_arr []] : List DefD)
def fn1 : List DefD := ([dd "_law_spec_places" s__law_spec_places [], dd "_law_within" s__law_within [], dd "_law_over" s__law_over [], dd "_law_spec_moves" s__law_spec_moves [], dd "_law_turn" s__law_turn [], dd "_law_spec_plain" s__law_spec_plain [], dd "_law_spec" s__law_spec [], dd "_law_mixed" s__law_mixed [], dd "_law_planted" s__law_planted [], dd "_law_any_room" s__law_any_room [], dd "_law_is_line" s__law_is_line [], dd "_law_bad_line" s__law_bad_line [], dd "_law_made" s__law_made [], dd "_law_lengths" s__law_lengths [], dd "_law_plain" s__law_plain [], dd "_law_row_made" s__law_row_made [], dd "_law_way" s__law_way [], dd "_law_doubling" s__law_doubling [], dd "_law_with_steps" s__law_with_steps [], dd "_law_bent_line" s__law_bent_line []] : List DefD) ++ ([dd "_law_bent_way" s__law_bent_way [], dd "_law_base_way" s__law_base_way [], dd "_law_ask" s__law_ask [], dd "_law_due" s__law_due [], dd "_law_room" s__law_room [], dd "law" s_law [], di "BadRoom" "BadRoom.__init__" (top 2), di "BadWay" "BadWay.__init__" (top 4), di "TooMany" "TooMany.__init__" (top 15)] : List DefD)
def fn : List DefD := fn0 ++ fn1
def fa0 : List Fa := ([.glo "is_int", .glo "is_between", .glo "is_arrangement", .glo "stay", .glo "mul", .glo "inv", .glo "wrong_key", .glo "check_room", .glo "is_line", .glo "wrong_line", .glo "is_lines", .glo "check_lines", .glo "check_way", .glo "made_lines", .glo "steps_of", .glo "used_lines", .glo "signs_of", .glo "is_way", .glo "made", .glo "length"] : List Fa) ++ ([.glo "plain", .glo "_law_stream", .glo "_law_next", .glo "_law_pick", .glo "_law_from", .glo "_law_shuffled", .glo "_law_number", .glo "_law_same", .glo "_law_copy", .glo "_law_named", .glo "_law_attributes", .glo "_law_stay", .glo "_law_mul", .glo "_law_inv", .glo "_law_conj", .glo "_law_any_arr"] : List Fa)
def fa1 : List Fa := ([.glo "_law_spec_places", .glo "_law_within", .glo "_law_over", .glo "_law_spec_moves", .glo "_law_turn", .glo "_law_spec_plain", .glo "_law_spec", .glo "_law_mixed", .glo "_law_planted", .glo "_law_any_room", .glo "_law_is_line", .glo "_law_bad_line", .glo "_law_made", .glo "_law_lengths", .glo "_law_plain", .glo "_law_row_made", .glo "_law_way", .glo "_law_doubling", .glo "_law_with_steps", .glo "_law_bent_line"] : List Fa) ++ ([.glo "_law_bent_way", .glo "_law_base_way", .glo "_law_ask", .glo "_law_due", .glo "_law_room", .glo "law", .int "MOST_PLACES" 16, .int "MOST_MOVES" 28, .int "MOST_LINES" 2500, .int "MOST_STEPS" 1000, .meth "BadRoom" "__init__", .noat "BadRoom" "key", .meth "BadWay" "__init__", .noat "BadWay" "line", .meth "TooMany" "__init__", .noat "TooMany" "word"] : List Fa)
def fa0_ : List Fa := fa0 ++ fa1
def fa : List Fa := fa0_ ++ biNames.map Fa.free
def ex (K : PySem.W.Frag) : Bool := xwB K && oexB K (ga K "BadRoom") && oexB K (ga K "BadWay") && oexB K (ga K "TooMany")
abbrev R : PySem.W.OpenRow := PySem.W.OpenLaw.row PySem.Challenge.rw_turnedback_k03_whole_ways
abbrev qv : Program := PySem.W.view R.prog [88]
abbrev hk : PySem.W.Hook := hookW 5 fa fn ex
def ob (s : PySem.W.SharedT) : AlW := obsW 5 fa fn ex (HandSHeadRun.getT s)
theorem ob_eq (s : PySem.W.SharedT) : ob s = hk.obs s.abs := obsW_eq (HandSHeadRun.getT_eq s)
def names : List Str := (["RoomError", "BadRoom", "BadArrangement", "BadWay", "BadThing", "BadShape", "BadRules", "BadValue", "BadMove", "BadText", "NotInside", "NotOne", "NotDown", "NotChain", "TooMany", "NothingToUndo", "NothingToRedo", "is_int", "is_between", "is_arrangement"] : List Str) ++ (["stay", "mul", "inv", "MOST_PLACES", "MOST_MOVES", "wrong_key", "check_room", "MOST_LINES", "MOST_STEPS", "is_line", "wrong_line", "is_lines", "check_lines", "check_way", "made_lines", "steps_of", "used_lines", "signs_of", "is_way", "made"] : List Str) ++ (["length", "plain", "_law_stream", "_law_next", "_law_pick", "_law_from", "_law_shuffled", "_law_number", "_law_same", "_law_copy", "_law_named", "_law_attributes", "_law_stay", "_law_mul", "_law_inv", "_law_conj", "_law_any_arr", "_law_spec_places", "_law_within", "_law_over"] : List Str) ++ (["_law_spec_moves", "_law_turn", "_law_spec_plain", "_law_spec", "_law_mixed", "_law_planted", "_law_any_room", "_law_is_line", "_law_bad_line", "_law_made", "_law_lengths", "_law_plain", "_law_row_made", "_law_way", "_law_doubling", "_law_with_steps", "_law_bent_line", "_law_bent_way", "_law_base_way", "_law_ask"] : List Str) ++ (["_law_due", "_law_room"] : List Str)
noncomputable abbrev E0 (w : World) (os : OsState) := HandSHeadRun.endF (HandSHeadRun.stepQ (HandSHeadRun.denQ HandSHeadRun.tabQ) R.prog w) 8000 R.prog w os
theorem run1 (w : World) (os : OsState) : (E0 w os).map (fun s => HandSHeadRun.looksF R.prog (boot_heap w.params) s.abs) = some true := by
  kernel_rfl
theorem run2 (w : World) (os : OsState) : (E0 w os).map (fun s => HandSHeadRun.seenQ qv names (PySem.importedModules R.prog.main.body) (fun s => PySem.W.xlAt qv [] s && PySem.W.recOk R.toRowW.records s) s.abs) = some (PySem.W.openGood qv names) := by
  kernel_rfl
theorem run3_0 (w : World) (os : OsState) : (E0 w os).map (obP 5 fa0 fn0) = some (valD fn0) := by
  kernel_rfl
theorem run3_1 (w : World) (os : OsState) : (E0 w os).map (obP 5 fa1 fn1) = some (valD fn1) := by
  kernel_rfl
theorem run4 (w : World) (os : OsState) : (E0 w os).map (obP 5 (biNames.map Fa.free) []) = some (valD []) := by
  kernel_rfl
theorem run5 (w : World) (os : OsState) : (E0 w os).map (obX 5 ex) = some true := by
  kernel_rfl
theorem run3 (w : World) (os : OsState) : (E0 w os).map ob = some (hk.val w) := by
  have h := obP_app (obP_app (run3_0 w os) (run3_1 w os)) (run4 w os)
  rw [List.append_nil] at h
  exact obP_all (fa := fa) (fn := fn) h (run5 w os)
theorem run (w : World) : HandSHeadRun.RunEq R qv hk ob 8000 names w := runEq_of (run1 w) (run2 w) (run3 w)
end K3
set_option Elab.async false
set_option linter.all false
set_option maxRecDepth 100000
set_option maxHeartbeats 4000000
/-! A layer over HandS: data in place of addresses, a predicate of what holds behind each expression and block. -/
namespace WL
open PySem PySem.Spec PyProof.Rows L2 Evl
/-! ### data -/
inductive D where
  | non | bl (b : Bool) | int (i : Int) | str (s : Str) | tup (xs : List D) | lst (xs : List D) | dct (ks : List Key) (xs : List D) | raw (v : V) | strm
/-- an exception of an own class: its name, its fields -/
structure Exn where
  name : Str
  flds : List (Str × D)
/-- what a slot holds: nothing known | a value that stays | a list that only this name knows | a dict of that kind -/
inductive Sl where
  | emp | val (d : D) | own (ds : List D) | ownd (ks : List Key) (ds : List D)
abbrev Gm := List Sl

mutual
inductive Rep (K : PySem.W.Frag) (m : Option Addr) (G : Hp) : V → D → Prop
  | non : Rep K m G .non .non
  | bl (b : Bool) : Rep K m G (.bl b) (.bl b)
  | int (i : Int) : Rep K m G (.int i) (.int i)
  | str (x : Str) : Rep K m G (.str x) (.str x)
  | tup {a : Addr} {xs : List V} {ds : List D} : SqT K G a xs → RepL K m G xs ds → Rep K m G (.ref a) (.tup ds)
  | lst {a : Addr} {xs : List V} {ds : List D} : G a = some (.lst xs) → RepL K m G xs ds → Rep K m G (.ref a) (.lst ds)
  | dct {a : Addr} {kvs : List (Key × V)} {ds : List D} : Rd G a (.dK kvs) → (kvs.map (·.1)).Nodup → RepL K m G (kvs.map (·.2)) ds → Rep K m G (.ref a) (.dct (kvs.map (·.1)) ds)
  | raw (v : V) : Rep K m G v (.raw v)
  | strm {a : Addr} : m = some a → Rep K m G (.ref a) .strm
inductive RepL (K : PySem.W.Frag) (m : Option Addr) (G : Hp) : List V → List D → Prop
  | nil : RepL K m G [] []
  | cons {v : V} {vs : List V} {d : D} {ds : List D} : Rep K m G v d → RepL K m G vs ds → RepL K m G (v :: vs) (d :: ds)
end
section
variable {K : PySem.W.Frag} {m : Option Addr} {G G' : Hp}
mutual
theorem Rep.mono (e : Ex G G') : ∀ {v : V} {d : D}, Rep K m G v d → Rep K m G' v d
  | _, _, .non => .non
  | _, _, .bl b => .bl b
  | _, _, .int i => .int i
  | _, _, .str x => .str x
  | _, _, .tup h l => .tup (ex_t e h) (RepL.mono e l)
  | _, _, .lst h l => .lst (e _ _ h) (RepL.mono e l)
  | _, _, .dct h n l => .dct (ex_rd e h) n (RepL.mono e l)
  | _, _, .raw v => .raw v
  | _, _, .strm h => .strm h
theorem RepL.mono (e : Ex G G') : ∀ {vs : List V} {ds : List D}, RepL K m G vs ds → RepL K m G' vs ds
  | _, _, .nil => .nil
  | _, _, .cons h l => .cons (Rep.mono e h) (RepL.mono e l)
end
theorem RepL.length : ∀ {vs : List V} {ds : List D}, RepL K m G vs ds → vs.length = ds.length
  | _, _, .nil => rfl
  | _, _, .cons _ l => by rw [List.length_cons, List.length_cons, RepL.length l]
theorem RepL.get : ∀ {vs : List V} {ds : List D} {i : Nat} {d : D}, RepL K m G vs ds → ds[i]? = some d → ∃ v, vs[i]? = some v ∧ Rep K m G v d
  | _, _, _, _, .nil, h => by simp at h
  | _, _, 0, _, .cons r _, h => by simp at h; subst h; exact ⟨_, rfl, r⟩
  | _, _, i + 1, d, .cons _ l, h => by
    obtain ⟨v, h1, h2⟩ := RepL.get (i := i) (d := d) l (by simpa using h)
    exact ⟨v, by simpa using h1, h2⟩
theorem RepL.getV : ∀ {vs : List V} {ds : List D} {i : Nat} {v : V}, RepL K m G vs ds → vs[i]? = some v → ∃ d, ds[i]? = some d ∧ Rep K m G v d
  | _, _, _, _, .nil, h => by simp at h
  | _, _, 0, _, .cons r _, h => by simp at h; subst h; exact ⟨_, rfl, r⟩
  | _, _, i + 1, v, .cons _ l, h => by
    obtain ⟨d, h1, h2⟩ := RepL.getV (i := i) (v := v) l (by simpa using h)
    exact ⟨d, by simpa using h1, h2⟩
theorem RepL.append : ∀ {vs us : List V} {ds es : List D}, RepL K m G vs ds → RepL K m G us es → RepL K m G (vs ++ us) (ds ++ es)
  | _, _, _, _, .nil, s => s
  | _, _, _, _, .cons r t, s => .cons r (RepL.append t s)
theorem RepL.set {x : V} {d : D} (r : Rep K m G x d) : ∀ {vs : List V} {ds : List D} (i : Nat), RepL K m G vs ds → RepL K m G (vs.set i x) (ds.set i d)
  | _, _, _, .nil => .nil
  | _, _, 0, .cons _ t => .cons r t
  | _, _, i + 1, .cons q t => .cons q (RepL.set r i t)
theorem RepL.eraseIdx : ∀ {vs : List V} {ds : List D} (i : Nat), RepL K m G vs ds → RepL K m G (vs.eraseIdx i) (ds.eraseIdx i)
  | _, _, _, .nil => .nil
  | _, _, 0, .cons _ t => t
  | _, _, i + 1, .cons q t => .cons q (RepL.eraseIdx i t)
theorem RepL.take : ∀ {vs : List V} {ds : List D} (n : Nat), RepL K m G vs ds → RepL K m G (vs.take n) (ds.take n)
  | _, _, 0, _ => .nil
  | _, _, _ + 1, .nil => .nil
  | _, _, n + 1, .cons r t => .cons r (RepL.take n t)
theorem RepL.drop : ∀ {vs : List V} {ds : List D} (n : Nat), RepL K m G vs ds → RepL K m G (vs.drop n) (ds.drop n)
  | _, _, 0, r => r
  | _, _, _ + 1, .nil => .nil
  | _, _, n + 1, .cons _ t => RepL.drop n t
theorem RepL.replicate {v : V} {d : D} (r : Rep K m G v d) : ∀ n : Nat, RepL K m G (List.replicate n v) (List.replicate n d)
  | 0 => .nil
  | n + 1 => .cons r (RepL.replicate r n)
theorem RepL.ints : ∀ ns : List Int, RepL K m G (ns.map V.int) (ns.map D.int)
  | [] => .nil
  | n :: ns => .cons (.int n) (RepL.ints ns)
theorem RepL.of_ints : ∀ {ns : List Int} {vs : List V}, RepL K m G vs (ns.map D.int) → vs = ns.map V.int
  | [], _, h => by cases h; rfl
  | n :: ns, _, h => by
    cases h with
    | cons r l =>
      cases r
      rw [RepL.of_ints l]
      rfl
end

/-! ### how a state goes on -/
/-- the stream of drawn numbers: a list of the script's list (stable), a cell and a count -/
def StreamAt (G H : Hp) (s : Addr) : Prop := ∃ (a : Addr) (c k : Int) (ns : List Int), H s = some (.lst [.ref a, .int c, .int k]) ∧ G a = some (.lst (ns.map V.int)) ∧ 0 ≤ k ∧ ns.length ≤ 63
def SOk (m : Option Addr) (G H : Hp) : Prop := ∀ s, m = some s → StreamAt G H s
def Sub (m : Option Addr) (G H : Hp) : Prop := (∀ a o, G a = some o → H a = some o) ∧ ∀ s, m = some s → G s = none
structure Good (m : Option Addr) (G H G' H' : Hp) : Prop where
  st : ∀ a o, m ≠ some a → H a = some o → H' a = some o
  ok : SOk m G H → SOk m G' H'
  gr : ∀ a o, G' a = some o → G a = some o ∨ (H a = none ∧ H' a = some o)
  ex : Ex G G'
theorem SOk.dom {m : Option Addr} {G H : Hp} (s : SOk m G H) {a : Addr} (e : m = some a) (n : H a = none) : False := by
  obtain ⟨_, _, _, _, h, _⟩ := s a e
  rw [n] at h
  cases h
theorem SOk.mono {m : Option Addr} {G G' H H' : Hp} (e : Ex G G') (k : ∀ a o, m = some a → H a = some o → H' a = some o) (s : SOk m G H) : SOk m G' H' := fun a h => by
  obtain ⟨b, c, i, ns, h1, h2, h3⟩ := s a h
  exact ⟨b, c, i, ns, k _ _ h h1, e _ _ h2, h3⟩
section
variable {m : Option Addr} {G H G1 H1 G2 H2 : Hp}
theorem Good.refl : Good m G H G H := ⟨fun _ _ _ h => h, fun h => h, fun _ _ h => .inl h, Ex.refl _⟩
theorem Good.trans (s : SOk m G H) (a : Good m G H G1 H1) (b : Good m G1 H1 G2 H2) : Good m G H G2 H2 := by
  refine ⟨fun x o n h => b.st x o n (a.st x o n h), fun h => b.ok (a.ok h), fun x o h => ?_, a.ex.trans b.ex⟩
  rcases b.gr x o h with h | ⟨h, h2⟩
  · rcases a.gr x o h with h | ⟨h, h2⟩
    · exact .inl h
    · refine .inr ⟨h, b.st x o (fun e => ?_) h2⟩
      exact s.dom e h
  · refine .inr ⟨?_, h2⟩
    cases e : H x with
    | none => rfl
    | some u =>
      by_cases n : m = some x
      · exact ((a.ok s).dom n h).elim
      · rw [a.st x u n e] at h
        cases h
theorem Good.sub (p : Sub m G H) (s : SOk m G H) (g : Good m G H G1 H1) : Sub m G1 H1 := by
  refine ⟨fun a o h => ?_, fun x e => ?_⟩
  · rcases g.gr a o h with h | ⟨_, h⟩
    · exact g.st a o (fun e => by rw [p.2 a e] at h; cases h) (p.1 a o h)
    · exact h
  · cases h : G1 x with
    | none => rfl
    | some o =>
      rcases g.gr x o h with h | ⟨h, _⟩
      · rw [p.2 x e] at h
        cases h
      · exact (s.dom e h).elim
theorem Sub.none (b : Sub m G H) {p : Addr} (h : H p = none) : G p = none := by
  cases e : G p with
  | none => rfl
  | some u => rw [b.1 p u e] at h; cases h
/-- a new object is laid, its own data of the stable part -/
theorem Good.laid {p : Addr} {o : HO} (b : Sub m G H) (h : H p = none) : Good m G H (upd G p o) (upd H p o) := by
  refine ⟨fun a u _ e => Ex.new h a u e, fun s => s.mono (Ex.new (b.none h)) fun a u _ e => Ex.new h a u e, fun a u e => ?_, Ex.new (b.none h)⟩
  by_cases ha : a = p
  · subst ha
    rw [upd_same] at e ⊢
    exact .inr ⟨h, e⟩
  · rw [upd_ne ha] at e
    exact .inl e
/-- a new object that is not told -/
theorem Good.hid {p : Addr} {o : HO} (h : H p = none) : Good m G H G (upd H p o) :=
  ⟨fun a u _ e => Ex.new h a u e, fun s => s.mono (Ex.refl _) fun a u _ e => Ex.new h a u e, fun a u e => .inl e, Ex.refl _⟩
/-- an object that came behind, and is not told, may change -/
theorem Good.mut {p : Addr} {o : HO} (s : SOk m G H) (g : Good m G H G1 H1) (h : H p = none) (g1 : G1 p = none) : Good m G H G1 (upd H1 p o) := by
  have np : ∀ a u, H a = some u → a ≠ p := fun a u e q => by rw [q, h] at e; cases e
  refine ⟨fun a u n e => ?_, fun s => (g.ok s).mono (Ex.refl _) fun a u n e => ?_, fun a u e => ?_, g.ex⟩
  · rw [upd_ne (np a u e)]
    exact g.st a u n e
  · rw [upd_ne (fun q => s.dom n (by rw [q]; exact h))]
    exact e
  · rcases g.gr a u e with e' | ⟨e', e2⟩
    · exact .inl e'
    · refine .inr ⟨e', ?_⟩
      rw [upd_ne (fun q => by subst q; rw [g1] at e; cases e)]
      exact e2
/-- what came behind is told -/
theorem Good.tell {p : Addr} {o : HO} (g : Good m G H G1 H1) (h : H p = none) (g1 : G1 p = none) (h1 : H1 p = some o) : Good m G H (upd G1 p o) H1 := by
  refine ⟨g.st, fun s => (g.ok s).mono (Ex.new g1) fun _ _ _ e => e, fun a u e => ?_, g.ex.trans (Ex.new g1)⟩
  by_cases ha : a = p
  · subst ha
    rw [upd_same] at e
    cases e
    exact .inr ⟨h, h1⟩
  · rw [upd_ne ha] at e
    exact g.gr a u e
end

/-! ### where one stands -/
structure Gx where
  P : Program
  w : World
  K : PySem.W.Frag
  mg : Str → Option Value
  base : Heap
structure Ct where
  g : Gx
  N : List Str
  sc : Scope
  fn : Str → Bool
  k : Nat
  er : Exn → Gm → Prop
  tp : Bool
  hx : Option (Addr × Exn)
abbrev Ct.K (c : Ct) : PySem.W.Frag := c.g.K
abbrev Ct.mg (c : Ct) : Str → Option Value := c.g.mg
abbrev Ct.of (X : Cx) (k : Nat) (er : Exn → Gm → Prop) (tp : Bool) (hx : Option (Addr × Exn)) : Ct := ⟨⟨X.prog, X.w, X.K, X.mg, X.base⟩, X.N, X.env.scope, X.fn, k, er, tp, hx⟩
/-- nothing is handled here -/
def Cold (X : Cx) (k : Nat) (tp : Bool) : Prop := X.calm = true ∧ Room k X.A ∧ PassesOwn (model X.prog X.w) X.A X.env X.xe ∧ (tp = true → X.stack = X.env :: X.outer ∧ X.env.frame = some X.env.locals)
def Fits (c : Ct) (X : Cx) : Prop := ∃ k er tp hx, c = Ct.of X k er tp hx ∧ (hx = none → Cold X k tp) ∧ L2H.RoomH k X.A
/-- the stable part tells of v the data d -/
def SlotOk (K : PySem.W.Frag) (m : Option Addr) (H0 G H : Hp) : Sl → Option (Option V) → Prop
  | .emp, _ => True
  | .val d, x => ∃ v, x = some (some v) ∧ Rep K m G v d
  | .own ds, x => ∃ a vs, x = some (some (.ref a)) ∧ H0 a = none ∧ H a = some (.lst vs) ∧ G a = none ∧ m ≠ some a ∧ RepL K m G vs ds
  | .ownd ks ds, x => ∃ a kvs, x = some (some (.ref a)) ∧ H0 a = none ∧ H a = some (.dK kvs) ∧ G a = none ∧ m ≠ some a ∧ kvs.map (·.1) = ks ∧ ks.Nodup ∧ RepL K m G (kvs.map (·.2)) ds
def Sl.isOwn : Sl → Bool
  | .own _ => true
  | .ownd _ _ => true
  | _ => false
structure En0 (K : PySem.W.Frag) (m : Option Addr) (G0 H0 : Hp) (Γ : Gm) (σ : L2.St) (G H : Hp) : Prop where
  sub : Sub m G H
  sok : SOk m G H
  len : σ.length = Γ.length
  slot : ∀ (i : Nat) (s : Sl), Γ[i]? = some s → SlotOk K m H0 G H s σ[i]?
  apart : ∀ (i j : Nat) (s u : Sl) (a : Addr), Γ[i]? = some s → Γ[j]? = some u → s.isOwn = true → u.isOwn = true → σ[i]? = some (some (V.ref a)) → σ[j]? = some (some (V.ref a)) → i = j
  good : Good m G0 H0 G H
  sok0 : SOk m G0 H0
  sub0 : Sub m G0 H0
/-- the exception as it lies -/
def ExRep (K : PySem.W.Frag) (mg : Str → Option Value) (m : Option Addr) (G H : Hp) (x : Exn) (cls : Value) (d : Option Addr) : Prop :=
  ∃ C : Addr, mg x.name = some (.ref C) ∧ cls = .ref C ∧ ((x.flds = [] ∧ d = none) ∨ ∃ (dd : Addr) (fs : List (Str × V)), d = some dd ∧ H dd = some (.xd fs) ∧ fs.map (·.1) = x.flds.map (·.1) ∧ RepL K m G (fs.map (·.2)) (x.flds.map (·.2)))
/-- the exception that is handled, at a -/
def HotE (c : Ct) (X : Cx) (m : Option Addr) (G0 H0 : Hp) : Prop := ∀ a x, c.hx = some (a, x) → ∃ oe, (a, oe) ∈ X.pn ∧ (∃ vs, oe.data = .fields vs) ∧ ∃ cls d, oe.cls = cls ∧ oe.dict = d ∧ ExRep c.K c.mg m G0 H0 x cls d
/-- what is wanted of an exception that leaves -/
def XH (c : Ct) (X : Cx) (m : Option Addr) (G0 H0 : Hp) : Prop :=
  (∃ W : WX, Takes X W ∧ ∀ (x : Exn) (Γ : Gm) (σ : L2.St) (G H : Hp) (cls : Value) (d : Option Addr), c.er x Γ → En0 c.K m G0 H0 Γ σ G H → ExRep c.K c.mg m G H x cls d → W cls d σ H) ∧ HotE c X m G0 H0
structure En (c : Ct) (X : Cx) (m : Option Addr) (G0 H0 : Hp) (Γ : Gm) (σ : L2.St) (G H : Hp) : Prop extends En0 c.K m G0 H0 Γ σ G H where
  xh : XH c X m G0 H0
theorem SlotOk.step {K : PySem.W.Frag} {m : Option Addr} {H0 G H G' H' : Hp} {s : Sl} {x : Option (Option V)} (g : Good m G H G' H') (h : SlotOk K m H0 G H s x) : SlotOk K m H0 G' H' s x := by
  cases s with
  | emp => trivial
  | val d =>
    obtain ⟨v, e, r⟩ := h
    exact ⟨v, e, r.mono g.ex⟩
  | own ds =>
    obtain ⟨a, vs, e, h0, h1, h2, h3, r⟩ := h
    refine ⟨a, vs, e, h0, g.st a _ h3 h1, ?_, h3, r.mono g.ex⟩
    cases q : G' a with
    | none => rfl
    | some o =>
      rcases g.gr a o q with q | ⟨q, _⟩
      · rw [h2] at q; cases q
      · rw [h1] at q; cases q
  | ownd ks ds =>
    obtain ⟨a, vs, e, h0, h1, h2, h3, h4, h5, r⟩ := h
    refine ⟨a, vs, e, h0, g.st a _ h3 h1, ?_, h3, h4, h5, r.mono g.ex⟩
    cases q : G' a with
    | none => rfl
    | some o =>
      rcases g.gr a o q with q | ⟨q, _⟩
      · rw [h2] at q; cases q
      · rw [h1] at q; cases q
section
variable {c : Ct} {X : Cx} {m : Option Addr} {G0 H0 G H G' H' : Hp} {Γ : Gm} {σ : L2.St}
theorem En0.step {K : PySem.W.Frag} (E : En0 K m G0 H0 Γ σ G H) (g : Good m G H G' H') : En0 K m G0 H0 Γ σ G' H' :=
  ⟨g.sub E.sub E.sok, g.ok E.sok, E.len, fun i s h => (E.slot i s h).step g, E.apart, E.good.trans E.sok0 g, E.sok0, E.sub0⟩
theorem En.step (E : En c X m G0 H0 Γ σ G H) (g : Good m G H G' H') : En c X m G0 H0 Γ σ G' H' := ⟨E.toEn0.step g, E.xh⟩
end

/-! ### the judgements: what holds behind -/
def JE (X : Cx) (e : Expr) : TE := fun σ H Q => ∃ t : TE, PE X e t ∧ t σ H Q
theorem pe_je {X : Cx} {e : Expr} : PE X e (JE X e) := ⟨fun pins s σ H Q I ⟨t, p, h⟩ => p.run pins s σ H Q I h⟩
def JT (X : Cx) (e : Expr) : TT := fun σ H Q => ∃ t : TT, PT X e t ∧ t σ H Q
theorem pt_jt {X : Cx} {e : Expr} : PT X e (JT X e) := ⟨fun pins s σ H Q I ⟨t, p, h⟩ => p.run pins s σ H Q I h⟩
def JW (X : Cx) (e : Expr) : TT := fun σ H Q => ∃ t : TT, PW X e t ∧ t σ H Q
theorem pw_jw {X : Cx} {e : Expr} : PW X e (JW X e) := ⟨fun whole pins s σ H Q I ⟨t, p, h⟩ => p.run whole pins s σ H Q I h⟩
def JA (X : Cx) (es : List Expr) : TA := fun σ H Q => ∃ t : TA, PA X es t ∧ t σ H Q
theorem pa_ja {X : Cx} {es : List Expr} : PA X es (JA X es) := ⟨fun pos pins s σ H Q I ⟨t, p, h⟩ => p.run pos pins s σ H Q I h⟩
def JS (X : Cx) (st : List Stmt) : TS := fun D σ H => ∃ t : TS, PSs X st t ∧ t D σ H
theorem pss_js {X : Cx} {st : List Stmt} : PSs X st (JS X st) := ⟨fun pins s σ H D I ⟨t, p, h⟩ => p.run pins s σ H D I h⟩

/-- an expression: Q of each value that it may give -/
def Wv (c : Ct) (e : Expr) (Γ : Gm) (Q : D → Prop) : Prop :=
  ∀ X, Fits c X → ∀ m G0 H0 σ G H, En c X m G0 H0 Γ σ G H → ∀ Qv : VK, (∀ v d G' H', Q d → Good m G H G' H' → Rep c.K m G' v d → Qv v H') → JE X e σ H Qv
/-- an expression that gives a new list: Q of its items -/
def WO (c : Ct) (e : Expr) (Γ : Gm) (Q : List D → Prop) : Prop :=
  ∀ X, Fits c X → ∀ m G0 H0 σ G H, En c X m G0 H0 Γ σ G H → ∀ Qv : VK, (∀ a vs ds G' H', Q ds → Good m G H G' H' → H a = none → G' a = none → H' a = some (.lst vs) → RepL c.K m G' vs ds → Qv (.ref a) H') → JE X e σ H Qv
/-- a test -/
def WB (c : Ct) (e : Expr) (Γ : Gm) (Q : Bool → Prop) : Prop :=
  ∀ X, Fits c X → ∀ m G0 H0 σ G H, En c X m G0 H0 Γ σ G H → ∀ Qv : Bool → Hp → Prop, (∀ b G' H', Q b → Good m G H G' H' → Qv b H') → JT X e σ H Qv
def WWB (c : Ct) (e : Expr) (Γ : Gm) (Q : Bool → Prop) : Prop :=
  ∀ X, Fits c X → ∀ m G0 H0 σ G H, En c X m G0 H0 Γ σ G H → ∀ Qv : Bool → Hp → Prop, (∀ b G' H', Q b → Good m G H G' H' → Qv b H') → JW X e σ H Qv
/-- arguments -/
def WA (c : Ct) (es : List Expr) (Γ : Gm) (Q : List D → Prop) : Prop :=
  ∀ X, Fits c X → ∀ m G0 H0 σ G H, En c X m G0 H0 Γ σ G H → ∀ Qv : List V → Hp → Prop, (∀ vs ds G' H', Q ds → Good m G H G' H' → RepL c.K m G' vs ds → Qv vs H') → JA X es σ H Qv
structure Ends' where
  nx : Gm → Prop
  rt : D → Prop
  bk : Gm → Prop := fun _ => False
  ct : Gm → Prop := fun _ => False
/-- what is wanted behind a block that begins at (G, H) -/
structure Fin (c : Ct) (X : Cx) (m : Option Addr) (G0 H0 G : Hp) (E : Ends') (D : Ends) : Prop where
  nx : ∀ Γ' σ' G' H', E.nx Γ' → Ex G G' → En c X m G0 H0 Γ' σ' G' H' → D.nx σ' H'
  rt : ∀ v d G' H', E.rt d → Ex G G' → Good m G0 H0 G' H' → Rep c.K m G' v d → D.rt v H'
  bk : ∀ Γ' σ' G' H', E.bk Γ' → Ex G G' → En c X m G0 H0 Γ' σ' G' H' → D.bk σ' H'
  ct : ∀ Γ' σ' G' H', E.ct Γ' → Ex G G' → En c X m G0 H0 Γ' σ' G' H' → D.ct σ' H'
theorem Fin.go {c : Ct} {X : Cx} {m : Option Addr} {G0 H0 G G1 : Hp} {E : Ends'} {D : Ends} (f : Fin c X m G0 H0 G E D) (e : Ex G G1) : Fin c X m G0 H0 G1 E D :=
  ⟨fun Γ σ G' H' q x => f.nx Γ σ G' H' q (e.trans x), fun v d G' H' q x => f.rt v d G' H' q (e.trans x), fun Γ σ G' H' q x => f.bk Γ σ G' H' q (e.trans x), fun Γ σ G' H' q x => f.ct Γ σ G' H' q (e.trans x)⟩
/-- a block -/
def BL (c : Ct) (st : List Stmt) (Γ : Gm) (E : Ends') : Prop :=
  ∀ X, Fits c X → ∀ m G0 H0 σ G H, En c X m G0 H0 Γ σ G H → ∀ D : Ends, Fin c X m G0 H0 G E D → JS X st D σ H

/-! ### expressions -/
section
variable {c : Ct} {Γ : Gm} {Q : D → Prop}
theorem Wv.imp {e : Expr} {Q Q' : D → Prop} (h : Wv c e Γ Q) (i : ∀ d, Q d → Q' d) : Wv c e Γ Q' := fun X F m G0 H0 σ G H E Qv q => h X F m G0 H0 σ G H E Qv fun v d G' H' hq => q v d G' H' (i d hq)
theorem w_name (i : Nat) {x : Str} {pos : Pos} {d : D} (hg : Γ[i]? = some (.val d)) (q : Q d) (hN : c.N[i]? = some x := by rfl) (hv : Vis c.sc x := by first | exact Or.inl rfl | exact Or.inr (Or.inl rfl) | exact Or.inr (Or.inr rfl))
    (hd : (x == ("__debug__" : Str)) = false := by decide) (hcd : (x == ("__classdict__" : Str)) = false := by decide) : Wv c (.Name x pos) Γ Q := by
  rintro X ⟨k, er, tp, hx, rfl, hcold, hu0⟩ m G0 H0 σ G H E Qv qv
  obtain ⟨v, e, r⟩ := E.slot i _ hg
  exact ⟨tVar i, pe_var hN hv hd hcd, v, e, qv v d G H q Good.refl r⟩
theorem w_int {i j pos} (q : Q (.int i)) : Wv c (.Constant (.int i) j pos) Γ Q := fun X _ m G0 H0 σ G H E Qv qv => ⟨_, pe_int, qv _ _ G H q Good.refl (.int i)⟩
theorem w_bl {b j pos} (q : Q (.bl b)) : Wv c (.Constant (.bool b) j pos) Γ Q := fun X _ m G0 H0 σ G H E Qv qv => ⟨_, pe_bl, qv _ _ G H q Good.refl (.bl b)⟩
theorem w_non {j pos} (q : Q .non) : Wv c (.Constant .none j pos) Γ Q := fun X _ m G0 H0 σ G H E Qv qv => ⟨_, pe_non, qv _ _ G H q Good.refl .non⟩
theorem w_str {x j pos} (q : Q (.str x)) : Wv c (.Constant (.str x) j pos) Γ Q := fun X _ m G0 H0 σ G H E Qv qv => ⟨_, pe_str, qv _ _ G H q Good.refl (.str x)⟩
/-- a global constant, a def, a class as a value -/
theorem w_glob {x : Str} {pos : Pos} {u : Value} {v : V} {d : D} (hg : c.sc.names.lookup x = some .globalImplicit) (hm : c.mg x = some u) (rv : RelV v u) (hr : ∀ m G, Rep c.K m G v d) (q : Q d) (hd : (x == ("__debug__" : Str)) = false := by decide) : Wv c (.Name x pos) Γ Q := by
  rintro X ⟨k, er, tp, hx, rfl, hcold, hu0⟩ m G0 H0 σ G H E Qv qv
  exact ⟨_, pe_glob hg hm rv hd, qv _ _ G H q Good.refl (hr _ _)⟩
theorem w_bltn {x : Str} {pos : Pos} {u : Value} {v : V} (hg : c.sc.names.lookup x = some .globalImplicit) (hm : c.mg x = none) (hv : bootBuiltins x = some u) (rv : RelV v u) (q : Q (.raw v)) (hn : x ≠ "__name__" := by decide) (hd : (x == ("__debug__" : Str)) = false := by decide) : Wv c (.Name x pos) Γ Q := by
  rintro X ⟨k, er, tp, hx, rfl, hcold, hu0⟩ m G0 H0 σ G H E Qv qv
  exact ⟨_, pe_bltn hg hm hv rv hn hd, qv _ _ G H q Good.refl (.raw v)⟩

/-- what an operator of two values gives, by data -/
def Op2 (c : Ct) (f : Value → Value → Sem Value) (F : D → D → (D → Prop) → Prop) : Prop :=
  ∀ X, Fits c X → ∃ r : R2, OpR X f r ∧ ∀ m G H x y dx dy (Q : D → Prop) (Qv : VK), Sub m G H → SOk m G H → Rep c.K m G x dx → Rep c.K m G y dy → F dx dy Q →
    (∀ v d G' H', Q d → Good m G H G' H' → Rep c.K m G' v d → Qv v H') → r x y H Qv
def Op1 (c : Ct) (f : Value → Sem Value) (F : D → (D → Prop) → Prop) : Prop :=
  ∀ X, Fits c X → ∃ r : V → Hp → VK → Prop, UnR X f r ∧ ∀ m G H x dx (Q : D → Prop) (Qv : VK), Sub m G H → SOk m G H → Rep c.K m G x dx → F dx Q →
    (∀ v d G' H', Q d → Good m G H G' H' → Rep c.K m G' v d → Qv v H') → r x H Qv
/-- what a built-in of some arguments gives -/
def OpC (c : Ct) (f : Value) (F : List D → (D → Prop) → Prop) : Prop :=
  ∀ X, Fits c X → ∃ r : List V → Hp → VK → Prop, CallR X f r ∧ ∀ m G H xs ds (Q : D → Prop) (Qv : VK), Sub m G H → SOk m G H → RepL c.K m G xs ds → F ds Q →
    (∀ v d G' H', Q d → Good m G H G' H' → Rep c.K m G' v d → Qv v H') → r xs H Qv
theorem w_op {a b : Expr} {op : Operator} {pos : Pos} {F : D → D → (D → Prop) → Prop} (ho : Op2 c (binaryOp op) F) (h : Wv c a Γ fun x => Wv c b Γ fun y => F x y Q) : Wv c (.BinOp a op b pos) Γ Q := by
  intro X Ft m G0 H0 σ G H E Qv qv
  obtain ⟨r, hr, R⟩ := ho X Ft
  refine ⟨_, pe_op hr pe_je pe_je, h X Ft m G0 H0 σ G H E _ fun v d G1 H1 h1 g1 r1 => ?_⟩
  have E1 := E.step g1
  refine h1 X Ft m G0 H0 σ G1 H1 E1 _ fun u e G2 H2 h2 g2 r2 => ?_
  have E2 := E1.step g2
  exact R m G2 H2 v u d e Q Qv E2.sub E2.sok (r1.mono g2.ex) r2 h2 fun w d' G3 H3 h3 g3 r3 => qv w d' G3 H3 h3 ((g1.trans E.sok g2).trans E.sok g3) r3
theorem w_cmp {a b : Expr} {op : CmpOp} {pos : Pos} {F : D → D → (D → Prop) → Prop} (ho : Op2 c (compareOp op) F) (h : Wv c a Γ fun x => Wv c b Γ fun y => F x y Q) (hm : behindInMarks op b = false := by first | rfl | exact nomark _) : Wv c (.Compare a [op] [b] pos) Γ Q := by
  intro X Ft m G0 H0 σ G H E Qv qv
  obtain ⟨r, hr, R⟩ := ho X Ft
  refine ⟨_, pe_cmpR hr pe_je pe_je hm, h X Ft m G0 H0 σ G H E _ fun v d G1 H1 h1 g1 r1 => ?_⟩
  have E1 := E.step g1
  refine h1 X Ft m G0 H0 σ G1 H1 E1 _ fun u e G2 H2 h2 g2 r2 => ?_
  have E2 := E1.step g2
  exact R m G2 H2 v u d e Q Qv E2.sub E2.sok (r1.mono g2.ex) r2 h2 fun w d' G3 H3 h3 g3 r3 => qv w d' G3 H3 h3 ((g1.trans E.sok g2).trans E.sok g3) r3
/-- o[i] by data -/
def OpI (c : Ct) (F : D → D → (D → Prop) → Prop) : Prop :=
  ∀ X, Fits c X → ∃ r : R2, IxR X r ∧ ∀ m G H x y dx dy (Q : D → Prop) (Qv : VK), Sub m G H → SOk m G H → Rep c.K m G x dx → Rep c.K m G y dy → F dx dy Q →
    (∀ v d G' H', Q d → Good m G H G' H' → Rep c.K m G' v d → Qv v H') → r x y H Qv
theorem w_ix {a b : Expr} {pos : Pos} {F : D → D → (D → Prop) → Prop} (ho : OpI c F) (h : Wv c a Γ fun x => Wv c b Γ fun y => F x y Q) (hs : PlainIx b := by exact fun _ _ => rfl) : Wv c (.Subscript a b pos) Γ Q := by
  intro X Ft m G0 H0 σ G H E Qv qv
  obtain ⟨r, hr, R⟩ := ho X Ft
  refine ⟨_, pe_ix hr pe_je pe_je hs, h X Ft m G0 H0 σ G H E _ fun v d G1 H1 h1 g1 r1 => ?_⟩
  have E1 := E.step g1
  refine h1 X Ft m G0 H0 σ G1 H1 E1 _ fun u e G2 H2 h2 g2 r2 => ?_
  have E2 := E1.step g2
  exact R m G2 H2 v u d e Q Qv E2.sub E2.sok (r1.mono g2.ex) r2 h2 fun w d' G3 H3 h3 g3 r3 => qv w d' G3 H3 h3 ((g1.trans E.sok g2).trans E.sok g3) r3
theorem w_un {a : Expr} {op : UnaryOp} {pos : Pos} {F : D → (D → Prop) → Prop} (ho : Op1 c (unaryOp op) F) (h : Wv c a Γ fun x => F x Q) : Wv c (.UnaryOp op a pos) Γ Q := by
  intro X Ft m G0 H0 σ G H E Qv qv
  obtain ⟨r, hr, R⟩ := ho X Ft
  refine ⟨_, pe_un hr pe_je, h X Ft m G0 H0 σ G H E _ fun v d G1 H1 h1 g1 r1 => ?_⟩
  have E1 := E.step g1
  exact R m G1 H1 v d Q Qv E1.sub E1.sok r1 h1 fun w d' G3 H3 h3 g3 r3 => qv w d' G3 H3 h3 (g1.trans E.sok g3) r3
end
end WL
set_option Elab.async false
set_option linter.all false
set_option maxRecDepth 100000
set_option maxHeartbeats 4000000
namespace WL
open PySem PySem.Spec PyProof.Rows L2 Evl
section
variable {c : Ct} {Γ : Gm} {Q : D → Prop}
theorem Good.back {m : Option Addr} {G H G1 H1 : Hp} (s : SOk m G H) (g : Good m G H G1 H1) {p : Addr} (h : H1 p = none) : H p = none := by
  cases e : H p with
  | none => rfl
  | some u =>
    by_cases n : m = some p
    · exact ((g.ok s).dom n h).elim
    · rw [g.st p u n e] at h; cases h
/-! ### arguments, displays -/
theorem wa_nil {Q : List D → Prop} (q : Q []) : WA c [] Γ Q := fun X F m G0 H0 σ G H E Qv qv => ⟨_, pa_nil, qv _ _ G H q Good.refl .nil⟩
theorem wa_cons {e : Expr} {es : List Expr} {Q : List D → Prop} (h : Wv c e Γ fun d => WA c es Γ fun ds => Q (d :: ds)) (hs : ∀ env, starEach (e :: es) env = (false, eval e env) :: starEach es env := by exact fun _ => rfl) : WA c (e :: es) Γ Q := by
  intro X F m G0 H0 σ G H E Qv qv
  refine ⟨_, pa_cons pe_je pa_ja (hs _), h X F m G0 H0 σ G H E _ fun v d G1 H1 h1 g1 r1 => ?_⟩
  refine h1 X F m G0 H0 σ G1 H1 (E.step g1) _ fun vs ds G2 H2 h2 g2 r2 => ?_
  exact qv _ _ G2 H2 h2 (g1.trans E.sok g2) (.cons (r1.mono g2.ex) r2)
theorem big_le {n : Nat} (h : n ≤ 100000) : n ≤ sizeLine := Nat.le_trans h (by decide)
theorem w_tup {es : List Expr} {x1 pos} (h : WA c es Γ fun ds => ds.length ≤ 100000 ∧ Q (.tup ds)) : Wv c (.Tuple es x1 pos) Γ Q := by
  intro X F m G0 H0 σ G H E Qv qv
  refine ⟨_, pe_tup pa_ja, h X F m G0 H0 σ G H E _ fun vs ds G1 H1 ⟨hl, h1⟩ g1 r1 => ⟨?_, fun p hp => ?_⟩⟩
  · rw [r1.length]
    exact big_le hl
  · have E1 := E.step g1
    have g2 : Good m G1 H1 (upd G1 p (.tup vs)) (upd H1 p (.tup vs)) := Good.laid E1.sub hp
    exact qv _ _ _ _ h1 (g1.trans E.sok g2) (.tup (.inl (.inl upd_same)) (r1.mono g2.ex))
/-- a new list, held by no one -/
theorem wo_lst {es : List Expr} {pos} {Q : List D → Prop} (h : WA c es Γ fun ds => ds.length ≤ 100000 ∧ Q ds) : WO c (.List es pos) Γ Q := by
  intro X F m G0 H0 σ G H E Qv qv
  refine ⟨_, pe_lst pa_ja, h X F m G0 H0 σ G H E _ fun vs ds G1 H1 ⟨hl, h1⟩ g1 r1 => ⟨?_, fun p hp => ?_⟩⟩
  · rw [r1.length]
    exact big_le hl
  · have E1 := E.step g1
    exact qv _ _ _ _ _ h1 (g1.trans E.sok (Good.hid hp)) (g1.back E.sok hp) (E1.sub.none hp) upd_same r1
/-- a new list that no one changes -/
theorem w_wo {e : Expr} (h : WO c e Γ fun ds => Q (.lst ds)) : Wv c e Γ Q := by
  intro X F m G0 H0 σ G H E Qv qv
  refine h X F m G0 H0 σ G H E _ fun a vs ds G1 H1 h1 g1 n1 n2 e1 r1 => ?_
  exact qv _ _ _ _ h1 (g1.tell n1 n2 e1) (.lst upd_same (r1.mono (Ex.new n2)))
theorem WO.imp {e : Expr} {Q Q' : List D → Prop} (h : WO c e Γ Q) (i : ∀ d, Q d → Q' d) : WO c e Γ Q' := fun X F m G0 H0 σ G H E Qv q => h X F m G0 H0 σ G H E Qv fun v vs d G' H' hq => q v vs d G' H' (i d hq)
theorem w_lst {es : List Expr} {pos} (h : WA c es Γ fun ds => ds.length ≤ 100000 ∧ Q (.lst ds)) : Wv c (.List es pos) Γ Q := w_wo (wo_lst h)

/-! ### tests -/
theorem wb_val {e : Expr} {Q : Bool → Prop} (h : Wv c e Γ fun d => ∃ b, d = .bl b ∧ Q b) (he : ∀ env whole, isTrue e env whole = (do let v ← whole; standAt e.pos; holding [v] (truthy v)) := by exact fun _ _ => rfl) : WB c e Γ Q := by
  intro X F m G0 H0 σ G H E Qv qv
  refine ⟨_, pt_val pe_je (he _), h X F m G0 H0 σ G H E _ fun v d G1 H1 ⟨b, e, h1⟩ g1 r1 => ?_⟩
  subst e
  cases r1
  exact ⟨b, rfl, qv b G1 H1 h1 g1⟩
theorem wb_not {e : Expr} {pos : Pos} {Q : Bool → Prop} (h : WB c e Γ fun b => Q (!b)) : WB c (.UnaryOp .Not e pos) Γ Q := by
  intro X F m G0 H0 σ G H E Qv qv
  exact ⟨_, pt_not pt_jt, h X F m G0 H0 σ G H E _ fun b G1 H1 h1 g1 => qv _ G1 H1 h1 g1⟩
theorem wb_ww {e : Expr} {Q : Bool → Prop} (h : WWB c e Γ Q) : WB c e Γ Q := by
  intro X F m G0 H0 σ G H E Qv qv
  exact ⟨_, PW.pt pw_jw, h X F m G0 H0 σ G H E _ qv⟩
theorem wb_cmp {a b : Expr} {op : CmpOp} {pos : Pos} {F : D → D → (D → Prop) → Prop} {Q : Bool → Prop} (ho : Op2 c (compareOp op) F) (h : Wv c a Γ fun x => Wv c b Γ fun y => F x y fun d => ∃ b, d = .bl b ∧ Q b) (hm : behindInMarks op b = false := by first | rfl | exact nomark _) : WB c (.Compare a [op] [b] pos) Γ Q := by
  intro X Ft m G0 H0 σ G H E Qv qv
  obtain ⟨r, hr, R⟩ := ho X Ft
  refine ⟨_, pt_cmpR hr pe_je pe_je hm, h X Ft m G0 H0 σ G H E _ fun v d G1 H1 h1 g1 r1 => ?_⟩
  have E1 := E.step g1
  refine h1 X Ft m G0 H0 σ G1 H1 E1 _ fun u e G2 H2 h2 g2 r2 => ?_
  have E2 := E1.step g2
  refine R m G2 H2 v u d e _ _ E2.sub E2.sok (r1.mono g2.ex) r2 h2 fun w d' G3 H3 ⟨b, e3, h3⟩ g3 r3 => ?_
  subst e3
  cases r3
  exact ⟨b, rfl, qv b G3 H3 h3 ((g1.trans E.sok g2).trans E.sok g3)⟩
theorem ww_and1 {a : Expr} {pos : Pos} {Q : Bool → Prop} (h : WB c a Γ Q) : WWB c (.BoolOp .And [a] pos) Γ Q := fun X F m G0 H0 σ G H E Qv qv => ⟨_, pw_and1 pt_jt, h X F m G0 H0 σ G H E Qv qv⟩
theorem ww_or1 {a : Expr} {pos : Pos} {Q : Bool → Prop} (h : WB c a Γ Q) : WWB c (.BoolOp .Or [a] pos) Γ Q := fun X F m G0 H0 σ G H E Qv qv => ⟨_, pw_or1 pt_jt, h X F m G0 H0 σ G H E Qv qv⟩
theorem ww_and {a b : Expr} {rest : List Expr} {pos : Pos} {Q : Bool → Prop} (h : WB c a Γ fun x => if x = true then WWB c (.BoolOp .And (b :: rest) pos) Γ Q else Q false) : WWB c (.BoolOp .And (a :: b :: rest) pos) Γ Q := by
  intro X F m G0 H0 σ G H E Qv qv
  refine ⟨_, pw_and pt_jt pw_jw, h X F m G0 H0 σ G H E _ fun x G1 H1 h1 g1 => ?_⟩
  cases x with
  | true => exact iteT ((show WWB c (.BoolOp .And (b :: rest) pos) Γ Q from h1) X F m G0 H0 σ G1 H1 (E.step g1) _ fun y G2 H2 h2 g2 => qv _ _ _ h2 (g1.trans E.sok g2))
  | false => exact iteF (qv _ _ _ h1 g1)
theorem ww_or {a b : Expr} {rest : List Expr} {pos : Pos} {Q : Bool → Prop} (h : WB c a Γ fun x => if x = true then Q true else WWB c (.BoolOp .Or (b :: rest) pos) Γ Q) : WWB c (.BoolOp .Or (a :: b :: rest) pos) Γ Q := by
  intro X F m G0 H0 σ G H E Qv qv
  refine ⟨_, pw_or pt_jt pw_jw, h X F m G0 H0 σ G H E _ fun x G1 H1 h1 g1 => ?_⟩
  cases x with
  | false => exact iteF ((show WWB c (.BoolOp .Or (b :: rest) pos) Γ Q from h1) X F m G0 H0 σ G1 H1 (E.step g1) _ fun y G2 H2 h2 g2 => qv _ _ _ h2 (g1.trans E.sok g2))
  | true => exact iteT (qv _ _ _ h1 g1)
/-! ### and, or, not as values; a if t else b -/
theorem w_one {op} {a : Expr} {pos : Pos} (h : Wv c a Γ Q) : Wv c (.BoolOp op [a] pos) Γ Q := fun X F m G0 H0 σ G H E Qv qv => ⟨_, pe_one pe_je, h X F m G0 H0 σ G H E Qv qv⟩
theorem w_and {a b : Expr} {rest : List Expr} {pos : Pos} (h : Wv c a Γ fun x => ∃ k, x = .bl k ∧ if k = true then Wv c (.BoolOp .And (b :: rest) pos) Γ Q else Q (.bl false)) : Wv c (.BoolOp .And (a :: b :: rest) pos) Γ Q := by
  intro X F m G0 H0 σ G H E Qv qv
  refine ⟨_, pe_and pe_je pe_je, h X F m G0 H0 σ G H E _ fun x d G1 H1 ⟨k, e, h1⟩ g1 r1 => ?_⟩
  subst e
  cases r1
  refine ⟨k, rfl, ?_⟩
  cases k with
  | true => exact iteT ((show Wv c (.BoolOp .And (b :: rest) pos) Γ Q from h1) X F m G0 H0 σ G1 H1 (E.step g1) _ fun v d G2 H2 h2 g2 r2 => qv _ _ _ _ h2 (g1.trans E.sok g2) r2)
  | false => exact iteF (qv _ _ _ _ h1 g1 (.bl false))
theorem w_or {a b : Expr} {rest : List Expr} {pos : Pos} (h : Wv c a Γ fun x => ∃ k, x = .bl k ∧ if k = true then Q (.bl true) else Wv c (.BoolOp .Or (b :: rest) pos) Γ Q) : Wv c (.BoolOp .Or (a :: b :: rest) pos) Γ Q := by
  intro X F m G0 H0 σ G H E Qv qv
  refine ⟨_, pe_or pe_je pe_je, h X F m G0 H0 σ G H E _ fun x d G1 H1 ⟨k, e, h1⟩ g1 r1 => ?_⟩
  subst e
  cases r1
  refine ⟨k, rfl, ?_⟩
  cases k with
  | false => exact iteF ((show Wv c (.BoolOp .Or (b :: rest) pos) Γ Q from h1) X F m G0 H0 σ G1 H1 (E.step g1) _ fun v d G2 H2 h2 g2 r2 => qv _ _ _ _ h2 (g1.trans E.sok g2) r2)
  | true => exact iteT (qv _ _ _ _ h1 g1 (.bl true))
theorem w_not {a : Expr} {pos : Pos} (h : Wv c a Γ fun x => ∃ k, x = .bl k ∧ Q (.bl (!k))) : Wv c (.UnaryOp .Not a pos) Γ Q := by
  intro X F m G0 H0 σ G H E Qv qv
  refine ⟨_, pe_not pe_je, h X F m G0 H0 σ G H E _ fun x d G1 H1 ⟨k, e, h1⟩ g1 r1 => ?_⟩
  subst e
  cases r1
  exact ⟨k, rfl, qv _ _ _ _ h1 g1 (.bl _)⟩
theorem w_if {t a b : Expr} {pos : Pos} (h : WB c t Γ fun x => if x = true then Wv c a Γ Q else Wv c b Γ Q) : Wv c (.IfExp t a b pos) Γ Q := by
  intro X F m G0 H0 σ G H E Qv qv
  refine ⟨_, pe_ifExp pt_jt pe_je pe_je, h X F m G0 H0 σ G H E _ fun x G1 H1 h1 g1 => ?_⟩
  cases x with
  | true => exact iteT ((show Wv c a Γ Q from h1) X F m G0 H0 σ G1 H1 (E.step g1) _ fun v d G2 H2 h2 g2 r2 => qv _ _ _ _ h2 (g1.trans E.sok g2) r2)
  | false => exact iteF ((show Wv c b Γ Q from h1) X F m G0 H0 σ G1 H1 (E.step g1) _ fun v d G2 H2 h2 g2 r2 => qv _ _ _ _ h2 (g1.trans E.sok g2) r2)

/-! ### operators by data -/
theorem opR_or {X : Cx} {f : Value → Value → Sem Value} {r r' : R2} (h : OpR X f r) (h' : OpR X f r') : OpR X f (fun x y H Q => r x y H Q ∨ r' x y H Q) := fun pins s σ H x y v u Q I rx ry q => by
  rcases q with q | q
  · exact h pins s σ H x y v u Q I rx ry q
  · exact h' pins s σ H x y v u Q I rx ry q
theorem ixR_or {X : Cx} {r r' : R2} (h : IxR X r) (h' : IxR X r') : IxR X (fun x y H Q => r x y H Q ∨ r' x y H Q) := fun va sl pins s σ H x y v u Q I rx ry q hs => by
  rcases q with q | q
  · exact h va sl pins s σ H x y v u Q I rx ry q hs
  · exact h' va sl pins s σ H x y v u Q I rx ry q hs
theorem callR_or {X : Cx} {f : Value} {r r' : List V → Hp → VK → Prop} (h : CallR X f r) (h' : CallR X f r') : CallR X f (fun x H Q => r x H Q ∨ r' x H Q) := fun pins s σ H xs us Q I rx q => by
  rcases q with q | q
  · exact h pins s σ H xs us Q I rx q
  · exact h' pins s σ H xs us Q I rx q
theorem Op2.or {f : Value → Value → Sem Value} {F F' : D → D → (D → Prop) → Prop} (h : Op2 c f F) (h' : Op2 c f F') : Op2 c f (fun x y Q => F x y Q ∨ F' x y Q) := fun X Ft => by
  obtain ⟨r, hr, R⟩ := h X Ft
  obtain ⟨r', hr', R'⟩ := h' X Ft
  refine ⟨_, opR_or hr hr', fun m G H x y dx dy Q Qv s1 s2 rx ry q k => ?_⟩
  rcases q with q | q
  · exact .inl (R m G H x y dx dy Q Qv s1 s2 rx ry q k)
  · exact .inr (R' m G H x y dx dy Q Qv s1 s2 rx ry q k)
theorem Op2.imp {f : Value → Value → Sem Value} {F F' : D → D → (D → Prop) → Prop} (h : Op2 c f F) (i : ∀ x y Q, F' x y Q → F x y Q) : Op2 c f F' := fun X Ft => by
  obtain ⟨r, hr, R⟩ := h X Ft
  exact ⟨r, hr, fun m G H x y dx dy Q Qv s1 s2 rx ry q k => R m G H x y dx dy Q Qv s1 s2 rx ry (i _ _ _ q) k⟩
theorem OpI.or {F F' : D → D → (D → Prop) → Prop} (h : OpI c F) (h' : OpI c F') : OpI c (fun x y Q => F x y Q ∨ F' x y Q) := fun X Ft => by
  obtain ⟨r, hr, R⟩ := h X Ft
  obtain ⟨r', hr', R'⟩ := h' X Ft
  refine ⟨_, ixR_or hr hr', fun m G H x y dx dy Q Qv s1 s2 rx ry q k => ?_⟩
  rcases q with q | q
  · exact .inl (R m G H x y dx dy Q Qv s1 s2 rx ry q k)
  · exact .inr (R' m G H x y dx dy Q Qv s1 s2 rx ry q k)
theorem OpI.imp {F F' : D → D → (D → Prop) → Prop} (h : OpI c F) (i : ∀ x y Q, F' x y Q → F x y Q) : OpI c F' := fun X Ft => by
  obtain ⟨r, hr, R⟩ := h X Ft
  exact ⟨r, hr, fun m G H x y dx dy Q Qv s1 s2 rx ry q k => R m G H x y dx dy Q Qv s1 s2 rx ry (i _ _ _ q) k⟩
theorem OpC.or {f : Value} {F F' : List D → (D → Prop) → Prop} (h : OpC c f F) (h' : OpC c f F') : OpC c f (fun x Q => F x Q ∨ F' x Q) := fun X Ft => by
  obtain ⟨r, hr, R⟩ := h X Ft
  obtain ⟨r', hr', R'⟩ := h' X Ft
  refine ⟨_, callR_or hr hr', fun m G H x dx Q Qv s1 s2 rx q k => ?_⟩
  rcases q with q | q
  · exact .inl (R m G H x dx Q Qv s1 s2 rx q k)
  · exact .inr (R' m G H x dx Q Qv s1 s2 rx q k)
theorem OpC.imp {f : Value} {F F' : List D → (D → Prop) → Prop} (h : OpC c f F) (i : ∀ x Q, F' x Q → F x Q) : OpC c f F' := fun X Ft => by
  obtain ⟨r, hr, R⟩ := h X Ft
  exact ⟨r, hr, fun m G H x dx Q Qv s1 s2 rx q k => R m G H x dx Q Qv s1 s2 rx (i _ _ q) k⟩
/-- two ints -/
theorem op2_I {f : Value → Value → Sem Value} {C : Int → Int → Prop} {g : Int → Int → D} (gv : Int → Int → V) (hg : ∀ K m G i j, Rep K m G (gv i j) (g i j)) (h : ∀ X, OpR X f (rI C gv)) : Op2 c f (fun x y Q => ∃ i j, x = .int i ∧ y = .int j ∧ C i j ∧ Q (g i j)) := fun X Ft => by
  refine ⟨_, h X, fun m G H x y dx dy Q Qv s1 s2 rx ry ⟨i, j, e1, e2, hc, q⟩ k => ?_⟩
  subst e1 e2
  cases rx
  cases ry
  exact ⟨i, j, rfl, rfl, hc, k _ _ G H q Good.refl (hg _ _ _ _ _)⟩
theorem op2_I0 {f : Value → Value → Sem Value} {g : Int → Int → D} (gv : Int → Int → V) (hg : ∀ K m G i j, Rep K m G (gv i j) (g i j)) (h : ∀ X, OpR X f (rI0 gv)) : Op2 c f (fun x y Q => ∃ i j, x = .int i ∧ y = .int j ∧ Q (g i j)) := fun X Ft => by
  refine ⟨_, h X, fun m G H x y dx dy Q Qv s1 s2 rx ry ⟨i, j, e1, e2, q⟩ k => ?_⟩
  subst e1 e2
  cases rx
  cases ry
  exact ⟨i, j, rfl, rfl, k _ _ G H q Good.refl (hg _ _ _ _ _)⟩
theorem d_add : Op2 c (binaryOp .Add) (fun x y Q => ∃ i j, x = .int i ∧ y = .int j ∧ Q (.int (i + j))) := op2_I0 _ (fun _ _ _ _ _ => .int _) fun _ => op_add
theorem d_sub : Op2 c (binaryOp .Sub) (fun x y Q => ∃ i j, x = .int i ∧ y = .int j ∧ Q (.int (i - j))) := op2_I0 _ (fun _ _ _ _ _ => .int _) fun _ => op_sub
theorem d_mul : Op2 c (binaryOp .Mult) (fun x y Q => ∃ i j, x = .int i ∧ y = .int j ∧ CMul i j ∧ Q (.int (i * j))) := op2_I _ (fun _ _ _ _ _ => .int _) fun _ => op_mul
theorem d_mulW : Op2 c (binaryOp .Mult) (fun x y Q => ∃ i j, x = .int i ∧ y = .int j ∧ CMulW i j ∧ Q (.int (i * j))) := op2_I _ (fun _ _ _ _ _ => .int _) fun _ => op_mulW
theorem d_fdivW : Op2 c (binaryOp .FloorDiv) (fun x y Q => ∃ i j, x = .int i ∧ y = .int j ∧ CDivW i j ∧ Q (.int (i / j))) := op2_I _ (fun _ _ _ _ _ => .int _) fun _ => op_fdivW
theorem d_mod : Op2 c (binaryOp .Mod) (fun x y Q => ∃ i j, x = .int i ∧ y = .int j ∧ 0 < j ∧ Q (.int (i % j))) := op2_I _ (fun _ _ _ _ _ => .int _) fun _ => op_mod
theorem d_pow : Op2 c (binaryOp .Pow) (fun x y Q => ∃ i j, x = .int i ∧ y = .int j ∧ CPow i j ∧ Q (.int (i ^ j.toNat))) := op2_I _ (fun _ _ _ _ _ => .int _) fun _ => op_pow
theorem d_lt : Op2 c (compareOp .Lt) (fun x y Q => ∃ i j, x = .int i ∧ y = .int j ∧ Q (.bl (decide (i < j)))) := op2_I0 _ (fun _ _ _ _ _ => .bl _) fun _ => op_lt
theorem d_le : Op2 c (compareOp .LtE) (fun x y Q => ∃ i j, x = .int i ∧ y = .int j ∧ Q (.bl (decide (i ≤ j)))) := op2_I0 _ (fun _ _ _ _ _ => .bl _) fun _ => op_le
theorem d_gt : Op2 c (compareOp .Gt) (fun x y Q => ∃ i j, x = .int i ∧ y = .int j ∧ Q (.bl (decide (j < i)))) := op2_I0 _ (fun _ _ _ _ _ => .bl _) fun _ => op_gt
theorem d_ge : Op2 c (compareOp .GtE) (fun x y Q => ∃ i j, x = .int i ∧ y = .int j ∧ Q (.bl (decide (j ≤ i)))) := op2_I0 _ (fun _ _ _ _ _ => .bl _) fun _ => op_ge
end
end WL
set_option Elab.async false
set_option linter.all false
set_option maxRecDepth 100000
set_option maxHeartbeats 4000000
namespace WL
open PySem PySem.Spec PyProof.Rows L2 Evl
section
variable {c : Ct} {Γ : Gm} {Q : D → Prop}
/-! ### == of scalars, is None -/
def sEq : D → D → Option Bool
  | .int i, .int j => some (decide (i = j))
  | .str i, .str j => some (decide (i = j))
  | .bl i, .bl j => some (decide (i = j))
  | .non, .non => some true
  | .non, .int _ => some false | .int _, .non => some false | .non, .bl _ => some false | .bl _, .non => some false | .non, .str _ => some false | .str _, .non => some false
  | .int _, .str _ => some false | .str _, .int _ => some false | .bl _, .str _ => some false | .str _, .bl _ => some false
  | _, _ => none
theorem sEq_ok {K : PySem.W.Frag} {m : Option Addr} {G : Hp} {x y : V} {dx dy : D} {b : Bool} (rx : Rep K m G x dx) (ry : Rep K m G y dy) (e : sEq dx dy = some b) : scal x y = true ∧ decide (x = y) = b := by
  cases rx <;> cases ry <;> first | (cases e; done) | (simp only [sEq, Option.some.injEq] at e; subst e; exact ⟨rfl, by simp⟩)
theorem d_eq : Op2 c (compareOp .Eq) (fun x y Q => ∃ b, sEq x y = some b ∧ Q (.bl b)) := fun X Ft => by
  refine ⟨_, op_eq, fun m G H x y dx dy Q Qv s1 s2 rx ry ⟨b, e, q⟩ k => ?_⟩
  obtain ⟨h1, h2⟩ := sEq_ok rx ry e
  exact ⟨h1, by rw [h2]; exact k _ _ G H q Good.refl (.bl b)⟩
theorem d_ne : Op2 c (compareOp .NotEq) (fun x y Q => ∃ b, sEq x y = some b ∧ Q (.bl (!b))) := fun X Ft => by
  refine ⟨_, op_ne, fun m G H x y dx dy Q Qv s1 s2 rx ry ⟨b, e, q⟩ k => ?_⟩
  obtain ⟨h1, h2⟩ := sEq_ok rx ry e
  exact ⟨h1, by rw [h2]; exact k _ _ G H q Good.refl (.bl _)⟩
def D.isN : D → Option Bool
  | .non => some true
  | .raw _ => none
  | _ => some false
theorem isN_ok {K : PySem.W.Frag} {m : Option Addr} {G : Hp} {x : V} {dx : D} {b : Bool} (rx : Rep K m G x dx) (e : dx.isN = some b) : decide (x = .non) = b := by
  cases rx <;> first | (cases e; done) | (simp only [D.isN, Option.some.injEq] at e; subst e; simp)
theorem d_isN : Op2 c (compareOp .Is) (fun x y Q => y = .non ∧ ∃ b, x.isN = some b ∧ Q (.bl b)) := fun X Ft => by
  refine ⟨_, op_isN, fun m G H x y dx dy Q Qv s1 s2 rx ry ⟨ey, b, e, q⟩ k => ?_⟩
  subst ey
  cases ry
  exact ⟨rfl, by rw [isN_ok rx e]; exact k _ _ G H q Good.refl (.bl b)⟩
theorem d_notN : Op2 c (compareOp .IsNot) (fun x y Q => y = .non ∧ ∃ b, x.isN = some b ∧ Q (.bl (!b))) := fun X Ft => by
  refine ⟨_, op_notN, fun m G H x y dx dy Q Qv s1 s2 rx ry ⟨ey, b, e, q⟩ k => ?_⟩
  subst ey
  cases ry
  exact ⟨rfl, by rw [isN_ok rx e]; exact k _ _ G H q Good.refl (.bl _)⟩

/-! ### + of texts, tuples, lists; unary -/
theorem d_addS : Op2 c (binaryOp .Add) (fun x y Q => ∃ i j, x = .str i ∧ y = .str j ∧ i.length + j.length ≤ 100000 ∧ Q (.str (i ++ j))) := fun X Ft => by
  refine ⟨_, op_add_str, fun m G H x y dx dy Q Qv s1 s2 rx ry ⟨i, j, e1, e2, hl, q⟩ k => ?_⟩
  subst e1 e2
  cases rx
  cases ry
  exact ⟨i, j, rfl, rfl, big_le hl, k _ _ G H q Good.refl (.str _)⟩
theorem op1_I {f : Value → Sem Value} {g : Int → D} (gv : Int → V) (hg : ∀ K m G i, Rep K m G (gv i) (g i)) (h : ∀ X, UnR X f (rU gv)) : Op1 c f (fun x Q => ∃ i, x = .int i ∧ Q (g i)) := fun X Ft => by
  refine ⟨_, h X, fun m G H x dx Q Qv s1 s2 rx ⟨i, e1, q⟩ k => ?_⟩
  subst e1
  cases rx
  exact ⟨i, rfl, k _ _ G H q Good.refl (hg _ _ _ _)⟩
theorem d_neg : Op1 c (unaryOp .USub) (fun x Q => ∃ i, x = .int i ∧ Q (.int (-i))) := op1_I _ (fun _ _ _ _ => .int _) fun _ => un_neg
theorem d_addT : Op2 c (binaryOp .Add) (fun x y Q => ∃ xs ys, x = .tup xs ∧ y = .tup ys ∧ xs.length + ys.length ≤ 100000 ∧ Q (.tup (xs ++ ys))) := by
  rintro X ⟨k0, er, tp, hx, rfl, hcold, hu0⟩
  refine ⟨_, op_catA, fun m G H x y dx dy Q Qv s1 s2 rx ry ⟨xs, ys, e1, e2, hl, q⟩ k => ?_⟩
  subst e1 e2
  cases rx with
  | @tup a us _ ha la =>
    cases ry with
    | @tup b ws _ hb lb =>
      have na := la.length
      have nb := lb.length
      refine ⟨a, b, us, ws, rfl, rfl, ex_t s1.1 ha, ex_t s1.1 hb, big_le (by omega), fun e => ?_, fun _ e => ?_, fun _ _ p hp => ?_⟩
      · subst e
        cases la
        exact k _ _ G H q Good.refl (.tup hb lb)
      · subst e
        cases lb
        rw [List.append_nil] at q
        exact k _ _ G H q Good.refl (.tup ha la)
      · exact k _ _ _ _ q (Good.laid s1 hp) (.tup (.inl (.inl upd_same)) ((la.append lb).mono (Ex.new (s1.none hp))))
/-- xs + ys: a new list -/
def Op2O (c : Ct) (f : Value → Value → Sem Value) (F : D → D → (List D → Prop) → Prop) : Prop :=
  ∀ X, Fits c X → ∃ r : R2, OpR X f r ∧ ∀ m G H x y dx dy (Q : List D → Prop) (Qv : VK), Sub m G H → SOk m G H → Rep c.K m G x dx → Rep c.K m G y dy → F dx dy Q →
    (∀ a vs ds H', Q ds → Good m G H G H' → H a = none → G a = none → H' a = some (.lst vs) → RepL c.K m G vs ds → Qv (.ref a) H') → r x y H Qv
theorem wo_op {a b : Expr} {op : Operator} {pos : Pos} {F : D → D → (List D → Prop) → Prop} {Q : List D → Prop} (ho : Op2O c (binaryOp op) F) (h : Wv c a Γ fun x => Wv c b Γ fun y => F x y Q) : WO c (.BinOp a op b pos) Γ Q := by
  intro X Ft m G0 H0 σ G H E Qv qv
  obtain ⟨r, hr, R⟩ := ho X Ft
  refine ⟨_, pe_op hr pe_je pe_je, h X Ft m G0 H0 σ G H E _ fun v d G1 H1 h1 g1 r1 => ?_⟩
  have E1 := E.step g1
  refine h1 X Ft m G0 H0 σ G1 H1 E1 _ fun u e G2 H2 h2 g2 r2 => ?_
  have E2 := E1.step g2
  have g12 := g1.trans E.sok g2
  exact R m G2 H2 v u d e Q Qv E2.sub E2.sok (r1.mono g2.ex) r2 h2 fun a vs ds H3 h3 g3 n1 n2 e3 r3 => qv a vs ds G2 H3 h3 (g12.trans E.sok g3) (g12.back E.sok n1) n2 e3 r3
theorem d_addL : Op2O c (binaryOp .Add) (fun x y Q => ∃ xs ys, x = .lst xs ∧ y = .lst ys ∧ xs.length + ys.length ≤ 100000 ∧ Q (xs ++ ys)) := by
  rintro X ⟨k0, er, tp, hx, rfl, hcold, hu0⟩
  refine ⟨_, op_cat, fun m G H x y dx dy Q Qv s1 s2 rx ry ⟨xs, ys, e1, e2, hl, q⟩ k => ?_⟩
  subst e1 e2
  cases rx with
  | @lst a us _ ha la =>
    cases ry with
    | @lst b ws _ hb lb =>
      have na := la.length
      have nb := lb.length
      exact ⟨a, b, us, ws, rfl, rfl, s1.1 _ _ ha, s1.1 _ _ hb, big_le (by omega), fun p hp => k p _ _ _ q (Good.hid hp) hp (s1.none hp) upd_same (la.append lb)⟩
theorem d_repL : Op2O c (binaryOp .Mult) (fun x y Q => ∃ xs i, x = .lst xs ∧ y = .int i ∧ i ≤ 100000 ∧ -100000 ≤ i ∧ xs.length * i.toNat ≤ 100000 ∧ Q (List.replicate i.toNat xs).flatten) := by
  rintro X ⟨k0, er, tp, hx, rfl, hcold, hu0⟩
  refine ⟨_, op_rep, fun m G H x y dx dy Q Qv s1 s2 rx ry ⟨xs, i, e1, e2, h1, h2, hl, q⟩ k => ?_⟩
  subst e1 e2
  cases ry
  cases rx with
  | @lst a us _ ha la =>
    have na := la.length
    refine ⟨a, i, us, rfl, rfl, s1.1 _ _ ha, by omega, by omega, big_le (by rw [na]; exact hl), fun p hp => ?_⟩
    have rr : ∀ n, RepL X.K m G (List.replicate n us).flatten (List.replicate n xs).flatten := fun n => by
      induction n with
      | zero => exact .nil
      | succ n ih =>
        rw [List.replicate_succ, List.replicate_succ, List.flatten_cons, List.flatten_cons]
        exact la.append ih
    exact k p _ _ _ q (Good.hid hp) hp (s1.none hp) upd_same (rr _)

/-! ### o[i] -/
theorem RepL.atI {K : PySem.W.Frag} {m : Option Addr} {G : Hp} {vs : List V} {ds : List D} {i : Int} {d : D} (l : RepL K m G vs ds) (h : atI ds i = some d) : ∃ v, atI vs i = some v ∧ Rep K m G v d := by
  unfold L2.atI at h ⊢
  rw [l.length]
  cases e : ixN ds.length i with
  | none => rw [e] at h; cases h
  | some j =>
    rw [e] at h
    obtain ⟨v, h1, h2⟩ := l.get (show ds[j]? = some d from h)
    exact ⟨v, h1, h2⟩
theorem i_lst : OpI c (fun x y Q => ∃ xs i d, x = .lst xs ∧ y = .int i ∧ atI xs i = some d ∧ Q d) := by
  rintro X ⟨k0, er, tp, hx, rfl, hcold, hu0⟩
  refine ⟨_, ix_list, fun m G H x y dx dy Q Qv s1 s2 rx ry ⟨xs, i, d, e1, e2, h, q⟩ k => ?_⟩
  subst e1 e2
  cases ry
  cases rx with
  | @lst a us _ ha la =>
    obtain ⟨v, h1, h2⟩ := la.atI h
    exact ⟨a, us, i, v, rfl, rfl, .inl (.inl (s1.1 _ _ ha)), h1, k v d G H q Good.refl h2⟩
theorem i_tup : OpI c (fun x y Q => ∃ xs i d, x = .tup xs ∧ y = .int i ∧ atI xs i = some d ∧ Q d) := by
  rintro X ⟨k0, er, tp, hx, rfl, hcold, hu0⟩
  refine ⟨_, ix_tup, fun m G H x y dx dy Q Qv s1 s2 rx ry ⟨xs, i, d, e1, e2, h, q⟩ k => ?_⟩
  subst e1 e2
  cases ry
  cases rx with
  | @tup a us _ ha la =>
    obtain ⟨v, h1, h2⟩ := la.atI h
    exact ⟨a, us, i, v, rfl, rfl, ex_t s1.1 ha, h1, k v d G H q Good.refl h2⟩
/-- a list or a tuple -/
def D.seq : D → Option (List D)
  | .lst xs => some xs
  | .tup xs => some xs
  | _ => none
theorem i_seq : OpI c (fun x y Q => ∃ xs i d, x.seq = some xs ∧ y = .int i ∧ atI xs i = some d ∧ Q d) := (i_lst.or i_tup).imp fun x y Q ⟨xs, i, d, e1, e2, e3, q⟩ => by
  cases x <;> first | (cases e1; done) | skip
  · exact .inr ⟨_, i, d, rfl, e2, by cases e1; exact e3, q⟩
  · exact .inl ⟨_, i, d, rfl, e2, by cases e1; exact e3, q⟩
/-! ### dicts -/
def dval : List Key → List D → Key → Option D
  | k :: ks, d :: ds, j => if k = j then some d else dval ks ds j
  | _, _, _ => none
def keyD : Key → D
  | .inl i => .int i
  | .inr x => .str x
theorem rep_key {K : PySem.W.Frag} {m : Option Addr} {G : Hp} {v : V} {k : Key} (r : Rep K m G v (keyD k)) : v = kV k := by
  cases k with
  | inl i => cases r; rfl
  | inr x => cases r; rfl
theorem dval_ok {K : PySem.W.Frag} {m : Option Addr} {G : Hp} (j : Key) : ∀ {kvs : List (Key × V)} {ds : List D}, RepL K m G (kvs.map (·.2)) ds →
    (∃ v d, valV kvs j = some v ∧ dval (kvs.map (·.1)) ds j = some d ∧ Rep K m G v d) ∨ (valV kvs j = none ∧ dval (kvs.map (·.1)) ds j = none)
  | [], _, .nil => .inr ⟨rfl, rfl⟩
  | (k, u) :: r, d :: ds, .cons h l => by
    by_cases e : k = j
    · refine .inl ⟨u, d, valV_pos e, ?_, h⟩
      show (if k = j then some d else _) = _
      rw [if_pos e]
    · have e1 : valV ((k, u) :: r) j = valV r j := valV_neg e
      have e2 : dval (((k, u) :: r).map (·.1)) (d :: ds) j = dval (r.map (·.1)) ds j := by
        show (if k = j then some d else _) = _
        rw [if_neg e]
      rw [e1, e2]
      exact dval_ok j l
theorem hu_ {X : Cx} {k : Nat} (hr : L2H.RoomH k X.A) : X.A.units + 1 < cLine := by have := hr.un; omega
theorem rd_sub {m : Option Addr} {G H : Hp} (s : Sub m G H) {a : Addr} {u : HO} (h : Rd G a u) : Rd H a u := ex_rd s.1 h
theorem w_dget {a b : Expr} {pos : Pos} (h : Wv c a Γ fun x => Wv c b Γ fun y => ∃ ks ds k d, x = .dct ks ds ∧ y = keyD k ∧ dval ks ds k = some d ∧ Q d) (hs : NoSl b := by exact fun _ _ => rfl) : Wv c (.Subscript a b pos) Γ Q := by
  rintro X ⟨k0, er, tp, hx, rfl, hcold, hu0⟩ m G0 H0 σ G H E Qv qv
  have Ft : Fits (Ct.of X k0 er tp hx) X := ⟨k0, er, tp, hx, rfl, hcold, hu0⟩
  refine ⟨_, pe_dget (hu_ hu0) pe_je pe_je hs, h X Ft m G0 H0 σ G H E _ fun v d G1 H1 h1 g1 r1 => ?_⟩
  have E1 := E.step g1
  refine h1 X Ft m G0 H0 σ G1 H1 E1 _ fun u e G2 H2 h2 g2 r2 => ?_
  have E2 := E1.step g2
  obtain ⟨ks, ds, k, z, e1, e2, e3, q⟩ := h2
  subst e1 e2
  have r1' := r1.mono g2.ex
  obtain rfl := rep_key r2
  generalize ez : D.dct ks ds = dz at r1'
  cases r1' <;> first | (cases ez; done) | skip
  rename_i p kvs ds' hd hn hl
  cases ez
  rcases dval_ok k hl with ⟨v1, d1, e4, e5, r4⟩ | ⟨e4, e5⟩
  · rw [e3] at e5
    cases e5
    exact ⟨p, v1, rfl, .inl ⟨kvs, k, rd_sub E2.sub hd, rfl, e4.symm⟩, qv _ _ _ _ q (g1.trans E.sok g2) r4⟩
  · rw [e3] at e5; cases e5
theorem w_din {a b : Expr} {pos : Pos} (h : Wv c a Γ fun y => Wv c b Γ fun x => ∃ ks ds k, x = .dct ks ds ∧ y = keyD k ∧ Q (.bl (dval ks ds k).isSome)) (hm : behindInMarks .In b = false := by rfl) : Wv c (.Compare a [.In] [b] pos) Γ Q := by
  rintro X ⟨k0, er, tp, hx, rfl, hcold, hu0⟩ m G0 H0 σ G H E Qv qv
  have Ft : Fits (Ct.of X k0 er tp hx) X := ⟨k0, er, tp, hx, rfl, hcold, hu0⟩
  refine ⟨_, pe_cmp (pc_din (hu_ hu0) pe_je pe_je) hm, h X Ft m G0 H0 σ G H E _ fun v d G1 H1 h1 g1 r1 => ?_⟩
  have E1 := E.step g1
  refine h1 X Ft m G0 H0 σ G1 H1 E1 _ fun u e G2 H2 h2 g2 r2 => ?_
  have E2 := E1.step g2
  obtain ⟨ks, ds, k, e1, e2, q⟩ := h2
  subst e1 e2
  obtain rfl := rep_key r1
  generalize ez : D.dct ks ds = dz at r2
  cases r2 <;> first | (cases ez; done) | skip
  rename_i p kvs ds' hd hn hl
  cases ez
  rcases dval_ok k hl with ⟨v1, d1, e4, e5, r4⟩ | ⟨e4, e5⟩
  · rw [e5] at q
    exact ⟨p, some v1, rfl, .inl ⟨kvs, k, rd_sub E2.sub hd, rfl, e4.symm⟩, qv _ _ _ _ q (g1.trans E.sok g2) (.bl _)⟩
  · rw [e5] at q
    exact ⟨p, none, rfl, .inl ⟨kvs, k, rd_sub E2.sub hd, rfl, e4.symm⟩, qv _ _ _ _ q (g1.trans E.sok g2) (.bl _)⟩
theorem w_dnotin {a b : Expr} {pos : Pos} (h : Wv c a Γ fun y => Wv c b Γ fun x => ∃ ks ds k, x = .dct ks ds ∧ y = keyD k ∧ Q (.bl (!(dval ks ds k).isSome))) (hm : behindInMarks .NotIn b = false := by rfl) : Wv c (.Compare a [.NotIn] [b] pos) Γ Q := by
  rintro X ⟨k0, er, tp, hx, rfl, hcold, hu0⟩ m G0 H0 σ G H E Qv qv
  have Ft : Fits (Ct.of X k0 er tp hx) X := ⟨k0, er, tp, hx, rfl, hcold, hu0⟩
  refine ⟨_, pe_cmp (pc_dnotin (hu_ hu0) pe_je pe_je) hm, h X Ft m G0 H0 σ G H E _ fun v d G1 H1 h1 g1 r1 => ?_⟩
  have E1 := E.step g1
  refine h1 X Ft m G0 H0 σ G1 H1 E1 _ fun u e G2 H2 h2 g2 r2 => ?_
  have E2 := E1.step g2
  obtain ⟨ks, ds, k, e1, e2, q⟩ := h2
  subst e1 e2
  obtain rfl := rep_key r1
  generalize ez : D.dct ks ds = dz at r2
  cases r2 <;> first | (cases ez; done) | skip
  rename_i p kvs ds' hd hn hl
  cases ez
  rcases dval_ok k hl with ⟨v1, d1, e4, e5, r4⟩ | ⟨e4, e5⟩
  · rw [e5] at q
    exact ⟨p, some v1, rfl, .inl ⟨kvs, k, rd_sub E2.sub hd, rfl, e4.symm⟩, qv _ _ _ _ q (g1.trans E.sok g2) (.bl _)⟩
  · rw [e5] at q
    exact ⟨p, none, rfl, .inl ⟨kvs, k, rd_sub E2.sub hd, rfl, e4.symm⟩, qv _ _ _ _ q (g1.trans E.sok g2) (.bl _)⟩
end
end WL
set_option Elab.async false
set_option linter.all false
set_option maxRecDepth 100000
set_option maxHeartbeats 4000000
namespace WL
open PySem PySem.Spec PyProof.Rows L2 Evl
section
variable {c : Ct} {Γ : Gm} {Q : D → Prop}
theorem wb_dnotin {a b : Expr} {pos : Pos} {Q : Bool → Prop} (h : Wv c a Γ fun y => Wv c b Γ fun x => ∃ ks ds k, x = .dct ks ds ∧ y = keyD k ∧ Q (!(dval ks ds k).isSome)) (hm : behindInMarks .NotIn b = false := by rfl) : WB c (.Compare a [.NotIn] [b] pos) Γ Q := by
  rintro X ⟨k0, er, tp, hx, rfl, hcold, hu0⟩ m G0 H0 σ G H E Qv qv
  have Ft : Fits (Ct.of X k0 er tp hx) X := ⟨k0, er, tp, hx, rfl, hcold, hu0⟩
  refine ⟨_, pt_cmp (pc_dnotin (hu_ hu0) pe_je pe_je) hm, h X Ft m G0 H0 σ G H E _ fun v d G1 H1 h1 g1 r1 => ?_⟩
  have E1 := E.step g1
  refine h1 X Ft m G0 H0 σ G1 H1 E1 _ fun u e G2 H2 h2 g2 r2 => ?_
  have E2 := E1.step g2
  obtain ⟨ks, ds, k, e1, e2, q⟩ := h2
  subst e1 e2
  obtain rfl := rep_key r1
  generalize ez : D.dct ks ds = dz at r2
  cases r2 <;> first | (cases ez; done) | skip
  rename_i p kvs ds' hd hn hl
  cases ez
  rcases dval_ok k hl with ⟨v1, d1, e4, e5, r4⟩ | ⟨e4, e5⟩
  · rw [e5] at q
    exact ⟨p, some v1, rfl, .inl ⟨kvs, k, rd_sub E2.sub hd, rfl, e4.symm⟩, _, rfl, qv _ _ _ q (g1.trans E.sok g2)⟩
  · rw [e5] at q
    exact ⟨p, none, rfl, .inl ⟨kvs, k, rd_sub E2.sub hd, rfl, e4.symm⟩, _, rfl, qv _ _ _ q (g1.trans E.sok g2)⟩
theorem wb_din {a b : Expr} {pos : Pos} {Q : Bool → Prop} (h : Wv c a Γ fun y => Wv c b Γ fun x => ∃ ks ds k, x = .dct ks ds ∧ y = keyD k ∧ Q (dval ks ds k).isSome) (hm : behindInMarks .In b = false := by rfl) : WB c (.Compare a [.In] [b] pos) Γ Q := by
  rintro X ⟨k0, er, tp, hx, rfl, hcold, hu0⟩ m G0 H0 σ G H E Qv qv
  have Ft : Fits (Ct.of X k0 er tp hx) X := ⟨k0, er, tp, hx, rfl, hcold, hu0⟩
  refine ⟨_, pt_cmp (pc_din (hu_ hu0) pe_je pe_je) hm, h X Ft m G0 H0 σ G H E _ fun v d G1 H1 h1 g1 r1 => ?_⟩
  have E1 := E.step g1
  refine h1 X Ft m G0 H0 σ G1 H1 E1 _ fun u e G2 H2 h2 g2 r2 => ?_
  have E2 := E1.step g2
  obtain ⟨ks, ds, k, e1, e2, q⟩ := h2
  subst e1 e2
  obtain rfl := rep_key r1
  generalize ez : D.dct ks ds = dz at r2
  cases r2 <;> first | (cases ez; done) | skip
  rename_i p kvs ds' hd hn hl
  cases ez
  rcases dval_ok k hl with ⟨v1, d1, e4, e5, r4⟩ | ⟨e4, e5⟩
  · rw [e5] at q
    exact ⟨p, some v1, rfl, .inl ⟨kvs, k, rd_sub E2.sub hd, rfl, e4.symm⟩, _, rfl, qv _ _ _ q (g1.trans E.sok g2)⟩
  · rw [e5] at q
    exact ⟨p, none, rfl, .inl ⟨kvs, k, rd_sub E2.sub hd, rfl, e4.symm⟩, _, rfl, qv _ _ _ q (g1.trans E.sok g2)⟩

/-! ### built-ins called by name -/
theorem w_callB {x : Str} {p pos : Pos} {e : Expr} {es : List Expr} {id : String} {F : List D → (D → Prop) → Prop} (ho : OpC c (.builtin id) F) (hm : c.mg x = none) (h : WA c (e :: es) Γ fun ds => F ds Q) (hg : c.sc.names.lookup x = some .globalImplicit := by rfl) (hv : bootBuiltins x = some (.builtin id) := by decide +kernel)
    (hn : x ≠ "__name__" := by decide) (hdb : (x == ("__debug__" : Str)) = false := by decide) (he : ∀ env, starEach (e :: es) env = (false, eval e env) :: starEach es env := by exact fun _ => rfl) (hpl : ∀ env, (backTo pos (starEach es env)).any (·.1) = false := by exact fun _ => rfl) : Wv c (.Call (.Name x p) (e :: es) [] pos) Γ Q := by
  intro X Ft m G0 H0 σ G H E Qv qv
  obtain ⟨r, hr, R⟩ := ho X Ft
  have Ft' := Ft
  obtain ⟨k0, er, tp, hx, rfl, hcold, hu0⟩ := Ft'
  refine ⟨_, pe_callB hr hg hm hv pa_ja hn hdb (he _) (hpl _), h X Ft m G0 H0 σ G H E _ fun vs ds G1 H1 h1 g1 r1 => ?_⟩
  have E1 := E.step g1
  exact R m G1 H1 vs ds Q Qv E1.sub E1.sok r1 h1 fun v d G2 H2 h2 g2 r2 => qv v d G2 H2 h2 (g1.trans E.sok g2) r2
theorem w_callT {x : Str} {p pos : Pos} {e : Expr} {es : List Expr} {T : String} {F : List D → (D → Prop) → Prop} (ho : OpC c (.type T) F) (hm : c.mg x = none) (h : WA c (e :: es) Γ fun ds => F ds Q) (hg : c.sc.names.lookup x = some .globalImplicit := by rfl) (hv : bootBuiltins x = some (.type T) := by decide +kernel)
    (hn : x ≠ "__name__" := by decide) (hdb : (x == ("__debug__" : Str)) = false := by decide) (he : ∀ env, starEach (e :: es) env = (false, eval e env) :: starEach es env := by exact fun _ => rfl) (hpl : ∀ env, (backTo pos (starEach es env)).any (·.1) = false := by exact fun _ => rfl) : Wv c (.Call (.Name x p) (e :: es) [] pos) Γ Q := by
  intro X Ft m G0 H0 σ G H E Qv qv
  obtain ⟨r, hr, R⟩ := ho X Ft
  have Ft' := Ft
  obtain ⟨k0, er, tp, hx, rfl, hcold, hu0⟩ := Ft'
  refine ⟨_, pe_callTy hr hg hm hv pa_ja hn hdb (he _) (hpl _), h X Ft m G0 H0 σ G H E _ fun vs ds G1 H1 h1 g1 r1 => ?_⟩
  have E1 := E.step g1
  exact R m G1 H1 vs ds Q Qv E1.sub E1.sok r1 h1 fun v d G2 H2 h2 g2 r2 => qv v d G2 H2 h2 (g1.trans E.sok g2) r2
/-- the built-in class x as an argument -/
theorem w_ty {x : Str} {pos : Pos} {T : String} (hm : c.mg x = none) (q : Q (.raw (.ty T))) (hg : c.sc.names.lookup x = some .globalImplicit := by rfl) (hv : bootBuiltins x = some (.type T) := by decide +kernel) (hn : x ≠ "__name__" := by decide) (hd : (x == ("__debug__" : Str)) = false := by decide) : Wv c (.Name x pos) Γ Q :=
  w_bltn (v := .ty T) hg hm hv rfl q hn hd
theorem repL1 {K : PySem.W.Frag} {m : Option Addr} {G : Hp} {xs : List V} {d : D} (r : RepL K m G xs [d]) : ∃ x, xs = [x] ∧ Rep K m G x d := by
  cases r with
  | cons r l => cases l; exact ⟨_, rfl, r⟩
theorem repL2 {K : PySem.W.Frag} {m : Option Addr} {G : Hp} {xs : List V} {d e : D} (r : RepL K m G xs [d, e]) : ∃ x y, xs = [x, y] ∧ Rep K m G x d ∧ Rep K m G y e := by
  cases r with
  | cons r l =>
    obtain ⟨y, rfl, r2⟩ := repL1 l
    exact ⟨_, y, rfl, r, r2⟩
/-- len of data -/
def D.len : D → Option Nat
  | .lst xs => some xs.length
  | .tup xs => some xs.length
  | .str s => if s.length ≤ 100000 then some s.length else none
  | .dct ks _ => some ks.length
  | _ => none
theorem rd_dict {K : PySem.W.Frag} {m : Option Addr} {G : Hp} {x : V} {ks : List Key} {ds : List D} (r : Rep K m G x (.dct ks ds)) : ∃ a kvs, x = .ref a ∧ Rd G a (.dK kvs) ∧ kvs.map (·.1) = ks ∧ ks.Nodup ∧ RepL K m G (kvs.map (·.2)) ds := by
  cases r with
  | @dct a kvs ds h n l => exact ⟨a, kvs, rfl, h, rfl, n, l⟩
theorem call_lenR {X : Cx} : CallR X (.builtin "len") (fun xs H Q => ∃ a kvs, xs = [V.ref a] ∧ Rd H a (.dK kvs) ∧ Q (.int kvs.length) H) := by
  intro pins s σ H xs us Q I r h
  obtain ⟨a, kvs, rfl, ha, q⟩ := h
  obtain ⟨u, rfl, ru⟩ := vals1 r
  cases ru
  exact d_len I ha fun t s' I' => ⟨.int kvs.length, H, I', ⟨t, rfl⟩, q⟩
theorem c_len : OpC c (.builtin "len") (fun ds Q => ∃ x n, ds = [x] ∧ x.len = some n ∧ Q (.int n)) := by
  rintro X ⟨k0, er, tp, hx, rfl, hcold, hu0⟩
  refine ⟨_, callR_or call_len call_lenR, fun m G H xs ds Q Qv s1 s2 rx ⟨x, n, e1, e2, q⟩ k => ?_⟩
  subst e1
  obtain ⟨v, rfl, r⟩ := repL1 rx
  have fin := k (.int n) (.int n) G H q Good.refl (.int _)
  cases x with
  | lst ys =>
    cases e2
    cases r with
    | @lst a us _ ha la => exact .inl ⟨_, _, rfl, .inl ⟨us, .inl (.inl (s1.1 _ _ ha)), la.length.symm⟩, fin⟩
  | tup ys =>
    cases e2
    cases r with
    | @tup a us _ ha la => exact .inl ⟨_, _, rfl, .inr ⟨us, ex_t s1.1 ha, la.length.symm⟩, fin⟩
  | str z =>
    cases r
    simp only [D.len] at e2
    split at e2
    · cases e2
      exact .inl ⟨_, _, rfl, ⟨big_le ‹_›, rfl⟩, fin⟩
    · cases e2
  | dct ks ys =>
    obtain ⟨a, kvs, rfl, hd, e3, _, _⟩ := rd_dict r
    cases e2
    refine .inr ⟨a, kvs, rfl, rd_sub s1 hd, ?_⟩
    rw [← List.length_map (f := (·.1)), e3]
    exact fin
  | _ => cases e2
/-- the six kinds that are asked for -/
inductive Ty where
  | int | bool | str | tuple | list | dict
def Ty.nm : Ty → String
  | .int => "int" | .bool => "bool" | .str => "str" | .tuple => "tuple" | .list => "list" | .dict => "dict"
def D.isA : D → Ty → Option Bool
  | .raw _, _ => none
  | .strm, _ => none
  | .int _, .int => some true
  | .bl _, .int => some true
  | .bl _, .bool => some true
  | .str _, .str => some true
  | .tup _, .tuple => some true
  | .lst _, .list => some true
  | .dct _ _, .dict => some true
  | _, _ => some false
def D.tn : D → String
  | .non => "NoneType" | .bl _ => "bool" | .int _ => "int" | .str _ => "str" | .tup _ => "tuple" | .lst _ => "list" | .dct _ _ => "dict" | _ => "object"
theorem kit_isA {K : PySem.W.Frag} {d : D} {t : Ty} {b : Bool} (h : d.isA t = some b) : PySem.W.kitOne K (.type d.tn) (.type t.nm) = some b := by
  refine kit_ty ?_
  cases d <;> cases t <;> first | (cases h; done) | (cases h; dsimp only [D.tn, Ty.nm]; decide +kernel)
theorem tyX_of {K : PySem.W.Frag} {m : Option Addr} {G H : Hp} (s : Sub m G H) {x : V} {d : D} {t : Ty} {b : Bool} (h : d.isA t = some b) (r : Rep K m G x d) : TyX K H x (.type d.tn) := by
  cases r with
  | non => exact .base .non
  | bl b => exact .base (.bl b)
  | int i => exact .base (.int i)
  | str z => exact .base (.str z)
  | tup ha la =>
    rcases ha with (ha | ⟨o, ha⟩) | ⟨o, its, n, h1, h2, _⟩
    · exact .base (.tup (s.1 _ _ ha))
    · exact .fTuple (s.1 _ _ ha)
    · exact .kTuple h1 h2
  | lst ha la => exact .base (.lst (s.1 _ _ ha))
  | dct ha n la =>
    rcases ha with ha | ⟨o, ha⟩
    · exact .base (.dK (s.1 _ _ ha))
    · exact .fDict (s.1 _ _ ha)
  | raw v => cases h
  | strm e => cases h
theorem c_isi (t : Ty) : OpC c (.builtin "isinstance") (fun ds Q => ∃ x b, ds = [x, .raw (.ty t.nm)] ∧ x.isA t = some b ∧ Q (.bl b)) := by
  rintro X ⟨k0, er, tp, hx, rfl, hcold, hu0⟩
  refine ⟨_, call_isi, fun m G H xs ds Q Qv s1 s2 rx ⟨x, b, e1, e2, q⟩ k => ?_⟩
  subst e1
  obtain ⟨v, u, rfl, r1, r2⟩ := repL2 rx
  cases r2
  exact ⟨v, _, _, _, b, rfl, .ty _, tyX_of s1 e2 r1, kit_isA e2, k _ _ G H q Good.refl (.bl b)⟩
theorem c_abs : OpC c (.builtin "abs") (fun ds Q => ∃ i, ds = [.int i] ∧ Q (.int (if i < 0 then -i else i))) := fun X Ft => by
  refine ⟨_, call_abs, fun m G H xs ds Q Qv s1 s2 rx ⟨i, e1, q⟩ k => ?_⟩
  subst e1
  obtain ⟨v, rfl, r⟩ := repL1 rx
  cases r
  exact ⟨i, rfl, k _ _ G H q Good.refl (.int _)⟩
theorem c_int : OpC c (.type "int") (fun ds Q => ∃ i, ds = [.int i] ∧ Q (.int i)) := fun X Ft => by
  refine ⟨_, call_int1, fun m G H xs ds Q Qv s1 s2 rx ⟨i, e1, q⟩ k => ?_⟩
  subst e1
  obtain ⟨v, rfl, r⟩ := repL1 rx
  cases r
  exact .inl ⟨i, rfl, k _ _ G H q Good.refl (.int _)⟩
theorem c_str : OpC c (.type "str") (fun ds Q => ∃ i, ds = [.int i] ∧ i.natAbs.log2 < 1920 ∧ Q (.str (toString i))) := fun X Ft => by
  refine ⟨_, call_str_int, fun m G H xs ds Q Qv s1 s2 rx ⟨i, e1, hz, q⟩ k => ?_⟩
  subst e1
  obtain ⟨v, rfl, r⟩ := repL1 rx
  cases r
  exact ⟨i, rfl, hz, k _ _ G H q Good.refl (.str _)⟩
theorem c_min (hh : c.hx = none := by rfl) : OpC c (.builtin "min") (fun ds Q => ∃ i j, ds = [.int i, .int j] ∧ Q (.int (if j < i then j else i))) := by
  rintro X ⟨k0, er, tp, hx, rfl, hcold, hu0⟩
  obtain ⟨hc, hr, hpo⟩ := hcold hh
  refine ⟨_, call_min2 hc, fun m G H xs ds Q Qv s1 s2 rx ⟨i, j, e1, q⟩ k => ?_⟩
  subst e1
  obtain ⟨v, u, rfl, r, r'⟩ := repL2 rx
  cases r
  cases r'
  exact ⟨i, j, rfl, k _ _ G H q Good.refl (.int _)⟩
/-- all of truth values -/
theorem RepL.of_bls {K : PySem.W.Frag} {m : Option Addr} {G : Hp} : ∀ {bs : List Bool} {vs : List V}, RepL K m G vs (bs.map D.bl) → vs = bs.map V.bl
  | [], _, h => by cases h; rfl
  | n :: ns, _, h => by
    cases h with
    | cons r l =>
      cases r
      rw [RepL.of_bls l]
      rfl
theorem c_all (hh : c.hx = none := by rfl) : OpC c (.builtin "all") (fun ds Q => ∃ bs : List Bool, ds = [.lst (bs.map D.bl)] ∧ Q (.bl (bs.all id))) := by
  rintro X ⟨k0, er, tp, hx, rfl, hcold, hu0⟩
  obtain ⟨hc, hr, hpo⟩ := hcold hh
  refine ⟨_, cr_all hc, fun m G H xs ds Q Qv s1 s2 rx ⟨bs, e1, q⟩ k => ?_⟩
  subst e1
  obtain ⟨v, rfl, r⟩ := repL1 rx
  cases r with
  | @lst a us _ ha la =>
    obtain rfl := la.of_bls
    exact ⟨a, bs, rfl, .inl (.inl (s1.1 _ _ ha)), k _ _ G H q Good.refl (.bl _)⟩
theorem c_sum (hh : c.hx = none := by rfl) : OpC c (.builtin "sum") (fun ds Q => ∃ ns : List Int, ds = [.lst (ns.map D.int)] ∧ Q (.int ns.sum)) := by
  rintro X ⟨k0, er, tp, hx, rfl, hcold, hu0⟩
  obtain ⟨hc, hr, hpo⟩ := hcold hh
  refine ⟨_, cr_sum hc, fun m G H xs ds Q Qv s1 s2 rx ⟨bs, e1, q⟩ k => ?_⟩
  subst e1
  obtain ⟨v, rfl, r⟩ := repL1 rx
  cases r with
  | @lst a us _ ha la =>
    obtain rfl := la.of_ints
    exact ⟨a, bs, rfl, .inl (.inl (s1.1 _ _ ha)), k _ _ G H q Good.refl (.int _)⟩
/-- tuple(x) -/
theorem c_tup : OpC c (.type "tuple") (fun ds Q => ∃ x xs, ds = [x] ∧ x.seq = some xs ∧ Q (.tup xs)) := by
  rintro X ⟨k0, er, tp, hx, rfl, hcold, hu0⟩
  refine ⟨_, call_tuple_of, fun m G H xs ds Q Qv s1 s2 rx ⟨x, ys, e1, e2, q⟩ k => ?_⟩
  subst e1
  obtain ⟨v, rfl, r⟩ := repL1 rx
  cases x with
  | lst zs =>
    cases e2
    cases r with
    | @lst a us _ ha la => exact ⟨a, us, rfl, .inl ⟨.inl (.inl (s1.1 _ _ ha)), fun p hp => k _ _ _ _ q (Good.laid s1 hp) (.tup (.inl (.inl upd_same)) (la.mono (Ex.new (s1.none hp))))⟩⟩
  | tup zs =>
    cases e2
    cases r with
    | @tup a us _ ha la => exact ⟨a, us, rfl, .inr ⟨ex_t s1.1 ha, k _ _ G H q Good.refl (.tup ha la)⟩⟩
  | _ => cases e2
end
end WL
set_option Elab.async false
set_option linter.all false
set_option maxRecDepth 100000
set_option maxHeartbeats 4000000
namespace WL
open PySem PySem.Spec PyProof.Rows L2 Evl
section
variable {prog : Program} {w : World} {A : Around} {E : Value → Shared → Prop} {s : Shared}
/-- a tuple's items taken into a new list, as sorted does first -/
theorem take_tup {l : Addr} {vs : List Value} {o : Obj} {n : Nat} {Q : List Value → Shared → Prop} (ho : s.heap.get? l = some o) (hc : o.cls = .type "tuple") (hd : o.data = .seq vs.toArray n)
    (hz : vs.length ≤ sizeLine) (h : Q vs { s with heap := (s.heap.push (seqObj "list" #[] 0)).update s.heap.objs.size (Obj.mapSeq (· ++ vs.toArray)) }) : wpAny (model prog w) A (collect (.ref l)) Q E s := by
  unfold collect
  refine wpAny_bind (wpAny_runValue (codeAny_builtin entry_proto_collect' ?_))
  refine (show wpAny (model prog w) _ (do again (.builtin "list.__iadd__" ⟨[← newList [], .ref l], []⟩)) _ _ s from ?_)
  refine wpAny_bind (wpAny_newList (wpAny_pure ⟨Code.quiet_builtin _ (by decide +kernel), codeAny_builtin entry_list_iadd' ?_⟩))
  refine (show wpAny (model prog w) _ (Builtin.List.listExtendWith (.ref s.heap.objs.size) (.ref l) (.ref s.heap.objs.size)) _ _ { s with heap := s.heap.push (seqObj "list" #[] 0) } from ?_)
  unfold Builtin.List.listExtendWith
  have h1 : (s.heap.push (seqObj "list" #[] 0)).get? l = some o := Heap.get?_push_of_some _ ho
  have h2 : (s.heap.push (seqObj "list" #[] 0)).get? s.heap.objs.size = some (seqObj "list" #[] 0) := Heap.get?_push_size _ rfl
  refine wpAny_bind (wpAny_typeOf (T := "tuple") ⟨o, h1, hc⟩ ?_)
  rw [if_pos (by have e : (Value.type "tuple" == Value.type "tuple") = true := by rfl
                 rw [e]; simp)]
  refine wpAny_bind (listItems_at h1 hd (wpAny_bind (listItems_at (xs := #[]) (n := 0) h2 rfl ?_)))
  rw [if_neg (by simp)]
  have hn : (#[] ++ vs.toArray).size ≤ sizeLine + 1 := by
    rw [Array.size_append, List.size_toArray]
    show 0 + vs.length ≤ _
    omega
  refine wpAny_bind (listUpdate_at (xs := #[]) (n := 0) h2 rfl (wpAny_pure ?_) (Nat.zero_le _) hn)
  refine wpAny_bind (wpAny_load (get?_update_seq h2 _) ?_)
  have e : ((#[] : Array Value) ++ vs.toArray).toList = vs := by simp
  refine (show wpAny (model prog w) A (pure ((#[] : Array Value) ++ vs.toArray).toList) Q E _ from ?_)
  rw [e]
  exact wpAny_pure h
/-- sorted of a tuple -/
theorem sorted_tup {l : Addr} {vs : List Value} {o : Obj} {n : Nat} {ltv : Value → Value → Bool} {Q : Value → Shared → Prop} (O : SrtO.Swo ltv) (ho : s.heap.get? l = some o) (hc : o.cls = .type "tuple") (hd : o.data = .seq vs.toArray n) (hz : vs.length ≤ sizeLine)
    (hS : 2 ≤ vs.length → ∀ (h₁ : Heap) (a : Addr), h₁.get? a = some (seqObj "list" vs.toArray 0) → (∀ b o, s.heap.get? b = some o → b ≠ a ∧ h₁.get? b = some o) → SrtO.SortableO prog w A.in1.in1 { s with heap := h₁ } a vs ltv)
    (h : ∀ out : List Value, SrtO.Srtd ltv out → SrtO.Stb ltv out vs → Q (.ref (s.heap.objs.size + 1)) { s with heap := sortedAll s.heap vs out.toArray }) :
    wpAny (model prog w) A (call (.builtin "sorted") [.ref l]) Q E s := by
  refine Calls.call_function_entry kind_sorted plain_sorted entry_sorted (args_sorted1 _) ?_
  unfold Builtin.«sorted»
  refine wpAny_bind (m := checkCount "sorted" 1 1 _) (wpAny_pure (wpAny_bind (take_tup ho hc hd hz (wpAny_bind (wpAny_newList ?_ hz)))))
  generalize hG : (s.heap.push (seqObj "list" #[] 0)).update s.heap.objs.size (Obj.mapSeq (· ++ vs.toArray)) = G
  have hsz : G.objs.size = s.heap.objs.size + 1 := by rw [← hG, Heap.size_update, size_push']
  have hL : (G.push (seqObj "list" vs.toArray 0)).get? (s.heap.objs.size + 1) = some (seqObj "list" vs.toArray 0) := by
    rw [← hsz]
    exact Heap.get?_push_size _ rfl
  have keep : ∀ b ob, s.heap.get? b = some ob → b ≠ s.heap.objs.size + 1 ∧ (G.push (seqObj "list" vs.toArray 0)).get? b = some ob := fun b ob q => by
    have lt := Heap.lt_size q
    refine ⟨Nat.ne_of_lt (Nat.lt_succ_of_lt lt), Heap.get?_push_of_some _ ?_⟩
    rw [← hG, Heap.get?_update_ne _ _ _ _ (Nat.ne_of_lt lt)]
    exact Heap.get?_push_of_some _ q
  refine (show wpAny (model prog w) _ _ _ _ { s with heap := G.push (seqObj "list" vs.toArray 0) } from ?_)
  rw [hsz]
  refine wpAny_bind (wpAny_holding (wpAny_call_entry slot_list_sort ⟨_, hL, rfl⟩ entry_list_sort (SrtO.list_sort_ord O hL hz (fun h2 => hS h2 _ _ hL keep) fun out hs hb => ⟨_, rfl, ?_⟩) (args_list_sort _)))
  refine wpAny_pure ⟨_, rfl, ?_⟩
  have q := h out hs hb
  unfold sortedAll at q
  rw [hG] at q
  exact q
end
section
variable {X : Cx}
def rSortedTI (K : PySem.W.Frag) : List V → Hp → VK → Prop := fun vs H Q => ∃ (a : Addr) (ns : List Int), vs = [V.ref a] ∧ SqT K H a (ns.map V.int) ∧
  ∀ (ms : List Int) (p : Addr), ms.Perm ns → ms.Pairwise (· ≤ ·) → H p = none → Q (.ref p) (upd H p (.lst (ms.map V.int)))
theorem cr_sortedTI : CallR X (.builtin "sorted") (rSortedTI X.K) := by
  intro pins s σ H vs us Q I r h
  obtain ⟨a, ns, rfl, hs, q⟩ := h
  obtain ⟨its, rv, ⟨o, ho, hc, n, hd⟩, hz⟩ := I.tuple hs
  rw [Vals.ref1 r]
  have hi := rv.ints
  refine sorted_tup SrtO.swo_int ho hc hd (by rw [← rv.length]; exact hz) (fun h2 h₁ a' _ _ => SrtO.ints_sortable hi h2) fun out h1 h2 => ?_
  obtain ⟨k1, k2, k3⟩ := SrtO.ints_out hi h1 h2
  obtain ⟨ep, he⟩ := sortedAll_at s.heap its out.toArray
  have hl : ((out.map SrtO.iv).map V.int).length ≤ sizeLine := by
    have e := k2.length_eq
    rw [List.length_map] at hz ⊢
    omega
  have J := I.laid (t' := s.toks) (fun _ _ => sortedAll_old) (Nat.le_succ _) (show ObjOk X.prog X.w (upd H _ (.lst ((out.map SrtO.iv).map V.int))) _ _ (.lst ((out.map SrtO.iv).map V.int)) from ⟨hl, out, ep, vals_of_ints k1, he⟩)
  exact ⟨.ref _, _, J, rfl, q _ _ k2 k3 (I.hok.fresh (Nat.le_succ _))⟩
end
section
variable {c : Ct} {Γ : Gm} {Q : D → Prop}
/-- sorted of ints: a new list -/
def OpCO (c : Ct) (f : Value) (F : List D → (List D → Prop) → Prop) : Prop :=
  ∀ X, Fits c X → ∃ r : List V → Hp → VK → Prop, CallR X f r ∧ ∀ m G H xs ds (Q : List D → Prop) (Qv : VK), Sub m G H → SOk m G H → RepL c.K m G xs ds → F ds Q →
    (∀ a vs es H', Q es → Good m G H G H' → H a = none → G a = none → H' a = some (.lst vs) → RepL c.K m G vs es → Qv (.ref a) H') → r xs H Qv
theorem wo_callB {x : Str} {p pos : Pos} {e : Expr} {es : List Expr} {id : String} {F : List D → (List D → Prop) → Prop} {Q : List D → Prop} (ho : OpCO c (.builtin id) F) (hm : c.mg x = none) (h : WA c (e :: es) Γ fun ds => F ds Q) (hg : c.sc.names.lookup x = some .globalImplicit := by rfl) (hv : bootBuiltins x = some (.builtin id) := by decide +kernel)
    (hn : x ≠ "__name__" := by decide) (hdb : (x == ("__debug__" : Str)) = false := by decide) (he : ∀ env, starEach (e :: es) env = (false, eval e env) :: starEach es env := by exact fun _ => rfl) (hpl : ∀ env, (backTo pos (starEach es env)).any (·.1) = false := by exact fun _ => rfl) : WO c (.Call (.Name x p) (e :: es) [] pos) Γ Q := by
  intro X Ft m G0 H0 σ G H E Qv qv
  obtain ⟨r, hr, R⟩ := ho X Ft
  have Ft' := Ft
  obtain ⟨k0, er, tp, hx, rfl, hcold, hu0⟩ := Ft'
  refine ⟨_, pe_callB hr hg hm hv pa_ja hn hdb (he _) (hpl _), h X Ft m G0 H0 σ G H E _ fun vs ds G1 H1 h1 g1 r1 => ?_⟩
  have E1 := E.step g1
  exact R m G1 H1 vs ds Q Qv E1.sub E1.sok r1 h1 fun a vs' es' H2 h2 g2 n1 n2 e2 r2 => qv a vs' es' G1 H2 h2 (g1.trans E.sok g2) (g1.back E.sok n1) n2 e2 r2
theorem wo_callT {x : Str} {p pos : Pos} {e : Expr} {es : List Expr} {T : String} {F : List D → (List D → Prop) → Prop} {Q : List D → Prop} (ho : OpCO c (.type T) F) (hm : c.mg x = none) (h : WA c (e :: es) Γ fun ds => F ds Q) (hg : c.sc.names.lookup x = some .globalImplicit := by rfl) (hv : bootBuiltins x = some (.type T) := by decide +kernel)
    (hn : x ≠ "__name__" := by decide) (hdb : (x == ("__debug__" : Str)) = false := by decide) (he : ∀ env, starEach (e :: es) env = (false, eval e env) :: starEach es env := by exact fun _ => rfl) (hpl : ∀ env, (backTo pos (starEach es env)).any (·.1) = false := by exact fun _ => rfl) : WO c (.Call (.Name x p) (e :: es) [] pos) Γ Q := by
  intro X Ft m G0 H0 σ G H E Qv qv
  obtain ⟨r, hr, R⟩ := ho X Ft
  have Ft' := Ft
  obtain ⟨k0, er, tp, hx, rfl, hcold, hu0⟩ := Ft'
  refine ⟨_, pe_callTy hr hg hm hv pa_ja hn hdb (he _) (hpl _), h X Ft m G0 H0 σ G H E _ fun vs ds G1 H1 h1 g1 r1 => ?_⟩
  have E1 := E.step g1
  exact R m G1 H1 vs ds Q Qv E1.sub E1.sok r1 h1 fun a vs' es' H2 h2 g2 n1 n2 e2 r2 => qv a vs' es' G1 H2 h2 (g1.trans E.sok g2) (g1.back E.sok n1) n2 e2 r2
theorem co_sorted : OpCO c (.builtin "sorted") (fun ds Q => ∃ (x : D) (ns : List Int), ds = [x] ∧ x.seq = some (ns.map D.int) ∧ ∀ ms : List Int, ms.Perm ns → ms.Pairwise (· ≤ ·) → Q (ms.map D.int)) := by
  rintro X ⟨k0, er, tp, hx, rfl, hcold, hu0⟩
  refine ⟨_, callR_or cr_sortedI cr_sortedTI, fun m G H xs ds Q Qv s1 s2 rx ⟨x, ns, e1, e2, q⟩ k => ?_⟩
  subst e1
  obtain ⟨v, rfl, r⟩ := repL1 rx
  have fin : ∀ (ms : List Int) (p : Addr), ms.Perm ns → ms.Pairwise (· ≤ ·) → H p = none → Qv (.ref p) (upd H p (.lst (ms.map V.int))) := fun ms p h1 h2 hp =>
    k p _ _ _ (q ms h1 h2) (Good.hid hp) hp (s1.none hp) upd_same (RepL.ints ms)
  cases x with
  | lst ys =>
    cases e2
    cases r with
    | @lst a us _ ha la =>
      obtain rfl := la.of_ints
      exact .inl ⟨a, ns, rfl, .inl (.inl (s1.1 _ _ ha)), fin⟩
  | tup ys =>
    cases e2
    cases r with
    | @tup a us _ ha la =>
      obtain rfl := la.of_ints
      exact .inr ⟨a, ns, rfl, ex_t s1.1 ha, fin⟩
  | _ => cases e2
/-- list(x) -/
theorem co_list : OpCO c (.type "list") (fun ds Q => ∃ x xs, ds = [x] ∧ x.seq = some xs ∧ Q xs) := by
  rintro X ⟨k0, er, tp, hx, rfl, hcold, hu0⟩
  refine ⟨_, call_list_of, fun m G H xs ds Q Qv s1 s2 rx ⟨x, ys, e1, e2, q⟩ k => ?_⟩
  subst e1
  obtain ⟨v, rfl, r⟩ := repL1 rx
  cases x with
  | lst zs =>
    cases e2
    cases r with
    | @lst a us _ ha la => exact ⟨a, us, rfl, .inl (.inl (.inl (s1.1 _ _ ha))), fun p hp => k p _ _ _ q (Good.hid hp) hp (s1.none hp) upd_same la⟩
  | tup zs =>
    cases e2
    cases r with
    | @tup a us _ ha la => exact ⟨a, us, rfl, .inr (ex_t s1.1 ha), fun p hp => k p _ _ _ q (Good.hid hp) hp (s1.none hp) upd_same la⟩
  | _ => cases e2

/-! ### ranges -/
def rgD (a b : Int) : List D := (List.range (b - a).toNat).map fun i => D.int (a + (i : Nat))
theorem rep_rg {K : PySem.W.Frag} {m : Option Addr} {G : Hp} (a b : Int) : RepL K m G (rgV a b) (rgD a b) := by
  unfold rgV rgD
  induction (List.range (b - a).toNat) with
  | nil => exact .nil
  | cons i r ih => exact .cons (.int _) ih
theorem rg_ok {n : Int} (h1 : -100000 ≤ n) (h2 : n ≤ 100000) : RgOk 0 n := ⟨by decide, by decide, by omega, by omega, by omega⟩
theorem w_tupRg {a : Expr} {p p2 pos q : Pos} (hm : c.mg "tuple" = none) (hm2 : c.mg "range" = none) (h : Wv c a Γ fun d => ∃ n, d = .int n ∧ -100000 ≤ n ∧ n ≤ 100000 ∧ Q (.tup (rgD 0 n))) (hg : c.sc.names.lookup ("tuple" : Str) = some .globalImplicit := by rfl) (hg2 : c.sc.names.lookup ("range" : Str) = some .globalImplicit := by rfl)
    (na : ∀ env, starEach [a] env = (false, eval a env) :: starEach [] env := by exact fun _ => rfl) (hh : c.hx = none := by rfl) : Wv c (.Call (.Name "tuple" p) [.Call (.Name "range" p2) [a] [] q] [] pos) Γ Q := by
  intro X Ft m G0 H0 σ G H E Qv qv
  have Ft' := Ft
  obtain ⟨k0, er, tp, hx, rfl, hcold, hu0⟩ := Ft'
  obtain ⟨hc, hro, hpo⟩ := hcold hh
  refine ⟨_, pe_tupRg hc hg hm (prg_1 hg2 hm2 pe_je (na _)) rfl, h X Ft m G0 H0 σ G H E _ fun v d G1 H1 ⟨n, e, h1, h2, h3⟩ g1 r1 => ?_⟩
  subst e
  cases r1
  have E1 := E.step g1
  refine ⟨n, rfl, rg_ok h1 h2, fun z hz => ?_⟩
  exact qv _ _ _ _ h3 (g1.trans E.sok (Good.laid E1.sub hz)) (.tup (.inl (.inl upd_same)) (rep_rg _ _))
theorem wo_listRg {a : Expr} {p p2 pos q : Pos} {Q : List D → Prop} (hm : c.mg "list" = none) (hm2 : c.mg "range" = none) (h : Wv c a Γ fun d => ∃ n, d = .int n ∧ -100000 ≤ n ∧ n ≤ 100000 ∧ Q (rgD 0 n)) (hg : c.sc.names.lookup ("list" : Str) = some .globalImplicit := by rfl) (hg2 : c.sc.names.lookup ("range" : Str) = some .globalImplicit := by rfl)
    (na : ∀ env, starEach [a] env = (false, eval a env) :: starEach [] env := by exact fun _ => rfl) (hh : c.hx = none := by rfl) : WO c (.Call (.Name "list" p) [.Call (.Name "range" p2) [a] [] q] [] pos) Γ Q := by
  intro X Ft m G0 H0 σ G H E Qv qv
  have Ft' := Ft
  obtain ⟨k0, er, tp, hx, rfl, hcold, hu0⟩ := Ft'
  obtain ⟨hc, hro, hpo⟩ := hcold hh
  refine ⟨_, pe_listRg hc hg hm (prg_1 hg2 hm2 pe_je (na _)) rfl, h X Ft m G0 H0 σ G H E _ fun v d G1 H1 ⟨n, e, h1, h2, h3⟩ g1 r1 => ?_⟩
  subst e
  cases r1
  have E1 := E.step g1
  refine ⟨n, rfl, rg_ok h1 h2, fun z hz => ?_⟩
  exact qv _ _ _ _ _ h3 (g1.trans E.sok (Good.hid hz)) (g1.back E.sok hz) (E1.sub.none hz) upd_same (rep_rg _ _)
end
end WL
set_option Elab.async false
set_option linter.all false
set_option maxRecDepth 100000
set_option maxHeartbeats 4000000
namespace WL
open PySem PySem.Spec PyProof.Rows L2 Evl
/-! ### slots set, slots forgotten -/
section
variable {K : PySem.W.Frag} {m : Option Addr} {G0 H0 G H : Hp} {Γ : Gm} {σ : L2.St}
theorem En0.set {v : V} {d : D} (E : En0 K m G0 H0 Γ σ G H) (i : Nat) (r : Rep K m G v d) : En0 K m G0 H0 (Γ.set i (.val d)) (σ.set i (some v)) G H := by
  have len := E.len
  refine ⟨E.sub, E.sok, by rw [List.length_set, List.length_set]; exact len, fun j s h => ?_, fun j1 j2 s u a h1 h2 o1 o2 e1 e2 => ?_, E.good, E.sok0, E.sub0⟩
  · by_cases hj : i = j
    · subst hj
      have lt : i < Γ.length := by
        have q := (List.getElem?_eq_some_iff.mp h).1
        rw [List.length_set] at q
        exact q
      rw [List.getElem?_set_self lt] at h
      cases h
      exact ⟨v, List.getElem?_set_self (by rw [len]; exact lt), r⟩
    · rw [List.getElem?_set_ne hj] at h
      rw [List.getElem?_set_ne hj]
      exact E.slot j s h
  · have n1 : i ≠ j1 := fun q => by
      subst q
      have lt : i < Γ.length := by
        have q := (List.getElem?_eq_some_iff.mp h1).1
        rw [List.length_set] at q
        exact q
      rw [List.getElem?_set_self lt] at h1
      cases h1
      cases o1
    have n2 : i ≠ j2 := fun q => by
      subst q
      have lt : i < Γ.length := by
        have q := (List.getElem?_eq_some_iff.mp h2).1
        rw [List.length_set] at q
        exact q
      rw [List.getElem?_set_self lt] at h2
      cases h2
      cases o2
    rw [List.getElem?_set_ne n1] at h1 e1
    rw [List.getElem?_set_ne n2] at h2 e2
    exact E.apart j1 j2 s u a h1 h2 o1 o2 e1 e2
theorem En0.drop (E : En0 K m G0 H0 Γ σ G H) (i : Nat) (x : Option V) : En0 K m G0 H0 (Γ.set i .emp) (σ.set i x) G H := by
  have len := E.len
  refine ⟨E.sub, E.sok, by rw [List.length_set, List.length_set]; exact len, fun j s h => ?_, fun j1 j2 s u a h1 h2 o1 o2 e1 e2 => ?_, E.good, E.sok0, E.sub0⟩
  · by_cases hj : i = j
    · subst hj
      have lt : i < Γ.length := by
        have q := (List.getElem?_eq_some_iff.mp h).1
        rw [List.length_set] at q
        exact q
      rw [List.getElem?_set_self lt] at h
      cases h
      trivial
    · rw [List.getElem?_set_ne hj] at h
      rw [List.getElem?_set_ne hj]
      exact E.slot j s h
  · have n1 : i ≠ j1 := fun q => by
      subst q
      have lt : i < Γ.length := by
        have q := (List.getElem?_eq_some_iff.mp h1).1
        rw [List.length_set] at q
        exact q
      rw [List.getElem?_set_self lt] at h1
      cases h1
      cases o1
    have n2 : i ≠ j2 := fun q => by
      subst q
      have lt : i < Γ.length := by
        have q := (List.getElem?_eq_some_iff.mp h2).1
        rw [List.length_set] at q
        exact q
      rw [List.getElem?_set_self lt] at h2
      cases h2
      cases o2
    rw [List.getElem?_set_ne n1] at h1 e1
    rw [List.getElem?_set_ne n2] at h2 e2
    exact E.apart j1 j2 s u a h1 h2 o1 o2 e1 e2
def wipeG (Γ : Gm) : List Nat → Gm
  | [] => Γ
  | v :: vs => (wipeG Γ vs).set v .emp
theorem En0.wiped (E : En0 K m G0 H0 Γ σ G H) : ∀ vs : List Nat, En0 K m G0 H0 (wipeG Γ vs) (wipe σ vs) G H
  | [] => E
  | v :: vs => (En0.wiped E vs).drop v none
theorem wipe_get (i : Nat) : ∀ vs : List Nat, (wipe σ vs)[i]? = if i ∈ vs ∧ i < σ.length then some none else σ[i]?
  | [] => by simp [wipe]
  | v :: vs => by
    unfold wipe
    by_cases hv : v = i
    · subst hv
      by_cases hl : v < σ.length
      · rw [List.getElem?_set_self (by rw [wipe_length]; exact hl), if_pos ⟨List.mem_cons_self, hl⟩]
      · rw [if_neg (fun q => hl q.2), List.getElem?_eq_none (by rw [List.length_set, wipe_length]; omega), List.getElem?_eq_none (by omega)]
    · rw [List.getElem?_set_ne hv, wipe_get i vs]
      have e : (i ∈ v :: vs) ↔ i ∈ vs := by
        rw [List.mem_cons]
        exact ⟨fun q => q.resolve_left fun z => hv z.symm, .inr⟩
      by_cases hi : i ∈ vs ∧ i < σ.length
      · rw [if_pos hi, if_pos ⟨e.mpr hi.1, hi.2⟩]
      · rw [if_neg hi, if_neg (fun q => hi ⟨e.mp q.1, q.2⟩)]
theorem wipe_set {vs : List Nat} {j : Nat} (hj : j ∈ vs) (τ : L2.St) (x : Option V) (e : wipe τ vs = wipe σ vs) : wipe (τ.set j x) vs = wipe σ vs := by
  rw [← e]
  refine List.ext_getElem? fun i => ?_
  rw [wipe_get, wipe_get, List.length_set]
  by_cases hi : i ∈ vs ∧ i < τ.length
  · rw [if_pos hi, if_pos hi]
  · rw [if_neg hi, if_neg hi]
    by_cases hij : j = i
    · subst hij
      have nl : ¬ j < τ.length := fun q => hi ⟨hj, q⟩
      rw [List.getElem?_eq_none (by rw [List.length_set]; omega), List.getElem?_eq_none (by omega)]
    · rw [List.getElem?_set_ne hij]
theorem wipe_wipe (vs : List Nat) : wipe (wipe σ vs) vs = wipe σ vs := by
  refine List.ext_getElem? fun i => ?_
  rw [wipe_get, wipe_length, wipe_get]
  by_cases hi : i ∈ vs ∧ i < σ.length
  · rw [if_pos hi, if_pos hi]
  · rw [if_neg hi, if_neg hi]
end

/-! ### what is walked -/
/-- J yields the data ds, one by one, while the stable part holds -/
def Walks (K : PySem.W.Frag) (m : Option Addr) (J : It) (ds : List D) (G : Hp) : Prop :=
  ∀ G1 H1 i, Ex G G1 → Sub m G1 H1 → SOk m G1 H1 → (∀ d, ds[i]? = some d → J.go i H1 ∧ ∀ x H2, J.yld i H1 x H2 → ∃ G2, Good m G1 H1 G2 H2 ∧ Rep K m G2 x d) ∧ (i = ds.length → J.stop i H1)
def JI (X : Cx) (tg iter : Expr) : TI := fun σ H R => ∃ wi : TI, PI X tg iter wi ∧ wi σ H R
theorem pi_ji {X : Cx} {tg iter : Expr} : PI X tg iter (JI X tg iter) := ⟨fun pins s σ H R I ⟨t, p, h⟩ => p.run pins s σ H R I h⟩
/-- .. at one state -/
def WIp (X : Cx) (K : PySem.W.Frag) (tg iter : Expr) (m : Option Addr) (σ : L2.St) (G H : Hp) (Q : List D → Prop) : Prop :=
  ∀ R : It → Hp → Prop, (∀ J ds G' H', Q ds → Good m G H G' H' → Walks K m J ds G' → R J H') → JI X tg iter σ H R
def WI (c : Ct) (tg iter : Expr) (Γ : Gm) (Q : List D → Prop) : Prop :=
  ∀ X, Fits c X → ∀ m G0 H0 σ G H, En c X m G0 H0 Γ σ G H → ∀ R : It → Hp → Prop, (∀ J ds G' H', Q ds → Good m G H G' H' → Walks c.K m J ds G' → R J H') → JI X tg iter σ H R
theorem uniq_l {K : PySem.W.Frag} {G H : Hp} {a : Addr} {vs xs : List V} (h : G a = some (.lst vs)) (e : ∀ b o, G b = some o → H b = some o) (h2 : ∀ ys, SqL K H a ys → ys = xs) : vs = xs := h2 vs (.inl (.inl (e _ _ h)))
theorem walks_l {K : PySem.W.Frag} {m : Option Addr} {G : Hp} {a : Addr} {vs : List V} {ds : List D} (h : G a = some (.lst vs)) (l : RepL K m G vs ds) : Walks K m (Itl K a) ds G := by
  intro G1 H1 i e s so
  have hs : SqL K H1 a vs := .inl (.inl (s.1 _ _ (e _ _ h)))
  refine ⟨fun d hd => ?_, fun hi => ⟨vs, hs, by rw [l.length, hi]; exact Nat.le_refl _⟩⟩
  obtain ⟨v, hv, r⟩ := l.get hd
  refine ⟨⟨vs, v, hs, hv⟩, fun x H2 ⟨e2, y⟩ => ?_⟩
  subst e2
  have q := y vs hs
  rw [hv] at q
  cases q
  exact ⟨G1, Good.refl, r.mono e⟩
theorem walks_t {K : PySem.W.Frag} {m : Option Addr} {G : Hp} {a : Addr} {vs : List V} {ds : List D} (h : SqT K G a vs) (l : RepL K m G vs ds) : Walks K m (Itt K a) ds G := by
  intro G1 H1 i e s so
  have hs : SqT K H1 a vs := ex_t s.1 (ex_t e h)
  refine ⟨fun d hd => ?_, fun hi => ⟨vs, hs, by rw [l.length, hi]; exact Nat.le_refl _⟩⟩
  obtain ⟨v, hv, r⟩ := l.get hd
  refine ⟨⟨vs, v, hs, hv⟩, fun x H2 ⟨e2, y⟩ => ?_⟩
  subst e2
  have q := y vs hs
  rw [hv] at q
  cases q
  exact ⟨G1, Good.refl, r.mono e⟩
theorem rg_get {lo : Int} {n : Nat} {i : Nat} {d : D} (h : ((List.range n).map fun i => D.int (lo + (i : Nat)))[i]? = some d) : i < n ∧ d = .int (lo + (i : Nat)) := by
  rw [List.getElem?_map] at h
  by_cases hi : i < n
  · rw [List.getElem?_range hi] at h
    cases h
    exact ⟨hi, rfl⟩
  · rw [List.getElem?_eq_none (by rw [List.length_range]; omega)] at h
    cases h
theorem walks_r {K : PySem.W.Frag} {m : Option Addr} {G : Hp} (lo : Int) (n : Nat) : Walks K m (Itr lo n) ((List.range n).map fun i => D.int (lo + (i : Nat))) G := by
  intro G1 H1 i e s so
  refine ⟨fun d hd => ?_, fun hi => ?_⟩
  · obtain ⟨hi, rfl⟩ := rg_get hd
    refine ⟨hi, fun x H2 ⟨e2, y⟩ => ?_⟩
    subst e2 y
    exact ⟨G1, Good.refl, .int _⟩
  · rw [List.length_map, List.length_range] at hi
    exact Nat.le_of_eq hi.symm
section
variable {c : Ct} {Γ : Gm} {tg : Expr}
theorem wi_lst {e : Expr} {Q : List D → Prop} (h : Wv c e Γ fun d => ∃ ds, d = .lst ds ∧ Q ds) : WI c tg e Γ Q := by
  intro X Ft m G0 H0 σ G H E R hR
  have Ft' := Ft
  obtain ⟨k0, er, tp, hx, rfl, hcold, hu0⟩ := Ft'
  refine ⟨_, pi_list pe_je, h X Ft m G0 H0 σ G H E _ fun v d G1 H1 ⟨ds, e1, q⟩ g1 r1 => ?_⟩
  subst e1
  have E1 := E.step g1
  cases r1 with
  | @lst a vs _ ha la => exact ⟨a, rfl, ⟨vs, .inl (.inl (E1.sub.1 _ _ ha))⟩, hR _ ds G1 H1 q g1 (walks_l ha la)⟩
theorem wi_tup {e : Expr} {Q : List D → Prop} (h : Wv c e Γ fun d => ∃ ds, d = .tup ds ∧ Q ds) : WI c tg e Γ Q := by
  intro X Ft m G0 H0 σ G H E R hR
  have Ft' := Ft
  obtain ⟨k0, er, tp, hx, rfl, hcold, hu0⟩ := Ft'
  refine ⟨_, pi_tup pe_je, h X Ft m G0 H0 σ G H E _ fun v d G1 H1 ⟨ds, e1, q⟩ g1 r1 => ?_⟩
  subst e1
  have E1 := E.step g1
  cases r1 with
  | @tup a vs _ ha la => exact ⟨a, rfl, ⟨vs, ex_t E1.sub.1 ha⟩, hR _ ds G1 H1 q g1 (walks_t ha la)⟩
theorem wi_rg1 {e : Expr} {p pos : Pos} {Q : List D → Prop} (hm : c.mg "range" = none) (h : Wv c e Γ fun d => ∃ n, d = .int n ∧ -(2 ^ 62) ≤ n ∧ n < 2 ^ 62 ∧ Q ((List.range n.toNat).map fun i => D.int (0 + (i : Nat)))) (hg : c.sc.names.lookup ("range" : Str) = some .globalImplicit := by rfl)
    (na : ∀ env, starEach [e] env = (false, eval e env) :: starEach [] env := by exact fun _ => rfl) : WI c tg (.Call (.Name "range" p) [e] [] pos) Γ Q := by
  intro X Ft m G0 H0 σ G H E R hR
  have Ft' := Ft
  obtain ⟨k0, er, tp, hx, rfl, hcold, hu0⟩ := Ft'
  refine ⟨_, pi_range1 hg hm (pa_cons pe_je pa_nil (na _)) (na _), h X Ft m G0 H0 σ G H E _ fun v d G1 H1 ⟨n, e1, h1, h2, q⟩ g1 r1 => ?_⟩
  subst e1
  cases r1
  exact ⟨n, rfl, h1, h2, hR _ _ G1 H1 q g1 (walks_r 0 n.toNat)⟩
theorem wi_rg2 {e f : Expr} {p pos : Pos} {Q : List D → Prop} (hm : c.mg "range" = none) (h : Wv c e Γ fun d => Wv c f Γ fun d2 => ∃ a b, d = .int a ∧ d2 = .int b ∧ (-(2 ^ 62) ≤ a ∧ a < 2 ^ 62 ∧ -(2 ^ 62) ≤ b ∧ b < 2 ^ 62) ∧ Q ((List.range (b - a).toNat).map fun i => D.int (a + (i : Nat)))) (hg : c.sc.names.lookup ("range" : Str) = some .globalImplicit := by rfl)
    (na : ∀ env, starEach [e, f] env = (false, eval e env) :: starEach [f] env := by exact fun _ => rfl) (nb : ∀ env, starEach [f] env = (false, eval f env) :: starEach [] env := by exact fun _ => rfl) : WI c tg (.Call (.Name "range" p) [e, f] [] pos) Γ Q := by
  intro X Ft m G0 H0 σ G H E R hR
  have Ft' := Ft
  obtain ⟨k0, er, tp, hx, rfl, hcold, hu0⟩ := Ft'
  refine ⟨_, pi_range2 hg hm (pa_cons pe_je (pa_cons pe_je pa_nil (nb _)) (na _)) (by rw [na, nb]; rfl) (nb _), h X Ft m G0 H0 σ G H E _ fun v d G1 H1 h1 g1 r1 => ?_⟩
  refine h1 X Ft m G0 H0 σ G1 H1 (E.step g1) _ fun u d2 G2 H2 ⟨a, b, e1, e2, hb, q⟩ g2 r2 => ?_
  subst e1 e2
  cases r1
  cases r2
  exact ⟨a, b, rfl, hb, hR _ _ G2 H2 q (g1.trans E.sok g2) (walks_r a (b - a).toNat)⟩
end
end WL
set_option Elab.async false
set_option linter.all false
set_option maxRecDepth 100000
set_option maxHeartbeats 4000000
namespace WL
open PySem PySem.Spec PyProof.Rows L2 Evl
/-! ### list comprehensions -/
/-- the context within a comprehension -/
abbrev Ct.blk (c : Ct) (scope : Scope) : Ct := { c with sc := relS scope c.sc, fn := fun x => scope.names.lookup x == some .cell, er := fun _ _ => False, tp := false }
def JTs (X : Cx) (ifs : List Expr) : TT := fun σ H Q => ∃ t : TT, PTs X ifs t ∧ t σ H Q
theorem pts_jts {X : Cx} {ifs : List Expr} : PTs X ifs (JTs X ifs) := ⟨fun pins s σ H Q I ⟨t, p, h⟩ => p.run pins s σ H Q I h⟩
/-- the tests of a clause: none, or one -/
def WTs (c : Ct) (ifs : List Expr) (Γ : Gm) (Q : Bool → Prop) : Prop := match ifs with
  | [] => Q true
  | [t] => WB c t Γ Q
  | _ => False
theorem jts_of {c : Ct} {ifs : List Expr} {Γ : Gm} {Q : Bool → Prop} (h : WTs c ifs Γ Q) : ∀ X, Fits c X → ∀ m G0 H0 σ G H, En c X m G0 H0 Γ σ G H → ∀ Qv : Bool → Hp → Prop, (∀ b G' H', Q b → Good m G H G' H' → Qv b H') → JTs X ifs σ H Qv := by
  intro X F m G0 H0 σ G H E Qv qv
  match ifs, h with
  | [], h => exact ⟨_, pts_nil, qv _ G H h Good.refl⟩
  | [t], h => exact ⟨_, pts_one pt_jt, h X F m G0 H0 σ G H E Qv qv⟩
/-- a target: the names that take an item -/
def WG (c : Ct) (tg : Expr) (own : List Nat) (T : D → Gm → (Gm → Prop) → Prop) : Prop :=
  ∀ X, Fits c X → ∃ g : TG, PG X tg g ∧ ∀ m G0 H0 Γ σ σ0 G H v d (N : Gm → Prop) (Qh : L2.St → Hp → Prop), En0 c.K m G0 H0 Γ σ G H → Rep c.K m G v d → T d Γ N → wipe σ own = wipe σ0 own →
    (∀ Γ' σ', N Γ' → En0 c.K m G0 H0 Γ' σ' G H → wipe σ' own = wipe σ0 own → Qh σ' H) → g v σ H Qh
section
variable {c : Ct} {Γ : Gm}
theorem wg_name {x : Str} {pos : Pos} {own : List Nat} (i : Nat) (hi : i ∈ own) (nd : c.N.Nodup) (hN : c.N[i]? = some x := by rfl) (hl : Loc c.sc x := by first | exact Or.inl rfl | exact Or.inr rfl) (hf : c.fn x = true ∨ c.sc.names.lookup x = some .local := by first | exact Or.inl rfl | exact Or.inr rfl) : WG c (.Name x pos) own (fun d Γ N => N (Γ.set i (.val d))) := by
  rintro X ⟨k0, er, tp, hx, rfl, hcold, hu0⟩
  refine ⟨gName i, pg_name (i := i) nd hN hl hf, fun m G0 H0 Γ σ σ0 G H v d N Qh E r h e k => ?_⟩
  exact k _ _ h (E.set i r) (wipe_set hi _ _ e)
theorem gone_fits {X : Cx} {k0 : Nat} {er : Exn → Gm → Prop} {tp : Bool} (hc : Cold X k0 tp) (hu : L2H.RoomH k0 X.A) (s : Shared) (H : Hp) (scope : Scope) (C : Addr) (cl : List (Str × Addr)) (fp : List Addr) :
    Fits ((Ct.of X k0 er tp none).blk scope) (X.blk s H scope (compEnvC scope cl C X.env) fp) := ⟨k0, fun _ _ => False, false, none, rfl, fun _ => ⟨hc.1, hc.2.1, PassesOwn.never, fun z => nomatch z⟩, hu⟩
theorem xh_none {c : Ct} {X : Cx} {m : Option Addr} {G0 H0 : Hp} (h : c.er = fun _ _ => False) (hh : c.hx = none) : XH c X m G0 H0 := ⟨⟨fun _ _ _ _ => False, takes0, fun x Γ σ G H cls d z => by rw [h] at z; exact z.elim⟩, fun a x z => by rw [hh] at z; cases z⟩
/-- [elt for tg in iter if ..] at one state: R i out, behind i items of which out is made -/
theorem lc_pt {elt tg iter : Expr} {ifs : List Expr} {scope : Scope} {pos : Pos} {Q : List D → Prop} (own : List (Str × Nat)) {T : D → Gm → (Gm → Prop) → Prop} (nd : c.N.Nodup) (ok : blkC c.N c.sc scope own = true) (hT : WG (c.blk scope) tg (own.map (·.2)) T)
    (hh : c.hx = none) {X : Cx} (Ft : Fits c X) {m : Option Addr} {G0 H0 G H : Hp} {σ : L2.St} (E : En c X m G0 H0 Γ σ G H)
    (h : WIp X c.K tg iter m σ G H fun ds => ds.length ≤ 100000 ∧ ∃ R : Nat → List D → Prop, R 0 [] ∧ (∀ i d out, ds[i]? = some d → R i out → T d (wipeG Γ (own.map (·.2))) fun Γb =>
      WTs (c.blk scope) ifs Γb fun b => if b = true then Wv (c.blk scope) elt Γb fun e => R (i + 1) (out ++ [e]) else R (i + 1) out) ∧ ∀ out, out.length ≤ ds.length → R ds.length out → Q out)
    (hs : ∀ env x, foldedSetIterable iter env x = pure x) (Qv : VK) (qv : ∀ a vs ds G' H', Q ds → Good m G H G' H' → H a = none → G' a = none → H' a = some (.lst vs) → RepL c.K m G' vs ds → Qv (.ref a) H') :
    JE X (.ListComp elt [⟨tg, iter, ifs, 0⟩] scope pos) σ H Qv := by
  have Ft' := Ft
  obtain ⟨k0, er, tp, hx, rfl, hcold, hu0⟩ := Ft'
  obtain rfl : hx = none := hh
  have hcd := hcold rfl
  obtain ⟨hc, hro, hpo⟩ := hcold rfl
  obtain ⟨cb, hcb⟩ : ∃ cb, cb = (Ct.of X k0 er tp none).blk scope := ⟨_, rfl⟩
  have Fb : ∀ (s : Shared) (H : Hp) (C : Addr) (cl : List (Str × Addr)) (fp : List Addr), Fits cb (X.blk s H scope (compEnvC scope cl C X.env) fp) := fun s H C cl fp => by
    rw [hcb]
    exact gone_fits hcd hu0 s H scope C cl fp
  have hcbK : cb.K = X.K := by rw [hcb]
  have hcber : cb.er = fun _ _ => False := by rw [hcb]
  have hcbx : cb.hx = none := by rw [hcb]
  rw [← hcb] at hT h
  -- the target, uniform over the block's contexts
  let g : TG := fun v σ H Q => ∀ (s : Shared) (H0 : Hp) (C : Addr) (cl : List (Str × Addr)) (fp : List Addr), ∃ g' : TG, PG (X.blk s H0 scope (compEnvC scope cl C X.env) fp) tg g' ∧ g' v σ H Q
  have hg : ∀ (s : Shared) (H : Hp) (C : Addr) (cl : List (Str × Addr)) (fp : List Addr), PG (X.blk s H scope (compEnvC scope cl C X.env) fp) tg g := fun s H C cl fp => ⟨fun pins s1 σ1 H1 v u Q I r hh => by
    obtain ⟨g', p, q⟩ := hh s H C cl fp
    exact p.run pins s1 σ1 H1 v u Q I r q⟩
  let tt : TT := fun σ H Q => ∀ (s : Shared) (H0 : Hp) (C : Addr) (cl : List (Str × Addr)) (fp : List Addr), JTs (X.blk s H0 scope (compEnvC scope cl C X.env) fp) ifs σ H Q
  have htt : ∀ (s : Shared) (H : Hp) (C : Addr) (cl : List (Str × Addr)) (fp : List Addr), PTs (X.blk s H scope (compEnvC scope cl C X.env) fp) ifs tt := fun s H C cl fp => ⟨fun pins s1 σ1 H1 Q I hh => pts_jts.run pins s1 σ1 H1 Q I (hh s H C cl fp)⟩
  let te : TE := fun σ H Q => ∀ (s : Shared) (H0 : Hp) (C : Addr) (cl : List (Str × Addr)) (fp : List Addr), JE (X.blk s H0 scope (compEnvC scope cl C X.env) fp) elt σ H Q
  have hte : ∀ (s : Shared) (H : Hp) (C : Addr) (cl : List (Str × Addr)) (fp : List Addr), PE (X.blk s H scope (compEnvC scope cl C X.env) fp) elt te := fun s H C cl fp => ⟨fun pins s1 σ1 H1 Q I hh => pe_je.run pins s1 σ1 H1 Q I (hh s H C cl fp)⟩
  refine ⟨_, pe_lc hc nd (pi_ji (tg := tg)) (blkOk_by ok) hg htt hte (hs _), ?_⟩
  refine h _ fun J ds G1 H1 ⟨hlen, R, r0, step, fin⟩ g1 walks Dl hD => ?_
  have E1 := E.step g1
  have hD0 : G1 Dl = none := E1.sub.none hD
  have so1 := E1.sok
  -- behind i items
  let Pv : Nat → Hp → Prop := fun i H' => ∃ G' acc out, Good m G1 H1 G' H' ∧ H' Dl = some (.lst acc) ∧ G' Dl = none ∧ RepL X.K m G' acc out ∧ R i out ∧ out.length ≤ i
  refine ⟨fun i n H' => n = ds.length - i ∧ i ≤ ds.length ∧ Pv i H', ⟨ds.length, by simp, Nat.zero_le _, G1, [], [], (Good.refl).mut so1 hD hD0, upd_same, hD0, .nil, r0, Nat.le_refl _⟩, ?_⟩
  rintro i n H' ⟨rfl, hi, G', acc, out, g2, hacc, hGD, rl, hR, hol⟩
  have E2 := E1.step g2
  have wk := walks G' H' i g2.ex E2.sub E2.sok
  by_cases hlt : i < ds.length
  · obtain ⟨d, hd⟩ : ∃ d, ds[i]? = some d := ⟨_, List.getElem?_eq_getElem hlt⟩
    obtain ⟨go, yl⟩ := wk.1 d hd
    refine .inr ⟨go, Pv (i + 1), fun H'' p => ⟨ds.length - (i + 1), by omega, rfl, hlt, p⟩, fun x H3 y => ?_⟩
    obtain ⟨G3, g3, rx⟩ := yl x H3 y
    have E3 := (E2.toEn0.step g3).wiped (own.map (·.2))
    have hT0 := step i d out hd hR
    show g x (wipe σ (own.map (·.2))) H3 _
    intro s0 Hs C0 cl0 fp0
    obtain ⟨g', pg', q'⟩ := hT (X.blk s0 Hs scope (compEnvC scope cl0 C0 X.env) fp0) (Fb _ _ _ _ _)
    refine ⟨g', pg', q' m G0 H0 _ (wipe σ (own.map (·.2))) σ G3 H3 x d _ _ (by rw [hcbK]; exact E3) (by rw [hcbK]; exact rx) hT0 (wipe_wipe _) fun Γb σb hN Eb hw => ?_⟩
    rw [hcbK] at Eb
    refine ⟨hw, ?_⟩
    show tt σb H3 _
    intro s1 Hs1 C1 cl1 fp1
    have Eb1 : En cb (X.blk s1 Hs1 scope (compEnvC scope cl1 C1 X.env) fp1) m G0 H0 Γb σb G3 H3 := ⟨by rw [hcbK]; exact Eb, xh_none hcber hcbx⟩
    refine jts_of hN _ (Fb _ _ _ _ _) m G0 H0 σb G3 H3 Eb1 _ fun b G4 H4 hb g4 => ?_
    have g13 : Good m G1 H1 G4 H4 := (g2.trans so1 g3).trans so1 g4
    have notD : ∀ {Ga Ha Gb Hb : Hp}, Good m Ga Ha Gb Hb → (∃ o, Ha Dl = some o) → Ga Dl = none → Gb Dl = none := fun {Ga Ha Gb Hb} g hh hn => by
      cases q : Gb Dl with
      | none => rfl
      | some o =>
        rcases g.gr Dl o q with z | ⟨z, _⟩
        · rw [hn] at z; cases z
        · obtain ⟨o', ho'⟩ := hh
          rw [ho'] at z; cases z
    have mD : m ≠ some Dl := fun z => so1.dom z hD
    have a3 : H3 Dl = some (.lst acc) := g3.st _ _ mD hacc
    have a4 : H4 Dl = some (.lst acc) := g4.st _ _ mD a3
    have n3 := notD g3 ⟨_, hacc⟩ hGD
    have n4 := notD g4 ⟨_, a3⟩ n3
    cases b with
    | false =>
      have hb' : R (i + 1) out := hb
      exact iteF ⟨G4, acc, out, g13, a4, n4, rl.mono (g3.ex.trans g4.ex), hb', Nat.le_succ_of_le hol⟩
    | true =>
      have hb' : Wv cb elt Γb fun e => R (i + 1) (out ++ [e]) := hb
      refine iteT ?_
      show te σb H4 _
      intro s2 Hs2 C2 cl2 fp2
      have Eb2 : En cb (X.blk s2 Hs2 scope (compEnvC scope cl2 C2 X.env) fp2) m G0 H0 Γb σb G4 H4 := ⟨by rw [hcbK]; exact Eb.step g4, xh_none hcber hcbx⟩
      refine hb' _ (Fb _ _ _ _ _) m G0 H0 σb G4 H4 Eb2 _ fun v e G5 H5 he g5 r5 => ?_
      rw [hcbK] at r5
      have a5 : H5 Dl = some (.lst acc) := g5.st _ _ mD a4
      have n5 := notD g5 ⟨_, a4⟩ n4
      have la := rl.length
      refine ⟨acc, a5, Nat.lt_of_le_of_lt (show acc.length ≤ 100000 by omega) (by decide), G5, acc ++ [v], out ++ [e], (g13.trans so1 g5).mut so1 hD n5, upd_same, n5, (rl.mono ((g3.ex.trans g4.ex).trans g5.ex)).append (.cons r5 .nil), he, ?_⟩
      rw [List.length_append, List.length_singleton]
      omega
  · have e : i = ds.length := by omega
    refine .inl ⟨wk.2 e, ?_⟩
    subst e
    exact qv Dl acc out G' H' (fin out hol hR) (g1.trans E.sok g2) (g1.back E.sok hD) hGD hacc rl
/-- [elt for tg in iter if ..]: R i out, behind i items of which out is made -/
theorem wo_lc {elt tg iter : Expr} {ifs : List Expr} {scope : Scope} {pos : Pos} {Q : List D → Prop} (own : List (Str × Nat)) {T : D → Gm → (Gm → Prop) → Prop} (nd : c.N.Nodup) (ok : blkC c.N c.sc scope own = true) (hT : WG (c.blk scope) tg (own.map (·.2)) T)
    (h : WI c tg iter Γ fun ds => ds.length ≤ 100000 ∧ ∃ R : Nat → List D → Prop, R 0 [] ∧ (∀ i d out, ds[i]? = some d → R i out → T d (wipeG Γ (own.map (·.2))) fun Γb =>
      WTs (c.blk scope) ifs Γb fun b => if b = true then Wv (c.blk scope) elt Γb fun e => R (i + 1) (out ++ [e]) else R (i + 1) out) ∧ ∀ out, out.length ≤ ds.length → R ds.length out → Q out)
    (hs : ∀ env x, foldedSetIterable iter env x = pure x := by exact fun _ _ => rfl) (hh : c.hx = none := by rfl) : WO c (.ListComp elt [⟨tg, iter, ifs, 0⟩] scope pos) Γ Q := fun X Ft m G0 H0 σ G H E Qv qv =>
  lc_pt own nd ok hT hh Ft E (h X Ft m G0 H0 σ G H E) hs Qv qv
end
end WL
set_option Elab.async false
set_option linter.all false
set_option maxRecDepth 100000
set_option maxHeartbeats 4000000
namespace WL
open PySem PySem.Spec PyProof.Rows L2 Evl
/-! ### defs by data -/
/-- what a def does: of these arguments, Q of each answer, E of each exception -/
abbrev DSp := List D → (D → Prop) → (Exn → Prop) → Prop
def SpOf (K : PySem.W.Frag) (mg : Str → Option Value) (S : DSp) : Sp := fun vs H Q E => ∃ (m : Option Addr) (G : Hp) (ds : List D) (Qd : D → Prop) (Ed : Exn → Prop), Sub m G H ∧ SOk m G H ∧ RepL K m G vs ds ∧ S ds Qd Ed ∧
  (∀ v d G' H', Qd d → Good m G H G' H' → Rep K m G' v d → Q v H') ∧ ∀ x cls d G' H', Ed x → Good m G H G' H' → ExRep K mg m G' H' x cls d → E cls d H'
/-- the def x stands, and does S, by at most level k -/
structure FnG (g : Gx) (x : Str) (k : Nat) (S : DSp) (dfl : List D := []) : Prop where
  ex : ∃ (f : Addr) (fd : FuncData) (ps : List Str) (us : List Value) (dvs : List V), g.mg x = some (.ref f) ∧ PySem.W.keepIn g.K (.ref f) = true ∧ Binds g.K fd ps us ∧ Vals dvs us ∧ (∀ m G, RepL g.K m G dvs dfl) ∧ FnOk g.P g.w g.K g.mg g.base (L2.CX g.P g.w) k f fd ps (SpOf g.K g.mg S)
section
variable {c : Ct} {Γ : Gm} {Q : D → Prop}
theorem w_call {x : Str} {p pos : Pos} {e : Expr} {es : List Expr} {k : Nat} {S : DSp} {dfl : List D} (F : FnG c.g x k S dfl) (h : WA c (e :: es) Γ fun ds => S (ds ++ dfl) Q (fun z => c.er z Γ)) (hk : k ≤ c.k := by exact Nat.le_of_ble_eq_true rfl) (hh : c.hx = none := by rfl) (hg : c.sc.names.lookup x = some .globalImplicit := by rfl) (hdb : (x == ("__debug__" : Str)) = false := by decide)
    (he : ∀ env, starEach (e :: es) env = (false, eval e env) :: starEach es env := by exact fun _ => rfl) (hpl : ∀ env, (backTo pos (starEach es env)).any (·.1) = false := by exact fun _ => rfl) : Wv c (.Call (.Name x p) (e :: es) [] pos) Γ Q := by
  intro X Ft m G0 H0 σ G H E Qv qv
  have Ft' := Ft
  obtain ⟨k0, er, tp, hx, rfl, hcold, hu0⟩ := Ft'
  obtain ⟨f, fd, ps, us, dvs, hm, hkp, hb, hv, hrv, F⟩ := F.ex
  obtain ⟨⟨W, tk, hW⟩, _⟩ := E.xh
  obtain ⟨hc, hro, hpo⟩ := hcold hh
  refine ⟨_, pe_callSD (E := WE W) F (hro.mono hk) hg hm hkp hb hv (fun σ => passAt tk σ) pa_ja hdb (he _) (hpl _), h X Ft m G0 H0 σ G H E _ fun vs ds G1 H1 h1 g1 r1 => ?_⟩
  have E1 := E.step g1
  refine ⟨m, G1, ds ++ dfl, Q, fun z => er z Γ, E1.sub, E1.sok, r1.append (hrv m G1), h1, fun v d G2 H2 h2 g2 r2 => qv v d G2 H2 h2 (g1.trans E.sok g2) r2, fun z cls d G2 H2 h2 g2 r2 => ?_⟩
  exact hW z Γ σ G2 H2 cls d h2 (E1.toEn0.step g2) r2
end
/-- the slots at a def's entry -/
def Γ0 (N : List Str) (ds : List D) : Gm := ds.map .val ++ List.replicate (N.length - ds.length) .emp
theorem start_val {K : PySem.W.Frag} {m : Option Addr} {G : Hp} : ∀ {vs : List V} {ds : List D} (n i : Nat) (s : Sl), RepL K m G vs ds → (ds.map Sl.val ++ List.replicate n .emp)[i]? = some s → s = .emp ∨ ∃ v d, s = .val d ∧ (vs.map some ++ List.replicate n none)[i]? = some (some v) ∧ Rep K m G v d
  | _, _, n, i, s, .nil, h => by
    have h' : (List.replicate n Sl.emp)[i]? = some s := h
    rw [List.getElem?_replicate] at h'
    split at h'
    · cases h'
      exact .inl rfl
    · cases h'
  | v :: vs, d :: ds, n, 0, s, .cons r l, h => by
    cases h
    exact .inr ⟨v, d, rfl, rfl, r⟩
  | v :: vs, d :: ds, n, i + 1, s, .cons r l, h => start_val (vs := vs) (ds := ds) n i s l h
/-- the context of a def's body -/
abbrev Ct.def (g : Gx) (N : List Str) (sc : Scope) (k : Nat) (E : Exn → Prop) : Ct := ⟨g, N, sc, fun _ => true, k, fun x _ => E x, true, none⟩
section
variable {g : Gx}
/-- THE RULE for a def -/
theorem fn_mk {x qual : Str} {st : Stmt} {f : Addr} {fd : FuncData} {N ps : List Str} {k : Nat} {S : DSp} (F : Fun g.K x qual st f fd) (sc : FnScope N ps (defScope st)) (len : ∀ ds Q E, S ds Q E → ds.length = ps.length)
    (hb : ∀ ds Q E, S ds Q E → BL (Ct.def g N (defScope st) k E) (defBody st) (Γ0 N ds) { nx := fun _ => Q .non, rt := Q }) : FnOk g.P g.w g.K g.mg g.base (L2.CX g.P g.w) (k + 1) f fd ps (SpOf g.K g.mg S) := by
  refine F.okX sc (fun vs H Q E ⟨m, G, ds, Qd, Ed, _, _, r, h, _⟩ => ?_) (fun cdv A outer s H vs Q E hr ⟨m, G, ds, Qd, Ed, sub, so, r, h, hq, he⟩ => ?_)
  · rw [r.length]
    exact len _ _ _ h
  · have hlen : vs.length = ds.length := r.length
    have hN : ds.length ≤ N.length := by
      have q := congrArg List.length sc.pre
      rw [List.length_take] at q
      have q2 := len _ _ _ h
      omega
    have B := hb ds Qd Ed h
    refine ⟨_, pss_js, B _ ⟨k, fun x _ => Ed x, true, none, rfl, fun _ => ⟨rfl, hr, passes_of rfl, fun _ => ⟨rfl, rfl⟩⟩, L2H.roomH_of hr⟩ m G H _ G H ⟨⟨sub, so, ?_, fun i s hs => ?_, fun i j s u a h1 h2 o1 o2 _ _ => ?_, Good.refl, so, sub⟩, ⟨⟨fun cls d _ H => E cls d H, takes_of rfl rfl rfl rfl, fun z Γ σ G' H' cls d hz E0 rz => he z cls d G' H' hz E0.good rz⟩, fun a x z => nomatch z⟩⟩ _ ⟨?_, ?_, ?_, ?_⟩⟩
    · unfold L2.start Γ0
      rw [List.length_append, List.length_append, List.length_map, List.length_map, List.length_replicate, List.length_replicate, hlen]
    · unfold Γ0 at hs
      unfold L2.start
      rw [hlen]
      rcases start_val _ i s r hs with e | ⟨v, d, e, e2, rv⟩
      · subst e; trivial
      · subst e; exact ⟨v, e2, rv⟩
    · unfold Γ0 at h1
      rcases start_val _ i s r h1 with e | ⟨v, d, e, _, _⟩
      · subst e; cases o1
      · subst e; cases o1
    · exact fun Γ' σ' G' H' q _ E' => hq _ _ _ _ q E'.good .non
    · exact fun v d G' H' q _ gd rv => hq v d G' H' q gd rv
    · exact fun _ _ _ _ q => q.elim
    · exact fun _ _ _ _ q => q.elim
theorem fnG_mk {x qual : Str} {st : Stmt} {f : Addr} {fd : FuncData} {N ps : List Str} {k : Nat} {S : DSp} (F : Fun g.K x qual st f fd) (hm : g.mg x = some (.ref f)) (sc : FnScope N ps (defScope st)) (b : Binds g.K fd ps []) (len : ∀ ds Q E, S ds Q E → ds.length = ps.length)
    (hb : ∀ ds Q E, S ds Q E → BL (Ct.def g N (defScope st) k E) (defBody st) (Γ0 N ds) { nx := fun _ => Q .non, rt := Q }) : FnG g x (k + 1) S :=
  ⟨f, fd, ps, [], [], hm, F.kp, b, .nil, fun _ _ => .nil, fn_mk F sc len hb⟩
end
end WL
set_option Elab.async false
set_option linter.all false
set_option maxRecDepth 100000
set_option maxHeartbeats 4000000
namespace WL
open PySem PySem.Spec PyProof.Rows L2 Evl
/-! ### a list of one's own: made, changed, let go -/
section
variable {K : PySem.W.Frag} {m : Option Addr} {G0 H0 G H G1 H1 : Hp} {Γ : Gm} {σ : L2.St}
theorem get_set {α : Type} {l : List α} {i j : Nat} {x s : α} (h : (l.set i x)[j]? = some s) : (i = j ∧ s = x ∧ i < l.length) ∨ (i ≠ j ∧ l[j]? = some s) := by
  by_cases hj : i = j
  · subst hj
    have lt : i < l.length := by
      have q := (List.getElem?_eq_some_iff.mp h).1
      rw [List.length_set] at q
      exact q
    rw [List.getElem?_set_self lt] at h
    cases h
    exact .inl ⟨rfl, rfl, lt⟩
  · rw [List.getElem?_set_ne hj] at h
    exact .inr ⟨hj, h⟩
/-- where a list of one's own stands -/
theorem En0.own (E : En0 K m G0 H0 Γ σ G H) {i : Nat} {ds : List D} (h : Γ[i]? = some (.own ds)) : ∃ a vs, σ[i]? = some (some (V.ref a)) ∧ H0 a = none ∧ H a = some (.lst vs) ∧ G a = none ∧ m ≠ some a ∧ RepL K m G vs ds := E.slot i _ h
theorem SlotOk.at_ {s : Sl} {x : Option (Option V)} (o : s.isOwn = true) (h : SlotOk K m H0 G H s x) : ∃ a o, x = some (some (V.ref a)) ∧ H a = some o := by
  cases s with
  | own ds => obtain ⟨a, vs, e, _, h1, _⟩ := h; exact ⟨a, _, e, h1⟩
  | ownd ks ds => obtain ⟨a, vs, e, _, h1, _⟩ := h; exact ⟨a, _, e, h1⟩
  | _ => cases o
/-- a new list is named -/
theorem En0.setO {a : Addr} {vs : List V} {ds : List D} (E : En0 K m G0 H0 Γ σ G H) (g : Good m G H G1 H1) (i : Nat) (hn : H a = none) (hg : G1 a = none) (h1 : H1 a = some (.lst vs)) (r : RepL K m G1 vs ds) : En0 K m G0 H0 (Γ.set i (.own ds)) (σ.set i (some (.ref a))) G1 H1 := by
  have E1 := E.step g
  have ma : m ≠ some a := fun z => E.sok.dom z hn
  have fresh : ∀ (j : Nat) (s : Sl), Γ[j]? = some s → s.isOwn = true → σ[j]? ≠ some (some (V.ref a)) := fun j s hj o e => by
    obtain ⟨b, ob, e2, hb⟩ := (E.slot j s hj).at_ o
    rw [e] at e2
    cases e2
    rw [hn] at hb
    cases hb
  refine ⟨E1.sub, E1.sok, by rw [List.length_set, List.length_set]; exact E.len, fun j s h => ?_, fun j1 j2 s u b h1 h2 o1 o2 e1 e2 => ?_, E1.good, E.sok0, E.sub0⟩
  · rcases get_set h with ⟨rfl, rfl, lt⟩ | ⟨ne, h⟩
    · exact ⟨a, vs, List.getElem?_set_self (by rw [E.len]; exact lt), E.good.back E.sok0 hn, h1, hg, ma, r⟩
    · rw [List.getElem?_set_ne ne]
      exact E1.slot j s h
  · rcases get_set h1 with ⟨rfl, rfl, lt⟩ | ⟨ne1, h1⟩ <;> rcases get_set h2 with ⟨z, rfl, lt2⟩ | ⟨ne2, h2⟩
    · exact z
    · rw [List.getElem?_set_self (by rw [E.len]; exact lt)] at e1
      cases e1
      rw [List.getElem?_set_ne ne2] at e2
      exact (fresh _ _ h2 o2 e2).elim
    · subst z
      rw [List.getElem?_set_self (by rw [E.len]; exact lt2)] at e2
      cases e2
      rw [List.getElem?_set_ne ne1] at e1
      exact (fresh _ _ h1 o1 e1).elim
    · rw [List.getElem?_set_ne ne1] at e1
      rw [List.getElem?_set_ne ne2] at e2
      exact E.apart _ _ _ _ _ h1 h2 o1 o2 e1 e2
/-- the list at slot i changes -/
theorem En0.mutO {a : Addr} {us : List V} {ds es : List D} (E : En0 K m G0 H0 Γ σ G H) {i : Nat} (hi : Γ[i]? = some (.own ds)) (ha : σ[i]? = some (some (V.ref a))) (r : RepL K m G us es) : En0 K m G0 H0 (Γ.set i (.own es)) σ G (upd H a (.lst us)) := by
  obtain ⟨b, vs, e1, h0, hb, gb, mb, rl⟩ := E.own hi
  rw [ha] at e1
  cases e1
  have keep : ∀ c o, G c = some o → c ≠ a := fun c o q z => by rw [z, gb] at q; cases q
  refine ⟨⟨fun c o q => ?_, E.sub.2⟩, E.sok.mono (Ex.refl _) fun c o n q => ?_, by rw [List.length_set]; exact E.len, fun j s h => ?_, fun j1 j2 s u b h1 h2 o1 o2 e1 e2 => ?_, E.good.mut E.sok0 h0 gb, E.sok0, E.sub0⟩
  · rw [upd_ne (keep c o q)]
    exact E.sub.1 c o q
  · rw [upd_ne (fun z => mb (by rw [n, z]))]
    exact q
  · rcases get_set h with ⟨rfl, rfl, lt⟩ | ⟨ne, h⟩
    · exact ⟨a, us, ha, h0, upd_same, gb, mb, r⟩
    · have old := E.slot j s h
      have other : ∀ c, s.isOwn = true → σ[j]? = some (some (V.ref c)) → c ≠ a := fun c o q z => by
        subst z
        exact ne (E.apart i j _ _ c hi h rfl o ha q)
      cases s with
      | emp => trivial
      | val d => exact old
      | own fs =>
        obtain ⟨c, ws, f1, f2, f3, f4⟩ := old
        exact ⟨c, ws, f1, f2, by rw [upd_ne (other c rfl f1)]; exact f3, f4⟩
      | ownd ks fs =>
        obtain ⟨c, ws, f1, f2, f3, f4⟩ := old
        exact ⟨c, ws, f1, f2, by rw [upd_ne (other c rfl f1)]; exact f3, f4⟩
  · rcases get_set h1 with ⟨rfl, rfl, lt⟩ | ⟨ne1, h1⟩ <;> rcases get_set h2 with ⟨z, rfl, lt2⟩ | ⟨ne2, h2⟩
    · exact z
    · exact E.apart _ _ _ _ _ hi h2 rfl o2 e1 e2
    · subst z
      exact E.apart _ _ _ _ _ h1 hi o1 rfl e1 e2
    · exact E.apart _ _ _ _ _ h1 h2 o1 o2 e1 e2
/-- from here on it stays as it is -/
theorem En0.freeze {ds : List D} (E : En0 K m G0 H0 Γ σ G H) {i : Nat} (hi : Γ[i]? = some (.own ds)) : ∃ G1, Ex G G1 ∧ En0 K m G0 H0 (Γ.set i (.val (.lst ds))) σ G1 H := by
  obtain ⟨a, vs, ha, h0, hb, gb, mb, rl⟩ := E.own hi
  refine ⟨upd G a (.lst vs), Ex.new gb, ⟨fun c o q => ?_, fun s e => ?_⟩, E.sok.mono (Ex.new gb) fun _ _ _ e => e, by rw [List.length_set]; exact E.len, fun j s h => ?_, fun j1 j2 s u b h1 h2 o1 o2 e1 e2 => ?_, E.good.tell h0 gb hb, E.sok0, E.sub0⟩
  · by_cases z : c = a
    · subst z; rw [upd_same] at q; cases q; exact hb
    · rw [upd_ne z] at q; exact E.sub.1 c o q
  · rw [upd_ne (fun z => mb (by rw [e, z]))]
    exact E.sub.2 s e
  · rcases get_set h with ⟨rfl, rfl, lt⟩ | ⟨ne, h⟩
    · exact ⟨_, ha, .lst upd_same (rl.mono (Ex.new gb))⟩
    · have old := E.slot j s h
      have other : ∀ c, s.isOwn = true → σ[j]? = some (some (V.ref c)) → c ≠ a := fun c o q z => by
        subst z
        exact ne (E.apart i j _ _ c hi h rfl o ha q)
      cases s with
      | emp => trivial
      | val d =>
        obtain ⟨v, f1, f2⟩ := old
        exact ⟨v, f1, f2.mono (Ex.new gb)⟩
      | own fs =>
        obtain ⟨c, ws, f1, f2, f3, f4, f5, f6⟩ := old
        exact ⟨c, ws, f1, f2, f3, by rw [upd_ne (other c rfl f1)]; exact f4, f5, f6.mono (Ex.new gb)⟩
      | ownd ks fs =>
        obtain ⟨c, ws, f1, f2, f3, f4, f5, f6, f7, f8⟩ := old
        exact ⟨c, ws, f1, f2, f3, by rw [upd_ne (other c rfl f1)]; exact f4, f5, f6, f7, f8.mono (Ex.new gb)⟩
  · rcases get_set h1 with ⟨rfl, rfl, lt⟩ | ⟨ne1, h1⟩
    · cases o1
    · rcases get_set h2 with ⟨z, rfl, lt2⟩ | ⟨ne2, h2⟩
      · cases o2
      · exact E.apart _ _ _ _ _ h1 h2 o1 o2 e1 e2
end
/-! ### blocks -/
def JS1 (X : Cx) (st : Stmt) : TS := fun D σ H => ∃ t : TS, PS X st t ∧ t D σ H
theorem ps_js1 {X : Cx} {st : Stmt} : PS X st (JS1 X st) := ⟨fun pins s σ H D I ⟨t, p, h⟩ => p.run pins s σ H D I h⟩
/-- one statement -/
def BS (c : Ct) (st : Stmt) (Γ : Gm) (E : Ends') : Prop :=
  ∀ X, Fits c X → ∀ m G0 H0 σ G H, En c X m G0 H0 Γ σ G H → ∀ D : Ends, Fin c X m G0 H0 G E D → JS1 X st D σ H
theorem En.set {c : Ct} {X : Cx} {m : Option Addr} {G0 H0 G H : Hp} {Γ : Gm} {σ : L2.St} {v : V} {d : D} (E : En c X m G0 H0 Γ σ G H) (i : Nat) (r : Rep c.K m G v d) : En c X m G0 H0 (Γ.set i (.val d)) (σ.set i (some v)) G H := ⟨E.toEn0.set i r, E.xh⟩
section
variable {c : Ct} {Γ : Gm} {E : Ends'}
theorem bl_nil (h : E.nx Γ) : BL c [] Γ E := fun X F m G0 H0 σ G H En D f => ⟨_, pss_nil, f.nx Γ σ G H h (Ex.refl _) En⟩
theorem bl_cons {st : Stmt} {rest : List Stmt} (h : BS c st Γ { E with nx := fun Γ' => BL c rest Γ' E }) : BL c (st :: rest) Γ E := by
  intro X F m G0 H0 σ G H En D f
  refine ⟨_, pss_cons ps_js1 pss_js, h X F m G0 H0 σ G H En { D with nx := JS X rest D } ⟨fun Γ' σ' G' H' q x E' => ?_, f.rt, f.bk, f.ct⟩⟩
  exact (show BL c rest Γ' E from q) X F m G0 H0 σ' G' H' E' D (f.go x)
theorem bl_one {st : Stmt} (h : BS c st Γ E) : BL c [st] Γ E := fun X F m G0 H0 σ G H En D f => ⟨_, pss_one ps_js1, h X F m G0 H0 σ G H En D f⟩
theorem bl_freeze {sts : List Stmt} {ds : List D} (i : Nat) (hi : Γ[i]? = some (.own ds)) (h : BL c sts (Γ.set i (.val (.lst ds))) E) : BL c sts Γ E := by
  intro X F m G0 H0 σ G H En D f
  obtain ⟨G1, x, E1⟩ := En.toEn0.freeze hi
  exact h X F m G0 H0 σ G1 H ⟨E1, En.xh⟩ D (f.go x)
theorem bs_freeze {st : Stmt} {ds : List D} (i : Nat) (hi : Γ[i]? = some (.own ds)) (h : BS c st (Γ.set i (.val (.lst ds))) E) : BS c st Γ E := by
  intro X F m G0 H0 σ G H En D f
  obtain ⟨G1, x, E1⟩ := En.toEn0.freeze hi
  exact h X F m G0 H0 σ G1 H ⟨E1, En.xh⟩ D (f.go x)
theorem bs_pass {pos} (h : E.nx Γ) : BS c (.Pass pos) Γ E := fun X F m G0 H0 σ G H En D f => ⟨_, ps_pass, f.nx Γ σ G H h (Ex.refl _) En⟩
theorem bs_brk {pos} (h : E.bk Γ) : BS c (.Break pos) Γ E := fun X F m G0 H0 σ G H En D f => ⟨_, ps_break, f.bk Γ σ G H h (Ex.refl _) En⟩
theorem bs_cont {pos} (h : E.ct Γ) : BS c (.Continue pos) Γ E := fun X F m G0 H0 σ G H En D f => ⟨_, ps_continue, f.ct Γ σ G H h (Ex.refl _) En⟩
theorem bs_ret {e : Expr} {pos} (h : Wv c e Γ E.rt) : BS c (.Return (some e) pos) Γ E := fun X F m G0 H0 σ G H En D f =>
  ⟨_, ps_ret pe_je, h X F m G0 H0 σ G H En _ fun v d G1 H1 q g r => f.rt v d G1 H1 q g.ex (En.good.trans En.sok0 g) r⟩
theorem bs_retN {pos} (h : E.rt .non) : BS c (.Return none pos) Γ E := fun X F m G0 H0 σ G H En D f => ⟨_, ps_retN, f.rt .non .non G H h (Ex.refl _) En.good .non⟩
theorem bs_if {t : Expr} {a b : List Stmt} {pos} (h : WB c t Γ fun x => if x = true then BL c a Γ E else BL c b Γ E) : BS c (.If t a b pos) Γ E := by
  intro X F m G0 H0 σ G H En D f
  refine ⟨_, ps_if pt_jt pss_js pss_js, h X F m G0 H0 σ G H En _ fun x G1 H1 h1 g1 => ?_⟩
  have E1 := En.step g1
  cases x with
  | true => exact iteT ((show BL c a Γ E from h1) X F m G0 H0 σ G1 H1 E1 D (f.go g1.ex))
  | false => exact iteF ((show BL c b Γ E from h1) X F m G0 H0 σ G1 H1 E1 D (f.go g1.ex))
theorem bs_expr {e : Expr} {pos} (h : Wv c e Γ fun _ => E.nx Γ) (hs : ∀ env, swapsWith e none pos.line env = pure false := by exact fun _ => rfl) : BS c (.Expr e pos) Γ E := fun X F m G0 H0 σ G H En D f =>
  ⟨_, ps_expr pe_je (hs _), h X F m G0 H0 σ G H En _ fun v d G1 H1 q g r => f.nx Γ σ G1 H1 q g.ex (En.step g)⟩
/-- name = e -/
theorem bs_set {x : Str} {e : Expr} {pos' pos : Pos} (i : Nat) (nd : c.N.Nodup) (h : Wv c e Γ fun d => E.nx (Γ.set i (.val d))) (hN : c.N[i]? = some x := by rfl) (hl : Loc c.sc x := by first | exact Or.inl rfl | exact Or.inr rfl) (hf : c.fn x = true ∨ c.sc.names.lookup x = some .local := by first | exact Or.inl rfl | exact Or.inr rfl)
    (hs : ∀ env, swapsWith e (some (.Name x pos')) pos.line env = pure false := by exact fun _ => rfl) : BS c (.Assign [.Name x pos'] e pos) Γ E := by
  intro X Ft m G0 H0 σ G H En D f
  have Ft' := Ft
  obtain ⟨k0, er, tp, hx, rfl, hcold, hu0⟩ := Ft'
  exact ⟨_, ps_set (i := i) nd hN hl pe_je (hs _) hf, h X Ft m G0 H0 σ G H En _ fun v d G1 H1 q g r => f.nx _ _ G1 H1 q g.ex ((En.step g).set i r)⟩
/-- name = a new list -/
theorem bs_setO {x : Str} {e : Expr} {pos' pos : Pos} (i : Nat) (nd : c.N.Nodup) (h : WO c e Γ fun ds => E.nx (Γ.set i (.own ds))) (hN : c.N[i]? = some x := by rfl) (hl : Loc c.sc x := by first | exact Or.inl rfl | exact Or.inr rfl) (hf : c.fn x = true ∨ c.sc.names.lookup x = some .local := by first | exact Or.inl rfl | exact Or.inr rfl)
    (hs : ∀ env, swapsWith e (some (.Name x pos')) pos.line env = pure false := by exact fun _ => rfl) : BS c (.Assign [.Name x pos'] e pos) Γ E := by
  intro X Ft m G0 H0 σ G H En D f
  have Ft' := Ft
  obtain ⟨k0, er, tp, hx, rfl, hcold, hu0⟩ := Ft'
  exact ⟨_, ps_set (i := i) nd hN hl pe_je (hs _) hf, h X Ft m G0 H0 σ G H En _ fun a vs ds G1 H1 q g n1 n2 e1 r => f.nx _ _ G1 H1 q g.ex ⟨En.toEn0.setO g i n1 n2 e1 r, En.xh⟩⟩
/-- a for's target: the names that take an item -/
def WT (c : Ct) (tg : Expr) (T : D → Gm → (Gm → Prop) → Prop) : Prop :=
  ∀ X, Fits c X → ∃ g : TG, PG X tg g ∧ ∀ m G0 H0 Γ σ G H v d (N : Gm → Prop) (Qh : L2.St → Hp → Prop), En0 c.K m G0 H0 Γ σ G H → Rep c.K m G v d → T d Γ N →
    (∀ Γ' σ', N Γ' → En0 c.K m G0 H0 Γ' σ' G H → Qh σ' H) → g v σ H Qh
theorem wt_name {x : Str} {pos : Pos} (i : Nat) (nd : c.N.Nodup) (hN : c.N[i]? = some x := by rfl) (hl : Loc c.sc x := by first | exact Or.inl rfl | exact Or.inr rfl) (hf : c.fn x = true ∨ c.sc.names.lookup x = some .local := by first | exact Or.inl rfl | exact Or.inr rfl) : WT c (.Name x pos) (fun d Γ N => N (Γ.set i (.val d))) := by
  rintro X ⟨k0, er, tp, hx, rfl, hcold, hu0⟩
  exact ⟨gName i, pg_name (i := i) nd hN hl hf, fun m G0 H0 Γ σ G H v d N Qh E r h k => k _ _ h (E.set i r)⟩
/-- two names of a tuple -/
theorem wt_tup2 {x y : Str} {p q pos : Pos} {kk : Nat} (i j : Nat) (nd : c.N.Nodup) (hN : c.N[i]? = some x := by rfl) (hM : c.N[j]? = some y := by rfl) (hl : Loc c.sc x := by first | exact Or.inl rfl | exact Or.inr rfl) (hl2 : Loc c.sc y := by first | exact Or.inl rfl | exact Or.inr rfl)
    (hf : c.fn x = true ∨ c.sc.names.lookup x = some .local := by first | exact Or.inl rfl | exact Or.inr rfl) (hf2 : c.fn y = true ∨ c.sc.names.lookup y = some .local := by first | exact Or.inl rfl | exact Or.inr rfl) (hh : c.hx = none := by rfl) :
    WT c (.Tuple [.Name x p, .Name y q] kk pos) (fun d Γ N => ∃ a b, d = .tup [a, b] ∧ N ((Γ.set i (.val a)).set j (.val b))) := by
  rintro X ⟨k0, er, tp, hx, rfl, hcold, hu0⟩
  obtain ⟨hc, hro, hpo⟩ := hcold hh
  refine ⟨_, pg_tup hc (pgs_cons (pg_name (i := i) nd hN hl hf) (pgs_cons (pg_name (i := j) nd hM hl2 hf2) pgs_nil)), fun m G0 H0 Γ σ G H v d N Qh E r ⟨a, b, e, h⟩ k => ?_⟩
  subst e
  cases r with
  | @tup t us _ ht lt =>
    obtain ⟨u, w, rfl, ru, rw'⟩ := repL2 lt
    exact ⟨t, _, rfl, ex_t E.sub.1 ht, rfl, u, _, rfl, w, _, rfl, rfl, k _ _ h ((E.set i ru).set j rw')⟩
/-- for, at one state -/
theorem for_pt {tg iter : Expr} {body : List Stmt} {pos : Pos} {T : D → Gm → (Gm → Prop) → Prop} (hT : WT c tg T) (hh : c.hx = none) {X : Cx} (Ft : Fits c X) {m : Option Addr} {G0 H0 G H : Hp} {σ : L2.St} (E0 : En c X m G0 H0 Γ σ G H)
    (h : WIp X c.K tg iter m σ G H fun ds => ∃ I : Nat → Gm → Prop, I 0 Γ ∧ (∀ i d Γ', ds[i]? = some d → I i Γ' → T d Γ' fun Γ'' => BL c body Γ'' { nx := I (i + 1), ct := I (i + 1), bk := E.nx, rt := E.rt }) ∧ ∀ Γ', I ds.length Γ' → E.nx Γ')
    (hs : ∀ env x, foldedSetIterable iter env x = pure x) (D : Ends) (f : Fin c X m G0 H0 G E D) : JS1 X (.For tg iter body [] pos) D σ H := by
  have Ft' := Ft
  obtain ⟨k0, er, tp, hx, rfl, hcold, hu0⟩ := Ft'
  obtain ⟨hc', hro, hpo⟩ := hcold hh
  obtain ⟨g, pg, gq⟩ := hT X Ft
  refine ⟨_, ps_for hpo.1 hc' (pi_ji (tg := tg)) pg pss_js (hs _), h _ fun J ds G1 H1 ⟨I, i0, step, fin⟩ g1 walks => ?_⟩
  have f1 := f.go g1.ex
  let Pv : Nat → L2.St → Hp → Prop := fun i σ' H' => ∃ Γ' G', I i Γ' ∧ En (Ct.of X k0 er tp hx) X m G0 H0 Γ' σ' G' H' ∧ Ex G1 G'
  refine ⟨fun i n σ' H' => n = ds.length - i ∧ i ≤ ds.length ∧ Pv i σ' H', ⟨ds.length, by simp, Nat.zero_le _, Γ, G1, i0, E0.step g1, Ex.refl _⟩, ?_⟩
  rintro i n σ' H' ⟨rfl, hi, Γ', G', hI, E', x'⟩
  have wk := walks G' H' i x' E'.sub E'.sok
  by_cases hlt : i < ds.length
  · obtain ⟨d, hd⟩ : ∃ d, ds[i]? = some d := ⟨_, List.getElem?_eq_getElem hlt⟩
    obtain ⟨go, yl⟩ := wk.1 d hd
    refine .inr ⟨go, Pv (i + 1), fun σ'' H'' p => ⟨ds.length - (i + 1), by omega, rfl, hlt, p⟩, fun z H3 y => ?_⟩
    obtain ⟨G3, g3, rz⟩ := yl z H3 y
    refine gq m G0 H0 Γ' σ' G3 H3 z d _ _ (E'.toEn0.step g3) rz (step i d Γ' hd hI) fun Γ2 σ2 hB E2 => ?_
    have x3 : Ex G1 G3 := x'.trans g3.ex
    exact hB X Ft m G0 H0 σ2 G3 H3 ⟨E2, E'.xh⟩ _ ⟨fun Γ4 σ4 G4 H4 q x4 E4 => ⟨Γ4, G4, q, E4, x3.trans x4⟩, fun v d G4 H4 q x4 => f1.rt v d G4 H4 q (x3.trans x4), fun Γ4 σ4 G4 H4 q x4 E4 => f1.nx Γ4 σ4 G4 H4 q (x3.trans x4) E4, fun Γ4 σ4 G4 H4 q x4 E4 => ⟨Γ4, G4, q, E4, x3.trans x4⟩⟩
  · have e : i = ds.length := by omega
    refine .inl ⟨wk.2 e, ?_⟩
    subst e
    exact f1.nx Γ' σ' G' H' (fin Γ' hI) x' E'
/-- for -/
theorem bs_for {tg iter : Expr} {body : List Stmt} {pos : Pos} {T : D → Gm → (Gm → Prop) → Prop} (hT : WT c tg T)
    (h : WI c tg iter Γ fun ds => ∃ I : Nat → Gm → Prop, I 0 Γ ∧ (∀ i d Γ', ds[i]? = some d → I i Γ' → T d Γ' fun Γ'' => BL c body Γ'' { nx := I (i + 1), ct := I (i + 1), bk := E.nx, rt := E.rt }) ∧ ∀ Γ', I ds.length Γ' → E.nx Γ')
    (hs : ∀ env x, foldedSetIterable iter env x = pure x := by exact fun _ _ => rfl) (hh : c.hx = none := by rfl) : BS c (.For tg iter body [] pos) Γ E := fun X Ft m G0 H0 σ G H E0 D f =>
  for_pt hT hh Ft E0 (h X Ft m G0 H0 σ G H E0) hs D f
end
end WL
set_option Elab.async false
set_option linter.all false
set_option maxRecDepth 100000
set_option maxHeartbeats 4000000
namespace WL
open PySem PySem.Spec PyProof.Rows L2 Evl
/-- the built-in names that the module does not store -/
class BI (g : Gx) : Prop where
  free : ∀ x ∈ biNames, g.mg x = none
section
variable {c : Ct} {Γ : Gm} {Q : D → Prop}
theorem bi [h : BI c.g] (x : Str) (hx : x ∈ biNames := by decide +kernel) : c.mg x = none := h.free x hx
/-- isinstance(e, T) -/
theorem w_isi [BI c.g] (t : Ty) {e : Expr} {x y : Str} {p p2 pos : Pos} (h : Wv c e Γ fun d => ∃ b, d.isA t = some b ∧ Q (.bl b)) (hx : x = "isinstance" := by rfl) (hy : y = Str.ofString t.nm := by rfl) (hg : c.sc.names.lookup x = some .globalImplicit := by rfl) (hg2 : c.sc.names.lookup y = some .globalImplicit := by rfl)
    (he : ∀ env, starEach [e, .Name y p2] env = (false, eval e env) :: starEach [.Name y p2] env := by exact fun _ => rfl) : Wv c (.Call (.Name x p) [e, .Name y p2] [] pos) Γ Q := by
  subst hx
  have h1 : bootBuiltins y = some (.type t.nm) := by subst hy; cases t <;> decide +kernel
  have h2 : y ∈ biNames := by subst hy; cases t <;> decide +kernel
  have h3 : y ≠ "__name__" := by subst hy; cases t <;> decide +kernel
  have h4 : (y == ("__debug__" : Str)) = false := by subst hy; cases t <;> decide +kernel
  refine w_callB (c_isi t) (bi _) (wa_cons (h.imp fun d ⟨b, e1, q⟩ => wa_cons (w_ty (T := t.nm) (bi y h2) (wa_nil ⟨d, b, rfl, e1, q⟩) hg2 h1 h3 h4)) he) hg (he := he)
theorem w_len [BI c.g] {e : Expr} {p pos : Pos} (h : Wv c e Γ fun d => ∃ n, d.len = some n ∧ Q (.int n)) (hg : c.sc.names.lookup ("len" : Str) = some .globalImplicit := by rfl) (he : ∀ env, starEach [e] env = (false, eval e env) :: starEach [] env := by exact fun _ => rfl) : Wv c (.Call (.Name "len" p) [e] [] pos) Γ Q :=
  w_callB c_len (bi _) (wa_cons (h.imp fun d ⟨n, e1, q⟩ => wa_nil ⟨d, n, rfl, e1, q⟩) he) hg (he := he)
theorem w_tuple [BI c.g] {e : Expr} {p pos : Pos} (h : Wv c e Γ fun d => ∃ xs, d.seq = some xs ∧ Q (.tup xs)) (hg : c.sc.names.lookup ("tuple" : Str) = some .globalImplicit := by rfl) (he : ∀ env, starEach [e] env = (false, eval e env) :: starEach [] env := by exact fun _ => rfl) : Wv c (.Call (.Name "tuple" p) [e] [] pos) Γ Q :=
  w_callT c_tup (bi _) (wa_cons (h.imp fun d ⟨n, e1, q⟩ => wa_nil ⟨d, n, rfl, e1, q⟩) he) hg (he := he)
theorem w_intC [BI c.g] {e : Expr} {p pos : Pos} (h : Wv c e Γ fun d => ∃ i, d = .int i ∧ Q (.int i)) (hg : c.sc.names.lookup ("int" : Str) = some .globalImplicit := by rfl) (he : ∀ env, starEach [e] env = (false, eval e env) :: starEach [] env := by exact fun _ => rfl) : Wv c (.Call (.Name "int" p) [e] [] pos) Γ Q :=
  w_callT c_int (bi _) (wa_cons (h.imp fun d ⟨n, e1, q⟩ => wa_nil ⟨n, by rw [e1], q⟩) he) hg (he := he)
theorem w_all [BI c.g] {e : Expr} {p pos : Pos} (h : Wv c e Γ fun d => ∃ bs : List Bool, d = .lst (bs.map D.bl) ∧ Q (.bl (bs.all id))) (hh : c.hx = none := by rfl) (hg : c.sc.names.lookup ("all" : Str) = some .globalImplicit := by rfl) (he : ∀ env, starEach [e] env = (false, eval e env) :: starEach [] env := by exact fun _ => rfl) : Wv c (.Call (.Name "all" p) [e] [] pos) Γ Q :=
  w_callB (c_all hh) (bi _) (wa_cons (h.imp fun d ⟨n, e1, q⟩ => wa_nil ⟨n, by rw [e1], q⟩) he) hg (he := he)
/-! ### comprehensions, their usual kinds -/
/-- every item gives one, as R says -/
inductive All2 {α β : Type} (R : α → β → Prop) : List α → List β → Prop
  | nil : All2 R [] []
  | cons {a : α} {b : β} {as : List α} {bs : List β} : R a b → All2 R as bs → All2 R (a :: as) (b :: bs)
theorem All2.length {α β : Type} {R : α → β → Prop} : ∀ {as : List α} {bs : List β}, All2 R as bs → as.length = bs.length
  | _, _, .nil => rfl
  | _, _, .cons _ t => by rw [List.length_cons, List.length_cons, All2.length t]
theorem All2.snoc {α β : Type} {R : α → β → Prop} {a : α} {b : β} (h : R a b) : ∀ {as : List α} {bs : List β}, All2 R as bs → All2 R (as ++ [a]) (bs ++ [b])
  | _, _, .nil => .cons h .nil
  | _, _, .cons x t => .cons x (All2.snoc h t)
theorem All2.eq_map {α β : Type} {f : α → β} : ∀ {as : List α} {bs : List β}, All2 (fun a b => b = f a) as bs → bs = as.map f
  | _, _, .nil => rfl
  | _, _, .cons x t => by rw [x, All2.eq_map t]; rfl
theorem take_get {α : Type} {l : List α} {i : Nat} {x : α} (h : l[i]? = some x) : l.take (i + 1) = l.take i ++ [x] := by
  rw [List.take_add_one, h]
  rfl
/-- [elt for x in iter]: one name, no test -/
theorem wo_map {elt iter : Expr} {x : Str} {p : Pos} {scope : Scope} {pos : Pos} {Q : List D → Prop} (i : Nat) (R : D → D → Prop) (nd : c.N.Nodup) (h : WI c (.Name x p) iter Γ fun ds => ds.length ≤ 100000 ∧ (∀ d ∈ ds, Wv (c.blk scope) elt (((wipeG Γ [i]).set i (.val d))) fun e => R d e) ∧ ∀ out, All2 R ds out → Q out)
    (ok : blkC c.N c.sc scope [(x, i)] = true := by first | decide +kernel | kernel_rfl) (hN : c.N[i]? = some x := by rfl) (hl : (c.blk scope).sc.names.lookup x = some .local := by rfl) (hs : ∀ env x, foldedSetIterable iter env x = pure x := by exact fun _ _ => rfl) (hh : c.hx = none := by rfl) : WO c (.ListComp elt [⟨.Name x p, iter, [], 0⟩] scope pos) Γ Q := by
  refine wo_lc [(x, i)] nd ok (wg_name (c := c.blk scope) i (by simp) nd hN (Or.inl hl) (Or.inr hl)) ?_ hs hh
  intro X F m G0 H0 σ G H E Rr hR
  refine h X F m G0 H0 σ G H E Rr fun J ds G' H' ⟨h1, h2, h3⟩ => hR J ds G' H' ⟨h1, fun i out => All2 R (ds.take i) out, .nil, fun i d out hd ho => ?_, fun out hl ho => h3 out (by have ho' : All2 R (ds.take ds.length) out := ho; rw [List.take_length] at ho'; exact ho')⟩
  refine (h2 d (List.mem_of_getElem? hd)).imp fun e he => ?_
  show All2 R (ds.take (i + 1)) (out ++ [e])
  rw [take_get hd]
  exact ho.snoc he
theorem w_map {elt iter : Expr} {x : Str} {p : Pos} {scope : Scope} {pos : Pos} (i : Nat) (R : D → D → Prop) (nd : c.N.Nodup) (h : WI c (.Name x p) iter Γ fun ds => ds.length ≤ 100000 ∧ (∀ d ∈ ds, Wv (c.blk scope) elt (((wipeG Γ [i]).set i (.val d))) fun e => R d e) ∧ ∀ out, All2 R ds out → Q (.lst out))
    (ok : blkC c.N c.sc scope [(x, i)] = true := by first | decide +kernel | kernel_rfl) (hN : c.N[i]? = some x := by rfl) (hl : (c.blk scope).sc.names.lookup x = some .local := by rfl) (hs : ∀ env x, foldedSetIterable iter env x = pure x := by exact fun _ _ => rfl) (hh : c.hx = none := by rfl) : Wv c (.ListComp elt [⟨.Name x p, iter, [], 0⟩] scope pos) Γ Q :=
  w_wo (wo_map i R nd h ok hN hl hs hh)
/-- [elt for x in iter if t]: t a truth value of x, elt a function of x -/
theorem wo_filter {elt iter t : Expr} {x : Str} {p : Pos} {scope : Scope} {pos : Pos} {Q : List D → Prop} (i : Nat) (P : D → Bool) (f : D → D) (nd : c.N.Nodup) (h : WI c (.Name x p) iter Γ fun ds => ds.length ≤ 100000 ∧ (∀ d ∈ ds, WB (c.blk scope) t (((wipeG Γ [i]).set i (.val d))) fun b => b = P d) ∧
      (∀ d ∈ ds, P d = true → Wv (c.blk scope) elt (((wipeG Γ [i]).set i (.val d))) fun e => e = f d) ∧ Q ((ds.filter P).map f))
    (ok : blkC c.N c.sc scope [(x, i)] = true := by first | decide +kernel | kernel_rfl) (hN : c.N[i]? = some x := by rfl) (hl : (c.blk scope).sc.names.lookup x = some .local := by rfl) (hs : ∀ env x, foldedSetIterable iter env x = pure x := by exact fun _ _ => rfl) (hh : c.hx = none := by rfl) : WO c (.ListComp elt [⟨.Name x p, iter, [t], 0⟩] scope pos) Γ Q := by
  refine wo_lc [(x, i)] nd ok (wg_name (c := c.blk scope) i (by simp) nd hN (Or.inl hl) (Or.inr hl)) ?_ hs hh
  intro X F m G0 H0 σ G H E Rr hR
  refine h X F m G0 H0 σ G H E Rr fun J ds G' H' ⟨h1, h2, h3, h4⟩ => hR J ds G' H' ⟨h1, fun i out => out = ((ds.take i).filter P).map f, rfl, fun i d out hd ho => ?_, fun out hl ho => by rw [ho, List.take_length]; exact h4⟩
  have hm := List.mem_of_getElem? hd
  intro X2 F2 m2 G02 H02 σ2 G2 H2 E2 Qv qv
  refine h2 d hm X2 F2 m2 G02 H02 σ2 G2 H2 E2 Qv fun b G3 H3 hb g3 => qv b G3 H3 ?_ g3
  subst hb
  cases hp : P d with
  | true =>
    refine iteT ((h3 d hm hp).imp fun e he => ?_)
    show out ++ [e] = ((ds.take (i + 1)).filter P).map f
    rw [he, ho, take_get hd, List.filter_append, List.map_append]
    simp [hp]
  | false =>
    refine iteF ?_
    show out = ((ds.take (i + 1)).filter P).map f
    rw [ho, take_get hd, List.filter_append, List.map_append]
    simp [hp]
end
end WL
set_option Elab.async false
set_option linter.all false
set_option maxRecDepth 100000
set_option maxHeartbeats 4000000
namespace WL
open PySem PySem.Spec PyProof.Rows L2 Evl
/-! ### expressions that change a list of one's own -/
def Wm (c : Ct) (e : Expr) (Γ : Gm) (Q : D → Gm → Prop) : Prop :=
  ∀ X, Fits c X → ∀ m G0 H0 σ G H, En c X m G0 H0 Γ σ G H → ∀ Qv : VK, (∀ v d Γ' G' H', Q d Γ' → Ex G G' → En c X m G0 H0 Γ' σ G' H' → Rep c.K m G' v d → Qv v H') → JE X e σ H Qv
section
variable {c : Ct} {Γ : Gm} {Q : D → Gm → Prop} {E : Ends'}
theorem wm_of {e : Expr} (h : Wv c e Γ fun d => Q d Γ) : Wm c e Γ Q := fun X F m G0 H0 σ G H E Qv qv => h X F m G0 H0 σ G H E Qv fun v d G' H' q g r => qv v d Γ G' H' q g.ex (E.step g) r
theorem sq_own {K : PySem.W.Frag} {H : Hp} {a : Addr} {vs : List V} (h : H a = some (.lst vs)) : tyV K "list" (.ref a) H := Or.inl ⟨rfl, _, .inl (.inl h)⟩
/-- l.pop() -/
theorem wm_pop {x : Str} {p apos cpos : Pos} {ds : List D} {d : D} (i : Nat) (hi : Γ[i]? = some (.own (ds ++ [d]))) (q : Q d (Γ.set i (.own ds))) (hN : c.N[i]? = some x := by rfl) (hv : Vis c.sc x := by first | exact Or.inl rfl | exact Or.inr (Or.inl rfl) | exact Or.inr (Or.inr rfl))
    (hd : (x == ("__debug__" : Str)) = false := by decide) (hcd : (x == ("__classdict__" : Str)) = false := by decide) (hline : (apos.endLine == cpos.line) = true := by rfl) : Wm c (.Call (.Attribute (.Name x p) "pop" apos) [] [] cpos) Γ Q := by
  rintro X ⟨k0, er, tp, hx, rfl, hcold, hu0⟩ m G0 H0 σ G H E Qv qv
  obtain ⟨a, vs, ha, h0, hb, gb, mb, rl⟩ := E.toEn0.own hi
  obtain ⟨us, u, rfl, ru, rd⟩ : ∃ us u, vs = us ++ [u] ∧ RepL X.K m G us ds ∧ Rep X.K m G u d := by
    have e1 : vs.length = ds.length + 1 := by rw [rl.length, List.length_append, List.length_singleton]
    have e2 := rl.take ds.length
    have e3 := rl.drop ds.length
    rw [List.take_left'  rfl] at e2
    rw [List.drop_left' rfl] at e3
    obtain ⟨u, hu, ru⟩ := repL1 e3
    refine ⟨vs.take ds.length, u, ?_, e2, ru⟩
    rw [← hu, List.take_append_drop]
  refine ⟨_, pe_bm0 PySem.F.plainAttrs_list PySem.F.slot_list_pop PySem.F.type_list_pop mt_pop (pe_var hN hv hd hcd) rfl hline, _, ha, sq_own hb, a, us ++ [u], u, rfl, rfl, hb, ?_, ?_⟩
  · rw [List.length_append, List.length_singleton]
    show (us ++ [u])[us.length + 1 - 1]? = some u
    simp
  · rw [List.dropLast_concat]
    exact qv u d _ G _ q (Ex.refl _) ⟨E.toEn0.mutO hi ha ru, E.xh⟩ rd
/-- l.pop(e) -/
theorem wm_popAt {x : Str} {e : Expr} {p apos cpos : Pos} {ds : List D} (i : Nat) (hi : Γ[i]? = some (.own ds)) (h : Wv c e Γ fun y => ∃ j d, y = .int (Int.ofNat j) ∧ ds[j]? = some d ∧ ds.length ≤ 100000 ∧ Q d (Γ.set i (.own (ds.eraseIdx j)))) (hN : c.N[i]? = some x := by rfl) (hv : Vis c.sc x := by first | exact Or.inl rfl | exact Or.inr (Or.inl rfl) | exact Or.inr (Or.inr rfl))
    (hd : (x == ("__debug__" : Str)) = false := by decide) (hcd : (x == ("__classdict__" : Str)) = false := by decide) (hline : (apos.endLine == cpos.line) = true := by rfl)
    (hfew : ∀ env, ((backTo cpos (starEach [e] env)).all (fun x => !x.1) && (backToKw cpos (keywordEach [] env)).all (fun x => x.1.isSome) && decide ([e].length + ([] : List Keyword).length + (if ([] : List Keyword).isEmpty then 0 else 1) < 30)) = true := by exact fun _ => rfl)
    (hs : ∀ env, starEach [e] env = (false, eval e env) :: starEach [] env := by exact fun _ => rfl) : Wm c (.Call (.Attribute (.Name x p) "pop" apos) [e] [] cpos) Γ Q := by
  intro X Ft m G0 H0 σ G H E Qv qv
  have Ft' := Ft
  obtain ⟨k0, er, tp, hx, rfl, hcold, hu0⟩ := Ft'
  obtain ⟨a, vs, ha, h0, hb, gb, mb, rl⟩ := E.toEn0.own hi
  refine ⟨_, pe_bm PySem.F.plainAttrs_list PySem.F.slot_list_pop PySem.F.type_list_pop mt_popAt (pe_var hN hv hd hcd) (pa_cons pe_je pa_nil (hs _)) rfl (hfew _) hline (hs _) rfl, _, ha, sq_own hb, ?_⟩
  refine h X Ft m G0 H0 σ G H E _ fun v y G1 H1 ⟨j, d, e1, hj, hl, q⟩ g1 r1 => ?_
  subst e1
  cases r1
  have E1 := E.step g1
  have b1 := g1.st a _ mb hb
  obtain ⟨u, hu, ru⟩ := (rl.mono g1.ex).get hj
  have jl : j < ds.length := (List.getElem?_eq_some_iff.mp hj).1
  have vl : vs.length = ds.length := rl.length
  refine ⟨a, vs, (j : Int), j, u, rfl, rfl, b1, by omega, by omega, ?_, hu, ?_⟩
  · exact (ixN_seq (ixN_nat (by omega : j < vs.length))).1
  · exact qv u d _ G1 _ q g1.ex ⟨E1.toEn0.mutO hi ha ((rl.mono g1.ex).eraseIdx j), E1.xh⟩ ru
/-- name = e -/
theorem bs_setM {x : Str} {e : Expr} {pos' pos : Pos} (i : Nat) (nd : c.N.Nodup) (h : Wm c e Γ fun d Γ' => E.nx (Γ'.set i (.val d))) (hN : c.N[i]? = some x := by rfl) (hl : Loc c.sc x := by first | exact Or.inl rfl | exact Or.inr rfl) (hf : c.fn x = true ∨ c.sc.names.lookup x = some .local := by first | exact Or.inl rfl | exact Or.inr rfl)
    (hs : ∀ env, swapsWith e (some (.Name x pos')) pos.line env = pure false := by exact fun _ => rfl) : BS c (.Assign [.Name x pos'] e pos) Γ E := by
  intro X Ft m G0 H0 σ G H En D f
  have Ft' := Ft
  obtain ⟨k0, er, tp, hx, rfl, hcold, hu0⟩ := Ft'
  exact ⟨_, ps_set (i := i) nd hN hl pe_je (hs _) hf, h X Ft m G0 H0 σ G H En _ fun v d Γ' G1 H1 q x E' r => f.nx _ _ G1 H1 q x (E'.set i r)⟩
/-- a, b = e, e a tuple -/
theorem bs_unpack {tg e : Expr} {pos : Pos} {T : D → Gm → (Gm → Prop) → Prop} (hT : WT c tg T) (h : Wm c e Γ fun d Γ' => T d Γ' E.nx) (hs : ∀ env, swapsWithSole [tg] e pos.line env = pure false := by exact fun _ => rfl) (hw : ∀ env, swappedStores [tg] e env = pure none := by exact fun _ => rfl)
    (h1 : ∀ env, (assignEach [tg] env).map (·.2) = [assign tg env] := by exact fun _ => rfl) : BS c (.Assign [tg] e pos) Γ E := by
  intro X Ft m G0 H0 σ G H En D f
  obtain ⟨g, pg, gq⟩ := hT X Ft
  exact ⟨_, ps_asg pe_je pg (hs _) (hw _) (h1 _), h X Ft m G0 H0 σ G H En _ fun v d Γ' G1 H1 q x E' r => gq m G0 H0 Γ' σ G1 H1 v d _ _ E'.toEn0 r q fun Γ2 σ2 hn E2 => f.nx Γ2 σ2 G1 H1 hn x ⟨E2, E'.xh⟩⟩
/-- l.append(e) -/
theorem bs_append {x : Str} {e : Expr} {p apos cpos pos : Pos} (i : Nat) (h : Wm c e Γ fun d Γ' => ∃ ds, Γ'[i]? = some (.own ds) ∧ ds.length < 100000 ∧ E.nx (Γ'.set i (.own (ds ++ [d])))) (hN : c.N[i]? = some x := by rfl) (hv : Vis c.sc x := by first | exact Or.inl rfl | exact Or.inr (Or.inl rfl) | exact Or.inr (Or.inr rfl))
    (hd : (x == ("__debug__" : Str)) = false := by decide) (hcd : (x == ("__classdict__" : Str)) = false := by decide) (hline : (apos.endLine == cpos.line) = true := by rfl) (h0 : ∃ es, Γ[i]? = some (.own es) := by exact ⟨_, rfl⟩)
    (hfew : ∀ env, ((backTo cpos (starEach [e] env)).all (fun x => !x.1) && (backToKw cpos (keywordEach [] env)).all (fun x => x.1.isSome) && decide ([e].length + ([] : List Keyword).length + (if ([] : List Keyword).isEmpty then 0 else 1) < 30)) = true := by exact fun _ => rfl)
    (hs : ∀ env, starEach [e] env = (false, eval e env) :: starEach [] env := by exact fun _ => rfl) : BS c (.Expr (.Call (.Attribute (.Name x p) "append" apos) [e] [] cpos) pos) Γ E := by
  intro X Ft m G0 H0 σ G H En D f
  have Ft' := Ft
  obtain ⟨k0, er, tp, hx, rfl, hcold, hu0⟩ := Ft'
  obtain ⟨es, hes⟩ := h0
  obtain ⟨a, vs, ha, h0, hb, gb, mb, rl⟩ := En.toEn0.own hes
  refine ⟨_, ps_expr (pe_bm PySem.F.plainAttrs_list PySem.F.slot_list_append PySem.F.type_list_append mt_append (pe_var hN hv hd hcd) (pa_cons pe_je pa_nil (hs _)) rfl (hfew _) hline (hs _) rfl) rfl, _, ha, sq_own hb, ?_⟩
  refine h X Ft m G0 H0 σ G H En _ fun v d Γ' G1 H1 ⟨ds, hds, hl, q⟩ x E' r => ?_
  obtain ⟨b, us, hb', h0', hb1, gb', mb', rl'⟩ := E'.toEn0.own hds
  rw [ha] at hb'
  cases hb'
  have ul := rl'.length
  exact ⟨a, us, v, rfl, rfl, hb1, Nat.lt_of_lt_of_le (by omega : us.length < 100000) (by decide), f.nx _ _ G1 _ q x ⟨E'.toEn0.mutO hds ha (rl'.append (.cons r .nil)), E'.xh⟩⟩
/-- l.extend(e), e a new list -/
theorem bs_extend {x : Str} {e : Expr} {p apos cpos pos : Pos} {ds : List D} (i : Nat) (hi : Γ[i]? = some (.own ds)) (h : WO c e Γ fun es => ds.length + es.length ≤ 1000000 ∧ E.nx (Γ.set i (.own (ds ++ es)))) (hN : c.N[i]? = some x := by rfl) (hv : Vis c.sc x := by first | exact Or.inl rfl | exact Or.inr (Or.inl rfl) | exact Or.inr (Or.inr rfl))
    (hd : (x == ("__debug__" : Str)) = false := by decide) (hcd : (x == ("__classdict__" : Str)) = false := by decide) (hline : (apos.endLine == cpos.line) = true := by rfl)
    (hfew : ∀ env, ((backTo cpos (starEach [e] env)).all (fun x => !x.1) && (backToKw cpos (keywordEach [] env)).all (fun x => x.1.isSome) && decide ([e].length + ([] : List Keyword).length + (if ([] : List Keyword).isEmpty then 0 else 1) < 30)) = true := by exact fun _ => rfl)
    (hs : ∀ env, starEach [e] env = (false, eval e env) :: starEach [] env := by exact fun _ => rfl) : BS c (.Expr (.Call (.Attribute (.Name x p) "extend" apos) [e] [] cpos) pos) Γ E := by
  intro X Ft m G0 H0 σ G H En D f
  have Ft' := Ft
  obtain ⟨k0, er, tp, hx, rfl, hcold, hu0⟩ := Ft'
  obtain ⟨a, vs, ha, h0, hb, gb, mb, rl⟩ := En.toEn0.own hi
  refine ⟨_, ps_expr (pe_bm PySem.F.plainAttrs_list PySem.F.slot_list_extend PySem.F.type_list_extend mt_extend (pe_var hN hv hd hcd) (pa_cons pe_je pa_nil (hs _)) rfl (hfew _) hline (hs _) rfl) rfl, _, ha, sq_own hb, ?_⟩
  refine h X Ft m G0 H0 σ G H En _ fun b us es G1 H1 ⟨hl, q⟩ g1 n1 n2 e1 r1 => ?_
  have E1 := En.step g1
  have rl1 := rl.mono g1.ex
  have v1 := rl1.length
  have u1 := r1.length
  exact ⟨a, b, vs, us, rfl, rfl, g1.st a _ mb hb, e1, Nat.le_trans (by omega : _ ≤ 1000000) (by decide), f.nx _ _ G1 _ q g1.ex ⟨E1.toEn0.mutO hi ha (rl1.append r1), E1.xh⟩⟩
/-- len(l), l of one's own -/
theorem w_lenO [BI c.g] {x : Str} {p p2 pos : Pos} {ds : List D} {Q : D → Prop} (i : Nat) (hi : Γ[i]? = some (.own ds)) (q : Q (.int ds.length)) (hN : c.N[i]? = some x := by rfl) (hv : Vis c.sc x := by first | exact Or.inl rfl | exact Or.inr (Or.inl rfl) | exact Or.inr (Or.inr rfl))
    (hd : (x == ("__debug__" : Str)) = false := by decide) (hcd : (x == ("__classdict__" : Str)) = false := by decide) (hg : c.sc.names.lookup ("len" : Str) = some .globalImplicit := by rfl) : Wv c (.Call (.Name "len" p) [.Name x p2] [] pos) Γ Q := by
  intro X Ft m G0 H0 σ G H E Qv qv
  have hm := bi (c := c) "len"
  have Ft' := Ft
  obtain ⟨k0, er, tp, hx, rfl, hcold, hu0⟩ := Ft'
  obtain ⟨a, vs, ha, h0, hb, gb, mb, rl⟩ := E.toEn0.own hi
  refine ⟨_, pe_callB call_len hg hm (by decide +kernel) (pa_cons (pe_var hN hv hd hcd) pa_nil rfl), _, ha, _, ds.length, rfl, .inl ⟨vs, .inl (.inl hb), rl.length.symm⟩, qv _ _ G H q Good.refl (.int _)⟩
/-- l[e], l of one's own -/
theorem w_ixO {x : Str} {e : Expr} {p pos : Pos} {ds : List D} {Q : D → Prop} (i : Nat) (hi : Γ[i]? = some (.own ds)) (h : Wv c e Γ fun y => ∃ j d, y = .int j ∧ atI ds j = some d ∧ Q d) (hN : c.N[i]? = some x := by rfl) (hv : Vis c.sc x := by first | exact Or.inl rfl | exact Or.inr (Or.inl rfl) | exact Or.inr (Or.inr rfl))
    (hd : (x == ("__debug__" : Str)) = false := by decide) (hcd : (x == ("__classdict__" : Str)) = false := by decide) (hs : PlainIx e := by exact fun _ _ => rfl) : Wv c (.Subscript (.Name x p) e pos) Γ Q := by
  intro X Ft m G0 H0 σ G H E Qv qv
  have Ft' := Ft
  obtain ⟨k0, er, tp, hx, rfl, hcold, hu0⟩ := Ft'
  obtain ⟨a, vs, ha, h0, hb, gb, mb, rl⟩ := E.toEn0.own hi
  refine ⟨_, pe_ix ix_list (pe_var hN hv hd hcd) pe_je hs, _, ha, h X Ft m G0 H0 σ G H E _ fun v y G1 H1 ⟨j, d, e1, hj, q⟩ g1 r1 => ?_⟩
  subst e1
  cases r1
  obtain ⟨u, hu, ru⟩ := (rl.mono g1.ex).atI hj
  exact ⟨a, vs, j, u, rfl, rfl, .inl (.inl (g1.st a _ mb hb)), hu, qv u d G1 H1 q g1 ru⟩
/-- l[i] = e -/
theorem bs_setAt {x : Str} {e k : Expr} {p pos' pos : Pos} {ds : List D} (i : Nat) (hi : Γ[i]? = some (.own ds)) (h : Wv c e Γ fun d => Wv c k Γ fun y => ∃ z j, y = .int z ∧ ixN ds.length z = some j ∧ E.nx (Γ.set i (.own (ds.set j d)))) (hN : c.N[i]? = some x := by rfl) (hv : Vis c.sc x := by first | exact Or.inl rfl | exact Or.inr (Or.inl rfl) | exact Or.inr (Or.inr rfl))
    (hd : (x == ("__debug__" : Str)) = false := by decide) (hcd : (x == ("__classdict__" : Str)) = false := by decide) (hs : ∀ env, swapsWithSole [.Subscript (.Name x p) k pos'] e pos.line env = pure false := by exact fun _ => rfl) (hw : ∀ env, swappedStores [.Subscript (.Name x p) k pos'] e env = pure none := by exact fun _ => rfl)
    (ha1 : ∀ env v, assign (.Subscript (.Name x p) k pos') env v = (do
      let ov ← holding [v] (eval (.Name x p) env)
      let iv ← holding [v, ov] (eval k env)
      standAt pos'
      holding [v, ov, iv] (setItem ov iv v)
      release [v, ov, iv] []) := by exact fun _ _ => rfl)
    (h1 : ∀ env, (assignEach [.Subscript (.Name x p) k pos'] env).map (·.2) = [assign (.Subscript (.Name x p) k pos') env] := by exact fun _ => rfl) : BS c (.Assign [.Subscript (.Name x p) k pos'] e pos) Γ E := by
  intro X Ft m G0 H0 σ G H En D f
  have Ft' := Ft
  obtain ⟨k0, er, tp, hx, rfl, hcold, hu0⟩ := Ft'
  obtain ⟨a, vs, ha, h0, hb, gb, mb, rl⟩ := En.toEn0.own hi
  refine ⟨_, ps_asg pe_je (pg_sub (pe_var hN hv hd hcd) pe_je set_list (ha1 _)) (hs _) (hw _) (h1 _), h X Ft m G0 H0 σ G H En _ fun v d G1 H1 h1 g1 r1 => ⟨_, ha, ?_⟩⟩
  have E1 := En.step g1
  refine h1 X Ft m G0 H0 σ G1 H1 E1 _ fun w y G2 H2 ⟨z, j, e2, hj, q⟩ g2 r2 => ?_
  subst e2
  cases r2
  have E2 := E1.step g2
  have rl2 := (rl.mono g1.ex).mono g2.ex
  exact ⟨a, vs, z, j, rfl, rfl, g2.st a _ mb (g1.st a _ mb hb), by rw [rl.length]; exact hj, f.nx _ _ G2 _ q (g1.ex.trans g2.ex) ⟨E2.toEn0.mutO hi ha (rl2.set (r1.mono g2.ex) j), E2.xh⟩⟩
end
end WL
set_option Elab.async false
set_option linter.all false
set_option maxRecDepth 100000
set_option maxHeartbeats 4000000
namespace WL
open PySem PySem.Spec PyProof.Rows L2 Evl
/-! ### a dict that is walked is locked meanwhile -/
section
variable {K : PySem.W.Frag} {m : Option Addr} {G G1 G0 H0 H : Hp} {d : Addr} {kvs : List (Key × V)} {o : Obj}
mutual
theorem Rep.lock (hd : G d = some (.dK kvs)) : ∀ {v : V} {x : D}, Rep K m G v x → Rep K m (upd G d (.frz o (.dK kvs))) v x
  | _, _, .non => .non
  | _, _, .bl b => .bl b
  | _, _, .int i => .int i
  | _, _, .str x => .str x
  | _, _, .tup h l => .tup (by
      rcases h with (h | ⟨u, h⟩) | h
      · exact .inl (.inl (by rw [upd_ne (ne_of h hd (by intro q; cases q))]; exact h))
      · exact .inl (.inr ⟨u, by rw [upd_ne (ne_of h hd (by intro q; cases q))]; exact h⟩)
      · exact .inr h) (RepL.lock hd l)
  | _, _, .lst h l => .lst (by rw [upd_ne (ne_of h hd (by intro q; cases q))]; exact h) (RepL.lock hd l)
  | _, _, .dct (a := a) h n l => .dct (by
      by_cases z : a = d
      · subst z
        rcases h with h | ⟨u, h⟩
        · rw [hd] at h
          cases h
          exact .inr ⟨o, upd_same⟩
        · rw [hd] at h
          cases h
      · rcases h with h | ⟨u, h⟩
        · exact .inl (by rw [upd_ne z]; exact h)
        · exact .inr ⟨u, by rw [upd_ne z]; exact h⟩) n (RepL.lock hd l)
  | _, _, .raw v => .raw v
  | _, _, .strm h => .strm h
theorem RepL.lock (hd : G d = some (.dK kvs)) : ∀ {vs : List V} {xs : List D}, RepL K m G vs xs → RepL K m (upd G d (.frz o (.dK kvs))) vs xs
  | _, _, .nil => .nil
  | _, _, .cons h l => .cons (Rep.lock hd h) (RepL.lock hd l)
end
mutual
theorem Rep.unlock (hd : G d = some (.frz o (.dK kvs))) : ∀ {v : V} {x : D}, Rep K m G v x → Rep K m (upd G d (.dK kvs)) v x
  | _, _, .non => .non
  | _, _, .bl b => .bl b
  | _, _, .int i => .int i
  | _, _, .str x => .str x
  | _, _, .tup (a := a) h l => .tup (by
      rcases h with (h | ⟨u, h⟩) | h
      · exact .inl (.inl (by rw [upd_ne (ne_of h hd (by intro q; cases q))]; exact h))
      · refine .inl (.inr ⟨u, ?_⟩)
        rw [upd_ne (fun z => by rw [z, hd] at h; cases h)]
        exact h
      · exact .inr h) (RepL.unlock hd l)
  | _, _, .lst h l => .lst (by rw [upd_ne (ne_of h hd (by intro q; cases q))]; exact h) (RepL.unlock hd l)
  | _, _, .dct (a := a) h n l => .dct (by
      by_cases z : a = d
      · subst z
        rcases h with h | ⟨u, h⟩
        · rw [hd] at h
          cases h
        · rw [hd] at h
          cases h
          exact .inl upd_same
      · rcases h with h | ⟨u, h⟩
        · exact .inl (by rw [upd_ne z]; exact h)
        · exact .inr ⟨u, by rw [upd_ne z]; exact h⟩) n (RepL.unlock hd l)
  | _, _, .raw v => .raw v
  | _, _, .strm h => .strm h
theorem RepL.unlock (hd : G d = some (.frz o (.dK kvs))) : ∀ {vs : List V} {xs : List D}, RepL K m G vs xs → RepL K m (upd G d (.dK kvs)) vs xs
  | _, _, .nil => .nil
  | _, _, .cons h l => .cons (Rep.unlock hd h) (RepL.unlock hd l)
end
end
section
variable {K : PySem.W.Frag} {m : Option Addr} {G0 H0 G H G1 H1 : Hp} {Γ : Gm} {σ : L2.St} {d : Addr} {u f : HO}
/-- a change at d of the stable part and the heap alike -/
theorem SOk.at2 (s : SOk m G H) (b : Sub m G H) (hd : G d = some u) (nl : ∀ xs, u ≠ .lst xs) : SOk m (upd G d f) (upd H d f) := fun a h => by
  obtain ⟨c, i, j, ns, h1, h2, h3⟩ := s a h
  refine ⟨c, i, j, ns, ?_, ?_, h3⟩
  · rw [upd_ne (fun z => by have q := b.2 a h; rw [z, hd] at q; cases q)]
    exact h1
  · rw [upd_ne (fun z => by rw [z, hd] at h2; cases h2; exact nl _ rfl)]
    exact h2
theorem Sub.at2 (b : Sub m G H) (hd : G d = some u) : Sub m (upd G d f) (upd H d f) := by
  refine ⟨fun a o h => ?_, fun s e => ?_⟩
  · by_cases z : a = d
    · subst z
      rw [upd_same] at h ⊢
      exact h
    · rw [upd_ne z] at h ⊢
      exact b.1 a o h
  · rw [upd_ne (fun z => by have q := b.2 s e; rw [z, hd] at q; cases q)]
    exact b.2 s e
/-- the entry as seen from a state in which d is changed -/
theorem Good.at2 (g : Good m G0 H0 G H) (s0 : SOk m G0 H0) (b0 : Sub m G0 H0) (b : Sub m G H) (hd : G d = some u) (nl : ∀ xs, u ≠ .lst xs) :
    ∃ G0' H0', Good m G0' H0' (upd G d f) (upd H d f) ∧ SOk m G0' H0' ∧ Sub m G0' H0' ∧ (∀ a, H0 a = none → H0' a = none) ∧ (∀ a, H0' a = none → H0 a = none) ∧
      ∀ G' H', Good m G0' H0' G' H' → Sub m G' H' → SOk m G' H' → G' d = some f → (∀ xs, f ≠ .lst xs) → Good m G0 H0 (upd G' d u) (upd H' d u) := by
  have hH : H d = some u := b.1 d u hd
  have md : m ≠ some d := fun z => by have q := b.2 d z; rw [hd] at q; cases q
  cases e0 : H0 d with
  | none =>
    have g0 : G0 d = none := b0.none e0
    refine ⟨G0, H0, ⟨fun a o n e => ?_, fun s => (g.ok s).at2 b hd nl, fun a o e => ?_, fun a o e => ?_⟩, s0, b0, fun _ h => h, fun _ h => h, fun G' H' g' b' s' e' nf => ⟨fun a o n e => ?_, fun s => s'.at2 b' e' nf, fun a o e => ?_, fun a o e => ?_⟩⟩
    · rw [upd_ne (ne_of_none e e0)]
      exact g.st a o n e
    · by_cases z : a = d
      · subst z
        rw [upd_same] at e ⊢
        exact .inr ⟨e0, e⟩
      · rw [upd_ne z] at e ⊢
        exact g.gr a o e
    · rw [upd_ne (ne_of_none e g0)]
      exact g.ex a o e
    · rw [upd_ne (ne_of_none e e0)]
      exact g'.st a o n e
    · by_cases z : a = d
      · subst z
        rw [upd_same] at e ⊢
        exact .inr ⟨e0, e⟩
      · rw [upd_ne z] at e ⊢
        exact g'.gr a o e
    · rw [upd_ne (ne_of_none e g0)]
      exact g'.ex a o e
  | some w =>
    have wu : w = u := by
      have q := g.st d w md e0
      rw [hH] at q
      cases q
      rfl
    subst wu
    have g0 : G0 d = some w := by
      rcases g.gr d w hd with q | ⟨q, _⟩
      · exact q
      · rw [e0] at q; cases q
    refine ⟨upd G0 d f, upd H0 d f, ⟨fun a o n e => ?_, fun _ => (g.ok s0).at2 b hd nl, fun a o e => ?_, fun a o e => ?_⟩, s0.at2 b0 g0 nl, b0.at2 g0, fun a h => ?_, fun a h => ?_, fun G' H' g' b' s' e' nf => ⟨fun a o n e => ?_, fun s => s'.at2 b' e' nf, fun a o e => ?_, fun a o e => ?_⟩⟩
    · by_cases z : a = d
      · subst z
        rw [upd_same] at e ⊢
        exact e
      · rw [upd_ne z] at e ⊢
        exact g.st a o n e
    · by_cases z : a = d
      · subst z
        rw [upd_same] at e ⊢
        exact .inl e
      · rw [upd_ne z] at e
        rw [upd_ne z, upd_ne z, upd_ne z]
        exact g.gr a o e
    · by_cases z : a = d
      · subst z
        rw [upd_same] at e ⊢
        exact e
      · rw [upd_ne z] at e ⊢
        exact g.ex a o e
    · rw [upd_ne (fun z => by rw [z, e0] at h; cases h)]
      exact h
    · by_cases z : a = d
      · subst z; rw [upd_same] at h; cases h
      · rw [upd_ne z] at h; exact h
    · by_cases z : a = d
      · subst z
        rw [e0] at e
        cases e
        exact upd_same
      · rw [upd_ne z]
        exact g'.st a o n (by rw [upd_ne z]; exact e)
    · by_cases z : a = d
      · subst z
        rw [upd_same] at e
        cases e
        exact .inl g0
      · rw [upd_ne z] at e
        have q := g'.gr a o e
        rw [upd_ne z, upd_ne z] at q
        rw [upd_ne z]
        exact q
    · by_cases z : a = d
      · subst z
        rw [g0] at e
        cases e
        exact upd_same
      · rw [upd_ne z]
        exact g'.ex a o (by rw [upd_ne z]; exact e)
end
section
variable {K : PySem.W.Frag} {m : Option Addr} {G0 H0 G H : Hp} {Γ : Gm} {σ : L2.St} {d : Addr} {kvs : List (Key × V)} {o : Obj}
theorem SlotOk.lock {H0' : Hp} (hn : ∀ a, H0 a = none → H0' a = none) (hd : G d = some (.dK kvs)) {s : Sl} {x : Option (Option V)} (h : SlotOk K m H0 G H s x) : SlotOk K m H0' (upd G d (.frz o (.dK kvs))) (upd H d (.frz o (.dK kvs))) s x := by
  cases s with
  | emp => trivial
  | val z =>
    obtain ⟨v, e, r⟩ := h
    exact ⟨v, e, r.lock hd⟩
  | own ds =>
    obtain ⟨a, vs, e, h0, h1, h2, h3, r⟩ := h
    have ne : a ≠ d := fun z => by rw [z, hd] at h2; cases h2
    exact ⟨a, vs, e, hn a h0, by rw [upd_ne ne]; exact h1, by rw [upd_ne ne]; exact h2, h3, RepL.lock hd r⟩
  | ownd ks ds =>
    obtain ⟨a, vs, e, h0, h1, h2, h3, h4, h5, r⟩ := h
    have ne : a ≠ d := fun z => by rw [z, hd] at h2; cases h2
    exact ⟨a, vs, e, hn a h0, by rw [upd_ne ne]; exact h1, by rw [upd_ne ne]; exact h2, h3, h4, h5, RepL.lock hd r⟩
theorem SlotOk.unlock {H0' : Hp} (hn : ∀ a, H0 a = none → H0' a = none) (hd : G d = some (.frz o (.dK kvs))) {s : Sl} {x : Option (Option V)} (h : SlotOk K m H0 G H s x) : SlotOk K m H0' (upd G d (.dK kvs)) (upd H d (.dK kvs)) s x := by
  cases s with
  | emp => trivial
  | val z =>
    obtain ⟨v, e, r⟩ := h
    exact ⟨v, e, r.unlock hd⟩
  | own ds =>
    obtain ⟨a, vs, e, h0, h1, h2, h3, r⟩ := h
    have ne : a ≠ d := fun z => by rw [z, hd] at h2; cases h2
    exact ⟨a, vs, e, hn a h0, by rw [upd_ne ne]; exact h1, by rw [upd_ne ne]; exact h2, h3, RepL.unlock hd r⟩
  | ownd ks ds =>
    obtain ⟨a, vs, e, h0, h1, h2, h3, h4, h5, r⟩ := h
    have ne : a ≠ d := fun z => by rw [z, hd] at h2; cases h2
    exact ⟨a, vs, e, hn a h0, by rw [upd_ne ne]; exact h1, by rw [upd_ne ne]; exact h2, h3, h4, h5, RepL.unlock hd r⟩
theorem En0.lock (E : En0 K m G0 H0 Γ σ G H) (hd : G d = some (.dK kvs)) (o : Obj) : ∃ G0' H0', En0 K m G0' H0' Γ σ (upd G d (.frz o (.dK kvs))) (upd H d (.frz o (.dK kvs))) ∧
    ∀ Γ' σ' G' H', En0 K m G0' H0' Γ' σ' G' H' → G' d = some (.frz o (.dK kvs)) → En0 K m G0 H0 Γ' σ' (upd G' d (.dK kvs)) (upd H' d (.dK kvs)) := by
  have nl : ∀ xs, HO.dK kvs ≠ .lst xs := fun xs z => by cases z
  have nf : ∀ xs, HO.frz o (.dK kvs) ≠ .lst xs := fun xs z => by cases z
  obtain ⟨G0', H0', g, s0, b0, n1, n2, back⟩ := E.good.at2 (f := .frz o (.dK kvs)) E.sok0 E.sub0 E.sub hd nl
  refine ⟨G0', H0', ⟨E.sub.at2 hd, E.sok.at2 E.sub hd nl, E.len, fun i s h => (E.slot i s h).lock n1 hd, E.apart, g, s0, b0⟩, fun Γ' σ' G' H' E' e' => ?_⟩
  exact ⟨E'.sub.at2 e', E'.sok.at2 E'.sub e' nf, E'.len, fun i s h => (E'.slot i s h).unlock n2 e', E'.apart, back G' H' E'.good E'.sub E'.sok e' nf, E.sok0, E.sub0⟩
end
end WL
set_option Elab.async false
set_option linter.all false
set_option maxRecDepth 100000
set_option maxHeartbeats 4000000
namespace WL
open PySem PySem.Spec PyProof.Rows L2 Evl
/-! ### for key in d; [.. for key in d ..] -/
section
variable {c : Ct} {Γ : Gm} {E : Ends'}
abbrev Ct.no (c : Ct) : Ct := { c with er := fun _ _ => False }
theorem fits_no {X : Cx} (F : Fits c X) : Fits c.no X := by
  obtain ⟨k, er, tp, hx, rfl, r⟩ := F
  exact ⟨k, fun _ _ => False, tp, hx, rfl, r⟩
theorem walks_k {K : PySem.W.Frag} {m : Option Addr} {G : Hp} {d : Addr} {o : Obj} {kvs : List (Key × V)} (h : G d = some (.frz o (.dK kvs))) : Walks K m (Itk d o kvs) ((kvs.map (·.1)).map keyD) G := by
  intro G1 H1 i e s so
  have h1 : H1 d = some (.frz o (.dK kvs)) := s.1 _ _ (e _ _ h)
  refine ⟨fun x hx => ?_, fun hi => ⟨h1, ?_⟩⟩
  · rw [List.map_map, List.getElem?_map] at hx
    cases q : kvs[i]? with
    | none => rw [q] at hx; cases hx
    | some kv =>
      rw [q] at hx
      cases hx
      refine ⟨⟨h1, (List.getElem?_eq_some_iff.mp q).1⟩, fun y H2 ⟨e2, k, v, hk, ey⟩ => ?_⟩
      subst e2 ey
      rw [q] at hk
      cases hk
      refine ⟨G1, Good.refl, ?_⟩
      show Rep K m G1 (kV k) (keyD k)
      cases k with
      | inl z => exact .int z
      | inr z => exact .str z
  · rw [hi, List.length_map, List.length_map]
    exact Nat.le_refl _
/-- the keys of a locked dict, by its name -/
theorem keys_pt {X : Cx} {K : PySem.W.Frag} {tg : Expr} {x : Str} {p : Pos} {m : Option Addr} {σ : L2.St} {G H : Hp} {d : Addr} {o : Obj} {kvs : List (Key × V)} {Q : List D → Prop} (i : Nat) (hs : σ[i]? = some (some (V.ref d))) (b : Sub m G H) (h : G d = some (.frz o (.dK kvs))) (q : Q ((kvs.map (·.1)).map keyD)) (hN : X.N[i]? = some x) (hv : Vis X.env.scope x)
    (hd : (x == ("__debug__" : Str)) = false) (hcd : (x == ("__classdict__" : Str)) = false) : WIp X K tg (.Name x p) m σ G H Q := by
  intro R hR
  exact ⟨_, pi_keys (pe_var hN hv hd hcd), _, hs, d, o, rfl, .inl ⟨kvs, b.1 _ _ h, hR _ _ G H q Good.refl (walks_k h)⟩⟩
theorem bs_forD {x y : Str} {body : List Stmt} {p q pos : Pos} {ks : List Key} {ds : List D} (i j : Nat) (hi : Γ[i]? = some (.val (.dct ks ds))) (nd : c.N.Nodup)
    (h : ∃ I : Nat → Gm → Prop, I 0 Γ ∧ (∀ n k Γ', ks[n]? = some k → I n Γ' → BL c.no body (Γ'.set j (.val (keyD k))) { nx := I (n + 1), ct := I (n + 1), bk := E.nx, rt := E.rt }) ∧ ∀ Γ', I ks.length Γ' → E.nx Γ')
    (hN : c.N[i]? = some x := by rfl) (hv : Vis c.sc x := by first | exact Or.inl rfl | exact Or.inr (Or.inl rfl) | exact Or.inr (Or.inr rfl))
    (hM : c.N[j]? = some y := by rfl) (hl : Loc c.sc y := by first | exact Or.inl rfl | exact Or.inr rfl) (hf : c.fn y = true ∨ c.sc.names.lookup y = some .local := by first | exact Or.inl rfl | exact Or.inr rfl)
    (hd : (x == ("__debug__" : Str)) = false := by decide) (hcd : (x == ("__classdict__" : Str)) = false := by decide) (hs : ∀ env z, foldedSetIterable (.Name x p) env z = pure z := by exact fun _ _ => rfl) (hh : c.hx = none := by rfl) : BS c (.For (.Name y q) (.Name x p) body [] pos) Γ E := by
  intro X Ft m G0 H0 σ G H E0 D f
  obtain ⟨I, i0, step, fin⟩ := h
  have Fn := fits_no Ft
  have hT : WT c.no (.Name y q) (fun d Γ N => N (Γ.set j (.val d))) := wt_name (c := c.no) j nd hM hl hf
  obtain ⟨v, hv1, rv⟩ := E0.slot i _ hi
  obtain ⟨d, kvs, rfl, hrd, rfl, _, _⟩ := rd_dict rv
  have key : ∀ {G0' H0' G' H' : Hp} {o : Obj} (E1 : En c.no X m G0' H0' Γ σ G' H') (hfz : G' d = some (.frz o (.dK kvs))) (D' : Ends) (f' : Fin c.no X m G0' H0' G' E D'), JS1 X (.For (.Name y q) (.Name x p) body [] pos) D' σ H' := fun {G0' H0' G' H' o} E1 hfz D' f' => by
    refine for_pt (c := c.no) hT hh Fn E1 ?_ hs D' f'
    refine keys_pt i hv1 E1.sub hfz ⟨I, i0, fun n z Γ' hz hI => ?_, fun Γ' hI => fin Γ' (by rw [List.length_map] at hI; exact hI)⟩ ?_ ?_ hd hcd
    · rw [List.getElem?_map] at hz
      cases e : (kvs.map (·.1))[n]? with
      | none => rw [e] at hz; cases hz
      | some k =>
        rw [e] at hz
        cases hz
        exact step n k Γ' e hI
    · obtain ⟨k0, er, tp, hx, rfl, _⟩ := Ft
      exact hN
    · obtain ⟨k0, er, tp, hx, rfl, _⟩ := Ft
      exact hv
  rcases hrd with hrd | ⟨o, hrd⟩
  · have hH := E0.sub.1 _ _ hrd
    refine ⟨_, ps_lock ps_js1, d, .dK kvs, hH, trivial, fun od => ?_⟩
    obtain ⟨G0', H0', E1, back⟩ := E0.toEn0.lock hrd od
    have un : ∀ G', Ex (upd G d (.frz od (.dK kvs))) G' → Ex G (upd G' d (.dK kvs)) := fun G' x a o e => by
      by_cases z : a = d
      · subst z
        rw [hrd] at e
        cases e
        exact upd_same
      · rw [upd_ne z]
        exact x a o (by rw [upd_ne z]; exact e)
    have atd : ∀ G', Ex (upd G d (.frz od (.dK kvs))) G' → G' d = some (.frz od (.dK kvs)) := fun G' x => x _ _ upd_same
    refine key ⟨E1, xh_none rfl hh⟩ upd_same _ ⟨fun Γ' σ' G' H' q x E' => ?_, fun v z G' H' q x g r => ?_, fun Γ' σ' G' H' q x E' => ?_, fun Γ' σ' G' H' q x E' => ?_⟩
    · exact ⟨E'.sub.1 _ _ (atd G' x), f.nx Γ' σ' _ _ q (un G' x) ⟨back Γ' σ' G' H' E'.toEn0 (atd G' x), E0.xh⟩⟩
    · have s1 := g.sub E1.sub0 E1.sok0
      have E2 : En0 c.K m G0' H0' [] [] G' H' := ⟨s1, g.ok E1.sok0, rfl, fun i s h => by simp at h, fun i j s u a h => by simp at h, g, E1.sok0, E1.sub0⟩
      have E3 := back [] [] G' H' E2 (atd G' x)
      exact ⟨s1.1 _ _ (atd G' x), f.rt v z _ _ q (un G' x) E3.good (r.unlock (atd G' x))⟩
    · exact ⟨E'.sub.1 _ _ (atd G' x), f.bk Γ' σ' _ _ q (un G' x) ⟨back Γ' σ' G' H' E'.toEn0 (atd G' x), E0.xh⟩⟩
    · exact ⟨E'.sub.1 _ _ (atd G' x), f.ct Γ' σ' _ _ q (un G' x) ⟨back Γ' σ' G' H' E'.toEn0 (atd G' x), E0.xh⟩⟩
  · exact key (o := o) ⟨E0.toEn0, xh_none rfl hh⟩ hrd D ⟨fun Γ' σ' G' H' q x E' => f.nx Γ' σ' G' H' q x ⟨E'.toEn0, E0.xh⟩, f.rt, fun Γ' σ' G' H' q x E' => f.bk Γ' σ' G' H' q x ⟨E'.toEn0, E0.xh⟩, fun Γ' σ' G' H' q x E' => f.ct Γ' σ' G' H' q x ⟨E'.toEn0, E0.xh⟩⟩
/-- [elt for y in d if ..], d a dict's name -/
theorem wo_lcD {elt : Expr} {ifs : List Expr} {x y : Str} {p q : Pos} {scope : Scope} {pos : Pos} {Q : List D → Prop} {ks : List Key} {ds : List D} (i j : Nat) (hi : Γ[i]? = some (.val (.dct ks ds))) (nd : c.N.Nodup) (hz : ks.length ≤ 100000)
    (h : ∃ R : Nat → List D → Prop, R 0 [] ∧ (∀ n k out, ks[n]? = some k → R n out →
      WTs (c.blk scope) ifs ((wipeG Γ [j]).set j (.val (keyD k))) fun b => if b = true then Wv (c.blk scope) elt ((wipeG Γ [j]).set j (.val (keyD k))) fun e => R (n + 1) (out ++ [e]) else R (n + 1) out) ∧ ∀ out, R ks.length out → Q out)
    (ok : blkC c.N c.sc scope [(y, j)] = true := by first | decide +kernel | kernel_rfl) (hM : c.N[j]? = some y := by rfl) (hl : (c.blk scope).sc.names.lookup y = some .local := by rfl) (hN : c.N[i]? = some x := by rfl) (hv : Vis c.sc x := by first | exact Or.inl rfl | exact Or.inr (Or.inl rfl) | exact Or.inr (Or.inr rfl))
    (hd : (x == ("__debug__" : Str)) = false := by decide) (hcd : (x == ("__classdict__" : Str)) = false := by decide) (hs : ∀ env z, foldedSetIterable (.Name x p) env z = pure z := by exact fun _ _ => rfl) (hh : c.hx = none := by rfl) : WO c (.ListComp elt [⟨.Name y q, .Name x p, ifs, 0⟩] scope pos) Γ Q := by
  intro X Ft m G0 H0 σ G H E0 Qv qv
  obtain ⟨R, r0, step, fin⟩ := h
  have Fn := fits_no Ft
  obtain ⟨v, hv1, rv⟩ := E0.slot i _ hi
  obtain ⟨d, kvs, rfl, hrd, rfl, _, _⟩ := rd_dict rv
  have key : ∀ {G0' H0' G' H' : Hp} {o : Obj} (E1 : En c.no X m G0' H0' Γ σ G' H') (hfz : G' d = some (.frz o (.dK kvs))) (Qv : VK) (qv : ∀ a vs ds G'' H'', Q ds → Good m G' H' G'' H'' → H' a = none → G'' a = none → H'' a = some (.lst vs) → RepL c.K m G'' vs ds → Qv (.ref a) H''),
      JE X (.ListComp elt [⟨.Name y q, .Name x p, ifs, 0⟩] scope pos) σ H' Qv := fun {G0' H0' G' H' o} E1 hfz Qv qv => by
    refine lc_pt (c := c.no) [(y, j)] nd ok (wg_name (c := (c.no).blk scope) j (by simp) nd hM (Or.inl hl) (Or.inr hl)) hh Fn E1 ?_ hs Qv qv
    refine keys_pt i hv1 E1.sub hfz ⟨by rw [List.length_map]; exact hz, R, r0, fun n z out hz hR => ?_, fun out _ hR => fin out (by rw [List.length_map] at hR; exact hR)⟩ ?_ ?_ hd hcd
    · rw [List.getElem?_map] at hz
      cases e : (kvs.map (·.1))[n]? with
      | none => rw [e] at hz; cases hz
      | some k =>
        rw [e] at hz
        cases hz
        exact step n k out e hR
    · obtain ⟨k0, er, tp, hx, rfl, _⟩ := Ft
      exact hN
    · obtain ⟨k0, er, tp, hx, rfl, _⟩ := Ft
      exact hv
  rcases hrd with hrd | ⟨o, hrd⟩
  · have hH := E0.sub.1 _ _ hrd
    refine ⟨_, pe_lock pe_je, d, .dK kvs, hH, trivial, fun od => ?_⟩
    obtain ⟨G0', H0', E1, back⟩ := E0.toEn0.lock hrd od
    have nl : ∀ xs, HO.dK kvs ≠ .lst xs := fun xs z => by cases z
    have nf : ∀ xs, HO.frz od (.dK kvs) ≠ .lst xs := fun xs z => by cases z
    obtain ⟨Ga, Ha, g, s0, b0, n1, n2, back⟩ := (Good.refl (m := m) (G := G) (H := H)).at2 (f := .frz od (.dK kvs)) E0.sok E0.sub E0.sub hrd nl
    refine key ⟨E1, xh_none rfl hh⟩ upd_same _ fun a vs es G' H' q g' ha ga ha' r => ?_
    have hGd : G' d = some (.frz od (.dK kvs)) := g'.ex _ _ upd_same
    have sb := g'.sub (E0.sub.at2 hrd) (E0.sok.at2 E0.sub hrd nl)
    have so := g'.ok (E0.sok.at2 E0.sub hrd nl)
    have ad : a ≠ d := fun z => by rw [z, hGd] at ga; cases ga
    refine ⟨sb.1 _ _ hGd, qv a vs es _ _ q (back G' H' (g.trans s0 g') sb so hGd nf) (by rw [upd_ne ad] at ha; exact ha) (by rw [upd_ne ad]; exact ga) (by rw [upd_ne ad]; exact ha') (RepL.unlock hGd r)⟩
  · exact key (o := o) ⟨E0.toEn0, xh_none rfl hh⟩ hrd Qv qv
/-! ### a dict of one's own -/
theorem En0.setD {K : PySem.W.Frag} {m : Option Addr} {G0 H0 G H G1 H1 : Hp} {Γ : Gm} {σ : L2.St} {a : Addr} {kvs : List (Key × V)} {ds : List D} (E : En0 K m G0 H0 Γ σ G H) (g : Good m G H G1 H1) (i : Nat) (hn : H a = none) (hg : G1 a = none) (h1 : H1 a = some (.dK kvs)) (nd : (kvs.map (·.1)).Nodup) (r : RepL K m G1 (kvs.map (·.2)) ds) : En0 K m G0 H0 (Γ.set i (.ownd (kvs.map (·.1)) ds)) (σ.set i (some (.ref a))) G1 H1 := by
  have E1 := E.step g
  have ma : m ≠ some a := fun z => E.sok.dom z hn
  have fresh : ∀ (j : Nat) (s : Sl), Γ[j]? = some s → s.isOwn = true → σ[j]? ≠ some (some (V.ref a)) := fun j s hj o e => by
    obtain ⟨b, ob, e2, hb⟩ := (E.slot j s hj).at_ o
    rw [e] at e2
    cases e2
    rw [hn] at hb
    cases hb
  refine ⟨E1.sub, E1.sok, by rw [List.length_set, List.length_set]; exact E.len, fun j s h => ?_, fun j1 j2 s u b h1 h2 o1 o2 e1 e2 => ?_, E1.good, E.sok0, E.sub0⟩
  · rcases get_set h with ⟨rfl, rfl, lt⟩ | ⟨ne, h⟩
    · exact ⟨a, kvs, List.getElem?_set_self (by rw [E.len]; exact lt), E.good.back E.sok0 hn, h1, hg, ma, rfl, nd, r⟩
    · rw [List.getElem?_set_ne ne]
      exact E1.slot j s h
  · rcases get_set h1 with ⟨rfl, rfl, lt⟩ | ⟨ne1, h1⟩ <;> rcases get_set h2 with ⟨z, rfl, lt2⟩ | ⟨ne2, h2⟩
    · exact z
    · rw [List.getElem?_set_self (by rw [E.len]; exact lt)] at e1
      cases e1
      rw [List.getElem?_set_ne ne2] at e2
      exact (fresh _ _ h2 o2 e2).elim
    · subst z
      rw [List.getElem?_set_self (by rw [E.len]; exact lt2)] at e2
      cases e2
      rw [List.getElem?_set_ne ne1] at e1
      exact (fresh _ _ h1 o1 e1).elim
    · rw [List.getElem?_set_ne ne1] at e1
      rw [List.getElem?_set_ne ne2] at e2
      exact E.apart _ _ _ _ _ h1 h2 o1 o2 e1 e2
end
end WL
set_option Elab.async false
set_option linter.all false
set_option maxRecDepth 100000
set_option maxHeartbeats 4000000
namespace WL
open PySem PySem.Spec PyProof.Rows L2 Evl
section
variable {K : PySem.W.Frag} {m : Option Addr} {G0 H0 G H G1 H1 : Hp} {Γ : Gm} {σ : L2.St}
/-- what the slot i alone knows changes -/
theorem En0.mutG {a : Addr} {o : HO} {s s' : Sl} (E : En0 K m G0 H0 Γ σ G H) {i : Nat} (hi : Γ[i]? = some s) (hs : s.isOwn = true) (ha : σ[i]? = some (some (V.ref a))) (h0 : H0 a = none) (gb : G a = none) (mb : m ≠ some a)
    (hs' : SlotOk K m H0 G (upd H a o) s' σ[i]?) (ho : s'.isOwn = true) : En0 K m G0 H0 (Γ.set i s') σ G (upd H a o) := by
  have keep : ∀ c o, G c = some o → c ≠ a := fun c o q z => by rw [z, gb] at q; cases q
  refine ⟨⟨fun c o q => ?_, E.sub.2⟩, E.sok.mono (Ex.refl _) fun c o n q => ?_, by rw [List.length_set]; exact E.len, fun j t h => ?_, fun j1 j2 t u b h1 h2 o1 o2 e1 e2 => ?_, E.good.mut E.sok0 h0 gb, E.sok0, E.sub0⟩
  · rw [upd_ne (keep c o q)]
    exact E.sub.1 c o q
  · rw [upd_ne (fun z => mb (by rw [n, z]))]
    exact q
  · rcases get_set h with ⟨rfl, rfl, lt⟩ | ⟨ne, h⟩
    · exact hs'
    · have old := E.slot j t h
      have other : ∀ c, t.isOwn = true → σ[j]? = some (some (V.ref c)) → c ≠ a := fun c o q z => by
        subst z
        exact ne (E.apart i j _ _ c hi h hs o ha q)
      cases t with
      | emp => trivial
      | val d => exact old
      | own fs =>
        obtain ⟨c, ws, f1, f2, f3, f4⟩ := old
        exact ⟨c, ws, f1, f2, by rw [upd_ne (other c rfl f1)]; exact f3, f4⟩
      | ownd ks fs =>
        obtain ⟨c, ws, f1, f2, f3, f4⟩ := old
        exact ⟨c, ws, f1, f2, by rw [upd_ne (other c rfl f1)]; exact f3, f4⟩
  · rcases get_set h1 with ⟨q1, p1, lt⟩ | ⟨ne1, k1⟩ <;> rcases get_set h2 with ⟨q2, p2, lt2⟩ | ⟨ne2, k2⟩
    · rw [← q1, ← q2]
    · subst q1
      exact E.apart _ _ _ _ _ hi k2 hs o2 e1 e2
    · subst q2
      exact E.apart _ _ _ _ _ k1 hi o1 hs e1 e2
    · exact E.apart _ _ _ _ _ k1 k2 o1 o2 e1 e2
theorem En0.freezeD {ks : List Key} {ds : List D} (E : En0 K m G0 H0 Γ σ G H) {i : Nat} (hi : Γ[i]? = some (.ownd ks ds)) : ∃ G1, Ex G G1 ∧ En0 K m G0 H0 (Γ.set i (.val (.dct ks ds))) σ G1 H := by
  obtain ⟨a, kvs, ha, h0, hb, gb, mb, rfl, nd, rl⟩ : ∃ (a : Addr) (kvs : List (Key × V)), σ[i]? = some (some (V.ref a)) ∧ H0 a = none ∧ H a = some (.dK kvs) ∧ G a = none ∧ m ≠ some a ∧ (kvs.map fun (p : Key × V) => p.1) = ks ∧ ks.Nodup ∧ RepL K m G (kvs.map fun (p : Key × V) => p.2) ds := E.slot i _ hi
  refine ⟨upd G a (.dK kvs), Ex.new gb, ⟨fun c o q => ?_, fun s e => ?_⟩, E.sok.mono (Ex.new gb) fun _ _ _ e => e, by rw [List.length_set]; exact E.len, fun j s h => ?_, fun j1 j2 s u b h1 h2 o1 o2 e1 e2 => ?_, E.good.tell h0 gb hb, E.sok0, E.sub0⟩
  · by_cases z : c = a
    · subst z; rw [upd_same] at q; cases q; exact hb
    · rw [upd_ne z] at q; exact E.sub.1 c o q
  · rw [upd_ne (fun z => mb (by rw [e, z]))]
    exact E.sub.2 s e
  · rcases get_set h with ⟨rfl, rfl, lt⟩ | ⟨ne, h⟩
    · exact ⟨_, ha, .dct (.inl upd_same) nd (rl.mono (Ex.new gb))⟩
    · have old := E.slot j s h
      have other : ∀ c, s.isOwn = true → σ[j]? = some (some (V.ref c)) → c ≠ a := fun c o q z => by
        subst z
        exact ne (E.apart i j _ _ c hi h rfl o ha q)
      cases s with
      | emp => trivial
      | val d =>
        obtain ⟨v, f1, f2⟩ := old
        exact ⟨v, f1, f2.mono (Ex.new gb)⟩
      | own fs =>
        obtain ⟨c, ws, f1, f2, f3, f4, f5, f6⟩ := old
        exact ⟨c, ws, f1, f2, f3, by rw [upd_ne (other c rfl f1)]; exact f4, f5, f6.mono (Ex.new gb)⟩
      | ownd ks fs =>
        obtain ⟨c, ws, f1, f2, f3, f4, f5, f6, f7, f8⟩ := old
        exact ⟨c, ws, f1, f2, f3, by rw [upd_ne (other c rfl f1)]; exact f4, f5, f6, f7, f8.mono (Ex.new gb)⟩
  · rcases get_set h1 with ⟨rfl, rfl, lt⟩ | ⟨ne1, h1⟩
    · cases o1
    · rcases get_set h2 with ⟨z, rfl, lt2⟩ | ⟨ne2, h2⟩
      · cases o2
      · exact E.apart _ _ _ _ _ h1 h2 o1 o2 e1 e2
/-- a dict's keys and values behind d[k] = x -/
def kputK (ks : List Key) (k : Key) : List Key := if (ks.any fun j => decide (j = k)) = true then ks else ks ++ [k]
theorem any_k {ks : List Key} {k : Key} : (ks.any fun j => decide (j = k)) = true ↔ k ∈ ks := by
  rw [List.any_eq_true]
  exact ⟨fun ⟨x, h1, h2⟩ => by rw [← of_decide_eq_true h2]; exact h1, fun h => ⟨k, h, decide_eq_true rfl⟩⟩
def kputD : List Key → List D → Key → D → List D
  | j :: ks, y :: ds, k, x => if j = k then x :: ds else y :: kputD ks ds k x
  | _, _, _, x => [x]
theorem any_key {kvs : List (Key × V)} {k : Key} : (kvs.any fun kv => decide (kv.1 = k)) = true ↔ k ∈ kvs.map (·.1) := by
  rw [List.any_eq_true, List.mem_map]
  exact ⟨fun ⟨x, h1, h2⟩ => ⟨x, h1, of_decide_eq_true h2⟩, fun ⟨x, h1, h2⟩ => ⟨x, h1, decide_eq_true h2⟩⟩
theorem put_keys (kvs : List (Key × V)) (k : Key) (v : V) : (putK kvs k v).map (·.1) = kputK (kvs.map (·.1)) k := by
  unfold putK kputK
  by_cases h : k ∈ kvs.map (·.1)
  · rw [if_pos (any_key.mpr h), if_pos (any_k.mpr h), List.map_map]
    refine List.map_congr_left fun x _ => ?_
    show (if x.1 = k then (x.1, v) else x).1 = x.1
    split <;> rfl
  · rw [if_neg (fun q => h (any_key.mp q)), if_neg (fun q => h (any_k.mp q)), List.map_append]
    rfl
theorem kputK_nodup {ks : List Key} (nd : ks.Nodup) (k : Key) : (kputK ks k).Nodup := by
  unfold kputK
  by_cases h : k ∈ ks
  · rw [if_pos (any_k.mpr h)]
    exact nd
  · rw [if_neg (fun q => h (any_k.mp q))]
    refine List.nodup_append.mpr ⟨nd, by simp, fun a ha b hb e => ?_⟩
    rw [List.mem_singleton] at hb
    subst e hb
    exact h ha
theorem repl_none {k : Key} {v : V} : ∀ {r : List (Key × V)}, k ∉ r.map (·.1) → (r.map fun kv => if kv.1 = k then (kv.1, v) else kv) = r
  | [], _ => rfl
  | p :: r, h => by
    rw [List.map_cons, repl_none (r := r) fun q => h (List.mem_cons_of_mem _ q), if_neg fun e => h (by rw [← e]; exact List.mem_cons_self)]
theorem put_vals {k : Key} {v : V} {x : D} (r : Rep K m G v x) : ∀ {kvs : List (Key × V)} {ds : List D}, (kvs.map (·.1)).Nodup → RepL K m G (kvs.map (·.2)) ds → RepL K m G ((putK kvs k v).map (·.2)) (kputD (kvs.map (·.1)) ds k x)
  | [], _, _, .nil => .cons r .nil
  | (j, u) :: kvs, y :: ds, nd, .cons h l => by
    have nd' : j ∉ kvs.map (·.1) ∧ (kvs.map (·.1)).Nodup := List.nodup_cons.mp nd
    show RepL K m G _ (if j = k then x :: ds else y :: kputD (kvs.map (·.1)) ds k x)
    by_cases e : j = k
    · subst e
      rw [if_pos rfl]
      have q : putK ((j, u) :: kvs) j v = (j, v) :: kvs := by
        unfold putK
        rw [if_pos (any_key.mpr List.mem_cons_self), List.map_cons, if_pos rfl, repl_none nd'.1]
      rw [q]
      exact .cons r l
    · rw [if_neg e]
      have q : putK ((j, u) :: kvs) k v = (j, u) :: putK kvs k v := by
        unfold putK
        by_cases hk : k ∈ kvs.map (·.1)
        · rw [if_pos (any_key.mpr (List.mem_cons_of_mem _ hk)), if_pos (any_key.mpr hk), List.map_cons, if_neg e]
        · have hk2 : k ∉ ((j, u) :: kvs).map (·.1) := fun z => by
            rcases List.mem_cons.mp z with z | z
            · exact e z.symm
            · exact hk z
          rw [if_neg (fun z => hk2 (any_key.mp z)), if_neg (fun z => hk (any_key.mp z))]
          rfl
      rw [q]
      exact .cons h (put_vals r nd'.2 l)
end
section
variable {c : Ct} {Γ : Gm} {E : Ends'}
theorem bl_freezeD {sts : List Stmt} {ks : List Key} {ds : List D} (i : Nat) (hi : Γ[i]? = some (.ownd ks ds)) (h : BL c sts (Γ.set i (.val (.dct ks ds))) E) : BL c sts Γ E := by
  intro X F m G0 H0 σ G H En D f
  obtain ⟨G1, x, E1⟩ := En.toEn0.freezeD hi
  exact h X F m G0 H0 σ G1 H ⟨E1, En.xh⟩ D (f.go x)
/-- name = {} -/
theorem bs_newD {x : Str} {p pos' pos : Pos} (i : Nat) (nd : c.N.Nodup) (h : E.nx (Γ.set i (.ownd [] []))) (hN : c.N[i]? = some x := by rfl) (hl : Loc c.sc x := by first | exact Or.inl rfl | exact Or.inr rfl) (hf : c.fn x = true ∨ c.sc.names.lookup x = some .local := by first | exact Or.inl rfl | exact Or.inr rfl) : BS c (.Assign [.Name x pos'] (.Dict [] [] p) pos) Γ E := by
  intro X Ft m G0 H0 σ G H En D f
  have Ft' := Ft
  obtain ⟨k0, er, tp, hx, rfl, hcold, hu0⟩ := Ft'
  refine ⟨_, ps_set (i := i) nd hN hl pe_dnewK rfl hf, fun a ha => ?_⟩
  exact f.nx _ _ G _ h (Ex.refl _) ⟨En.toEn0.setD (kvs := []) (ds := []) (Good.hid ha) i ha (En.sub.none ha) upd_same .nil .nil, En.xh⟩
/-- d[k] = e, d of one's own -/
theorem bs_dput {x : Str} {e k : Expr} {p pos' pos : Pos} {ks : List Key} {ds : List D} (i : Nat) (hi : Γ[i]? = some (.ownd ks ds)) (h : Wv c e Γ fun d => Wv c k Γ fun y => ∃ j, y = keyD j ∧ ks.length < 100000 ∧ E.nx (Γ.set i (.ownd (kputK ks j) (kputD ks ds j d)))) (hN : c.N[i]? = some x := by rfl) (hv : Vis c.sc x := by first | exact Or.inl rfl | exact Or.inr (Or.inl rfl) | exact Or.inr (Or.inr rfl))
    (hd : (x == ("__debug__" : Str)) = false := by decide) (hcd : (x == ("__classdict__" : Str)) = false := by decide) (hs : ∀ env, swapsWith e (some (.Subscript (.Name x p) k pos')) pos.line env = pure false := by exact fun _ => rfl) : BS c (.Assign [.Subscript (.Name x p) k pos'] e pos) Γ E := by
  intro X Ft m G0 H0 σ G H En D f
  have Ft' := Ft
  obtain ⟨k0, er, tp, hx, rfl, hcold, hu0⟩ := Ft'
  obtain ⟨a, kvs, ha, h0, hb, gb, mb, rfl, nd, rl⟩ : ∃ (a : Addr) (kvs : List (Key × V)), σ[i]? = some (some (V.ref a)) ∧ H0 a = none ∧ H a = some (.dK kvs) ∧ G a = none ∧ m ≠ some a ∧ (kvs.map fun (p : Key × V) => p.1) = ks ∧ ks.Nodup ∧ RepL X.K m G (kvs.map fun (p : Key × V) => p.2) ds := En.slot i _ hi
  refine ⟨_, ps_dput (hu_ hu0) (pe_var hN hv hd hcd) pe_je pe_je (hs _), h X Ft m G0 H0 σ G H En _ fun v d G1 H1 h1 g1 r1 => ⟨_, ha, ?_⟩⟩
  have E1 := En.step g1
  refine h1 X Ft m G0 H0 σ G1 H1 E1 _ fun w y G2 H2 ⟨j, e2, hz, q⟩ g2 r2 => ?_
  subst e2
  obtain rfl := rep_key r2
  have E2 := E1.step g2
  have b2 := g2.st a _ mb (g1.st a _ mb hb)
  have g2n : G2 a = none := by
    obtain ⟨b, w, e3, _, _, e6, _⟩ : ∃ (a : Addr) (w : List (Key × V)), σ[i]? = some (some (V.ref a)) ∧ H0 a = none ∧ H2 a = some (.dK w) ∧ G2 a = none ∧ _ := E2.slot i _ hi
    rw [ha] at e3
    cases e3
    exact e6
  have rl2 := (rl.mono g1.ex).mono g2.ex
  have zl : kvs.length < 100000 := by
    rw [List.length_map] at hz
    exact hz
  refine ⟨a, _, rfl, DPut.k b2 (Nat.lt_of_lt_of_le zl (by decide)), f.nx _ _ G2 _ q (g1.ex.trans g2.ex) ⟨E2.toEn0.mutG hi rfl ha h0 g2n mb ⟨a, putK kvs j v, ha, h0, upd_same, g2n, mb, put_keys kvs j v, kputK_nodup nd j, put_vals (r1.mono g2.ex) nd rl2⟩ rfl, E2.xh⟩⟩
end
end WL
set_option Elab.async false
set_option linter.all false
set_option maxRecDepth 100000
set_option maxHeartbeats 4000000
namespace WL
open PySem PySem.Spec PyProof.Rows L2 Evl
section
variable {c : Ct} {Γ : Gm} {Q : D → Prop}
/-! ### slices -/
def JO (X : Cx) (e : Option Expr) : TO := fun σ H Q => ∃ t : TO, PO X e t ∧ t σ H Q
theorem po_jo {X : Cx} {e : Option Expr} : PO X e (JO X e) := ⟨fun pins s σ H Q I ⟨t, p, h⟩ => p.run pins s σ H Q I h⟩
/-- a slice's part -/
def WPo (c : Ct) (e : Option Expr) (Γ : Gm) (Q : Option Int → Prop) : Prop := match e with
  | none => Q none
  | some e => Wv c e Γ fun d => ∃ i, d = .int i ∧ Q (some i)
theorem jo_of {c : Ct} {e : Option Expr} {Γ : Gm} {Q : Option Int → Prop} (h : WPo c e Γ Q) : ∀ X, Fits c X → ∀ m G0 H0 σ G H, En c X m G0 H0 Γ σ G H → ∀ Qv : Option Int → Hp → Prop, (∀ o G' H', Q o → Good m G H G' H' → Qv o H') → JO X e σ H Qv := by
  intro X F m G0 H0 σ G H E Qv qv
  cases e with
  | none => exact ⟨_, po_none, qv none G H h Good.refl⟩
  | some e =>
    refine ⟨_, po_some pe_je, (show Wv c e Γ fun d => ∃ i, d = .int i ∧ Q (some i) from h) X F m G0 H0 σ G H E _ fun v d G1 H1 ⟨i, e1, q⟩ g r => ?_⟩
    subst e1
    cases r
    exact ⟨i, rfl, qv _ G1 H1 q g⟩
def cutD (xs : List D) (lo hi : Option Int) : List D := (xs.drop (HT.sIx xs.length 0 lo)).take (HT.sIx xs.length xs.length hi - HT.sIx xs.length 0 lo)
theorem RepL.cut {K : PySem.W.Frag} {m : Option Addr} {G : Hp} {vs : List V} {ds : List D} (l : RepL K m G vs ds) (lo hi : Option Int) : RepL K m G (cutV vs lo hi) (cutD ds lo hi) := by
  unfold cutV cutD
  rw [l.length]
  exact (l.drop _).take _
theorem cut_whole {ds : List D} {lo hi : Option Int} (h : HT.sIx ds.length 0 lo = 0 ∧ HT.sIx ds.length ds.length hi = ds.length) : cutD ds lo hi = ds := by
  unfold cutD
  rw [h.1, h.2, List.drop_zero, Nat.sub_zero, List.take_length]
theorem w_cutT {e : Expr} {lo hi : Option Expr} {p2 pos : Pos} (h : Wv c e Γ fun d => ∃ ds, d = .tup ds ∧ WPo c lo Γ fun a => WPo c hi Γ fun b => Q (.tup (cutD ds a b))) : Wv c (.Subscript e (.Slice lo hi none p2) pos) Γ Q := by
  intro X Ft m G0 H0 σ G H E Qv qv
  have Ft' := Ft
  obtain ⟨k0, er, tp, hx, rfl, hcold, hu0⟩ := Ft'
  refine ⟨_, pe_slice sl_tupA pe_je po_jo po_jo, h X Ft m G0 H0 σ G H E _ fun v d G1 H1 ⟨ds, e1, h1⟩ g1 r1 => ?_⟩
  subst e1
  have E1 := E.step g1
  refine jo_of h1 X Ft m G0 H0 σ G1 H1 E1 _ fun a G2 H2 h2 g2 => ?_
  have E2 := E1.step g2
  refine jo_of h2 X Ft m G0 H0 σ G2 H2 E2 _ fun b G3 H3 h3 g3 => ?_
  have E3 := E2.step g3
  have g13 := (g1.trans E.sok g2).trans E.sok g3
  cases r1 with
  | @tup t us _ ht lt =>
    have l3 := (lt.mono g2.ex).mono g3.ex
    have t3 : SqT X.K G3 t us := ex_t g3.ex (ex_t g2.ex ht)
    refine ⟨t, us, rfl, ex_t E3.sub.1 t3, fun hw => ?_, fun _ p hp => ?_⟩
    · rw [l3.length] at hw
      rw [cut_whole hw] at h3
      exact qv _ _ G3 H3 h3 g13 (.tup t3 l3)
    · exact qv _ _ _ _ h3 (g13.trans E.sok (Good.laid E3.sub hp)) (.tup (.inl (.inl upd_same)) ((l3.cut a b).mono (Ex.new (E3.sub.none hp))))
theorem wo_cutL {e : Expr} {lo hi : Option Expr} {p2 pos : Pos} {Q : List D → Prop} (h : Wv c e Γ fun d => ∃ ds, d = .lst ds ∧ WPo c lo Γ fun a => WPo c hi Γ fun b => Q (cutD ds a b)) : WO c (.Subscript e (.Slice lo hi none p2) pos) Γ Q := by
  intro X Ft m G0 H0 σ G H E Qv qv
  have Ft' := Ft
  obtain ⟨k0, er, tp, hx, rfl, hcold, hu0⟩ := Ft'
  refine ⟨_, pe_slice sl_list pe_je po_jo po_jo, h X Ft m G0 H0 σ G H E _ fun v d G1 H1 ⟨ds, e1, h1⟩ g1 r1 => ?_⟩
  subst e1
  have E1 := E.step g1
  refine jo_of h1 X Ft m G0 H0 σ G1 H1 E1 _ fun a G2 H2 h2 g2 => ?_
  have E2 := E1.step g2
  refine jo_of h2 X Ft m G0 H0 σ G2 H2 E2 _ fun b G3 H3 h3 g3 => ?_
  have E3 := E2.step g3
  have g13 := (g1.trans E.sok g2).trans E.sok g3
  cases r1 with
  | @lst t us _ ht lt =>
    have l3 := (lt.mono g2.ex).mono g3.ex
    refine ⟨t, us, rfl, .inl (.inl (E3.sub.1 _ _ (g3.ex _ _ (g2.ex _ _ ht)))), fun p hp => ?_⟩
    exact qv p _ _ G3 _ h3 (g13.trans E.sok (Good.hid hp)) (g13.back E.sok hp) (E3.sub.none hp) upd_same (l3.cut a b)
/-! ### {"a": x, "b": y} -/
theorem w_dict2 {k1 k2 : Str} {v1 v2 : Expr} {j1 j2 p1 p2 pos} (h : Wv c v1 Γ fun d1 => Wv c v2 Γ fun d2 => Q (.dct [.inr k1, .inr k2] [d1, d2])) (hk : (decide (k1 = k2)) = false := by decide +kernel) : Wv c (.Dict [some (.Constant (.str k1) j1 p1), some (.Constant (.str k2) j2 p2)] [v1, v2] pos) Γ Q := by
  intro X Ft m G0 H0 σ G H E Qv qv
  have hk' : ¬ k1 = k2 := of_decide_eq_false hk
  have Ft' := Ft
  obtain ⟨k0, er, tp, hx, rfl, hcold, hu0⟩ := Ft'
  refine ⟨_, pe_disp (pps_cons pe_str pe_je (pps_cons pe_str pe_je pps_nil)) rfl rfl (fun z => by cases z) (by simp), fun p hp => ?_⟩
  have g0 : Good m G H G (upd H p (.dK [])) := Good.hid hp
  have Ep := E.step g0
  have gp := E.sub.none hp
  refine h X Ft m G0 H0 σ G _ Ep _ fun x d1 G1 H1 h1 g1 r1 => ?_
  have E1 := Ep.step g1
  refine h1 X Ft m G0 H0 σ G1 H1 E1 _ fun y d2 G2 H2 h2 g2 r2 => ?_
  have E2 := E1.step g2
  have mp : m ≠ some p := fun z => E.sok.dom z hp
  have at1 := g1.st p _ mp upd_same
  have at2 := g2.st p _ mp at1
  have hid : ∀ {Ga Ha Gb Hb : Hp}, Good m Ga Ha Gb Hb → Ha p = some (.dK []) → Ga p = none → Gb p = none := fun {Ga Ha Gb Hb} g hh hn => by
    cases q : Gb p with
    | none => rfl
    | some o =>
      rcases g.gr p o q with z | ⟨z, _⟩
      · rw [hn] at z; cases z
      · rw [hh] at z; cases z
  have n1 := hid g1 upd_same gp
  have n2 := hid g2 at1 n1
  have g12 := (g0.trans E.sok g1).trans E.sok g2
  refine ⟨at2, [(.inr k1, x), (.inr k2, y)], rfl, by simp, ?_⟩
  have em : mergeK [] [((.inr k1 : Key), x), (.inr k2, y)] = [(.inr k1, x), (.inr k2, y)] := by
    unfold mergeK putK
    simp [hk']
  rw [em]
  refine qv _ _ _ _ h2 ((g12.mut E.sok hp n2).tell hp n2 upd_same) (Rep.dct (kvs := [(.inr k1, x), (.inr k2, y)]) (.inl upd_same) (by simp [hk']) ?_)
  exact .cons ((r1.mono g2.ex).mono (Ex.new n2)) (.cons (r2.mono (Ex.new n2)) .nil)
/-! ### len(set(t)), t a tuple of ints -/
theorem len_le_of_sub {α : Type} [DecidableEq α] : ∀ {l m : List α}, l.Nodup → (∀ x ∈ l, x ∈ m) → l.length ≤ m.length
  | [], _, _, _ => Nat.zero_le _
  | a :: l, m, nd, h => by
    have ha : a ∈ m := h a List.mem_cons_self
    have nd' := List.nodup_cons.mp nd
    have ih := len_le_of_sub (l := l) (m := m.erase a) nd'.2 fun x hx => (List.mem_erase_of_ne (fun e => nd'.1 (by rw [← e]; exact hx))).mpr (h x (List.mem_cons_of_mem _ hx))
    rw [List.length_erase_of_mem ha] at ih
    have := List.length_pos_of_mem ha
    rw [List.length_cons]
    omega
theorem nodup_of_len {α : Type} [DecidableEq α] : ∀ {m l : List α}, l.Nodup → (∀ x, x ∈ l ↔ x ∈ m) → m.length ≤ l.length → m.Nodup
  | [], _, _, _, _ => List.nodup_nil
  | a :: m, l, nd, h, hl => by
    have ha : a ∈ l := (h a).mpr List.mem_cons_self
    have nm : a ∉ m := fun q => by
      have q2 := len_le_of_sub (l := l) (m := m) nd fun x hx => by
        rcases List.mem_cons.mp ((h x).mp hx) with e | e
        · rw [e]; exact q
        · exact e
      rw [List.length_cons] at hl
      omega
    refine List.nodup_cons.mpr ⟨nm, nodup_of_len (l := l.erase a) (nd.erase a) (fun x => ?_) ?_⟩
    · by_cases e : x = a
      · subst e
        exact ⟨fun q => absurd q (fun z => (List.Nodup.mem_erase_iff nd).mp z |>.1 rfl), fun q => (nm q).elim⟩
      · rw [List.mem_erase_of_ne e, h x, List.mem_cons]
        exact ⟨fun q => q.resolve_left e, .inr⟩
    · rw [List.length_erase_of_mem ha]
      rw [List.length_cons] at hl
      omega
theorem card_iff {ns l : List Int} (nd : l.Nodup) (h : ∀ x, x ∈ l ↔ x ∈ ns) : l.length = ns.length ↔ ns.Nodup :=
  ⟨fun e => nodup_of_len nd h (Nat.le_of_eq e.symm), fun n => Nat.le_antisymm (len_le_of_sub nd fun x hx => (h x).mp hx) (len_le_of_sub n fun x hx => (h x).mpr hx)⟩
def tLenSetT (K : PySem.W.Frag) (ta : TE) : TE := fun σ H Q => ta σ H fun x H1 => ∃ (l : Addr) (ns : List Int), x = .ref l ∧ SqT K H1 l (ns.map V.int) ∧ ns.length ≤ 4000 ∧ ∀ z : Nat, (z = ns.length ↔ ns.Nodup) → Q (.int (z : Nat)) H1
theorem pe_lenSetT {X : Cx} {a : Expr} {ta : TE} {p p2 q pos : Pos} (hg : Gl X "len") (hm : X.mg "len" = none) (hg2 : Gl X "set") (hm2 : X.mg "set" = none) (ha : PE X a ta) (hc : X.calm = true)
    (na : starEach [a] X.env = (false, eval a X.env) :: starEach [] X.env) : PE X (.Call (.Name "len" p) [.Call (.Name "set" p2) [a] [] q] [] pos) (tLenSetT X.K ta) := by
  refine ⟨fun pins s σ H Q I h => ?_⟩
  refine Call_ (ld_blt I hg hm boot_len (callWith_builtin1 (args_cons (Call_ (ld_blt I hg2 hm2 boot_set (callWith_type1 (args_cons (thn (ha.run pins s σ H _ I h) fun v s1 ⟨x, H1, I1, r1, q1⟩ => args_nil ?_) na) na rfl))) rfl) rfl rfl))
  obtain ⟨l, ns, rfl, hq, hl, q1⟩ := q1
  cases r1
  obtain ⟨its, r, pl, hz⟩ := I1.tuple hq
  refine call_set_tupI ns (I1.ok.hd hc) pl (by simpa using RZ.intsAre_vals r) (by unfold scanBound; omega) fun h' tk n hS hn hk => args_nil ?_
  obtain ⟨o, es, ep, t, ho, hex, hd, he, nd, hmem, hsb, hf, hsz, _⟩ := hS
  have I2 : Inv X pins σ H1 { s1 with heap := h', toks := tk } := I1.kept fun b o e => hk b o e
  have card : n = ns.length ↔ ns.Nodup := by
    have e : (es.toList.map keyOf).length = n := by rw [List.length_map, Array.length_toList, hsz]
    rw [← e]
    refine card_iff nd fun x => ?_
    rw [← hmem x]
    exact decide_eq_true_iff
  refine call_len_set ho hex hd hf (by rw [hsz] <;> omega) ⟨.int n, H1, I2.tok _, ⟨_, by rw [hsz]⟩, q1 n card⟩
theorem w_lenSet [BI c.g] {a : Expr} {p p2 q pos : Pos} (h : Wv c a Γ fun d => ∃ ns : List Int, d = .tup (ns.map D.int) ∧ ns.length ≤ 4000 ∧ ∀ z : Nat, (z = ns.length ↔ ns.Nodup) → Q (.int (z : Nat))) (hg : c.sc.names.lookup ("len" : Str) = some .globalImplicit := by rfl) (hg2 : c.sc.names.lookup ("set" : Str) = some .globalImplicit := by rfl)
    (na : ∀ env, starEach [a] env = (false, eval a env) :: starEach [] env := by exact fun _ => rfl) (hh : c.hx = none := by rfl) : Wv c (.Call (.Name "len" p) [.Call (.Name "set" p2) [a] [] q] [] pos) Γ Q := by
  intro X Ft m G0 H0 σ G H E Qv qv
  have m1 := bi (c := c) "len"
  have m2 := bi (c := c) "set"
  have Ft' := Ft
  obtain ⟨k0, er, tp, hx, rfl, hcold, hu0⟩ := Ft'
  refine ⟨_, pe_lenSetT hg m1 hg2 m2 pe_je (hcold hh).1 (na _), h X Ft m G0 H0 σ G H E _ fun v d G1 H1 ⟨ns, e1, hl, h1⟩ g1 r1 => ?_⟩
  subst e1
  have E1 := E.step g1
  cases r1 with
  | @tup t us _ ht lt =>
    obtain rfl := lt.of_ints
    exact ⟨t, ns, rfl, ex_t E1.sub.1 ht, hl, fun z hz => qv _ _ G1 H1 (h1 z hz) g1 (.int _)⟩
/-! ### enumerate(l) -/
theorem walks_e {K : PySem.W.Frag} {m : Option Addr} {G : Hp} {a : Addr} {vs : List V} {ds : List D} (h : G a = some (.lst vs)) (l : RepL K m G vs ds) : Walks K m (Ite K a) ((List.range ds.length).map fun i => D.tup [.int (i : Nat), ds.getD i .non]) G := by
  intro G1 H1 i e s so
  have hs : SqL K H1 a vs := .inl (.inl (s.1 _ _ (e _ _ h)))
  refine ⟨fun d hd => ?_, fun hi => ⟨vs, hs, by rw [l.length, hi, List.length_map, List.length_range]; exact Nat.le_refl _⟩⟩
  rw [List.getElem?_map] at hd
  by_cases hi : i < ds.length
  · rw [List.getElem?_range hi] at hd
    cases hd
    obtain ⟨d, hd⟩ : ∃ d, ds[i]? = some d := ⟨_, List.getElem?_eq_getElem hi⟩
    obtain ⟨v, hv, r⟩ := l.get hd
    refine ⟨⟨vs, v, hs, hv⟩, fun x H2 ⟨T, z, e1, e2, e3, e4⟩ => ?_⟩
    subst e1 e3
    have q := e4 vs hs
    rw [hv] at q
    cases q
    refine ⟨upd G1 T (.tup [.int (i : Nat), v]), Good.laid s e2, .tup (.inl (.inl upd_same)) (.cons (.int _) (.cons ?_ .nil))⟩
    have ed : ds.getD i D.non = d := by rw [List.getD_eq_getElem?_getD, hd]; rfl
    show Rep K m _ v (ds.getD i D.non)
    rw [ed]
    exact (r.mono e).mono (Ex.new (s.none e2))
  · rw [List.getElem?_eq_none (by rw [List.length_range]; omega)] at hd
    cases hd
theorem wi_enum [BI c.g] {e : Expr} {elts : List Expr} {kk : Nat} {p pos tpos : Pos} {Q : List D → Prop} (h : Wv c e Γ fun d => ∃ ds, d = .lst ds ∧ Q ((List.range ds.length).map fun i => D.tup [.int (i : Nat), ds.getD i .non])) (hg : c.sc.names.lookup ("enumerate" : Str) = some .globalImplicit := by rfl)
    (na : ∀ env, starEach [e] env = (false, eval e env) :: starEach [] env := by exact fun _ => rfl) : WI c (.Tuple elts kk tpos) (.Call (.Name "enumerate" p) [e] [] pos) Γ Q := by
  intro X Ft m G0 H0 σ G H E R hR
  have m1 := bi (c := c) "enumerate"
  have Ft' := Ft
  obtain ⟨k0, er, tp, hx, rfl, hcold, hu0⟩ := Ft'
  refine ⟨_, pi_enum hg m1 (pa_cons pe_je pa_nil (na _)) (na _), h X Ft m G0 H0 σ G H E _ fun v d G1 H1 ⟨ds, e1, q⟩ g1 r1 => ?_⟩
  subst e1
  have E1 := E.step g1
  cases r1 with
  | @lst a vs _ ha la => exact ⟨a, vs, rfl, .inl (.inl (E1.sub.1 _ _ ha)), hR _ _ G1 H1 q g1 (walks_e ha la)⟩
end
end WL
set_option Elab.async false
set_option linter.all false
set_option maxRecDepth 100000
set_option maxHeartbeats 4000000
namespace WL
open PySem PySem.Spec PyProof.Rows L2 Evl
/-! ### own exceptions: made, raised -/
def spInit (K : PySem.W.Frag) (f : Str) : Sp := fun vs H Q _ => ∃ (a : Addr) (y : V) (C : Addr), vs = [.ref a, y] ∧ OexC K C ∧ PySem.W.findIn K (.ref C) f = some none ∧ H a = some (exo a C none) ∧
  ∀ dx, H dx = none → dx ≠ a → Q .non (upd (upd H dx (exd dx [(f, y)])) a (exo a C (some dx)))
theorem init_ok {P : Program} {w : World} {K : PySem.W.Frag} {mg : Str → Option Value} {base : Heap} {qual f : Str} {params : Arguments} {scope : Scope} {fI : Addr} {fd : FuncData} {p1 p2 p3 p4 : Pos}
    (F : FunD K "__init__" qual params [.Assign [.Attribute (.Name "self" p1) f p2] (.Name f p3) p4] scope [] [] fI fd) (sc : FnScope ["self", f] ["self", f] scope) (hv : Vis scope f) (hvs : Vis scope "self")
    (hd : (f == ("__debug__" : Str)) = false) (hcd : (f == ("__classdict__" : Str)) = false) : FnOk P w K mg base (L2.CX P w) 1 fI fd ["self", f] (spInit K f) := by
  refine F.ok sc (fun vs H Q E ⟨a, y, C, e, _⟩ => by rw [e]; rfl) fun cdv A outer s H vs Q E hr ⟨a, y, C, e, T, hno, ha, q⟩ => ?_
  subst e
  refine ⟨_, pss_one (ps_ost (pe_var (i := 0) rfl hvs (by decide) (by decide)) (pe_var (i := 1) rfl hv hd hcd)), ?_⟩
  exact ⟨y, rfl, .ref a, rfl, a, C, rfl, T, hno, .inl ⟨ha, fun dx n ne => q dx n ne⟩⟩
/-- the class x of exceptions with the one field f -/
structure XCls (g : Gx) (x f : Str) : Prop where
  ex : ∃ (C fI : Addr) (fd : FuncData), g.mg x = some (.ref C) ∧ OexC g.K C ∧ PySem.W.findIn g.K (.ref C) "__init__" = some (some (.ref fI)) ∧ PySem.W.typeIn g.K (.ref fI) = some (.type "function") ∧ PySem.W.findIn g.K (.ref C) f = some none ∧
    Binds g.K fd ["self", f] [] ∧ FnOk g.P g.w g.K g.mg g.base (L2.CX g.P g.w) 1 fI fd ["self", f] (spInit g.K f)
theorem passes_no {X : Cx} : Passes (L2.CX X.prog X.w) X (fun _ _ _ => False) := fun _ _ _ _ _ _ _ h => by
  obtain ⟨_, _, _, _, _, _, _, _, _, _, _, _, z⟩ := h
  exact z.elim
section
variable {c : Ct} {Γ : Gm} {E : Ends'}
theorem made_heap {H : Hp} {a dx C : Addr} {f : Str} {v : V} (ha : H a = none) (ne : dx ≠ a) : upd (del (upd (upd (upd H a (exo a C none)) dx (exd dx [(f, v)])) a (exo a C (some dx))) a) dx (.xd [(f, v)]) = upd H dx (.xd [(f, v)]) := by
  funext b
  by_cases hb : b = dx
  · subst hb; rw [upd_same, upd_same]
  · rw [upd_ne hb, upd_ne hb]
    by_cases hba : b = a
    · subst hba; rw [del_same, ha]
    · rw [del_ne hba, upd_ne hba, upd_ne hb, upd_ne hba]
theorem bs_raise1 {x f : Str} {e : Expr} {p cpos pos : Pos} (F : XCls c.g x f) (h : Wv c e Γ fun d => c.er ⟨x, [(f, d)]⟩ Γ) (hk : 2 ≤ c.k := by exact Nat.le_of_ble_eq_true rfl) (hh : c.hx = none := by rfl) (hg : c.sc.names.lookup x = some .globalImplicit := by rfl)
    (hdb : (x == ("__debug__" : Str)) = false := by decide) (he : ∀ env, starEach [e] env = (false, eval e env) :: starEach [] env := by exact fun _ => rfl) (hpl : ∀ env, (backTo cpos (starEach [] env)).any (·.1) = false := by exact fun _ => rfl) : BS c (.Raise (some (.Call (.Name x p) [e] [] cpos)) none pos) Γ E := by
  intro X Ft m G0 H0 σ G H En Dd f'
  have Ft' := Ft
  obtain ⟨k0, er, tp, hx, rfl, hcold, hu0⟩ := Ft'
  obtain ⟨C, fI, fd, hm, T, iC, tI, hno, hb, F1⟩ := F.ex
  obtain ⟨⟨W, tk, hW⟩, _⟩ := En.xh
  obtain ⟨hc, hro, hpo⟩ := hcold hh
  refine ⟨_, ps_raise hc tk (pmk_oex T iC tI F1 (hro.mono hk) hb .nil passes_no hg hm (pa_cons pe_je pa_nil (he _)) hdb (he _) (hpl _)), ?_⟩
  refine h X Ft m G0 H0 σ G H En _ fun v d G1 H1 h1 g1 r1 => ⟨by simp, fun a ha => ?_⟩
  refine ⟨a, v, C, rfl, T, hno, upd_same, fun dx n ne => ⟨rfl, dx, [(f, v)], upd_same, by rw [upd_ne ne, upd_same], ?_, ?_⟩⟩
  · rw [upd_ne ne] at n; exact n
  · have n1 : H1 dx = none := by rw [upd_ne ne] at n; exact n
    rw [made_heap ha ne]
    have E1 := En.step g1
    have g2 : Good m G1 H1 G1 (upd H1 dx (.xd [(f, v)])) := Good.hid n1
    exact hW ⟨x, [(f, d)]⟩ Γ σ G1 _ _ _ h1 (E1.toEn0.step g2) ⟨C, hm, rfl, .inr ⟨dx, [(f, v)], rfl, upd_same, rfl, .cons r1 .nil⟩⟩
end
/-! ### try: .. except x as n: .. -/
/-- lists of one's own are let go -/
def Sl.hush : Sl → Sl
  | .own _ => .emp
  | .ownd _ _ => .emp
  | s => s
abbrev hushed (Γ : Gm) : Gm := Γ.map Sl.hush
theorem Sl.hush_own (s : Sl) : s.hush.isOwn = false := by cases s <;> rfl
abbrev Ct.hot (c : Ct) (a : Addr) (z : Exn) : Ct := { c with hx := some (a, z), er := fun _ _ => False }
section
variable {K : PySem.W.Frag} {m : Option Addr} {G0 H0 G H G1 H1 : Hp} {Γ Γ1 : Gm} {σ σ1 : L2.St}
theorem En0.none (E : En0 K m G0 H0 Γ σ G H) (i : Nat) : En0 K m G0 H0 (Γ.set i .emp) (σ.set i none) G H := by
  refine ⟨E.sub, E.sok, by rw [List.length_set, List.length_set]; exact E.len, fun j s h => ?_, fun j1 j2 s u b h1 h2 o1 o2 e1 e2 => ?_, E.good, E.sok0, E.sub0⟩
  · rcases get_set h with ⟨rfl, rfl, lt⟩ | ⟨ne, h⟩
    · trivial
    · rw [List.getElem?_set_ne ne]
      exact E.slot j s h
  · rcases get_set h1 with ⟨rfl, rfl, lt⟩ | ⟨ne1, h1⟩
    · cases o1
    · rcases get_set h2 with ⟨z, rfl, lt2⟩ | ⟨ne2, h2⟩
      · cases o2
      · rw [List.getElem?_set_ne ne1] at e1
        rw [List.getElem?_set_ne ne2] at e2
        exact E.apart _ _ _ _ _ h1 h2 o1 o2 e1 e2
theorem En0.hushed (E : En0 K m G0 H0 Γ σ G H) : En0 K m G H (hushed Γ) σ G H := by
  have key : ∀ (i : Nat) (s : Sl), (WL.hushed Γ)[i]? = some s → s.isOwn = false ∧ SlotOk K m H G H s σ[i]? := fun i s h => by
    rw [List.getElem?_map] at h
    cases q : Γ[i]? with
    | none => rw [q] at h; cases h
    | some u =>
      rw [q] at h
      cases h
      refine ⟨Sl.hush_own u, ?_⟩
      have z := E.slot i u q
      cases u with
      | emp => trivial
      | val d => exact z
      | own ds => trivial
      | ownd ks ds => trivial
  refine ⟨E.sub, E.sok, by rw [List.length_map]; exact E.len, fun i s h => (key i s h).2, fun i j s u a h1 h2 o1 o2 _ _ => ?_, Good.refl, E.sok, E.sub⟩
  rw [(key i s h1).1] at o1
  cases o1
/-- seen from an earlier entry -/
theorem En0.early (E : En0 K m G0 H0 Γ σ G H) (E1 : En0 K m G H Γ1 σ1 G1 H1) : En0 K m G0 H0 Γ1 σ1 G1 H1 := by
  refine ⟨E1.sub, E1.sok, E1.len, fun i s h => ?_, E1.apart, E.good.trans E.sok0 E1.good, E.sok0, E.sub0⟩
  have z := E1.slot i s h
  cases s with
  | emp => trivial
  | val d => exact z
  | own ds =>
    obtain ⟨a, vs, e, h0, h1⟩ := z
    exact ⟨a, vs, e, E.good.back E.sok0 h0, h1⟩
  | ownd ks ds =>
    obtain ⟨a, vs, e, h0, h1⟩ := z
    exact ⟨a, vs, e, E.good.back E.sok0 h0, h1⟩
end
section
variable {c : Ct} {Γ : Gm} {E : Ends'}
theorem bs_tryAs {x n : Str} {body suite : List Stmt} {b₀ : Stmt} {np pos pos' : Pos} {cv : Value} (ct : Str → Option Bool) (i : Nat) (nd : c.N.Nodup) (hm : c.mg x = some cv)
    (hct : ∀ nm b C, ct nm = some b → c.mg nm = some (.ref C) → PySem.W.exmOne c.K (.ref C) cv = some b)
    (hb : BL { c with er := fun z Γ' => ∃ b, ct z.name = some b ∧ if b = true then ∀ a, BL (c.hot a z) (b₀ :: suite) ((hushed Γ').set i (.val (.raw (.ref a)))) { nx := fun Γ'' => E.nx (Γ''.set i .emp), rt := E.rt, bk := fun Γ'' => E.bk (Γ''.set i .emp), ct := fun Γ'' => E.ct (Γ''.set i .emp) } else ∀ Γ₀, c.er z Γ₀ } body (hushed Γ) E)
    (hN : c.N[i]? = some n := by rfl) (hln : c.sc.names.lookup n = some .local := by rfl) (hg : c.sc.names.lookup x = some .globalImplicit := by rfl) (hdb : (x == ("__debug__" : Str)) = false := by decide) (hh : c.hx = none := by rfl) (htp : c.tp = true := by rfl) :
    BS c (.Try body [.ExceptHandler (some (.Name x np)) (some n) (b₀ :: suite) pos'] [] [] pos) Γ E := by
  intro X Ft m G0 H0 σ G H E0 Dd fin
  have Ft' := Ft
  obtain ⟨k0, er, tp, hx, rfl, hcold, hu0⟩ := Ft'
  obtain rfl : hx = none := hh
  obtain rfl : tp = true := htp
  obtain ⟨hc, hro, hpo, hst⟩ := hcold rfl
  obtain ⟨hs, hf⟩ := hst rfl
  obtain ⟨⟨W, tk, hW⟩, _⟩ := E0.xh
  let ts : Addr → Value → Option Addr → TS := fun a cls d => fun D σ H => ∀ (oe : Obj) (pn : List (Addr × Obj)), Zc cls d oe → (∃ vs, oe.data = .fields vs) → JS (X.suite a ((a, oe) :: pn)) (b₀ :: suite) D σ H
  let tb : WX → TS := fun W' => fun D σ H => ∀ (pn : List (Addr × Obj)) (xe : Value → Shared → Prop), Takes (X.tr pn xe) W' → PassesOwn (model X.prog X.w) X.A X.env xe → JS (X.tr pn xe) body D σ H
  refine ⟨_, ps_try_as (i := i) (tb := tb) (ts := ts) (Wout := W) hs hf nd hN hln ⟨hg, hdb, .inl hm⟩ tk (fun W' pn xe t p => ⟨fun pins s σ H D I h => pss_js.run pins s σ H D I (h pn xe t p)⟩) (fun a oe cls d pn z v => ⟨fun pins s σ H D I h => pss_js.run pins s σ H D I (h oe pn z v)⟩), ?_⟩
  intro pn xe tk' hpo'
  have Fb : ∀ er', Fits { Ct.of X k0 er true none with er := er' } (X.tr pn xe) := fun er' => ⟨k0, er', true, none, rfl, fun _ => ⟨hc, hro, hpo', fun _ => ⟨hs, hf⟩⟩, hu0⟩
  refine hb (X.tr pn xe) (Fb _) m G H σ G H ⟨E0.toEn0.hushed, ⟨⟨_, tk', fun z Γ' σ' G' H' cls d hz E1 rz => ?_⟩, fun a x z => nomatch z⟩⟩ Dd ?_
  · obtain ⟨b, e1, e2⟩ := hz
    obtain ⟨C, f1, f2, f3⟩ := rz
    subst f2
    refine ⟨b, hct _ _ _ e1 f1, fun eb a ha => ?_, fun eb => ?_⟩
    · subst eb
      have e3 := e2 a
      intro oe pn2 hz2 hf2
      have Fh : Fits ((Ct.of X k0 er true none).hot a z) (X.suite a ((a, oe) :: pn2)) := ⟨k0, _, true, some (a, z), rfl, (fun q => by cases q), ⟨hu0.dp, hu0.un⟩⟩
      have E1' : En0 X.K m G' H' ((hushed Γ').set i (.val (.raw (.ref a)))) (σ'.set i (some (.ref a))) G' H' := (E1.hushed).set i (.raw _)
      refine e3 (X.suite a ((a, oe) :: pn2)) Fh m G' H' _ G' H' ⟨E1', ⟨⟨_, takes0, fun _ _ _ _ _ _ _ q => q.elim⟩, fun a' x' q => ?_⟩⟩ _ ?_
      · cases q
        exact ⟨oe, List.mem_cons_self, hf2, .ref C, d, hz2.1, hz2.2, C, f1, rfl, f3⟩
      · have back : ∀ {Γ'' : Gm} {σ'' : L2.St} {G'' H'' : Hp}, En ((Ct.of X k0 er true none).hot a z) (X.suite a ((a, oe) :: pn2)) m G' H' Γ'' σ'' G'' H'' → En (Ct.of X k0 er true none) X m G0 H0 (Γ''.set i .emp) (σ''.set i none) G'' H'' := fun E'' => ⟨(E0.toEn0.early (E1.early E''.toEn0)).none i, E0.xh⟩
        have ex : ∀ {G'' : Hp}, Ex G' G'' → Ex G G'' := fun x => Ex.trans E1.good.ex x
        exact ⟨fun Γ'' σ'' G'' H'' q x E'' => fin.nx _ _ _ _ q (ex x) (back E''), fun v d G'' H'' q x g r => fin.rt v d G'' H'' q (ex x) ((E0.good.trans E0.sok0 E1.good).trans E0.sok0 g) r,
          fun Γ'' σ'' G'' H'' q x E'' => fin.bk _ _ _ _ q (ex x) (back E''), fun Γ'' σ'' G'' H'' q x E'' => fin.ct _ _ _ _ q (ex x) (back E'')⟩
    · subst eb
      have e3 : ∀ Γ₀, er z Γ₀ := e2
      have E2 := E0.toEn0.early E1
      exact hW z Γ' σ' G' H' _ d (e3 _) E2 ⟨C, f1, rfl, f3⟩
  · have back : ∀ {er' : Exn → Gm → Prop} {Γ'' : Gm} {σ'' : L2.St} {G'' H'' : Hp}, En { Ct.of X k0 er true none with er := er' } (X.tr pn xe) m G H Γ'' σ'' G'' H'' → En (Ct.of X k0 er true none) X m G0 H0 Γ'' σ'' G'' H'' := fun E'' => ⟨E0.toEn0.early E''.toEn0, E0.xh⟩
    exact ⟨fun Γ'' σ'' G'' H'' q x E'' => fin.nx _ _ _ _ q x (back E''), fun v d G'' H'' q x g r => fin.rt v d G'' H'' q x (E0.good.trans E0.sok0 g) r,
      fun Γ'' σ'' G'' H'' q x E'' => fin.bk _ _ _ _ q x (back E''), fun Γ'' σ'' G'' H'' q x E'' => fin.ct _ _ _ _ q x (back E'')⟩
end
end WL
set_option Elab.async false
set_option linter.all false
set_option maxRecDepth 100000
set_option maxHeartbeats 4000000
namespace WL
open PySem PySem.Spec PyProof.Rows L2 Evl
/-! ### the package's exceptions -/
class XW (g : Gx) : Prop where
  cls : ∀ x ∈ exNames, ∃ C, g.mg x = some (.ref C) ∧ ExcC g.K C ∧ PySem.W.kitCls g.K (.ref C) (.type "ValueError") = some true ∧ ∀ f ∈ exFlds, PySem.W.findIn g.K (.ref C) f = some none
  sub : ∀ x ∈ exNames, ∀ y ∈ exNames, ∀ C D, g.mg x = some (.ref C) → g.mg y = some (.ref D) → PySem.W.kitCls g.K (.ref C) (.ref D) = some (exSub x y)
theorem exm_of {g : Gx} [w : XW g] {x y : Str} {C D : Addr} (hx : x ∈ exNames) (hy : y ∈ exNames) (hC : g.mg x = some (.ref C)) (hD : g.mg y = some (.ref D)) : PySem.W.exmOne g.K (.ref C) (.ref D) = some (exSub x y) := by
  obtain ⟨D', e, T, _⟩ := w.cls y hy
  rw [hD] at e
  cases e
  unfold PySem.W.exmOne
  rw [T.hs, if_pos (by rfl)]
  exact w.sub x hx y hy C D hC hD
theorem kit_of {g : Gx} [w : XW g] {x y : Str} {C D : Addr} (hx : x ∈ exNames) (hy : y ∈ exNames) (hC : g.mg x = some (.ref C)) (hD : g.mg y = some (.ref D)) : PySem.W.kitOne g.K (.ref C) (.ref D) = some (exSub x y) := by
  have e := w.sub x hx y hy C D hC hD
  unfold PySem.W.kitOne
  split
  · rename_i h
    have h2 : C = D := Value.ref.inj (beq_iff_eq.mp h)
    subst h2
    have e2 := w.sub x hx x hx C C hC hC
    rw [e] at e2
    rw [Option.some.inj e2]
    unfold exSub
    rw [decide_eq_true rfl] <;> rfl
  · exact e
/-- isinstance(e, c), e an exception that is held -/
theorem call_isX {X : Cx} {a C : Addr} {oe : Obj} (hp : (a, oe) ∈ X.pn) (hf : ∃ vs, oe.data = .fields vs) (hcls : oe.cls = .ref C) (T : ExcC X.K C) : CallR X (.builtin "isinstance") (fun xs H Q => ∃ (cv : V) (u : Value) (b : Bool), xs = [.ref a, cv] ∧ (∀ u', RelV cv u' → u' = u) ∧
    PySem.W.kitOne X.K (.ref C) u = some b ∧ (oe.dict = none ∨ ∃ dd fs, oe.dict = some dd ∧ H dd = some (.xd fs)) ∧ Q (.bl b) H) := by
  intro pins s σ H xs us Q I r ⟨cv, u, b, ex, hu, ek, hd, q⟩
  subst ex
  obtain ⟨u1, u2, eu, ra, rc⟩ : ∃ u1 u2, us = [u1, u2] ∧ RelV (.ref a) u1 ∧ RelV cv u2 := by
    cases r with
    | cons r1 r2 => cases r2 with
      | cons r3 r4 => cases r4; exact ⟨_, _, rfl, r1, r3⟩
  subst eu
  obtain rfl := hu _ rc
  cases ra
  have hat := (I.pin (a, oe) (List.mem_append_left _ hp)).1
  obtain ⟨vs, hvs⟩ := hf
  have key : ∃ od, PySem.W.InstAt s.heap a oe C od := by
    have hno : PySem.W.notCls oe = true := by unfold PySem.W.notCls; rw [hvs] <;> rfl
    rcases hd with hd | ⟨dd, fs, hd, hx⟩
    · exact ⟨none, hat, hcls, hno, by rw [hd]; trivial⟩
    · have hok : ObjOk X.prog X.w H s.heap dd (.xd fs) := I.hok dd _ hx
      obtain ⟨mA, hns, _⟩ := hok
      obtain ⟨od, ho, _⟩ := lookIn_ns hns
      exact ⟨some od, hat, hcls, hno, by rw [hd]; exact ho⟩
  obtain ⟨od, J⟩ := key
  have hcl : (PySem.W.clsIn X.K C).isSome = true := by
    have q2 := T.hd
    unfold PySem.W.hasDictIn at q2
    cases z : PySem.W.clsIn X.K C with
    | none => rw [z] at q2; cases q2
    | some cd => rfl
  exact PySem.W.kia_one (PySem.W.kitx_exc hcl T.hg T.hk T.hs T.ha T.hn T.ht T.hm) I.kIn J ek (fun z => nomatch z) fun tk => ⟨.bl b, H, I.kept (t' := tk) fun _ _ z => z, rfl, q⟩
/-- e.f, e an exception that is held -/
theorem pe_fldX {X : Cx} {a C dd : Addr} {oe : Obj} {e : Expr} {te : TE} {pos : Pos} {n : Str} (hp : (a, oe) ∈ X.pn) (hf : ∃ vs, oe.data = .fields vs) (hcls : oe.cls = .ref C) (hdd : oe.dict = some dd) (T : ExcC X.K C) (hno : PySem.W.findIn X.K (.ref C) n = some none) (he : PE X e te)
    (hb : attributeBase e n X.env (eval e X.env) = eval e X.env) : PE X (.Attribute e n pos) (fun σ H Q => te σ H fun x H1 => x = .ref a ∧ ∃ (fs : List (Str × V)) (v : V), H1 dd = some (.xd fs) ∧ fs.lookup n = some v ∧ Q v H1) := by
  refine ⟨fun pins s σ H Q I h => attr_of hb (thn (he.run pins s σ H _ I h) fun u s1 ⟨x, H1, I1, rx, ex, fs, v, hx, hl, q⟩ => ?_)⟩
  subst ex
  cases rx
  have hat := (I1.pin (a, oe) (List.mem_append_left _ hp)).1
  obtain ⟨vs, hvs⟩ := hf
  have hok : ObjOk X.prog X.w H1 s1.heap dd (.xd fs) := I1.hok dd _ hx
  obtain ⟨mA, hns, hr⟩ := hok
  obtain ⟨od, ho, hlk⟩ := lookIn_ns hns
  obtain ⟨u, hu, ru⟩ := RelO.some_of (v := v) (o := mA n) (by rw [← hl]; exact hr n)
  have hnc : PySem.W.notCls oe = true := by unfold PySem.W.notCls; rw [hvs] <;> rfl
  have J : PySem.W.InstAt s1.heap a oe C (some od) := ⟨hat, hcls, hnc, by rw [hdd]; exact ho⟩
  have fo : PySem.W.findObj X.K C (some od) n = some (.value u) := PySem.W.findObj_own T.hd hno rfl (by rw [hlk, hu])
  exact HandSPX.exc_get I1.kIn J T.hg T.hk T.hs fo (handed_of ru) ⟨v, H1, I1.tok _, ru, q⟩
section
variable {c : Ct} {Γ : Gm} {Q : D → Prop}
/-- what is known of the exception that is handled -/
theorem hot_now {X : Cx} {m : Option Addr} {G0 H0 G H : Hp} {σ : L2.St} (E : En c X m G0 H0 Γ σ G H) {a : Addr} {z : Exn} (h : c.hx = some (a, z)) : ∃ oe, (a, oe) ∈ X.pn ∧ (∃ vs, oe.data = .fields vs) ∧ ExRep c.K c.mg m G H z oe.cls oe.dict := by
  obtain ⟨_, hot⟩ := E.xh
  obtain ⟨oe, h1, h2, cls, d, rfl, rfl, C, e1, e2, e3⟩ := hot a z h
  refine ⟨oe, h1, h2, C, e1, e2, ?_⟩
  rcases e3 with e3 | ⟨dd, fs, f1, f2, f3, f4⟩
  · exact .inl e3
  · refine .inr ⟨dd, fs, f1, E.good.st _ _ (fun q => ?_) f2, f3, f4.mono E.good.ex⟩
    obtain ⟨_, _, _, _, h3, _⟩ := E.sok0 dd q
    rw [f2] at h3
    cases h3
theorem xd_of {K : PySem.W.Frag} {mg : Str → Option Value} {m : Option Addr} {G H : Hp} {z : Exn} {oe : Obj} (r : ExRep K mg m G H z oe.cls oe.dict) : oe.dict = none ∨ ∃ dd fs, oe.dict = some dd ∧ H dd = some (.xd fs) := by
  obtain ⟨C, _, _, e⟩ := r
  rcases e with ⟨_, e⟩ | ⟨dd, fs, e1, e2, _⟩
  · exact .inl e
  · exact .inr ⟨dd, fs, e1, e2⟩
theorem w_isX [XW c.g] [BI c.g] {e1 y : Str} {p p1 p2 pos : Pos} {a : Addr} {z : Exn} (i : Nat) (hx : c.hx = some (a, z)) (hz : z.name ∈ exNames) (hi : Γ[i]? = some (.val (.raw (.ref a)))) (hy : y ∈ exNames) (q : Q (.bl (exSub z.name y))) (hN : c.N[i]? = some e1 := by rfl)
    (hv : Vis c.sc e1 := by first | exact Or.inl rfl | exact Or.inr (Or.inl rfl) | exact Or.inr (Or.inr rfl)) (hd : (e1 == ("__debug__" : Str)) = false := by decide) (hcd : (e1 == ("__classdict__" : Str)) = false := by decide)
    (hg : c.sc.names.lookup ("isinstance" : Str) = some .globalImplicit := by rfl) (hg2 : c.sc.names.lookup y = some .globalImplicit := by rfl) (hdy : (y == ("__debug__" : Str)) = false := by decide) : Wv c (.Call (.Name "isinstance" p) [.Name e1 p1, .Name y p2] [] pos) Γ Q := by
  intro X Ft m G0 H0 σ G H E Qv qv
  have hm := bi (c := c) "isinstance"
  obtain ⟨D, hD, TD, _⟩ := XW.cls (g := c.g) y hy
  obtain ⟨oe, hp, hf, C, hC, hcls, hrest⟩ := hot_now E hx
  have hxd := xd_of (⟨C, hC, hcls, hrest⟩ : ExRep c.K c.mg m G H z oe.cls oe.dict)
  obtain ⟨C', hC', TC, _⟩ := XW.cls (g := c.g) z.name hz
  have hC2 : c.g.mg z.name = some (.ref C) := hC
  rw [hC'] at hC2
  cases hC2
  have kit := kit_of (g := c.g) hz hy hC' hD
  have Ft' := Ft
  obtain ⟨k0, er, tp, hx', rfl, hcold, hu0⟩ := Ft'
  obtain ⟨v, ev, rv⟩ := E.slot i _ hi
  cases rv
  refine ⟨_, pe_callB (call_isX hp hf hcls TC) hg hm (by decide +kernel) (pa_cons (pe_var hN hv hd hcd) (pa_cons (pe_glob (v := .ref D) hg2 hD rfl hdy) pa_nil rfl) rfl), .ref a, ev, ?_⟩
  exact ⟨.ref D, .ref D, _, rfl, fun u' r => r, kit, hxd, qv _ _ G H q Good.refl (.bl _)⟩
theorem w_isVE [XW c.g] [BI c.g] {e1 : Str} {p p1 p2 pos : Pos} {a : Addr} {z : Exn} (i : Nat) (hx : c.hx = some (a, z)) (hz : z.name ∈ exNames) (hi : Γ[i]? = some (.val (.raw (.ref a)))) (hve : c.mg "ValueError" = none) (q : Q (.bl true)) (hN : c.N[i]? = some e1 := by rfl)
    (hv : Vis c.sc e1 := by first | exact Or.inl rfl | exact Or.inr (Or.inl rfl) | exact Or.inr (Or.inr rfl)) (hd : (e1 == ("__debug__" : Str)) = false := by decide) (hcd : (e1 == ("__classdict__" : Str)) = false := by decide)
    (hg : c.sc.names.lookup ("isinstance" : Str) = some .globalImplicit := by rfl) (hg2 : c.sc.names.lookup ("ValueError" : Str) = some .globalImplicit := by rfl) : Wv c (.Call (.Name "isinstance" p) [.Name e1 p1, .Name "ValueError" p2] [] pos) Γ Q := by
  intro X Ft m G0 H0 σ G H E Qv qv
  have hm := bi (c := c) "isinstance"
  obtain ⟨oe, hp, hf, C, hC, hcls, hrest⟩ := hot_now E hx
  have hxd := xd_of (⟨C, hC, hcls, hrest⟩ : ExRep c.K c.mg m G H z oe.cls oe.dict)
  obtain ⟨C', hC', TC, hVE, _⟩ := XW.cls (g := c.g) z.name hz
  have hC2 : c.g.mg z.name = some (.ref C) := hC
  rw [hC'] at hC2
  cases hC2
  have kit : PySem.W.kitOne c.g.K (.ref C) (.type "ValueError") = some true := by
    unfold PySem.W.kitOne
    split
    · rfl
    · exact hVE
  have Ft' := Ft
  obtain ⟨k0, er, tp, hx', rfl, hcold, hu0⟩ := Ft'
  obtain ⟨v, ev, rv⟩ := E.slot i _ hi
  cases rv
  refine ⟨_, pe_callB (call_isX hp hf hcls TC) hg hm (by decide +kernel) (pa_cons (pe_var hN hv hd hcd) (pa_cons (pe_bltn (v := .ty "ValueError") hg2 hve (by decide +kernel) rfl) pa_nil rfl) rfl), .ref a, ev, ?_⟩
  exact ⟨.ty "ValueError", .type "ValueError", _, rfl, fun u' r => r, kit, hxd, qv _ _ G H q Good.refl (.bl _)⟩
theorem flds_look {K : PySem.W.Frag} {m : Option Addr} {G : Hp} {f : Str} {d : D} : ∀ {fs : List (Str × V)} {ds : List (Str × D)}, fs.map (·.1) = ds.map (·.1) → RepL K m G (fs.map (·.2)) (ds.map (·.2)) → ds.lookup f = some d → ∃ v, fs.lookup f = some v ∧ Rep K m G v d
  | [], [], _, _, h => by cases h
  | [], _ :: _, e, _, _ => by cases e
  | _ :: _, [], e, _, _ => by cases e
  | (x, v) :: fs, (y, u) :: ds, e, .cons r l, h => by
    have e1 : x = y := (List.cons.inj e).1
    have e2 := (List.cons.inj e).2
    subst e1
    rw [lookup_put]
    have h' : (if f = x then some u else ds.lookup f) = some d := by
      rw [← h]
      by_cases q : f = x
      · subst q; rw [if_pos rfl]; simp [List.lookup]
      · rw [if_neg q]
        have q2 : (f == x) = false := by simpa using q
        simp [List.lookup, q2]
    by_cases q : f = x
    · rw [if_pos q] at h' ⊢
      cases h'
      exact ⟨v, rfl, r⟩
    · rw [if_neg q] at h' ⊢
      exact flds_look e2 l h'
theorem w_fld [XW c.g] {e1 f : Str} {p1 pos : Pos} {a : Addr} {z : Exn} {d : D} (i : Nat) (hx : c.hx = some (a, z)) (hz : z.name ∈ exNames) (hi : Γ[i]? = some (.val (.raw (.ref a)))) (hf1 : f ∈ exFlds) (hl : z.flds.lookup f = some d) (q : Q d) (hN : c.N[i]? = some e1 := by rfl)
    (hv : Vis c.sc e1 := by first | exact Or.inl rfl | exact Or.inr (Or.inl rfl) | exact Or.inr (Or.inr rfl)) (hd : (e1 == ("__debug__" : Str)) = false := by decide) (hcd : (e1 == ("__classdict__" : Str)) = false := by decide)
    (hb : ∀ env, attributeBase (.Name e1 p1) f env (eval (.Name e1 p1) env) = eval (.Name e1 p1) env := by exact fun _ => rfl) : Wv c (.Attribute (.Name e1 p1) f pos) Γ Q := by
  intro X Ft m G0 H0 σ G H E Qv qv
  obtain ⟨oe, hp, hf, C, hC, hcls, hrest⟩ := hot_now E hx
  obtain ⟨C', hC', TC, _, hno⟩ := XW.cls (g := c.g) z.name hz
  have hC2 : c.g.mg z.name = some (.ref C) := hC
  rw [hC'] at hC2
  cases hC2
  rcases hrest with ⟨e, _⟩ | ⟨dd, fs, h1, h2, h3, h4⟩
  · rw [e] at hl
    cases hl
  · obtain ⟨u, hu, ru⟩ := flds_look h3 h4 hl
    have Ft' := Ft
    obtain ⟨k0, er, tp, hx', rfl, hcold, hu0⟩ := Ft'
    obtain ⟨v, ev, rv⟩ := E.slot i _ hi
    cases rv
    exact ⟨_, pe_fldX hp hf hcls h1 TC (hno f hf1) (pe_var hN hv hd hcd) (hb _), .ref a, ev, rfl, fs, u, h2, hu, qv u d G H q Good.refl ru⟩
end
end WL
set_option Elab.async false
set_option linter.all false
set_option maxRecDepth 100000
set_option maxHeartbeats 4000000
namespace WL
open PySem PySem.Spec PyProof.Rows L2 Evl
/-! ### defs called while an exception is handled; nothing leaves them -/
/-- where, which, the arguments, what is wanted of each answer -/
abbrev HSp := Addr → Exn → List D → (D → Prop) → Prop
def SpX (g : Gx) (S : HSp) (p : Addr × Obj) (vs : List V) (H : Hp) (Q : VK) : Prop := ∃ (m : Option Addr) (G : Hp) (z : Exn) (ds : List D) (Qd : D → Prop), Sub m G H ∧ SOk m G H ∧ RepL g.K m G vs ds ∧ (∃ vs, p.2.data = .fields vs) ∧ ExRep g.K g.mg m G H z p.2.cls p.2.dict ∧ S p.1 z ds Qd ∧
  ∀ v d G' H', Qd d → Good m G H G' H' → Rep g.K m G' v d → Q v H'
def RunX (g : Gx) (f : Addr) (fd : FuncData) (ps : List Str) (k : Nat) (S : HSp) : Prop :=
  ∀ (A : Around) (outer : List Env) (s : Shared) (H : Hp) (args : Args) (us : List Value) (vs : List V) (Q : VK) (p : Addr × Obj), L2H.RoomH k A → L2H.PinOk outer H s p → Env0 g.P g.w g.K g.mg g.base A outer s H → BindsTo s fd args (ps.zip us) → Vals vs us → SpX g S p vs H Q →
    codeAny (model g.P g.w) A (.call (.ref f) args) (CR (L2.CX g.P g.w) outer g.P g.w H s Q fun _ _ _ => False) s
structure FnX (g : Gx) (x : Str) (k : Nat) (S : HSp) : Prop where
  ex : ∃ (f : Addr) (fd : FuncData) (ps : List Str), g.mg x = some (.ref f) ∧ PySem.W.keepIn g.K (.ref f) = true ∧ Binds g.K fd ps [] ∧ (∀ a z ds Q, S a z ds Q → ds.length = ps.length) ∧ RunX g f fd ps k S
theorem RunX.mono {g : Gx} {f : Addr} {fd : FuncData} {ps : List Str} {j k : Nat} {S : HSp} (h : RunX g f fd ps j S) (l : j ≤ k) : RunX g f fd ps k S := fun A outer s H args us vs Q p hr => h A outer s H args us vs Q p (hr.mono l)
section
variable {c : Ct} {Γ : Gm} {Q : D → Prop}
theorem pe_callX {X : Cx} {x : Str} {q pos : Pos} {e : Expr} {es : List Expr} {t : TA} {f : Addr} {fd : FuncData} {ps : List Str} {k : Nat} {S : HSp} {p : Addr × Obj} (R : RunX ⟨X.prog, X.w, X.K, X.mg, X.base⟩ f fd ps k S) (hlen : ∀ a z ds Q, S a z ds Q → ds.length = ps.length)
    (hr : L2H.RoomH k X.A) (hp : p ∈ X.pn) (hg : Gl X x) (hm : X.mg x = some (.ref f)) (hk : PySem.W.keepIn X.K (.ref f) = true) (hb : Binds X.K fd ps []) (ht : PA X (e :: es) t) (hdb : (x == ("__debug__" : Str)) = false)
    (hst : starEach (e :: es) X.env = (false, eval e X.env) :: starEach es X.env) (hpl : (backTo pos (starEach es X.env)).any (·.1) = false) : PE X (.Call (.Name x q) (e :: es) [] pos) (fun σ H Q => t σ H fun vs H1 => SpX ⟨X.prog, X.w, X.K, X.mg, X.base⟩ S p vs H1 Q) := by
  refine ⟨fun pins s0 σ H0 Qv I0 h0 => wpAny_Call_Name_kw (ld_glob I0 hg hm ?_ hdb)⟩
  refine PySem.W.callWith_K (h₀ := X.base) I0.ok.mod.kin hk (thn (ht.run pos pins s0 σ H0 _ I0 h0) fun ws s2 ⟨ys, H2, I2, r2, q2⟩ => ⟨I2.kIn, ?_⟩) hst hpl
  have hl : ws.length = ps.length := by
    obtain ⟨m, G, z, ds, Qd, _, _, rl, _, _, hS, _⟩ := q2
    rw [← r2.length, rl.length]
    exact hlen _ _ _ _ hS
  have hbt := hb s2 ws I2.kIn (by rw [List.append_nil]; exact hl)
  rw [List.append_nil] at hbt
  obtain ⟨n1, n2, n3, n4, n5⟩ := I2.pin p (List.mem_append_left _ hp)
  have pin : L2H.PinOk X.stack H2 s2 p := ⟨n1, n2, fun hmem => by
    rcases List.mem_cons.mp (I2.stkSub p.1 hmem) with z | z
    · exact n3 z
    · exact n4 z, n5⟩
  refine wpAny_call (codeAny_mono (R X.A X.stack s2 H2 ⟨ws, []⟩ ws ys Qv p hr pin I2.env0 hbt r2 q2) fun r s3 hq => ?_)
  cases r with
  | error er => exact (passes_no (X := X)) pins σ H2 s2 er s3 I2 hq
  | ok fl =>
    cases fl with
    | ret u => exact I2.after hq
    | next => exact False.elim hq
    | brk => exact False.elim hq
    | cont => exact False.elim hq
theorem w_callX {x : Str} {p pos : Pos} {e : Expr} {es : List Expr} {k : Nat} {S : HSp} {a : Addr} {z : Exn} (F : FnX c.g x k S) (hx : c.hx = some (a, z)) (h : WA c (e :: es) Γ fun ds => S a z ds Q) (hk : k ≤ c.k := by exact Nat.le_of_ble_eq_true rfl) (hg : c.sc.names.lookup x = some .globalImplicit := by rfl) (hdb : (x == ("__debug__" : Str)) = false := by decide)
    (he : ∀ env, starEach (e :: es) env = (false, eval e env) :: starEach es env := by exact fun _ => rfl) (hpl : ∀ env, (backTo pos (starEach es env)).any (·.1) = false := by exact fun _ => rfl) : Wv c (.Call (.Name x p) (e :: es) [] pos) Γ Q := by
  intro X Ft m G0 H0 σ G H E Qv qv
  obtain ⟨f, fd, ps, hm, hkp, hb, hlen, R⟩ := F.ex
  obtain ⟨oe, hp, hf, rx⟩ := hot_now E hx
  have Ft' := Ft
  obtain ⟨k0, er, tp, hx', rfl, hcold, hu0⟩ := Ft'
  refine ⟨_, pe_callX R hlen (hu0.mono hk) hp hg hm hkp hb pa_ja hdb (he _) (hpl _), h X Ft m G0 H0 σ G H E _ fun vs ds G1 H1 h1 g1 r1 => ?_⟩
  have E1 := E.step g1
  obtain ⟨oe1, hp1, hf1, rx1⟩ := hot_now E1 hx
  have rx2 : ExRep X.K X.mg m G1 H1 z oe.cls oe.dict := by
    obtain ⟨C, c1, c2, c3⟩ := rx
    refine ⟨C, c1, c2, ?_⟩
    rcases c3 with c3 | ⟨dd, fs, d1, d2, d3, d4⟩
    · exact .inl c3
    · refine .inr ⟨dd, fs, d1, g1.st _ _ (fun q => ?_) d2, d3, d4.mono g1.ex⟩
      obtain ⟨_, _, _, _, h3, _⟩ := E.sok dd q
      rw [d2] at h3
      cases h3
  exact ⟨m, G1, z, ds, Q, E1.sub, E1.sok, r1, hf, rx2, h1, fun v d G2 H2 h2 g2 r2 => qv v d G2 H2 h2 (g1.trans E.sok g2) r2⟩
end
/-- the context of such a def's body -/
abbrev Ct.defX (g : Gx) (N : List Str) (sc : Scope) (k : Nat) (a : Addr) (z : Exn) : Ct := ⟨g, N, sc, fun _ => true, k, fun _ _ => False, true, some (a, z)⟩
section
variable {g : Gx}
theorem runX_mk {x qual : Str} {params : Arguments} {body : List Stmt} {scope : Scope} {kws : List (Str × V)} {dvs : List V} {f : Addr} {fd : FuncData} {N ps : List Str} {k : Nat} {S : HSp} (F : FunD g.K x qual params body scope dvs kws f fd) (sc : FnScope N ps scope) (len : ∀ a z ds Q, S a z ds Q → ds.length = ps.length)
    (hb : ∀ a z ds Q, S a z ds Q → BL (Ct.defX g N scope k a z) body (Γ0 N ds) { nx := fun _ => Q .non, rt := Q }) : RunX g f fd ps (k + 1) S := by
  obtain ⟨oc, od, dV, kV, doc, pm, an, cdv, ct, osl, rfl, lk, hcd, _, _⟩ := F.ex
  intro A outer s H args us vs Q p hr hpin e0 hbt r ⟨m, G, z, ds, Qd, sub, so, rl, hf, rx, hS, qv⟩
  have ld := len _ _ _ _ hS
  have hlen : vs.length = ds.length := rl.length
  have hkin : g.K.In s.heap := e0.mod.kin.keeps fun b o q => (e0.bs b o q).1
  have hnl : s.heap.NoLimit := e0.mod.nolimit.keeps fun b o q => (e0.bs b o q).1
  have hpar : ∀ y ∈ ps.zip us, scope.names.lookup y.1 = some .local ∨ (scope.names.lookup y.1 = some .cell ∧ ((cellsFrom (s.heap.objs.size + 1) scope.names []).lookup y.1).isSome = true) := fun ⟨n, v⟩ hy => (sc.par n (List.of_mem_zip hy).1).imp id fun q => ⟨q, PySem.W.cellsFrom_some _ _ _ (.inl q)⟩
  refine codeAny_call_function hr.depth (hkin _ _ lk) rfl sc.co sc.gen rfl (PySem.W.codeRec_of hkin hcd) (hbt _ _ _ _ (wpAny_newFunctionEnv_cells sc.kind hpar fun env he s1 x1 => ?_))
  subst he
  refine ⟨hnl.keeps x1.toInCall.keep, codeAny_func ?_⟩
  have I := L2H.inv_startH (CX := L2.CX g.P g.w) (E := fun _ _ _ => False) sc hpin e0 (hlen.trans ld) r x1
  have hN : ds.length ≤ N.length := by
    have q := congrArg List.length sc.pre
    rw [List.length_take] at q
    omega
  have B := hb p.1 z ds Qd hS
  let D : Ends := { nx := fun _ H' => Q .non H', rt := Q }
  let X := L2H.cxH (L2.CX g.P g.w) g.P g.w g.K g.mg g.base N qual scope f cdv A outer s H (fun _ _ _ => False) p
  have body_ok : JS X body D (L2.start N vs) H := by
    refine B X ⟨k, fun _ _ => False, true, some (p.1, z), rfl, (fun q => by cases q), hr.deeper _⟩ m G H _ G H ⟨⟨sub, so, ?_, fun i s hs => ?_, fun i j s u a h1 h2 o1 o2 _ _ => ?_, Good.refl, so, sub⟩, ⟨⟨_, takes0, fun _ _ _ _ _ _ _ q => q.elim⟩, fun a' x' q => ?_⟩⟩ D ⟨?_, ?_, ?_, ?_⟩
    · unfold L2.start Γ0
      rw [List.length_append, List.length_append, List.length_map, List.length_map, List.length_replicate, List.length_replicate, hlen]
    · unfold Γ0 at hs
      unfold L2.start
      rw [hlen]
      rcases start_val _ i s rl hs with e | ⟨v, d, e, e2, rv⟩
      · subst e; trivial
      · subst e; exact ⟨v, e2, rv⟩
    · unfold Γ0 at h1
      rcases start_val _ i s rl h1 with e | ⟨v, d, e, _, _⟩
      · subst e; cases o1
      · subst e; cases o1
    · cases q
      exact ⟨p.2, List.mem_singleton.mpr rfl, hf, p.2.cls, p.2.dict, rfl, rfl, rx⟩
    · exact fun Γ' σ' G' H' q _ E' => qv _ _ _ _ q E'.good .non
    · exact fun v d G' H' q _ gd rv => qv v d G' H' q gd rv
    · exact fun _ _ _ _ q => q.elim
    · exact fun _ _ _ _ q => q.elim
  refine wpAny_mono (pss_js.run [] s1 (L2.start N vs) H D I body_ok) (fun fl s' hs => ?_) fun e s' hs => hs
  have fin : ∀ {σ' : L2.St} {H' : Hp} {v : V} {u : Value}, Inv X [] σ' H' s' → RelV v u → Q v H' → CE outer g.P g.w H s Q u s' := fun J rv q => ⟨_, _, J.os, J.bare, J.base, J.hok, rv, q⟩
  cases fl with
  | ret u =>
    obtain ⟨v, σ', H', J, rv, q⟩ := hs
    exact fin J rv q
  | next =>
    obtain ⟨σ', H', J, q⟩ := hs
    exact fin (v := V.non) (u := Value.none) J rfl q
  | brk =>
    obtain ⟨_, _, _, q⟩ := hs
    exact q.elim
  | cont =>
    obtain ⟨_, _, _, q⟩ := hs
    exact q.elim
theorem fnX_mk {x qual : Str} {params : Arguments} {body : List Stmt} {scope : Scope} {kws : List (Str × V)} {f : Addr} {fd : FuncData} {N ps : List Str} {k : Nat} {S : HSp} (F : FunD g.K x qual params body scope [] kws f fd) (hm : g.mg x = some (.ref f)) (sc : FnScope N ps scope) (b : Binds g.K fd ps []) (len : ∀ a z ds Q, S a z ds Q → ds.length = ps.length)
    (hb : ∀ a z ds Q, S a z ds Q → BL (Ct.defX g N scope k a z) body (Γ0 N ds) { nx := fun _ => Q .non, rt := Q }) : FnX g x (k + 1) S :=
  ⟨f, fd, ps, hm, F.kp, b, len, runX_mk F sc len hb⟩
/-- the rule for a def that may be raised in -/
theorem fnD_ok {x qual : Str} {params : Arguments} {body : List Stmt} {scope : Scope} {kws : List (Str × V)} {dvs : List V} {f : Addr} {fd : FuncData} {N ps : List Str} {k : Nat} {S : DSp} (F : FunD g.K x qual params body scope dvs kws f fd) (sc : FnScope N ps scope) (len : ∀ ds Q E, S ds Q E → ds.length = ps.length)
    (hb : ∀ ds Q E, S ds Q E → BL (Ct.def g N scope k E) body (Γ0 N ds) { nx := fun _ => Q .non, rt := Q }) : FnOk g.P g.w g.K g.mg g.base (L2.CX g.P g.w) (k + 1) f fd ps (SpOf g.K g.mg S) := by
  refine F.ok sc (fun vs H Q E ⟨m, G, ds, Qd, Ed, _, _, r, h, _⟩ => ?_) (fun cdv A outer s H vs Q E hr ⟨m, G, ds, Qd, Ed, sub, so, r, h, hq, he⟩ => ?_)
  · rw [r.length]
    exact len _ _ _ h
  · have hlen : vs.length = ds.length := r.length
    have hN : ds.length ≤ N.length := by
      have q := congrArg List.length sc.pre
      rw [List.length_take] at q
      have q2 := len _ _ _ h
      omega
    have B := hb ds Qd Ed h
    refine ⟨_, pss_js, B _ ⟨k, fun x _ => Ed x, true, none, rfl, fun _ => ⟨rfl, hr, passes_of rfl, fun _ => ⟨rfl, rfl⟩⟩, L2H.roomH_of hr⟩ m G H _ G H ⟨⟨sub, so, ?_, fun i s hs => ?_, fun i j s u a h1 h2 o1 o2 _ _ => ?_, Good.refl, so, sub⟩, ⟨⟨fun cls d _ H => E cls d H, takes_of rfl rfl rfl rfl, fun z Γ σ G' H' cls d hz E0 rz => he z cls d G' H' hz E0.good rz⟩, fun a x z => nomatch z⟩⟩ _ ⟨?_, ?_, ?_, ?_⟩⟩
    · unfold L2.start Γ0
      rw [List.length_append, List.length_append, List.length_map, List.length_map, List.length_replicate, List.length_replicate, hlen]
    · unfold Γ0 at hs
      unfold L2.start
      rw [hlen]
      rcases start_val _ i s r hs with e | ⟨v, d, e, e2, rv⟩
      · subst e; trivial
      · subst e; exact ⟨v, e2, rv⟩
    · unfold Γ0 at h1
      rcases start_val _ i s r h1 with e | ⟨v, d, e, _, _⟩
      · subst e; cases o1
      · subst e; cases o1
    · exact fun Γ' σ' G' H' q _ E' => hq _ _ _ _ q E'.good .non
    · exact fun v d G' H' q _ gd rv => hq v d G' H' q gd rv
    · exact fun _ _ _ _ q => q.elim
    · exact fun _ _ _ _ q => q.elim
theorem fnD_mk {x qual : Str} {params : Arguments} {body : List Stmt} {scope : Scope} {kws : List (Str × V)} {f : Addr} {fd : FuncData} {N ps : List Str} {k : Nat} {S : DSp} (F : FunD g.K x qual params body scope [] kws f fd) (hm : g.mg x = some (.ref f)) (sc : FnScope N ps scope) (b : Binds g.K fd ps []) (len : ∀ ds Q E, S ds Q E → ds.length = ps.length)
    (hb : ∀ ds Q E, S ds Q E → BL (Ct.def g N scope k E) body (Γ0 N ds) { nx := fun _ => Q .non, rt := Q }) : FnG g x (k + 1) S :=
  ⟨f, fd, ps, [], [], hm, F.kp, b, .nil, fun _ _ => .nil, fnD_ok F sc len hb⟩
end
end WL
set_option Elab.async false
set_option linter.all false
set_option maxRecDepth 100000
set_option maxHeartbeats 4000000
namespace WL
open PySem PySem.Spec PyProof.Rows L2 Evl
/-! ### flat data: None, truth values, numbers, texts -/
def D.fv : D → Option V
  | .non => some .non
  | .bl b => some (.bl b)
  | .int i => some (.int i)
  | .str s => some (.str s)
  | _ => none
def fvs : List D → Option (List V)
  | [] => some []
  | d :: ds => match d.fv, fvs ds with
    | some v, some vs => some (v :: vs)
    | _, _ => none
theorem fv_ok {K : PySem.W.Frag} {m : Option Addr} {G : Hp} {v u : V} {d : D} (r : Rep K m G v d) (h : d.fv = some u) : v = u ∧ flatV u = true := by
  cases r <;> first | (cases h; done) | (cases h; exact ⟨rfl, rfl⟩)
theorem fvs_ok {K : PySem.W.Frag} {m : Option Addr} {G : Hp} : ∀ {vs us : List V} {ds : List D}, RepL K m G vs ds → fvs ds = some us → vs = us ∧ us.all flatV = true
  | _, _, _, .nil, h => by cases h; exact ⟨rfl, rfl⟩
  | _, _, _, .cons (d := d) (ds := ds) r l, h => by
    unfold fvs at h
    cases e : d.fv with
    | none => rw [e] at h; cases h
    | some u =>
      cases e2 : fvs ds with
      | none => rw [e, e2] at h; cases h
      | some us =>
        rw [e, e2] at h
        cases h
        obtain ⟨a1, a2⟩ := fv_ok r e
        obtain ⟨b1, b2⟩ := fvs_ok l e2
        subst a1 b1
        exact ⟨rfl, by rw [List.all_cons, a2, b2] <;> rfl⟩
theorem fvs_bl : ∀ bs : List Bool, fvs (bs.map D.bl) = some (bs.map V.bl)
  | [] => rfl
  | b :: bs => by
    show (match (D.bl b).fv, fvs (bs.map D.bl) with | some v, some vs => some (v :: vs) | _, _ => none) = _
    rw [fvs_bl bs] <;> rfl
theorem fvs_str : ∀ bs : List Str, fvs (bs.map D.str) = some (bs.map V.str)
  | [] => rfl
  | b :: bs => by
    show (match (D.str b).fv, fvs (bs.map D.str) with | some v, some vs => some (v :: vs) | _, _ => none) = _
    rw [fvs_str bs] <;> rfl
theorem fvs_int : ∀ bs : List Int, fvs (bs.map D.int) = some (bs.map V.int)
  | [] => rfl
  | b :: bs => by
    show (match (D.int b).fv, fvs (bs.map D.int) with | some v, some vs => some (v :: vs) | _, _ => none) = _
    rw [fvs_int bs] <;> rfl
section
variable {c : Ct} {Γ : Gm} {Q : D → Prop}
theorem seq_sq {K : PySem.W.Frag} {m : Option Addr} {G H : Hp} {v : V} {d : D} {ds : List D} (s : Sub m G H) (r : Rep K m G v d) (h : d.seq = some ds) : ∃ a vs, v = .ref a ∧ (SqL K H a vs ∨ SqT K H a vs) ∧ RepL K m G vs ds := by
  cases r <;> first | (cases h; done) | skip
  · rename_i a xs ds' ha la
    cases h
    exact ⟨a, xs, rfl, .inr (ex_t s.1 ha), la⟩
  · rename_i a xs ds' ha la
    cases h
    exact ⟨a, xs, rfl, .inl (.inl (.inl (s.1 _ _ ha))), la⟩
theorem d_in : Op2 c (compareOp .In) (fun x y Q => ∃ v ds vs, x.fv = some v ∧ y.seq = some ds ∧ fvs ds = some vs ∧ Q (.bl (inV v vs))) := by
  rintro X ⟨k0, er, tp, hx, rfl, hcold, hu0⟩
  refine ⟨_, op_in_seq, fun m G H x y dx dy Q Qv s1 s2 rx ry ⟨v, ds, vs, e1, e2, e3, q⟩ k => ?_⟩
  obtain ⟨rfl, fx⟩ := fv_ok rx e1
  obtain ⟨a, us, rfl, hs, rl⟩ := seq_sq s1 ry e2
  obtain ⟨rfl, fs⟩ := fvs_ok rl e3
  exact ⟨a, us, rfl, hs, fx, fs, k _ _ G H q Good.refl (.bl _)⟩
theorem d_notin : Op2 c (compareOp .NotIn) (fun x y Q => ∃ v ds vs, x.fv = some v ∧ y.seq = some ds ∧ fvs ds = some vs ∧ Q (.bl (!inV v vs))) := by
  rintro X ⟨k0, er, tp, hx, rfl, hcold, hu0⟩
  refine ⟨_, op_notIn_seq, fun m G H x y dx dy Q Qv s1 s2 rx ry ⟨v, ds, vs, e1, e2, e3, q⟩ k => ?_⟩
  obtain ⟨rfl, fx⟩ := fv_ok rx e1
  obtain ⟨a, us, rfl, hs, rl⟩ := seq_sq s1 ry e2
  obtain ⟨rfl, fs⟩ := fvs_ok rl e3
  exact ⟨a, us, rfl, hs, fx, fs, k _ _ G H q Good.refl (.bl _)⟩
/-! ### methods that change nothing -/
def OpM (c : Ct) (id : String) (F : D → List D → (D → Prop) → Prop) : Prop :=
  ∀ X, Fits c X → ∃ r : V → List V → Hp → VK → Prop, MtR X id r ∧ ∀ m G H x xs dx ds (Q : D → Prop) (Qv : VK), Sub m G H → SOk m G H → Rep c.K m G x dx → RepL c.K m G xs ds → F dx ds Q →
    (∀ v d G' H', Q d → Good m G H G' H' → Rep c.K m G' v d → Qv v H') → r x xs H Qv
theorem eqU_countP {y : V} : ∀ {vs : List V} {us : List Value}, Vals vs us → vs.all flatV = true → us.countP (eqU y) = vs.countP (fun x => eqV x y)
  | _, _, .nil, _ => rfl
  | v :: vs, u :: us, .cons r t, f => by
    rw [List.all_cons, Bool.and_eq_true] at f
    rw [List.countP_cons, List.countP_cons, eqU_countP t f.2, eqU_of r f.1]
theorem mt_countF {X : Cx} : MtR X "list.count" (fun x xs H Q => ∃ (a : Addr) (vs : List V) (y : V), x = .ref a ∧ xs = [y] ∧ SqL X.K H a vs ∧ flatV y = true ∧ vs.all flatV = true ∧ Q (.int (vs.countP fun z => eqV z y : Nat)) H) := by
  intro pins s σ H x xs v us Q I rx rxs ⟨a, vs, y, ex, exs, hs, fy, fv, q⟩
  subst ex exs
  cases rx
  obtain ⟨u, rfl, ru⟩ := rxs.one
  obtain ⟨its, rv, ⟨⟨cls, dd, data, sl⟩, n, ho, hc, hdn, hd⟩, hlen⟩ := I.list hs
  simp only at hc hd
  subst hc hd
  refine call_meets PySem.F.slot_list_count ⟨_, ho, rfl⟩ PySem.F.entry_list_count (PySem.F.args_list_count_2 _ _) (SeqAt.list_countAt a its.toArray n dd sl u (eqU y)) ⟨ho, fun w hw => mem_eqAt ru fy rv fv w (by simpa using hw), ?_⟩
  have ec : its.toArray.toList.countP (eqU y) = vs.countP (fun z => eqV z y) := eqU_countP rv fv
  refine ⟨.int (vs.countP fun z => eqV z y : Nat), H, I.tok _, ⟨s.toks, ?_⟩, q⟩
  rw [ec]
theorem o_count : OpM c "list.count" (fun x ds Q => ∃ xs y v vs, x = .lst xs ∧ ds = [y] ∧ y.fv = some v ∧ fvs xs = some vs ∧ Q (.int (vs.countP fun z => eqV z v : Nat))) := by
  rintro X ⟨k0, er, tp, hx, rfl, hcold, hu0⟩
  refine ⟨_, mt_countF, fun m G H x xs dx ds Q Qv s1 s2 rx rxs ⟨ys, y, v, vs, e1, e2, e3, e4, q⟩ k => ?_⟩
  subst e1 e2
  obtain ⟨w, rfl, rw'⟩ := repL1 rxs
  obtain ⟨rfl, fw⟩ := fv_ok rw' e3
  cases rx with
  | @lst a us _ ha la =>
    obtain ⟨rfl, fu⟩ := fvs_ok la e4
    exact ⟨a, us, w, rfl, rfl, .inl (.inl (s1.1 _ _ ha)), fw, fu, k _ _ G H q Good.refl (.int _)⟩
theorem o_index : OpM c "list.index" (fun x ds Q => ∃ xs y v vs j z, x = .lst xs ∧ ds = [y] ∧ y.fv = some v ∧ fvs xs = some vs ∧ vs[j]? = some z ∧ eqV z v = true ∧ (∀ i z', i < j → vs[i]? = some z' → eqV z' v = false) ∧ Q (.int (j : Nat))) := by
  rintro X ⟨k0, er, tp, hx, rfl, hcold, hu0⟩
  refine ⟨_, mt_index, fun m G H x xs dx ds Q Qv s1 s2 rx rxs ⟨ys, y, v, vs, j, z, e1, e2, e3, e4, e5, e6, e7, q⟩ k => ?_⟩
  subst e1 e2
  obtain ⟨w, rfl, rw'⟩ := repL1 rxs
  obtain ⟨rfl, fw⟩ := fv_ok rw' e3
  cases rx with
  | @lst a us _ ha la =>
    obtain ⟨rfl, fu⟩ := fvs_ok la e4
    exact ⟨a, us, w, j, z, rfl, rfl, .inl (.inl (s1.1 _ _ ha)), fw, fu, e5, e6, e7, k _ _ G H q Good.refl (.int _)⟩
theorem o_split : OpM c "str.split" (fun x ds Q => ∃ a b, x = .str a ∧ ds = [.str b] ∧ (b.length == 0) = false ∧ a.length ≤ 100000 ∧ Q (.lst ((Txt.split a b).map D.str))) := by
  rintro X ⟨k0, er, tp, hx, rfl, hcold, hu0⟩
  refine ⟨_, mt_split, fun m G H x xs dx ds Q Qv s1 s2 rx rxs ⟨a, b, e1, e2, hb, ha, q⟩ k => ?_⟩
  subst e1 e2
  obtain ⟨w, rfl, rw'⟩ := repL1 rxs
  cases rw'
  cases rx
  refine ⟨a, b, rfl, rfl, hb, Nat.le_trans (Nat.add_le_add_right ha 2) (by decide), fun p hp => ?_⟩
  have rs : ∀ ys : List Str, RepL X.K m G (ys.map V.str) (ys.map D.str) := fun ys => by
    induction ys with
    | nil => exact .nil
    | cons z zs ih => exact .cons (.str z) ih
  exact k _ _ _ _ q (Good.laid s1 hp) (.lst upd_same ((rs _).mono (Ex.new (s1.none hp))))
/-- the type that a method stands at -/
theorem tyL {K : PySem.W.Frag} {m : Option Addr} {G H : Hp} (s : Sub m G H) {x : V} {ds : List D} (r : Rep K m G x (.lst ds)) : tyV K "list" x H := by
  cases r with
  | @lst a us _ ha la => exact sq_own (s.1 _ _ ha)
theorem w_meth {T id : String} {name : Str} {o e : Expr} {es : List Expr} {apos cpos : Pos} {F : D → List D → (D → Prop) → Prop} (ho : OpM c id F) (pa : PlainAttrs T) (slot : Slot T name id) (hty : typeOf (.builtin id) = pure (.type "method_descriptor"))
    (h : Wv c o Γ fun x => (∀ K m G H v, Sub m G H → Rep K m G v x → tyV K T v H) ∧ WA c (e :: es) Γ fun ds => F x ds Q) (hbase : ∀ env, attributeBase o name env (eval o env) = eval o env := by exact fun _ => rfl)
    (hfew : ∀ env, ((backTo cpos (starEach (e :: es) env)).all (fun x => !x.1) && (backToKw cpos (keywordEach [] env)).all (fun x => x.1.isSome) && decide ((e :: es).length + ([] : List Keyword).length + (if ([] : List Keyword).isEmpty then 0 else 1) < 30)) = true := by exact fun _ => rfl)
    (hline : (apos.endLine == cpos.line) = true := by rfl) (hs : ∀ env, starEach (e :: es) env = (false, eval e env) :: starEach es env := by exact fun _ => rfl) (hpl : ∀ env, (backTo cpos (starEach es env)).any (·.1) = false := by exact fun _ => rfl) : Wv c (.Call (.Attribute o name apos) (e :: es) [] cpos) Γ Q := by
  intro X Ft m G0 H0 σ G H E Qv qv
  obtain ⟨r, hr, R⟩ := ho X Ft
  refine ⟨_, pe_bm pa slot hty hr pe_je pa_ja (hbase _) (hfew _) hline (hs _) (hpl _), h X Ft m G0 H0 σ G H E _ fun v d G1 H1 ⟨ht, h1⟩ g1 r1 => ?_⟩
  have E1 := E.step g1
  refine ⟨?_, ?_⟩
  · have z := ht c.K m G1 H1 v E1.sub r1
    obtain ⟨k0, er, tp, hx, rfl, hcold, hu0⟩ := Ft
    exact z
  · refine h1 X Ft m G0 H0 σ G1 H1 E1 _ fun vs ds G2 H2 h2 g2 r2 => ?_
    have E2 := E1.step g2
    exact R m G2 H2 v vs d ds Q Qv E2.sub E2.sok (r1.mono g2.ex) r2 h2 fun w d' G3 H3 h3 g3 r3 => qv w d' G3 H3 h3 ((g1.trans E.sok g2).trans E.sok g3) r3
theorem w_count {o e : Expr} {apos cpos : Pos} (h : Wv c o Γ fun x => ∃ xs, x = .lst xs ∧ WA c [e] Γ fun ds => ∃ y v vs, ds = [y] ∧ y.fv = some v ∧ fvs xs = some vs ∧ Q (.int (vs.countP fun z => eqV z v : Nat))) (hbase : ∀ env, attributeBase o "count" env (eval o env) = eval o env := by exact fun _ => rfl)
    (hfew : ∀ env, ((backTo cpos (starEach [e] env)).all (fun x => !x.1) && (backToKw cpos (keywordEach [] env)).all (fun x => x.1.isSome) && decide ([e].length + ([] : List Keyword).length + (if ([] : List Keyword).isEmpty then 0 else 1) < 30)) = true := by exact fun _ => rfl)
    (hline : (apos.endLine == cpos.line) = true := by rfl) (hs : ∀ env, starEach [e] env = (false, eval e env) :: starEach [] env := by exact fun _ => rfl) : Wv c (.Call (.Attribute o "count" apos) [e] [] cpos) Γ Q :=
  w_meth o_count PySem.F.plainAttrs_list PySem.F.slot_list_count PySem.F.type_list_count (h.imp fun x ⟨xs, e1, h1⟩ => by
    subst e1
    exact ⟨fun K m G H v s r => tyL s r, fun X Ft m G0 H0 σ G H E Qv qv => h1 X Ft m G0 H0 σ G H E Qv fun vs ds G' H' ⟨y, v, us, a1, a2, a3, a4⟩ => qv vs ds G' H' ⟨xs, y, v, us, rfl, a1, a2, a3, a4⟩⟩) hbase hfew hline hs
theorem w_index {o e : Expr} {apos cpos : Pos} (h : Wv c o Γ fun x => ∃ xs, x = .lst xs ∧ WA c [e] Γ fun ds => ∃ y v vs j z, ds = [y] ∧ y.fv = some v ∧ fvs xs = some vs ∧ vs[j]? = some z ∧ eqV z v = true ∧ (∀ i z', i < j → vs[i]? = some z' → eqV z' v = false) ∧ Q (.int (j : Nat))) (hbase : ∀ env, attributeBase o "index" env (eval o env) = eval o env := by exact fun _ => rfl)
    (hfew : ∀ env, ((backTo cpos (starEach [e] env)).all (fun x => !x.1) && (backToKw cpos (keywordEach [] env)).all (fun x => x.1.isSome) && decide ([e].length + ([] : List Keyword).length + (if ([] : List Keyword).isEmpty then 0 else 1) < 30)) = true := by exact fun _ => rfl)
    (hline : (apos.endLine == cpos.line) = true := by rfl) (hs : ∀ env, starEach [e] env = (false, eval e env) :: starEach [] env := by exact fun _ => rfl) : Wv c (.Call (.Attribute o "index" apos) [e] [] cpos) Γ Q :=
  w_meth o_index PySem.F.plainAttrs_list PySem.F.slot_list_index PySem.F.type_list_index (h.imp fun x ⟨xs, e1, h1⟩ => by
    subst e1
    exact ⟨fun K m G H v s r => tyL s r, fun X Ft m G0 H0 σ G H E Qv qv => h1 X Ft m G0 H0 σ G H E Qv fun vs ds G' H' ⟨y, v, us, j, z, a1, a2⟩ => qv vs ds G' H' ⟨xs, y, v, us, j, z, rfl, a1, a2⟩⟩) hbase hfew hline hs
theorem w_split {o e : Expr} {apos cpos : Pos} (h : Wv c o Γ fun x => ∃ a, x = .str a ∧ WA c [e] Γ fun ds => ∃ b, ds = [.str b] ∧ (b.length == 0) = false ∧ a.length ≤ 100000 ∧ Q (.lst ((Txt.split a b).map D.str))) (hbase : ∀ env, attributeBase o "split" env (eval o env) = eval o env := by exact fun _ => rfl)
    (hfew : ∀ env, ((backTo cpos (starEach [e] env)).all (fun x => !x.1) && (backToKw cpos (keywordEach [] env)).all (fun x => x.1.isSome) && decide ([e].length + ([] : List Keyword).length + (if ([] : List Keyword).isEmpty then 0 else 1) < 30)) = true := by exact fun _ => rfl)
    (hline : (apos.endLine == cpos.line) = true := by rfl) (hs : ∀ env, starEach [e] env = (false, eval e env) :: starEach [] env := by exact fun _ => rfl) : Wv c (.Call (.Attribute o "split" apos) [e] [] cpos) Γ Q :=
  w_meth o_split F.plainAttrs_str F.slot_str_split F.type_str_split (h.imp fun x ⟨xs, e1, h1⟩ => by
    subst e1
    exact ⟨fun K m G H v s r => by cases r; exact rfl, fun X Ft m G0 H0 σ G H E Qv qv => h1 X Ft m G0 H0 σ G H E Qv fun vs ds G' H' ⟨b, a1, a2⟩ => qv vs ds G' H' ⟨xs, b, rfl, a1, a2⟩⟩) hbase hfew hline hs
end
end WL
set_option Elab.async false
set_option linter.all false
set_option maxRecDepth 100000
set_option maxHeartbeats 4000000
namespace WL
open PySem PySem.Spec PyProof.Rows L2 Evl
/-! ### the stream of drawn numbers: [the script, a cell, a count] -/
theorem d_fdiv {c : Ct} : Op2 c (binaryOp .FloorDiv) (fun x y Q => ∃ i j, x = .int i ∧ y = .int j ∧ CDiv i j ∧ Q (.int (i / j))) := op2_I _ (fun _ _ _ _ _ => .int _) fun _ => op_fdiv
section
variable {c : Ct} {Γ : Gm} {Q : D → Prop} {E : Ends'}
theorem strm_at {X : Cx} {m : Option Addr} {G0 H0 G H : Hp} {σ : L2.St} (E : En c X m G0 H0 Γ σ G H) {i : Nat} (hi : Γ[i]? = some (.val .strm)) : ∃ s, σ[i]? = some (some (V.ref s)) ∧ m = some s ∧ StreamAt G H s := by
  obtain ⟨v, e, r⟩ := E.slot i _ hi
  cases r with
  | @strm s h => exact ⟨s, e, h, E.sok s h⟩
theorem w_st1 {x : Str} {p p2 pos : Pos} {j : Nat} (i : Nat) (hi : Γ[i]? = some (.val .strm)) (q : ∀ z, Q (.int z)) (hN : c.N[i]? = some x := by rfl) (hv : Vis c.sc x := by first | exact Or.inl rfl | exact Or.inr (Or.inl rfl) | exact Or.inr (Or.inr rfl))
    (hd : (x == ("__debug__" : Str)) = false := by decide) (hcd : (x == ("__classdict__" : Str)) = false := by decide) (hs : PlainIx (.Constant (.int 1) j p2) := by exact fun _ _ => rfl) : Wv c (.Subscript (.Name x p) (.Constant (.int 1) j p2) pos) Γ Q := by
  rintro X ⟨k0, er, tp, hx, rfl, hcold, hu0⟩ m G0 H0 σ G H E Qv qv
  obtain ⟨s, e, hm, a, cc, k, ns, h1, h2, h3, h4⟩ := strm_at E hi
  exact ⟨_, pe_ix ix_list (pe_var hN hv hd hcd) pe_int hs, _, e, s, _, 1, .int cc, rfl, rfl, .inl (.inl h1), rfl, qv _ _ G H (q cc) Good.refl (.int _)⟩
theorem w_st2 {x : Str} {p p2 pos : Pos} {j : Nat} (i : Nat) (hi : Γ[i]? = some (.val .strm)) (q : ∀ z, 0 ≤ z → Q (.int z)) (hN : c.N[i]? = some x := by rfl) (hv : Vis c.sc x := by first | exact Or.inl rfl | exact Or.inr (Or.inl rfl) | exact Or.inr (Or.inr rfl))
    (hd : (x == ("__debug__" : Str)) = false := by decide) (hcd : (x == ("__classdict__" : Str)) = false := by decide) (hs : PlainIx (.Constant (.int 2) j p2) := by exact fun _ _ => rfl) : Wv c (.Subscript (.Name x p) (.Constant (.int 2) j p2) pos) Γ Q := by
  rintro X ⟨k0, er, tp, hx, rfl, hcold, hu0⟩ m G0 H0 σ G H E Qv qv
  obtain ⟨s, e, hm, a, cc, k, ns, h1, h2, h3, h4⟩ := strm_at E hi
  exact ⟨_, pe_ix ix_list (pe_var hN hv hd hcd) pe_int hs, _, e, s, _, 2, .int k, rfl, rfl, .inl (.inl h1), rfl, qv _ _ G H (q k h3) Good.refl (.int _)⟩
theorem good_st {m : Option Addr} {G H : Hp} {s a : Addr} {cc k : Int} {ns : List Int} (hm : m = some s) (b : Sub m G H) (h2 : G a = some (.lst (ns.map V.int))) (h3 : 0 ≤ k) (h4 : ns.length ≤ 63) : Good m G H G (upd H s (.lst [.ref a, .int cc, .int k])) := by
  refine ⟨fun x o n h => ?_, fun _ z e => ?_, fun x o h => .inl h, Ex.refl _⟩
  · rw [upd_ne (fun q => n (by rw [hm, q]))]
    exact h
  · rw [hm] at e
    cases e
    exact ⟨a, cc, k, ns, upd_same, h2, h3, h4⟩
/-- stream[1] = e, stream[2] = e -/
theorem bs_stSet {x : Str} {e : Expr} {p p2 pos' pos : Pos} {w : Int} {jj : Nat} (i : Nat) (hi : Γ[i]? = some (.val .strm)) (hw12 : w = 1 ∨ w = 2) (h : Wv c e Γ fun d => ∃ z, d = .int z ∧ (w = 2 → 0 ≤ z) ∧ E.nx Γ) (hN : c.N[i]? = some x := by rfl) (hv : Vis c.sc x := by first | exact Or.inl rfl | exact Or.inr (Or.inl rfl) | exact Or.inr (Or.inr rfl))
    (hd : (x == ("__debug__" : Str)) = false := by decide) (hcd : (x == ("__classdict__" : Str)) = false := by decide) (hs : ∀ env, swapsWithSole [.Subscript (.Name x p) (.Constant (.int w) jj p2) pos'] e pos.line env = pure false := by exact fun _ => rfl) (hw : ∀ env, swappedStores [.Subscript (.Name x p) (.Constant (.int w) jj p2) pos'] e env = pure none := by exact fun _ => rfl)
    (ha1 : ∀ env v, assign (.Subscript (.Name x p) (.Constant (.int w) jj p2) pos') env v = (do
      let ov ← holding [v] (eval (.Name x p) env)
      let iv ← holding [v, ov] (eval (.Constant (.int w) jj p2) env)
      standAt pos'
      holding [v, ov, iv] (setItem ov iv v)
      release [v, ov, iv] []) := by exact fun _ _ => rfl)
    (h1 : ∀ env, (assignEach [.Subscript (.Name x p) (.Constant (.int w) jj p2) pos'] env).map (·.2) = [assign (.Subscript (.Name x p) (.Constant (.int w) jj p2) pos') env] := by exact fun _ => rfl) : BS c (.Assign [.Subscript (.Name x p) (.Constant (.int w) jj p2) pos'] e pos) Γ E := by
  intro X Ft m G0 H0 σ G H En D f
  have Ft' := Ft
  obtain ⟨k0, er, tp, hx, rfl, hcold, hu0⟩ := Ft'
  obtain ⟨s0, e0, _⟩ := strm_at En hi
  refine ⟨_, ps_asg pe_je (pg_sub (pe_var hN hv hd hcd) pe_int set_list (ha1 _)) (hs _) (hw _) (h1 _), h X Ft m G0 H0 σ G H En _ fun v d G1 H1 ⟨z, ez, hz, q⟩ g1 r1 => ⟨_, e0, ?_⟩⟩
  subst ez
  cases r1
  have E1 := En.step g1
  obtain ⟨s, e1, hm, a, cc, k, ns, f1, f2, f3, f4⟩ := strm_at E1 hi
  rw [e0] at e1
  cases e1
  rcases hw12 with rfl | rfl
  · have g2 := good_st (cc := z) hm E1.sub f2 f3 f4
    exact ⟨s0, _, 1, 1, rfl, rfl, f1, rfl, f.nx _ _ G1 _ q g1.ex (E1.step g2)⟩
  · have g2 := good_st (cc := cc) hm E1.sub f2 (hz rfl) f4
    exact ⟨s0, _, 2, 2, rfl, rfl, f1, rfl, f.nx _ _ G1 _ q g1.ex (E1.step g2)⟩
/-- if k < len(stream[0]): cell = int(abs(stream[0][k])) % big -/
theorem bs_draw [BI c.g] {xs xk xc : Str} {big : Expr} {p1 p2 p3 p4 p5 p6 p7 p8 p9 p10 p11 p12 p13 p14 p15 p16 p17 p18 p19 pos : Pos} {j1 j2 : Nat} {k : Int} (is ik ic : Nat) (nd : c.N.Nodup) (hi : Γ[is]? = some (.val .strm)) (hk : Γ[ik]? = some (.val (.int k))) (hk0 : 0 ≤ k) (h0 : E.nx Γ)
    (h1 : ∀ i, 0 ≤ i → Wv c big Γ fun d => ∃ j, d = .int j ∧ 0 < j ∧ E.nx (Γ.set ic (.val (.int (i % j))))) (hNs : c.N[is]? = some xs := by rfl) (hNk : c.N[ik]? = some xk := by rfl) (hNc : c.N[ic]? = some xc := by rfl) (hvs : Vis c.sc xs := by exact Or.inl rfl) (hvk : Vis c.sc xk := by exact Or.inl rfl) (hlc : Loc c.sc xc := by exact Or.inl rfl)
    (hds : (xs == ("__debug__" : Str)) = false := by decide) (hcds : (xs == ("__classdict__" : Str)) = false := by decide) (hdk : (xk == ("__debug__" : Str)) = false := by decide) (hcdk : (xk == ("__classdict__" : Str)) = false := by decide) (hf : c.fn xc = true ∨ c.sc.names.lookup xc = some .local := by first | exact Or.inl rfl | exact Or.inr rfl)
    (gl : c.sc.names.lookup ("len" : Str) = some .globalImplicit := by rfl) (ga : c.sc.names.lookup ("abs" : Str) = some .globalImplicit := by rfl) (gi : c.sc.names.lookup ("int" : Str) = some .globalImplicit := by rfl)
    (hs : ∀ env, swapsWith (.BinOp (.Call (.Name "int" p10) [.Call (.Name "abs" p11) [.Subscript (.Subscript (.Name xs p12) (.Constant (.int 0) j2 p13) p14) (.Name xk p15) p16] [] p17] [] p18) .Mod big p9) (some (.Name xc p8)) p19.line env = pure false := by exact fun _ => rfl) :
    BS c (.If (.Compare (.Name xk p1) [.Lt] [.Call (.Name "len" p2) [.Subscript (.Name xs p3) (.Constant (.int 0) j1 p4) p5] [] p6] p7)
      [.Assign [.Name xc p8] (.BinOp (.Call (.Name "int" p10) [.Call (.Name "abs" p11) [.Subscript (.Subscript (.Name xs p12) (.Constant (.int 0) j2 p13) p14) (.Name xk p15) p16] [] p17] [] p18) .Mod big p9) p19] [] pos) Γ E := by
  intro X Ft m G0 H0 σ G H En D f
  have ml := bi (c := c) "len"
  have ma := bi (c := c) "abs"
  have mi := bi (c := c) "int"
  have Ft' := Ft
  obtain ⟨k0, er, tp, hx, rfl, hcold, hu0⟩ := Ft'
  obtain ⟨s, es, hm, a, cc, kk, ns, f1, f2, f3, f4⟩ := strm_at En hi
  obtain ⟨vk, ek, rk⟩ := En.slot ik _ hk
  cases rk
  refine ⟨_, ps_if (pt_cmpR op_lt (pe_var hNk hvk hdk hcdk) (pe_callB call_len gl ml (by decide +kernel) (pa_cons (pe_ix ix_list (pe_var hNs hvs hds hcds) pe_int fun _ _ => rfl) pa_nil rfl)) rfl)
    (pss_one (ps_set (i := ic) nd hNc hlc (pe_op op_mod (pe_callTy call_int1 gi mi (by decide +kernel) (pa_cons (pe_callB call_abs ga ma (by decide +kernel) (pa_cons (pe_ix ix_list (pe_ix ix_list (pe_var hNs hvs hds hcds) pe_int fun _ _ => rfl) (pe_var hNk hvk hdk hcdk) fun _ _ => rfl) pa_nil rfl)) pa_nil rfl)) pe_je) (hs _) hf)) pss_nil, ?_⟩
  refine ⟨.int k, ek, .ref s, es, s, _, 0, .ref a, rfl, rfl, .inl (.inl f1), rfl, .ref a, ns.length, rfl, .inl ⟨ns.map V.int, .inl (.inl (En.sub.1 _ _ f2)), by rw [List.length_map]⟩, k, (ns.length : Int), rfl, rfl, _, rfl, ?_⟩
  by_cases hlt : k < (ns.length : Int)
  · rw [decide_eq_true hlt]
    obtain ⟨kn, rfl⟩ := Int.eq_ofNat_of_zero_le hk0
    have hlt' : kn < ns.length := by exact Int.ofNat_lt.mp hlt
    refine iteT ⟨.ref s, es, s, _, 0, .ref a, rfl, rfl, .inl (.inl f1), rfl, .int kn, ek, a, ns.map V.int, kn, .int ns[kn], rfl, rfl, .inl (.inl (En.sub.1 _ _ f2)), ?_, ns[kn], rfl, .inl ⟨_, rfl, ?_⟩⟩
    · unfold L2.atI
      rw [List.length_map, ixN_nat hlt']
      show (ns.map V.int)[kn]? = _
      rw [List.getElem?_map, List.getElem?_eq_getElem hlt'] <;> rfl
    · refine h1 (if ns[kn] < 0 then -ns[kn] else ns[kn]) (by split <;> omega) X Ft m G0 H0 σ G H En _ fun v d G1 H1 ⟨j, ej, hj, q⟩ g1 r1 => ?_
      subst ej
      cases r1
      exact ⟨_, j, rfl, rfl, hj, f.nx _ _ G1 H1 q g1.ex ((En.step g1).set ic (.int _))⟩
  · rw [decide_eq_false hlt]
    exact iteF (f.nx _ _ G H h0 (Ex.refl _) En)
end
end WL
set_option Elab.async false
set_option linter.all false
set_option maxRecDepth 100000
set_option maxHeartbeats 4000000
namespace WL
open PySem PySem.Spec PyProof.Rows L2 Evl
/-! ### a def of the text, as it stands -/
structure Has (g : Gx) (x : Str) (st : Stmt) (dvs : List V := []) : Prop where
  ex : ∃ f fd, FunD g.K x x (defArgs st) (defBody st) (defScope st) dvs [] f fd ∧ g.mg x = some (.ref f)
def BindN (x : Str) (st : Stmt) (ps : List Str) : Prop := ∀ (kV doc pm : Value) (an : Option Addr) (cdv ct : Value) (us : List Value), us.length = ps.length → bindArgs (PySem.W.fnOf x x (defArgs st) (defBody st) (defScope st) .none kV doc pm an cdv ct) ⟨us, []⟩ = pure (ps.zip us)
section
variable {g : Gx} {x : Str} {st : Stmt} {N ps : List Str} {k : Nat}
theorem fn_has {S : DSp} (h : Has g x st) (sc : FnScope N ps (defScope st)) (b : BindN x st ps) (len : ∀ ds Q E, S ds Q E → ds.length = ps.length)
    (hb : ∀ ds Q E, S ds Q E → BL (Ct.def g N (defScope st) k E) (defBody st) (Γ0 N ds) { nx := fun _ => Q .non, rt := Q }) : FnG g x (k + 1) S := by
  obtain ⟨f, fd, F, hm⟩ := h.ex
  exact fnD_mk F hm sc (F.bindsN b) len hb
theorem fnX_has {S : HSp} (h : Has g x st) (sc : FnScope N ps (defScope st)) (b : BindN x st ps) (len : ∀ a z ds Q, S a z ds Q → ds.length = ps.length)
    (hb : ∀ a z ds Q, S a z ds Q → BL (Ct.defX g N (defScope st) k a z) (defBody st) (Γ0 N ds) { nx := fun _ => Q .non, rt := Q }) : FnX g x (k + 1) S := by
  obtain ⟨f, fd, F, hm⟩ := h.ex
  exact fnX_mk F hm sc (F.bindsN b) len hb
end
theorem els {A : Prop} {c : Ct} {Γ : Gm} {E : Ends'} (h : E.nx Γ) : if false = true then A else BL c [] Γ E := iteF (bl_nil h)
theorem FnG.up {g : Gx} {x : Str} {k : Nat} {S S' : DSp} {dfl : List D} (F : FnG g x k S dfl) (i : ∀ ds Q E, S' ds Q E → S ds Q E) : FnG g x k S' dfl := by
  obtain ⟨f, fd, ps, us, dvs, h1, h2, h3, h4, h5, h6⟩ := F.ex
  refine ⟨f, fd, ps, us, dvs, h1, h2, h3, h4, h5, ⟨fun vs H Q E ⟨m, G, ds, Qd, Ed, a, b, c, d, e⟩ => h6.len vs H Q E ⟨m, G, ds, Qd, Ed, a, b, c, i _ _ _ d, e⟩, fun A outer s H args us vs Q E hr e0 hb hv ⟨m, G, ds, Qd, Ed, a, b, c, d, e⟩ => h6.run A outer s H args us vs Q E hr e0 hb hv ⟨m, G, ds, Qd, Ed, a, b, c, i _ _ _ d, e⟩⟩⟩
end WL
set_option Elab.async false
set_option linter.all false
set_option maxRecDepth 100000
set_option maxHeartbeats 4000000
namespace WL
open PySem PySem.Spec PyProof.Rows L2 Evl
/-! ### plain data: what is said of a value -/
mutual
/-- no built-in class, no stream; every list at most 4000 long -/
def D.ok : D → Bool
  | .raw _ => false
  | .strm => false
  | .tup xs => decide (xs.length ≤ 4000) && okL xs
  | .lst xs => decide (xs.length ≤ 4000) && okL xs
  | .dct ks xs => decide (ks.length ≤ 4000) && (decide (ks.length = xs.length ∧ ks.Nodup) && okL xs)
  | .str s => decide (s.length ≤ 4000)
  | _ => true
def okL : List D → Bool
  | [] => true
  | x :: xs => x.ok && okL xs
end
theorem okL_mem : ∀ {xs : List D} {x : D}, okL xs = true → x ∈ xs → x.ok = true
  | y :: ys, x, h, hm => by
    unfold okL at h
    obtain ⟨h1, h2⟩ := Bool.and_eq_true_iff.mp h
    rcases List.mem_cons.mp hm with e | e
    · rw [e]; exact h1
    · exact okL_mem h2 e
theorem ok_tup {xs : List D} (h : (D.tup xs).ok = true) : xs.length ≤ 4000 ∧ okL xs = true := by
  unfold D.ok at h
  obtain ⟨h1, h2⟩ := Bool.and_eq_true_iff.mp h
  exact ⟨of_decide_eq_true h1, h2⟩
theorem ok_lst {xs : List D} (h : (D.lst xs).ok = true) : xs.length ≤ 4000 ∧ okL xs = true := by
  unfold D.ok at h
  obtain ⟨h1, h2⟩ := Bool.and_eq_true_iff.mp h
  exact ⟨of_decide_eq_true h1, h2⟩
theorem ok_dctN {ks : List Key} {xs : List D} (h : (D.dct ks xs).ok = true) : ks.length ≤ 4000 ∧ ks.length = xs.length ∧ ks.Nodup ∧ okL xs = true := by
  unfold D.ok at h
  obtain ⟨h1, h2⟩ := Bool.and_eq_true_iff.mp h
  obtain ⟨h3, h4⟩ := Bool.and_eq_true_iff.mp h2
  exact ⟨of_decide_eq_true h1, (of_decide_eq_true h3).1, (of_decide_eq_true h3).2, h4⟩
theorem ok_dct {ks : List Key} {xs : List D} (h : (D.dct ks xs).ok = true) : ks.length ≤ 4000 ∧ ks.length = xs.length ∧ okL xs = true := ⟨(ok_dctN h).1, (ok_dctN h).2.1, (ok_dctN h).2.2.2⟩
theorem mk_tup {xs : List D} (h : xs.length ≤ 4000) (k : okL xs = true) : (D.tup xs).ok = true := by
  unfold D.ok
  rw [k, decide_eq_true h] <;> rfl
theorem mk_lst {xs : List D} (h : xs.length ≤ 4000) (k : okL xs = true) : (D.lst xs).ok = true := by
  unfold D.ok
  rw [k, decide_eq_true h] <;> rfl
theorem mk_dct {ks : List Key} {xs : List D} (h : ks.length ≤ 4000) (e : ks.length = xs.length) (n : ks.Nodup) (k : okL xs = true) : (D.dct ks xs).ok = true := by
  unfold D.ok
  rw [k, decide_eq_true h, decide_eq_true ⟨e, n⟩] <;> rfl
theorem okL_of : ∀ {xs : List D}, (∀ x ∈ xs, x.ok = true) → okL xs = true
  | [], _ => by unfold okL; rfl
  | x :: xs, h => by
    unfold okL
    rw [h x List.mem_cons_self, okL_of fun y hy => h y (List.mem_cons_of_mem _ hy)] <;> rfl
def D.isI : D → Bool
  | .int _ => true
  | _ => false
def D.isB : D → Bool
  | .bl _ => true
  | _ => false
def D.isS : D → Bool
  | .str _ => true
  | _ => false
def D.isT : D → Bool
  | .tup _ => true
  | _ => false
def D.isL : D → Bool
  | .lst _ => true
  | _ => false
def D.isD : D → Bool
  | .dct _ _ => true
  | _ => false
theorem isA_int {x : D} (h : x.ok = true) : x.isA .int = some (x.isI || x.isB) := by cases x <;> first | rfl | cases h
theorem isA_bool {x : D} (h : x.ok = true) : x.isA .bool = some x.isB := by cases x <;> first | rfl | cases h
theorem isA_str {x : D} (h : x.ok = true) : x.isA .str = some x.isS := by cases x <;> first | rfl | cases h
theorem isA_tuple {x : D} (h : x.ok = true) : x.isA .tuple = some x.isT := by cases x <;> first | rfl | cases h
theorem isA_list {x : D} (h : x.ok = true) : x.isA .list = some x.isL := by cases x <;> first | rfl | cases h
theorem isA_dict {x : D} (h : x.ok = true) : x.isA .dict = some x.isD := by cases x <;> first | rfl | cases h
def D.toI : D → Int
  | .int i => i
  | _ => 0
def inside (x : D) (a b : Int) : Bool := match x with
  | .int i => decide (a ≤ i) && decide (i ≤ b)
  | _ => false
/-- an arrangement of n places (n None: of any) -/
def lenIs (n : D) (m : Nat) : Bool := match n with
  | .int k => decide ((m : Int) = k)
  | _ => true
def isArr (x n : D) : Bool := match x with
  | .tup xs => !xs.isEmpty && (lenIs n xs.length && (xs.all (fun y => inside y 0 ((xs.length : Int) - 1)) && decide ((xs.map D.toI).Nodup)))
  | _ => false
theorem ints_of_inside {a b : Int} : ∀ {xs : List D}, xs.all (fun y => inside y a b) = true → xs = (xs.map D.toI).map D.int
  | [], _ => rfl
  | x :: xs, h => by
    rw [List.all_cons, Bool.and_eq_true] at h
    have e := ints_of_inside h.2
    cases x <;> first | (exact Bool.noConfusion (show false = true from h.1)) | skip
    rw [List.map_cons, List.map_cons, ← e] <;> rfl
end WL
set_option Elab.async false
set_option linter.all false
set_option maxRecDepth 100000
set_option maxHeartbeats 4000000
namespace WL
open PySem PySem.Spec PyProof.Rows L2 Evl
/-! ### constants of the module, a def with one default -/
def ConI (g : Gx) (x : Str) (i : Int) : Prop := ∃ t, g.mg x = some (.int i t)
theorem w_con {c : Ct} {Γ : Gm} {Q : D → Prop} {x : Str} {pos : Pos} {i : Int} (h : ConI c.g x i) (q : Q (.int i)) (hg : c.sc.names.lookup x = some .globalImplicit := by rfl) (hd : (x == ("__debug__" : Str)) = false := by decide) : Wv c (.Name x pos) Γ Q := by
  obtain ⟨t, ht⟩ := h
  exact w_glob hg ht (v := .int i) ⟨t, rfl⟩ (fun _ _ => .int i) q hd
def Bind1 (x : Str) (st : Stmt) (n : Nat) (ps : List Str) : Prop := ∀ (T : Addr) (kV doc pm : Value) (an : Option Addr) (cdv ct : Value) (us its : List Value), us.length = n → its.length = 1 →
      ∃ k, bindArgs (PySem.W.fnOf x x (defArgs st) (defBody st) (defScope st) (.ref T) kV doc pm an cdv ct) ⟨us, []⟩ = seqItems? (.ref T) >>= k ∧ k (some its.toArray) = pure (ps.zip (us ++ its.drop 0))
theorem fn_has1 {g : Gx} {x : Str} {st : Stmt} {N ps : List Str} {k n : Nat} {S : DSp} {v : V} {d : D} (h : Has g x st [v]) (hv : ∀ m G, Rep g.K m G v d) (sc : FnScope N ps (defScope st)) (b : Bind1 x st n ps) (hn : n + 1 = ps.length) (len : ∀ ds Q E, S ds Q E → ds.length = ps.length)
    (hb : ∀ ds Q E, S ds Q E → BL (Ct.def g N (defScope st) k E) (defBody st) (Γ0 N ds) { nx := fun _ => Q .non, rt := Q }) : FnG g x (k + 1) S [d] := by
  obtain ⟨f, fd, F, hm⟩ := h.ex
  obtain ⟨us, r1, r2⟩ := F.binds1 (ps := ps) n 0 (by simp) hn (fun T kV doc pm an cdv ct us its hu hi => b T kV doc pm an cdv ct us its hu hi)
  exact ⟨f, fd, ps, us, [v], hm, F.kp, r2, r1, fun m G => .cons (hv m G) .nil, fnD_ok F sc len hb⟩
/-- the same def with all its arguments written -/
theorem fn_has0 {g : Gx} {x : Str} {st : Stmt} {N ps : List Str} {k n : Nat} {S : DSp} {v : V} (h : Has g x st [v]) (sc : FnScope N ps (defScope st)) (b : ∀ (T : Addr) (kV doc pm : Value) (an : Option Addr) (cdv ct : Value) (us : List Value), us.length = ps.length → bindArgs (PySem.W.fnOf x x (defArgs st) (defBody st) (defScope st) (.ref T) kV doc pm an cdv ct) ⟨us, []⟩ = pure (ps.zip us)) (len : ∀ ds Q E, S ds Q E → ds.length = ps.length)
    (hb : ∀ ds Q E, S ds Q E → BL (Ct.def g N (defScope st) k E) (defBody st) (Γ0 N ds) { nx := fun _ => Q .non, rt := Q }) : FnG g x (k + 1) S := by
  obtain ⟨f, fd, F, hm⟩ := h.ex
  refine ⟨f, fd, ps, [], [], hm, F.kp, ?_, .nil, fun _ _ => .nil, fnD_ok F sc len hb⟩
  obtain ⟨oc, od, dV, kV, doc, pm, an, cdv, ct, osl, rfl, lk, hcd, hD, _⟩ := F.ex
  rcases hD with ⟨e, _⟩ | ⟨_, T, o, its, m, rfl, lT, oT, rT⟩
  · cases e
  · exact .all (b T kV doc pm an cdv ct)
end WL
set_option Elab.async false
set_option linter.all false
set_option maxRecDepth 100000
set_option maxHeartbeats 4000000
namespace WL
open PySem PySem.Spec PyProof.Rows L2 Evl
/-! ### rooms, ways, by data -/
def hasD (ks : List Key) (xs : List D) (d : D) : Bool := match d with
  | .str s => (dval ks xs (.inr s)).isSome
  | _ => false
def kPl : Key := .inr "places"
def kMv : Key := .inr "moves"
def wrongMoves (m n : D) : D := match m with
  | .lst rows => if 28 < rows.length then .str "moves" else if rows.all (fun p => isArr p n) = true then .non else .str "moves"
  | _ => .str "moves"
/-- the first wrong key of a value in the place of a room; None: it is one -/
def wrongK (x : D) : D := match x with
  | .dct ks xs => match dval ks xs kPl, dval ks xs kMv with
    | some n, some m => if ks.length = 2 then (if inside n 1 16 = true then wrongMoves m n else .str "places") else .str "room"
    | _, _ => .str "room"
  | _ => .str "room"
/-- the line at place i of a way, in a room of that many moves -/
def isLine (x : D) (i moves : Int) : Bool := match x with
  | .tup (.str s :: r) => if s = "stay" then decide (r.length = 0) else if s = "move" then decide (r.length = 1) && r.all (fun j => inside j 0 (moves - 1)) else if s = "back" then decide (r.length = 1) && r.all (fun j => inside j 0 (i - 1))
    else decide (s = "then") && (decide (r.length = 2) && r.all (fun j => inside j 0 (i - 1)))
  | _ => false
def wrongFrom (moves : Int) : Nat → List D → D
  | _, [] => .non
  | i, x :: r => if isLine x i moves = true then wrongFrom moves (i + 1) r else .int (i : Nat)
def wrongLine (x : D) (moves most : Int) : D := match x with
  | .lst (y :: ys) => if most < ((y :: ys).length : Int) then .int (-1) else wrongFrom moves 0 (y :: ys)
  | _ => .int (-1)
theorem okL_getD {xs : List D} (h : okL xs = true) (i : Nat) {x : D} (hx : xs[i]? = some x) : x.ok = true := okL_mem h (List.mem_of_getElem? hx)
theorem dval_mem {k : Key} {x : D} : ∀ {ks : List Key} {xs : List D}, dval ks xs k = some x → x ∈ xs
  | [], [], h => by cases h
  | [], _ :: _, h => by cases h
  | _ :: _, [], h => by cases h
  | j :: ks, d :: ds, h => by
    unfold dval at h
    split at h
    · cases h
      exact List.mem_cons_self
    · exact List.mem_cons_of_mem _ (dval_mem h)
end WL
set_option Elab.async false
set_option linter.all false
set_option maxRecDepth 100000
set_option maxHeartbeats 4000000
namespace WL
open PySem PySem.Spec PyProof.Rows L2 Evl
/-! ### == of lists and tuples of data -/
mutual
def D.toP : D → Option PyData
  | .non => some .none
  | .bl b => some (.bool b)
  | .int i => some (.int i)
  | .str s => some (.str s)
  | .tup xs => (toPs xs).map .tuple
  | .lst xs => (toPs xs).map .list
  | _ => none
def toPs : List D → Option (List PyData)
  | [] => some []
  | x :: xs => match x.toP, toPs xs with
    | some d, some ds => some (d :: ds)
    | _, _ => none
end
section
variable {K : PySem.W.Frag} {m : Option Addr} {G H : Hp}
mutual
theorem toP_dp (s : Sub m G H) : ∀ {v : V} {x : D} {d : PyData}, Rep K m G v x → x.toP = some d → Dp K H v d
  | _, _, _, .non, h => by simp only [D.toP, Option.some.injEq] at h; subst h; exact .non
  | _, _, _, .bl b, h => by simp only [D.toP, Option.some.injEq] at h; subst h; exact .bl b
  | _, _, _, .int i, h => by simp only [D.toP, Option.some.injEq] at h; subst h; exact .int i
  | _, _, _, .str z, h => by simp only [D.toP, Option.some.injEq] at h; subst h; exact .str z
  | _, _, _, .tup ht l, h => by
    simp only [D.toP, Option.map_eq_some_iff] at h
    obtain ⟨ds, h1, h2⟩ := h
    subst h2
    exact .tup (ex_t s.1 ht) (toPs_dp s l h1)
  | _, _, _, .lst ht l, h => by
    simp only [D.toP, Option.map_eq_some_iff] at h
    obtain ⟨ds, h1, h2⟩ := h
    subst h2
    exact .lst (.inl (.inl (s.1 _ _ ht))) (toPs_dp s l h1)
  | _, _, _, .dct _ _ _, h => by simp [D.toP] at h
  | _, _, _, .raw _, h => by simp [D.toP] at h
  | _, _, _, .strm _, h => by simp [D.toP] at h
theorem toPs_dp (s : Sub m G H) : ∀ {vs : List V} {xs : List D} {ds : List PyData}, RepL K m G vs xs → toPs xs = some ds → DpAll K H vs ds
  | _, _, _, .nil, h => by simp only [toPs, Option.some.injEq] at h; subst h; exact .nil
  | _, _, _, .cons (d := x) (ds := xs) r l, h => by
    unfold toPs at h
    cases e1 : x.toP with
    | none => rw [e1] at h; cases h
    | some d =>
      cases e2 : toPs xs with
      | none => rw [e1, e2] at h; cases h
      | some ds =>
        rw [e1, e2] at h
        cases h
        exact .cons (toP_dp s r e1) (toPs_dp s l e2)
end
end
section
variable {c : Ct}
theorem d_eqP : Op2 c (compareOp .Eq) (fun x y Q => ∃ d e, x.toP = some d ∧ y.toP = some e ∧ SeqAt.shaped d = true ∧ SeqAt.shaped e = true ∧ Q (.bl (PyData.eqv d e))) := by
  rintro X ⟨k0, er, tp, hx, rfl, hcold, hu0⟩
  exact ⟨_, op_eqD (by have := hu0.un; omega), fun m G H x y dx dy Q Qv s1 s2 rx ry ⟨d, e, h1, h2, h3, h4, q⟩ k => ⟨d, e, toP_dp s1 rx h1, toP_dp s1 ry h2, h3, h4, k _ _ G H q Good.refl (.bl _)⟩⟩
theorem d_neP : Op2 c (compareOp .NotEq) (fun x y Q => ∃ d e, x.toP = some d ∧ y.toP = some e ∧ SeqAt.shaped d = true ∧ SeqAt.shaped e = true ∧ Q (.bl (!PyData.eqv d e))) := by
  rintro X ⟨k0, er, tp, hx, rfl, hcold, hu0⟩
  exact ⟨_, op_neD (by have := hu0.un; omega), fun m G H x y dx dy Q Qv s1 s2 rx ry ⟨d, e, h1, h2, h3, h4, q⟩ k => ⟨d, e, toP_dp s1 rx h1, toP_dp s1 ry h2, h3, h4, k _ _ G H q Good.refl (.bl _)⟩⟩
theorem toPs_ints : ∀ ns : List Int, toPs (ns.map D.int) = some (ns.map PyData.int)
  | [] => by simp [toPs]
  | n :: ns => by
    rw [List.map_cons, List.map_cons]
    unfold toPs
    rw [toPs_ints ns]
    simp only [D.toP]
theorem lay_ints : ∀ ns : List Int, PyData.canLayAll0 (ns.map PyData.int) = true
  | [] => by simp [PyData.canLayAll0]
  | n :: ns => by simp [PyData.canLayAll0, PyData.canLay0, lay_ints ns]
theorem dep_ints : ∀ ns : List Int, PyData.depthAll (ns.map PyData.int) = 0
  | [] => by simp [PyData.depthAll]
  | n :: ns => by simp [PyData.depthAll, PyData.depth, dep_ints ns]
theorem eqv_ints : ∀ ns ms : List Int, PyData.eqvAll (ns.map PyData.int) (ms.map PyData.int) = decide (ns = ms)
  | [], [] => by simp [PyData.eqvAll]
  | [], _ :: _ => by simp [PyData.eqvAll]
  | _ :: _, [] => by simp [PyData.eqvAll]
  | n :: ns, m :: ms => by
    rw [List.map_cons, List.map_cons, PyData.eqvAll, eqv_ints ns ms, PyData.eqv]
    by_cases h : n = m
    · subst h; simp
    · simp [h]
theorem shaped_l (ns : List Int) : SeqAt.shaped (.list (ns.map PyData.int)) = true := by
  unfold SeqAt.shaped
  rw [PyData.canLay0, lay_ints, PyData.depth, dep_ints] <;> rfl
theorem shaped_t (ns : List Int) : SeqAt.shaped (.tuple (ns.map PyData.int)) = true := by
  unfold SeqAt.shaped
  rw [PyData.canLay0, lay_ints, PyData.depth, dep_ints] <;> rfl
/-- lists of ints; tuples of ints -/
theorem d_eqLI : Op2 c (compareOp .Eq) (fun x y Q => ∃ ns ms : List Int, x = .lst (ns.map D.int) ∧ y = .lst (ms.map D.int) ∧ Q (.bl (decide (ns = ms)))) := d_eqP.imp fun x y Q ⟨ns, ms, e1, e2, q⟩ => by
  subst e1 e2
  refine ⟨_, _, by rw [D.toP, toPs_ints]; rfl, by rw [D.toP, toPs_ints]; rfl, shaped_l ns, shaped_l ms, ?_⟩
  rw [PyData.eqv, eqv_ints]
  exact q
theorem d_eqTI : Op2 c (compareOp .Eq) (fun x y Q => ∃ ns ms : List Int, x = .tup (ns.map D.int) ∧ y = .tup (ms.map D.int) ∧ Q (.bl (decide (ns = ms)))) := d_eqP.imp fun x y Q ⟨ns, ms, e1, e2, q⟩ => by
  subst e1 e2
  refine ⟨_, _, by rw [D.toP, toPs_ints]; rfl, by rw [D.toP, toPs_ints]; rfl, shaped_t ns, shaped_t ms, ?_⟩
  rw [PyData.eqv, eqv_ints]
  exact q
theorem d_neTI : Op2 c (compareOp .NotEq) (fun x y Q => ∃ ns ms : List Int, x = .tup (ns.map D.int) ∧ y = .tup (ms.map D.int) ∧ Q (.bl (!decide (ns = ms)))) := d_neP.imp fun x y Q ⟨ns, ms, e1, e2, q⟩ => by
  subst e1 e2
  refine ⟨_, _, by rw [D.toP, toPs_ints]; rfl, by rw [D.toP, toPs_ints]; rfl, shaped_t ns, shaped_t ms, ?_⟩
  rw [PyData.eqv, eqv_ints]
  exact q
end
end WL
set_option Elab.async false
set_option linter.all false
set_option maxRecDepth 100000
set_option maxHeartbeats 4000000
namespace WL
open PySem PySem.Spec PyProof.Rows L2 Evl
def rgI (n : Int) : List Int := (List.range n.toNat).map Int.ofNat
theorem rgD_int (n : Int) : rgD 0 n = (rgI n).map D.int := by
  unfold rgD rgI
  rw [List.map_map, Int.sub_zero]
  apply List.map_congr_left
  intro i _
  simp
theorem rgI_nodup (n : Int) : (rgI n).Nodup := by
  unfold rgI
  refine List.Pairwise.map _ (R := fun a b => a ≠ b) (fun a b h e => h (Int.ofNat.inj e)) ?_
  exact List.nodup_range
theorem rgI_sorted (n : Int) : (rgI n).Pairwise (· ≤ ·) := by
  unfold rgI
  refine List.Pairwise.map _ (R := fun (a b : Nat) => a < b) (fun a b h => by show (a : Int) ≤ (b : Int); omega) ?_
  exact List.pairwise_lt_range
theorem rgI_mem {n : Int} {x : Int} : x ∈ rgI n ↔ 0 ≤ x ∧ x < n := by
  unfold rgI
  rw [List.mem_map]
  constructor
  · rintro ⟨i, hi, rfl⟩
    rw [List.mem_range] at hi
    show (0 : Int) ≤ (i : Int) ∧ (i : Int) < n
    omega
  · rintro ⟨h1, h2⟩
    exact ⟨x.toNat, List.mem_range.mpr (by omega), by show ((x.toNat : Nat) : Int) = x; omega⟩
theorem rgI_len (n : Int) : (rgI n).length = n.toNat := by unfold rgI; rw [List.length_map, List.length_range]
theorem cnt_one {a : Int} : ∀ {l : List Int}, l.Nodup → a ∈ l → l.count a = 1
  | [], _, h => by cases h
  | b :: l, nd, h => by
    obtain ⟨n1, n2⟩ := List.nodup_cons.mp nd
    by_cases e : b = a
    · subst e
      rw [List.count_cons_self, List.count_eq_zero_of_not_mem n1]
    · rw [List.count_cons_of_ne e]
      exact cnt_one n2 ((List.mem_cons.mp h).resolve_left fun z => e z.symm)
theorem perm_of_sub {ns l : List Int} (h1 : ns.Nodup) (h2 : l.Nodup) (hs : ∀ x ∈ ns, x ∈ l) (hl : l.length ≤ ns.length) : ns.Perm l := by
  have back : ∀ x ∈ l, x ∈ ns := fun x hx => by
    by_cases q : x ∈ ns
    · exact q
    · have z := len_le_of_sub (l := ns) (m := l.erase x) h1 fun y hy => (List.mem_erase_of_ne (fun e => q (by rw [← e]; exact hy))).mpr (hs y hy)
      rw [List.length_erase_of_mem hx] at z
      have := List.length_pos_of_mem hx
      omega
  refine List.perm_iff_count.mpr fun a => ?_
  by_cases q : a ∈ l
  · rw [cnt_one h1 (back a q), cnt_one h2 q]
  · rw [List.count_eq_zero_of_not_mem q, List.count_eq_zero_of_not_mem fun z => q (hs a z)]
theorem sorted_iff {ns ms : List Int} {k : Int} (hk : 0 ≤ k) (hl : (ns.length : Int) = k) (hr : ∀ x ∈ ns, 0 ≤ x ∧ x ≤ k - 1) (hp : ms.Perm ns) (hs : ms.Pairwise (· ≤ ·)) : ms = rgI k ↔ ns.Nodup := by
  constructor
  · intro e
    have := rgI_nodup k
    rw [← e] at this
    exact hp.nodup_iff.mp this
  · intro nd
    have p : ns.Perm (rgI k) := perm_of_sub nd (rgI_nodup k) (fun x hx => rgI_mem.mpr ⟨(hr x hx).1, by have := (hr x hx).2; omega⟩) (by rw [rgI_len]; omega)
    exact List.Perm.eq_of_pairwise (le := fun a b => a ≤ b) (fun a b _ _ h1 h2 => Int.le_antisymm h1 h2) hs (rgI_sorted k) (hp.trans p)
end WL
set_option Elab.async false
set_option linter.all false
set_option maxRecDepth 100000
set_option maxHeartbeats 4000000
namespace WL
open PySem PySem.Spec PyProof.Rows L2 Evl
/-! ### depth, weight -/
mutual
def D.dep : D → Nat
  | .tup xs => depL xs + 1
  | .lst xs => depL xs + 1
  | .dct _ xs => depL xs + 1
  | _ => 0
def depL : List D → Nat
  | [] => 0
  | x :: xs => max x.dep (depL xs)
end
mutual
def D.wt : D → Nat
  | .tup xs => wtL xs + 1
  | .lst xs => wtL xs + 1
  | .dct _ xs => wtL xs + 1
  | .str s => s.length + 1
  | _ => 1
def wtL : List D → Nat
  | [] => 0
  | x :: xs => x.wt + wtL xs
end
theorem wt_pos (x : D) : 1 ≤ x.wt := by cases x <;> unfold D.wt <;> omega
theorem wtL_cons (x : D) (xs : List D) : wtL (x :: xs) = x.wt + wtL xs := by rw [wtL]
theorem depL_cons (x : D) (xs : List D) : depL (x :: xs) = max x.dep (depL xs) := by rw [depL]
theorem wtL_nil : wtL [] = 0 := by rw [wtL]
theorem depL_nil : depL [] = 0 := by rw [depL]
theorem wt_tup (xs : List D) : (D.tup xs).wt = wtL xs + 1 := by rw [D.wt]
theorem wt_lst (xs : List D) : (D.lst xs).wt = wtL xs + 1 := by rw [D.wt]
theorem wt_dct (ks : List Key) (xs : List D) : (D.dct ks xs).wt = wtL xs + 1 := by rw [D.wt]
theorem dep_tup (xs : List D) : (D.tup xs).dep = depL xs + 1 := by rw [D.dep]
theorem dep_lst (xs : List D) : (D.lst xs).dep = depL xs + 1 := by rw [D.dep]
theorem dep_dct (ks : List Key) (xs : List D) : (D.dct ks xs).dep = depL xs + 1 := by rw [D.dep]
theorem wtL_len : ∀ xs : List D, xs.length ≤ wtL xs
  | [] => Nat.zero_le _
  | x :: xs => by
    have := wtL_len xs
    have := wt_pos x
    rw [wtL_cons, List.length_cons]
    omega
theorem wtL_app : ∀ xs ys : List D, wtL (xs ++ ys) = wtL xs + wtL ys
  | [], ys => by rw [List.nil_append, wtL_nil, Nat.zero_add]
  | x :: xs, ys => by rw [List.cons_append, wtL_cons, wtL_cons, wtL_app xs ys, Nat.add_assoc]
theorem depL_app : ∀ xs ys : List D, depL (xs ++ ys) = max (depL xs) (depL ys)
  | [], ys => by rw [List.nil_append, depL_nil, Nat.zero_max]
  | x :: xs, ys => by rw [List.cons_append, depL_cons, depL_cons, depL_app xs ys, Nat.max_assoc]
theorem wtL_mem {x : D} : ∀ {xs : List D}, x ∈ xs → x.wt ≤ wtL xs
  | y :: ys, h => by
    rw [wtL_cons]
    rcases List.mem_cons.mp h with e | h
    · rw [e]; omega
    · have := wtL_mem h; omega
theorem depL_mem {x : D} : ∀ {xs : List D}, x ∈ xs → x.dep ≤ depL xs
  | y :: ys, h => by
    rw [depL_cons]
    rcases List.mem_cons.mp h with e | h
    · rw [e]; omega
    · have := depL_mem h; omega
theorem depL_le {k : Nat} : ∀ {xs : List D}, (∀ x ∈ xs, x.dep ≤ k) → depL xs ≤ k
  | [], _ => by rw [depL_nil]; omega
  | x :: xs, h => by
    rw [depL_cons]
    have := h x List.mem_cons_self
    have := depL_le fun y hy => h y (List.mem_cons_of_mem _ hy)
    omega
theorem wtL_le {k : Nat} : ∀ {xs : List D}, (∀ x ∈ xs, x.wt ≤ k) → wtL xs ≤ k * xs.length
  | [], _ => by rw [wtL_nil]; omega
  | x :: xs, h => by
    rw [wtL_cons, List.length_cons, Nat.mul_succ]
    have := h x List.mem_cons_self
    have := wtL_le fun y hy => h y (List.mem_cons_of_mem _ hy)
    omega
theorem wtL_sub : ∀ {xs ys : List D}, xs.Sublist ys → wtL xs ≤ wtL ys
  | _, _, .slnil => Nat.le_refl _
  | _, _, .cons a h => by
    rw [wtL_cons]
    have := wtL_sub h
    omega
  | _, _, .cons₂ a h => by
    rw [wtL_cons, wtL_cons]
    have := wtL_sub h
    omega
theorem wtL_set {d x : D} : ∀ {xs : List D} {i : Nat}, xs[i]? = some x → wtL (xs.set i d) + x.wt = wtL xs + d.wt
  | [], _, h => by cases h
  | y :: ys, 0, h => by
    cases h
    rw [List.set_cons_zero, wtL_cons, wtL_cons]
    omega
  | y :: ys, i + 1, h => by
    have := wtL_set (d := d) (xs := ys) (i := i) (by simpa using h)
    rw [List.set_cons_succ, wtL_cons, wtL_cons]
    omega
/-- data that a law passes about: plain, not deeper than k, not heavier than w -/
structure Nice (k w : Nat) (x : D) : Prop where
  ok : x.ok = true
  dep : x.dep ≤ k
  wt : x.wt ≤ w
theorem Nice.mono {k w k' w' : Nat} {x : D} (h : Nice k w x) (hk : k ≤ k') (hw : w ≤ w') : Nice k' w' x := ⟨h.ok, Nat.le_trans h.dep hk, Nat.le_trans h.wt hw⟩
theorem nice_tup {k w : Nat} {xs : List D} (h : ∀ x ∈ xs, x.ok = true ∧ x.dep ≤ k) (hw : wtL xs + 1 ≤ w) (h4 : w ≤ 4000) : Nice (k + 1) w (.tup xs) := by
  have := wtL_len xs
  exact ⟨mk_tup (by omega) (okL_of fun x hx => (h x hx).1), by rw [dep_tup]; have := depL_le fun x hx => (h x hx).2; omega, by rw [wt_tup]; exact hw⟩
theorem nice_lst {k w : Nat} {xs : List D} (h : ∀ x ∈ xs, x.ok = true ∧ x.dep ≤ k) (hw : wtL xs + 1 ≤ w) (h4 : w ≤ 4000) : Nice (k + 1) w (.lst xs) := by
  have := wtL_len xs
  exact ⟨mk_lst (by omega) (okL_of fun x hx => (h x hx).1), by rw [dep_lst]; have := depL_le fun x hx => (h x hx).2; omega, by rw [wt_lst]; exact hw⟩
theorem nice_dct {k w : Nat} {ks : List Key} {xs : List D} (e : ks.length = xs.length) (n : ks.Nodup) (h : ∀ x ∈ xs, x.ok = true ∧ x.dep ≤ k) (hw : wtL xs + 1 ≤ w) (h4 : w ≤ 4000) : Nice (k + 1) w (.dct ks xs) := by
  have := wtL_len xs
  exact ⟨mk_dct (by omega) e n (okL_of fun x hx => (h x hx).1), by rw [dep_dct]; have := depL_le fun x hx => (h x hx).2; omega, by rw [wt_dct]; exact hw⟩
end WL
set_option Elab.async false
set_option linter.all false
set_option maxRecDepth 100000
set_option maxHeartbeats 4000000
namespace WL
open PySem PySem.Spec PyProof.Rows L2 Evl
/-! ### dicts copied key by key -/
theorem kputK_new {ks : List Key} {k : Key} (h : k ∉ ks) : kputK ks k = ks ++ [k] := by
  unfold kputK
  rw [if_neg (fun z => h (any_k.mp z))]
theorem kputK_old {ks : List Key} {k : Key} (h : k ∈ ks) : kputK ks k = ks := by
  unfold kputK
  rw [if_pos (any_k.mpr h)]
theorem kputD_new {k : Key} {x : D} : ∀ {ks : List Key} {ds : List D}, k ∉ ks → ks.length = ds.length → kputD ks ds k x = ds ++ [x]
  | [], [], _, _ => rfl
  | [], _ :: _, _, e => by cases e
  | _ :: _, [], _, e => by cases e
  | j :: ks, y :: ds, h, e => by
    unfold kputD
    rw [if_neg (fun z => h (by rw [z]; exact List.mem_cons_self)), kputD_new (fun z => h (List.mem_cons_of_mem _ z)) (by simpa using e)]
    rfl
theorem kputD_len {k : Key} {x : D} : ∀ {ks : List Key} {ds : List D}, ks.length = ds.length → (kputK ks k).length = (kputD ks ds k x).length := by
  intro ks ds e
  by_cases h : k ∈ ks
  · rw [kputK_old h]
    have : ∀ {ks : List Key} {ds : List D}, k ∈ ks → ks.length = ds.length → (kputD ks ds k x).length = ds.length := by
      intro ks
      induction ks with
      | nil => exact fun h => by cases h
      | cons j ks ih =>
        intro ds h e
        cases ds with
        | nil => cases e
        | cons y ds =>
          unfold kputD
          split
          · rfl
          · rename_i hj
            rw [List.length_cons, List.length_cons, ih ((List.mem_cons.mp h).resolve_left fun z => hj z.symm) (by simpa using e)]
    rw [this h e, e]
  · rw [kputK_new h, kputD_new h e, List.length_append, List.length_append, e] <;> rfl
theorem kputD_mem {k : Key} {x z : D} : ∀ {ks : List Key} {ds : List D}, z ∈ kputD ks ds k x → z = x ∨ z ∈ ds
  | [], _, h => by
    unfold kputD at h
    exact .inl (List.mem_singleton.mp h)
  | _ :: _, [], h => by
    unfold kputD at h
    exact .inl (List.mem_singleton.mp h)
  | j :: ks, y :: ds, h => by
    unfold kputD at h
    split at h
    · rcases List.mem_cons.mp h with e | h
      · exact .inl e
      · exact .inr (List.mem_cons_of_mem _ h)
    · rcases List.mem_cons.mp h with e | h
      · exact .inr (by rw [e]; exact List.mem_cons_self)
      · exact (kputD_mem h).imp id (List.mem_cons_of_mem _)
theorem kputD_wt {k : Key} {x : D} : ∀ {ks : List Key} {ds : List D}, ks.length = ds.length → wtL (kputD ks ds k x) ≤ wtL ds + x.wt
  | [], [], _ => by unfold kputD; rw [wtL_cons]; omega
  | [], _ :: _, e => by cases e
  | _ :: _, [], e => by cases e
  | j :: ks, y :: ds, e => by
    unfold kputD
    split
    · rw [wtL_cons, wtL_cons]; omega
    · rw [wtL_cons, wtL_cons]
      have := kputD_wt (k := k) (x := x) (ks := ks) (ds := ds) (by simpa using e)
      omega
theorem dval_at : ∀ {ks : List Key} {xs : List D} {i : Nat} {k : Key} {x : D}, ks.Nodup → ks[i]? = some k → xs[i]? = some x → dval ks xs k = some x
  | [], _, _, _, _, _, h, _ => by cases h
  | _ :: _, [], _, _, _, _, _, h => by cases h
  | j :: ks, y :: ys, 0, k, x, _, h1, h2 => by
    cases h1
    cases h2
    unfold dval
    rw [if_pos rfl]
  | j :: ks, y :: ys, i + 1, k, x, nd, h1, h2 => by
    have h1' : ks[i]? = some k := by simpa using h1
    have h2' : ys[i]? = some x := by simpa using h2
    unfold dval
    rw [if_neg (fun z => (List.nodup_cons.mp nd).1 (by rw [z]; exact List.mem_of_getElem? h1'))]
    exact dval_at (List.nodup_cons.mp nd).2 h1' h2'
theorem not_take {ks : List Key} {i : Nat} {k : Key} (nd : ks.Nodup) (h : ks[i]? = some k) : k ∉ ks.take i := fun z => by
  obtain ⟨j, hj, e⟩ := List.mem_iff_getElem.mp z
  rw [List.length_take] at hj
  obtain ⟨hi, e2⟩ := List.getElem?_eq_some_iff.mp h
  rw [List.getElem_take] at e
  exact (List.pairwise_iff_getElem.mp nd) j i (by omega) hi (by omega) (e.trans e2.symm)
/-- without a key -/
def drpK (ks : List Key) (k : Key) : List Key := ks.filter fun j => !decide (j = k)
def drpD : List Key → List D → Key → List D
  | j :: ks, y :: ds, k => if j = k then drpD ks ds k else y :: drpD ks ds k
  | _, _, _ => []
theorem drpK_snoc (ks : List Key) (j k : Key) : drpK (ks ++ [j]) k = if j = k then drpK ks k else drpK ks k ++ [j] := by
  unfold drpK
  rw [List.filter_append, List.filter_cons]
  by_cases h : j = k
  · rw [if_pos h]; simp [h]
  · rw [if_neg h]; simp [h]
theorem drpD_snoc {j k : Key} {x : D} : ∀ {ks : List Key} {ds : List D}, ks.length = ds.length → drpD (ks ++ [j]) (ds ++ [x]) k = if j = k then drpD ks ds k else drpD ks ds k ++ [x]
  | [], [], _ => by
    show (if j = k then drpD [] [] k else x :: drpD [] [] k) = if j = k then [] else [] ++ [x]
    split <;> rfl
  | [], _ :: _, e => by cases e
  | _ :: _, [], e => by cases e
  | i :: ks, y :: ds, e => by
    have ih := drpD_snoc (j := j) (k := k) (x := x) (ks := ks) (ds := ds) (by simpa using e)
    show (if i = k then drpD (ks ++ [j]) (ds ++ [x]) k else y :: drpD (ks ++ [j]) (ds ++ [x]) k) = if j = k then (if i = k then drpD ks ds k else y :: drpD ks ds k) else (if i = k then drpD ks ds k else y :: drpD ks ds k) ++ [x]
    rw [ih]
    by_cases h1 : i = k <;> by_cases h2 : j = k <;> simp [h1, h2]
theorem drpK_len {k : Key} : ∀ {ks : List Key} {ds : List D}, ks.length = ds.length → (drpK ks k).length = (drpD ks ds k).length
  | [], [], _ => rfl
  | [], _ :: _, e => by cases e
  | _ :: _, [], e => by cases e
  | j :: ks, y :: ds, e => by
    have ih := drpK_len (k := k) (ks := ks) (ds := ds) (by simpa using e)
    unfold drpK drpD
    rw [List.filter_cons]
    by_cases h : j = k
    · rw [if_pos h]; simp only [h, decide_true, Bool.not_true]; exact ih
    · rw [if_neg h]; simp only [h, decide_false, Bool.not_false, if_true, List.length_cons]; exact congrArg Nat.succ ih
theorem drpD_sub {k : Key} : ∀ {ks : List Key} {ds : List D}, (drpD ks ds k).Sublist ds
  | [], ds => by unfold drpD; exact List.nil_sublist _
  | _ :: _, [] => by unfold drpD; exact List.nil_sublist _
  | j :: ks, y :: ds => by
    unfold drpD
    split
    · exact (drpD_sub).cons _
    · exact (drpD_sub).cons₂ _
theorem drpK_nodup {ks : List Key} (nd : ks.Nodup) (k : Key) : (drpK ks k).Nodup := nd.sublist List.filter_sublist
end WL
set_option Elab.async false
set_option linter.all false
set_option maxRecDepth 100000
set_option maxHeartbeats 4000000
namespace WL
open PySem PySem.Spec PyProof.Rows L2 Evl
section
variable {c : Ct} {Γ : Gm} {Q : D → Prop}
theorem op_add_bi {X : Cx} : OpR X (binaryOp .Add) (fun x y H Q => ∃ k i, x = .bl k ∧ y = .int i ∧ Q (.int (b2i k + i)) H) := by
  intro pins s σ H x y v u Q I rx ry ⟨k, i, e1, e2, q⟩
  subst e1 e2
  cases rx
  obtain ⟨t, rfl⟩ := ry
  exact PySem.IntBool.add_bool_int ⟨.int (b2i k + i), H, I.tok _, ⟨_, rfl⟩, q⟩
/-- number or truth value + number -/
def D.num : D → Option Int
  | .int i => some i
  | .bl b => some (b2i b)
  | _ => none
theorem d_addN : Op2 c (binaryOp .Add) (fun x y Q => ∃ i j, x.num = some i ∧ y = .int j ∧ Q (.int (i + j))) := by
  have h1 : Op2 c (binaryOp .Add) (fun x y Q => ∃ k j, x = .bl k ∧ y = .int j ∧ Q (.int (b2i k + j))) := fun X Ft => by
    refine ⟨_, op_add_bi, fun m G H x y dx dy Q Qv s1 s2 rx ry ⟨k, j, e1, e2, q⟩ kk => ?_⟩
    subst e1 e2
    cases rx
    cases ry
    exact ⟨k, j, rfl, rfl, kk _ _ G H q Good.refl (.int _)⟩
  refine (d_add.or h1).imp fun x y Q ⟨i, j, e1, e2, q⟩ => ?_
  cases x <;> first | (cases e1; done) | skip
  · cases e1
    exact .inr ⟨_, j, rfl, e2, q⟩
  · cases e1
    exact .inl ⟨_, j, rfl, e2, q⟩
/-- {} -/
theorem w_dict0 {pos : Pos} (q : Q (.dct [] [])) : Wv c (.Dict [] [] pos) Γ Q := by
  rintro X ⟨k0, er, tp, hx, rfl, hcold, hu0⟩ m G0 H0 σ G H E Qv qv
  refine ⟨_, pe_dnewK, fun p hp => ?_⟩
  exact qv _ _ _ _ q (Good.laid E.sub hp) (Rep.dct (kvs := []) (.inl upd_same) .nil .nil)
theorem w_min [BI c.g] {a b : Expr} {p pos : Pos} (h : Wv c a Γ fun x => Wv c b Γ fun y => ∃ i j, x = .int i ∧ y = .int j ∧ Q (.int (if j < i then j else i))) (hg : c.sc.names.lookup ("min" : Str) = some .globalImplicit := by rfl) (hh : c.hx = none := by rfl)
    (he : ∀ env, starEach [a, b] env = (false, eval a env) :: starEach [b] env := by exact fun _ => rfl) (he2 : ∀ env, starEach [b] env = (false, eval b env) :: starEach [] env := by exact fun _ => rfl) (hpl : ∀ env, (backTo pos (starEach [b] env)).any (·.1) = false := by exact fun _ => rfl) : Wv c (.Call (.Name "min" p) [a, b] [] pos) Γ Q :=
  w_callB (c_min hh) (bi _) (wa_cons (h.imp fun x hx => wa_cons (hx.imp fun y ⟨i, j, e1, e2, q⟩ => wa_nil ⟨i, j, by rw [e1, e2], q⟩) he2) he) hg (he := he) (hpl := hpl)
theorem w_strI [BI c.g] {a : Expr} {p pos : Pos} (h : Wv c a Γ fun x => ∃ i : Int, x = .int i ∧ i.natAbs.log2 < 1920 ∧ Q (.str (toString i))) (hg : c.sc.names.lookup ("str" : Str) = some .globalImplicit := by rfl) (he : ∀ env, starEach [a] env = (false, eval a env) :: starEach [] env := by exact fun _ => rfl) : Wv c (.Call (.Name "str" p) [a] [] pos) Γ Q :=
  w_callT c_str (bi _) (wa_cons (h.imp fun x ⟨i, e1, h1, q⟩ => wa_nil ⟨i, by rw [e1], h1, q⟩) he) hg (he := he)
end
end WL
set_option Elab.async false
set_option linter.all false
set_option maxRecDepth 100000
set_option maxHeartbeats 4000000
namespace WL
open PySem PySem.Spec PyProof.Rows L2 Evl
theorem wp_none {c : Ct} {Γ : Gm} {Q : Option Int → Prop} (h : Q none) : WPo c none Γ Q := h
theorem wp_some {c : Ct} {e : Expr} {Γ : Gm} {Q : Option Int → Prop} (h : Wv c e Γ fun d => ∃ i, d = .int i ∧ Q (some i)) : WPo c (some e) Γ Q := h
theorem nice_int {k w : Nat} (i : Int) (h : 1 ≤ w) : Nice k w (.int i) := ⟨rfl, Nat.zero_le _, h⟩
theorem nice_bl {k w : Nat} (i : Bool) (h : 1 ≤ w) : Nice k w (.bl i) := ⟨rfl, Nat.zero_le _, h⟩
theorem nice_non {k w : Nat} (h : 1 ≤ w) : Nice k w .non := ⟨rfl, Nat.zero_le _, h⟩
theorem nice_str {k w : Nat} {s : Str} (h : s.length + 1 ≤ w) (h4 : s.length ≤ 4000) : Nice k w (.str s) := ⟨decide_eq_true h4, Nat.zero_le _, h⟩
theorem nice_el {xs : List D} {x : D} (hok : okL xs = true) (hx : x ∈ xs) : Nice (depL xs) (wtL xs) x := ⟨okL_mem hok hx, depL_mem hx, wtL_mem hx⟩
theorem nice_sub {xs ys : List D} (h : ys.Sublist xs) (hok : okL xs = true) (h4 : wtL xs + 1 ≤ 4000) : Nice (depL xs + 1) (wtL xs + 1) (.tup ys) ∧ Nice (depL xs + 1) (wtL xs + 1) (.lst ys) :=
  ⟨nice_tup (fun x hx => ⟨okL_mem hok (h.subset hx), depL_mem (h.subset hx)⟩) (by have := wtL_sub h; omega) h4, nice_lst (fun x hx => ⟨okL_mem hok (h.subset hx), depL_mem (h.subset hx)⟩) (by have := wtL_sub h; omega) h4⟩
theorem cut_sub (xs : List D) (a b : Option Int) : (cutD xs a b).Sublist xs := (List.take_sublist _ _).trans (List.drop_sublist _ _)
theorem rset_map {xs : List D} {r : Nat} {d : D} : ((List.range xs.length).map fun (i : Nat) => if (i : Int) = (r : Int) then d else xs.getD i .non) = xs.set r d := by
  apply List.ext_getElem
  · simp
  · intro i h1 h2
    rw [List.getElem_map, List.getElem_range, List.getElem_set]
    rw [List.length_map, List.length_range] at h1
    by_cases h : r = i
    · subst h
      rw [if_pos rfl, if_pos rfl]
    · rw [if_neg h, if_neg (fun z => h (Int.ofNat_inj.mp z).symm), List.getD_eq_getElem?_getD, List.getElem?_eq_getElem h1]
      rfl
theorem nice_set {xs : List D} {r : Nat} {d : D} (hok : okL xs = true) (hr : r < xs.length) (hd : d.ok = true) (hk : d.dep ≤ depL xs + 1) {w : Nat} (hw : wtL xs + d.wt + 1 ≤ w) (h4 : w ≤ 4000) : Nice (depL xs + 2) w (.tup (xs.set r d)) := by
  refine nice_tup (fun x hx => ?_) ?_ h4
  · rcases List.mem_or_eq_of_mem_set hx with h | h
    · exact ⟨okL_mem hok h, by have := depL_mem h; omega⟩
    · rw [h]; exact ⟨hd, hk⟩
  · have := wtL_set (d := d) (List.getElem?_eq_getElem hr)
    omega
end WL
set_option Elab.async false
set_option linter.all false
set_option maxRecDepth 100000
set_option maxHeartbeats 4000000
namespace WL
open PySem PySem.Spec PyProof.Rows L2 Evl
theorem kputD_old {k : Key} {x old : D} : ∀ {ks : List Key} {ds : List D}, dval ks ds k = some old → wtL (kputD ks ds k x) + old.wt = wtL ds + x.wt
  | [], [], h => by cases h
  | [], _ :: _, h => by cases h
  | _ :: _, [], h => by cases h
  | j :: ks, y :: ds, h => by
    unfold dval at h
    unfold kputD
    by_cases e : j = k
    · rw [if_pos e] at h ⊢
      cases h
      rw [wtL_cons, wtL_cons]
      omega
    · rw [if_neg e] at h ⊢
      have := kputD_old (x := x) h
      rw [wtL_cons, wtL_cons]
      omega
theorem nice_put {ks : List Key} {xs : List D} {key : Key} {part : D} (hok : (D.dct ks xs).ok = true) (hp : part.ok = true) {k w : Nat} (hk : depL xs ≤ k) (hkp : part.dep ≤ k) (hw : wtL (kputD ks xs key part) + 1 ≤ w) (h4 : w ≤ 4000) : Nice (k + 1) w (.dct (kputK ks key) (kputD ks xs key part)) := by
  obtain ⟨_, hle, hnd, hokL⟩ := ok_dctN hok
  refine nice_dct (kputD_len hle) (kputK_nodup hnd key) (fun x hx => ?_) hw h4
  rcases kputD_mem hx with e | h
  · rw [e]; exact ⟨hp, hkp⟩
  · exact ⟨okL_mem hokL h, Nat.le_trans (depL_mem h) hk⟩
theorem nice_with {ks : List Key} {xs : List D} {key : Key} {part old : D} (hok : (D.dct ks xs).ok = true) (hold : dval ks xs key = some old) (hp : part.ok = true) {k w : Nat} (hk : depL xs ≤ k) (hkp : part.dep ≤ k) (hw : wtL xs + part.wt + 1 ≤ w + old.wt) (h4 : w ≤ 4000) : Nice (k + 1) w (.dct (kputK ks key) (kputD ks xs key part)) :=
  nice_put hok hp hk hkp (by have := kputD_old (x := part) hold; omega) h4
theorem nice_withN {ks : List Key} {xs : List D} {key : Key} {part : D} (hok : (D.dct ks xs).ok = true) (hp : part.ok = true) {k w : Nat} (hk : depL xs ≤ k) (hkp : part.dep ≤ k) (hw : wtL xs + part.wt + 1 ≤ w) (h4 : w ≤ 4000) : Nice (k + 1) w (.dct (kputK ks key) (kputD ks xs key part)) :=
  nice_put hok hp hk hkp (by have := kputD_wt (k := key) (x := part) (ok_dctN hok).2.1; omega) h4
theorem nice_without {ks : List Key} {xs : List D} (key : Key) (hok : (D.dct ks xs).ok = true) (h4 : wtL xs + 1 ≤ 4000) : Nice (depL xs + 1) (wtL xs + 1) (.dct (drpK ks key) (drpD ks xs key)) := by
  obtain ⟨_, hle, hnd, hokL⟩ := ok_dctN hok
  exact nice_dct (drpK_len hle) (drpK_nodup hnd key) (fun x hx => ⟨okL_mem hokL (drpD_sub.subset hx), depL_mem (drpD_sub.subset hx)⟩) (by have := wtL_sub (drpD_sub (ks := ks) (ds := xs) (k := key)); omega) h4
theorem wts_nil {c : Ct} {Γ : Gm} {Q : Bool → Prop} (h : Q true) : WTs c [] Γ Q := h
theorem wts_one {c : Ct} {t : Expr} {Γ : Gm} {Q : Bool → Prop} (h : WB c t Γ Q) : WTs c [t] Γ Q := h
theorem ww_imp {c : Ct} {e : Expr} {Γ : Gm} {Q Q' : Bool → Prop} (h : WWB c e Γ Q') (i : ∀ b, Q' b → Q b) : WWB c e Γ Q := fun X Ft m G0 H0 σ G H E Qv qv => h X Ft m G0 H0 σ G H E Qv fun b G' H' hb g => qv b G' H' (i b hb) g
theorem cut_to (xs : List D) {n : Nat} (h : n ≤ xs.length) : cutD xs none (some (n : Int)) = xs.take n := by
  unfold cutD
  rw [HT.sIx_none, HT.sIx_nat, Nat.min_eq_left h, List.drop_zero, Nat.sub_zero]
theorem cut_from (xs : List D) {n : Nat} (h : n ≤ xs.length) : cutD xs (some (n : Int)) none = xs.drop n := by
  unfold cutD
  rw [HT.sIx_none, HT.sIx_nat, Nat.min_eq_left h]
  exact List.take_of_length_le (by rw [List.length_drop]; exact Nat.le_refl _)
theorem wtL_mid {xs : List D} {n : Nat} {x d : D} (h : xs[n]? = some x) : wtL (xs.take n ++ [d] ++ xs.drop (n + 1)) + x.wt = wtL xs + d.wt := by
  obtain ⟨hn, e⟩ := List.getElem?_eq_some_iff.mp h
  have e2 : xs = xs.take n ++ (x :: xs.drop (n + 1)) := by
    rw [← e, ← List.drop_eq_getElem_cons hn, List.take_append_drop]
  have e3 := congrArg wtL e2
  rw [wtL_app, wtL_cons] at e3
  rw [wtL_app, wtL_app, wtL_cons, wtL_nil]
  omega
theorem wtL_rep (n : Nat) (x : D) : wtL (List.replicate n [x]).flatten = n * x.wt := by
  induction n with
  | zero => rw [List.replicate_zero, List.flatten_nil, wtL_nil, Nat.zero_mul]
  | succ n ih => rw [List.replicate_succ, List.flatten_cons, wtL_app, ih, wtL_cons, wtL_nil, Nat.succ_mul]; omega
theorem mem_rep {n : Nat} {x y : D} (h : y ∈ (List.replicate n [x]).flatten) : y = x := by
  obtain ⟨l, hl, hy⟩ := List.mem_flatten.mp h
  rw [(List.mem_replicate.mp hl).2] at hy
  exact List.mem_singleton.mp hy
theorem ints_facts : ∀ ns : List Int, okL (ns.map D.int) = true ∧ depL (ns.map D.int) = 0 ∧ wtL (ns.map D.int) = ns.length
  | [] => ⟨by rw [List.map_nil]; unfold okL; rfl, by rw [List.map_nil, depL_nil], by rw [List.map_nil, wtL_nil]; rfl⟩
  | n :: ns => by
    obtain ⟨a, b, c⟩ := ints_facts ns
    rw [List.map_cons]
    refine ⟨by unfold okL; rw [a]; rfl, by rw [depL_cons, b]; rfl, by rw [wtL_cons, c, List.length_cons]; show 1 + _ = _; omega⟩
theorem nice_ints {ns : List Int} (h : ns.length + 1 ≤ 4000) : Nice 1 (ns.length + 1) (.tup (ns.map D.int)) := by
  obtain ⟨a, b, c⟩ := ints_facts ns
  exact ⟨mk_tup (by rw [List.length_map]; omega) a, by rw [dep_tup, b]; omega, by rw [wt_tup, c]; omega⟩
theorem log_small {n : Nat} (h : n < 2 ^ 10) : n.log2 < 1920 := by
  by_cases h0 : n = 0
  · subst h0; decide
  · have := (Nat.log2_lt h0).mpr h
    omega
theorem str_1000 : ∀ n : Nat, n < 1000 → ((toString (n : Int) : String) : Str).length ≤ 10 := by
  have h : ∀ n : _root_.Fin 1000, ((toString ((n : Nat) : Int) : String) : Str).length ≤ 10 := by decide +kernel
  exact fun n hn => h ⟨n, hn⟩
end WL
set_option Elab.async false
set_option linter.all false
set_option maxRecDepth 100000
set_option maxHeartbeats 4000000
namespace WL
open PySem PySem.Spec PyProof.Rows L2 Evl
theorem bs_imp {c : Ct} {st : Stmt} {Γ : Gm} {E : Ends'} (P : Gm → Prop) (h : BS c st Γ { E with nx := P }) (i : ∀ Γ', P Γ' → E.nx Γ') : BS c st Γ E := fun X Ft m G0 H0 σ G H En D f => h X Ft m G0 H0 σ G H En D ⟨fun Γ' σ' G' H' q => f.nx Γ' σ' G' H' (i Γ' q), f.rt, f.bk, f.ct⟩
/-! ### the sixteen errors, by name -/
def exLeaf : List Str := ["BadRoom", "BadArrangement", "BadWay", "BadThing", "BadShape", "BadRules", "BadValue", "BadMove", "BadText", "NotInside", "NotOne", "NotDown", "NotChain", "TooMany", "NothingToUndo", "NothingToRedo"]
def exText : Str := "BadRoom BadArrangement BadWay BadThing BadShape BadRules BadValue BadMove BadText NotInside NotOne NotDown NotChain TooMany NothingToUndo NothingToRedo"
def exBits (x : Str) : List Bool := exLeaf.map fun y => exSub x y
def exIdx (x : Str) : Nat := exLeaf.idxOf x
theorem leaf_sub {x : Str} (h : x ∈ exLeaf) : x ∈ exNames := List.mem_cons_of_mem _ h
theorem ex_split : Txt.split exText " " = exLeaf := by decide +kernel
theorem ex_facts : ∀ x ∈ exLeaf, ((exBits x).map V.bl).countP (fun z => eqV z (.bl true)) = 1 ∧ ((exBits x).map V.bl)[exIdx x]? = some (.bl true) ∧ (∀ i < exIdx x, ((exBits x).map V.bl)[i]? = some (.bl false)) ∧ exLeaf[exIdx x]? = some x := by decide +kernel
/-- the fields of each -/
def exFields (x : Str) : List Str :=
  if x = "BadRoom" then ["key"] else if x = "BadArrangement" ∨ x = "BadThing" ∨ x = "BadValue" then ["name"] else if x = "BadWay" then ["line"] else if x = "BadShape" then ["row"] else if x = "BadRules" ∨ x = "BadMove" ∨ x = "TooMany" then ["word"] else if x = "BadText" then ["line", "column"] else []
end WL
set_option Elab.async false
set_option linter.all false
set_option maxRecDepth 100000
set_option maxHeartbeats 4000000
namespace WL
open PySem PySem.Spec PyProof.Rows L2 Evl
/-! ### arrangements as functions -/
def PermOn (n : Nat) (f : Nat → Nat) : Prop := (∀ i, i < n → f i < n) ∧ ∀ i j, i < n → j < n → f i = f j → i = j
def arrI (n : Nat) (f : Nat → Nat) : List Int := (List.range n).map fun i => (f i : Int)
def arrD (n : Nat) (f : Nat → Nat) : D := .tup ((arrI n f).map D.int)
theorem arrI_len (n : Nat) (f : Nat → Nat) : (arrI n f).length = n := by unfold arrI; rw [List.length_map, List.length_range]
theorem arrI_get {n : Nat} {f : Nat → Nat} {i : Nat} (h : i < n) : (arrI n f)[i]? = some (f i : Int) := by
  unfold arrI
  rw [List.getElem?_map, List.getElem?_range h] <;> rfl
theorem arrL_len (n : Nat) (f : Nat → Nat) : ((arrI n f).map D.int).length = n := by rw [List.length_map, arrI_len]
theorem arrL_get {n : Nat} {f : Nat → Nat} {i : Nat} (h : i < n) : ((arrI n f).map D.int)[i]? = some (.int (f i : Int)) := by
  rw [List.getElem?_map, arrI_get h] <;> rfl
theorem arr_at {n : Nat} {f : Nat → Nat} {i : Nat} (h : i < n) : atI ((arrI n f).map D.int) (i : Int) = some (.int (f i : Int)) := by
  unfold L2.atI
  rw [arrL_len, ixN_nat h]
  exact arrL_get h
theorem arrI_congr {n : Nat} {f g : Nat → Nat} (h : ∀ i, i < n → f i = g i) : arrI n f = arrI n g := by
  unfold arrI
  apply List.map_congr_left
  intro i hi
  rw [h i (List.mem_range.mp hi)]
theorem arrD_congr {n : Nat} {f g : Nat → Nat} (h : ∀ i, i < n → f i = g i) : arrD n f = arrD n g := by unfold arrD; rw [arrI_congr h]
theorem arrI_ext {n : Nat} {f : Nat → Nat} {l : List Int} (hl : l.length = n) (h : ∀ i, i < n → l[i]? = some (f i : Int)) : l = arrI n f := by
  apply List.ext_getElem?
  intro i
  by_cases hi : i < n
  · rw [h i hi, arrI_get hi]
  · rw [List.getElem?_eq_none (by omega), List.getElem?_eq_none (by rw [arrI_len]; omega)]
theorem arrI_nodup {n : Nat} {f : Nat → Nat} (h : PermOn n f) : (arrI n f).Nodup := by
  unfold arrI
  rw [List.nodup_iff_pairwise_ne, List.pairwise_map]
  refine List.Pairwise.imp_of_mem ?_ List.pairwise_lt_range
  intro a b ha hb hab e
  have := h.2 a b (List.mem_range.mp ha) (List.mem_range.mp hb) (Int.ofNat_inj.mp e)
  omega
theorem arrI_mem {n : Nat} {f : Nat → Nat} {x : Int} : x ∈ arrI n f ↔ ∃ i, i < n ∧ x = (f i : Int) := by
  unfold arrI
  rw [List.mem_map]
  exact ⟨fun ⟨i, hi, e⟩ => ⟨i, List.mem_range.mp hi, e.symm⟩, fun ⟨i, hi, e⟩ => ⟨i, List.mem_range.mpr hi, e.symm⟩⟩
theorem arrI_perm {n : Nat} {f : Nat → Nat} (h : PermOn n f) : (arrI n f).Perm (rgI (n : Int)) := by
  refine perm_of_sub (arrI_nodup h) (rgI_nodup _) (fun x hx => ?_) (by rw [rgI_len, arrI_len]; omega)
  obtain ⟨i, hi, rfl⟩ := arrI_mem.mp hx
  have := h.1 i hi
  exact rgI_mem.mpr ⟨by omega, by omega⟩
theorem perm_fun {n : Nat} {ns : List Int} (h : ns.Perm (rgI (n : Int))) : ∃ f, PermOn n f ∧ ns = arrI n f := by
  have hl : ns.length = n := by rw [h.length_eq, rgI_len]; omega
  have hr : ∀ i (hi : i < ns.length), 0 ≤ ns[i] ∧ ns[i] < (n : Int) := fun i hi => rgI_mem.mp (h.mem_iff.mp (List.getElem_mem hi))
  have hnd : ns.Nodup := h.nodup_iff.mpr (rgI_nodup _)
  refine ⟨fun i => (ns.getD i 0).toNat, ⟨fun i hi => ?_, fun i j hi hj e => ?_⟩, ?_⟩
  · have := hr i (by omega)
    show (ns.getD i 0).toNat < n
    rw [List.getD_eq_getElem?_getD, List.getElem?_eq_getElem (by omega : i < ns.length)]
    show (ns[i]).toNat < n
    omega
  · have h1 := hr i (by omega)
    have h2 := hr j (by omega)
    have e' : (ns.getD i 0).toNat = (ns.getD j 0).toNat := e
    rw [List.getD_eq_getElem?_getD, List.getElem?_eq_getElem (by omega : i < ns.length), List.getD_eq_getElem?_getD, List.getElem?_eq_getElem (by omega : j < ns.length)] at e'
    have e2 : ns[i] = ns[j] := by
      have e3 : (ns[i]).toNat = (ns[j]).toNat := e'
      omega
    rcases Nat.lt_trichotomy i j with hlt | heq | hgt
    · exact absurd e2 ((List.pairwise_iff_getElem.mp hnd) i j (by omega) (by omega) hlt)
    · exact heq
    · exact absurd e2.symm ((List.pairwise_iff_getElem.mp hnd) j i (by omega) (by omega) hgt)
  · refine arrI_ext hl fun i hi => ?_
    have := hr i (by omega)
    rw [List.getElem?_eq_getElem (by omega : i < ns.length)]
    congr 1
    show ns[i] = (((ns.getD i 0).toNat : Nat) : Int)
    rw [List.getD_eq_getElem?_getD, List.getElem?_eq_getElem (by omega : i < ns.length)]
    show ns[i] = ((ns[i]).toNat : Int)
    omega
theorem permOn_id (n : Nat) : PermOn n id := ⟨fun _ h => h, fun _ _ _ _ h => h⟩
theorem permOn_comp {n : Nat} {f g : Nat → Nat} (hf : PermOn n f) (hg : PermOn n g) : PermOn n (fun i => g (f i)) := ⟨fun i hi => hg.1 _ (hf.1 i hi), fun i j hi hj e => hf.2 i j hi hj (hg.2 _ _ (hf.1 i hi) (hf.1 j hj) e)⟩
theorem permOn_surj {n : Nat} {f : Nat → Nat} (h : PermOn n f) {k : Nat} (hk : k < n) : ∃ i, i < n ∧ f i = k := by
  have := (arrI_perm h).mem_iff.mpr (rgI_mem.mpr ⟨by omega, by omega⟩ : (k : Int) ∈ rgI (n : Int))
  obtain ⟨i, hi, e⟩ := arrI_mem.mp this
  exact ⟨i, hi, (Int.ofNat_inj.mp e).symm⟩
/-- the back of f: the least place that f brings there -/
def backF (n : Nat) (f : Nat → Nat) (k : Nat) : Nat := ((List.range n).find? fun i => f i == k).getD 0
theorem backF_left {n : Nat} {f : Nat → Nat} (h : PermOn n f) {i : Nat} (hi : i < n) : backF n f (f i) = i := by
  unfold backF
  cases e : (List.range n).find? fun j => f j == f i with
  | none =>
    have := List.find?_eq_none.mp e i (List.mem_range.mpr hi)
    exact absurd (beq_self_eq_true (f i)) this
  | some j =>
    have h1 := List.find?_some e
    have h2 := List.mem_of_find?_eq_some e
    exact h.2 j i (List.mem_range.mp h2) hi (eq_of_beq h1)
theorem backF_right {n : Nat} {f : Nat → Nat} (h : PermOn n f) {k : Nat} (hk : k < n) : f (backF n f k) = k ∧ backF n f k < n := by
  obtain ⟨i, hi, e⟩ := permOn_surj h hk
  rw [← e, backF_left h hi]
  exact ⟨rfl, hi⟩
theorem permOn_back {n : Nat} {f : Nat → Nat} (h : PermOn n f) : PermOn n (backF n f) := by
  refine ⟨fun k hk => (backF_right h hk).2, fun i j hi hj e => ?_⟩
  have h1 := (backF_right h hi).1
  have h2 := (backF_right h hj).1
  rw [e] at h1
  exact h1.symm.trans h2
end WL
set_option Elab.async false
set_option linter.all false
set_option maxRecDepth 100000
set_option maxHeartbeats 4000000
namespace WL
open PySem PySem.Spec PyProof.Rows L2 Evl He
/-! ### exception classes -/
theorem oexB_ok {K : PySem.W.Frag} {C : Addr} (h : oexB K C = true) : OexC K C := by
  obtain ⟨h1, h2⟩ := ba h
  obtain ⟨h3, h4⟩ := ba h2
  obtain ⟨h5, h6⟩ := ba h4
  obtain ⟨h7, h8⟩ := ba h6
  refine ⟨?_, of_decide_eq_true h3, of_decide_eq_true h5, of_decide_eq_true h7, h8⟩
  split at h1
  · rename_i t dd cd sl ho
    split at h1
    · rename_i C' bm k0 k1 k2 k3 n k5 hm hs
      obtain ⟨a1, h1⟩ := ba h1
      obtain ⟨a2, h1⟩ := ba h1
      obtain ⟨a3, h1⟩ := ba h1
      obtain ⟨a4, h1⟩ := ba h1
      obtain ⟨a5, a6⟩ := ba h1
      have e1 := of_decide_eq_true a1
      have e2 := of_decide_eq_true a2
      have e3 := of_decide_eq_true a3
      subst e1 e2 e3
      obtain ⟨nm, bs, mro, ns, qn, hd, sn, sub, ab, col, del⟩ := cd
      dsimp only at hm a4 a5
      subst hm a4
      have e5 : del = false := by cases del <;> first | rfl | cases a5
      subst e5
      have hsl : sl = #[k0, k1, k2, k3, some (.builtin "ValueError.__new__"), k5] := by
        obtain ⟨l⟩ := sl
        exact congrArg Array.mk hs
      subst hsl
      exact ⟨nm, qn, ns, bs, bm, sn, sub, ab, col, dd, k0, k1, k2, k3, k5, ho, a6⟩
    · cases h1
  · cases h1
theorem excB_ok {K : PySem.W.Frag} {D : Addr} (h : excB K D = true) : ExcC K D := by
  obtain ⟨h1, h⟩ := ba h
  obtain ⟨h2, h⟩ := ba h
  obtain ⟨h3, h⟩ := ba h
  obtain ⟨h4, h⟩ := ba h
  obtain ⟨h5, h⟩ := ba h
  obtain ⟨h6, h⟩ := ba h
  obtain ⟨h7, h8⟩ := ba h
  exact ⟨of_decide_eq_true h1, of_decide_eq_true h2, of_decide_eq_true h3, h4, of_decide_eq_true h5, of_decide_eq_true h6, of_decide_eq_true h7, of_decide_eq_true h8⟩
/-- the facts about the seventeen classes -/
theorem xw_of {g : Gx} {h : Heap} (X : g.K.In h) (G : h.Ns mainGlobals g.mg) (b : xwB g.K = true) : XW g := by
  obtain ⟨b1, b2⟩ := ba b
  have glo : ∀ x ∈ exNames, g.mg x = some (.ref (ga g.K x)) := fun x hx => PySem.W.mg_of X G (eqO_ok (ba (List.all_eq_true.mp b1 x hx)).1)
  refine ⟨fun x hx => ?_, fun x hx y hy C D hC hD => ?_⟩
  · obtain ⟨c1, c2⟩ := ba (List.all_eq_true.mp b1 x hx)
    obtain ⟨c2, c3⟩ := ba c2
    obtain ⟨c3, c4⟩ := ba c3
    exact ⟨_, glo x hx, excB_ok c2, of_decide_eq_true c3, fun f hf => of_decide_eq_true (List.all_eq_true.mp c4 f hf)⟩
  · rw [glo x hx] at hC
    rw [glo y hy] at hD
    cases hC
    cases hD
    exact of_decide_eq_true (List.all_eq_true.mp (List.all_eq_true.mp b2 x hx) y hy)
/-- a class of exceptions with one field -/
theorem xcls_of {g : Gx} {h : Heap} {x f qual : Str} {params : Arguments} {scope : Scope} {fd : FuncData} {p1 p2 p3 p4 : Pos} (X : g.K.In h) (G : h.Ns mainGlobals g.mg) (c1 : gloB g.K x = true) (c2 : oexB g.K (ga g.K x) = true) (c3 : (Fa.meth x "__init__").ok g.K = true) (c4 : (Fa.noat x f).ok g.K = true)
    (F : FunD g.K "__init__" qual params [.Assign [.Attribute (.Name "self" p1) f p2] (.Name f p3) p4] scope [] [] (fAd g.K (x, some "__init__")) fd) (sc : FnScope ["self", f] ["self", f] scope) (hv : Vis scope f) (hvs : Vis scope "self") (hd : (f == ("__debug__" : Str)) = false) (hcd : (f == ("__classdict__" : Str)) = false)
    (b : ∀ (kV doc pm : Value) (an : Option Addr) (cdv ct : Value) (us : List Value), us.length = 2 → bindArgs (PySem.W.fnOf "__init__" qual params [.Assign [.Attribute (.Name "self" p1) f p2] (.Name f p3) p4] scope .none kV doc pm an cdv ct) ⟨us, []⟩ = pure ((["self", f] : List Str).zip us)) : XCls g x f := by
  obtain ⟨m1, m2, m3⟩ := meth_ok c3
  refine ⟨ga g.K x, _, fd, PySem.W.mg_of X G (eqO_ok c1), oexB_ok c2, m1, ?_, noat_ok c4, F.bindsN b, init_ok F sc hv hvs hd hcd⟩
  have := m2
  unfold PySem.W.isFn at this
  exact beq_iff_eq.mp this
end WL
set_option Elab.async false
set_option linter.all false
set_option maxRecDepth 100000
set_option maxHeartbeats 4000000
namespace WL
open PySem PySem.Spec PyProof.Rows L2 Evl
section
variable {c : Ct} {Γ : Gm} {Q : D → Prop} {E : Ends'}
/-- while: I n, with the measure n -/
theorem bs_while {t : Expr} {body : List Stmt} {pos : Pos} (I : Nat → Gm → Prop) (h0 : ∃ n, I n Γ) (h : ∀ n Γ', I n Γ' → WB c t Γ' fun b => if b = true then BL c body Γ' { nx := fun Γ'' => ∃ k, k < n ∧ I k Γ'', ct := fun Γ'' => ∃ k, k < n ∧ I k Γ'', bk := E.nx, rt := E.rt } else E.nx Γ') (hh : c.hx = none := by rfl) : BS c (.While t body [] pos) Γ E := by
  intro X Ft m G0 H0 σ G H En0 D f
  have Ft' := Ft
  obtain ⟨k0, er, tp, hx, rfl, hcold, hu0⟩ := Ft'
  obtain ⟨hc', hro, hpo⟩ := hcold hh
  obtain ⟨n0, hn0⟩ := h0
  refine ⟨_, ps_while hpo.1 pt_jt pss_js, fun n σ' H' => ∃ Γ' G', I n Γ' ∧ En (Ct.of X k0 er tp hx) X m G0 H0 Γ' σ' G' H' ∧ Ex G G', ⟨n0, Γ, G, hn0, En0, Ex.refl _⟩, ?_⟩
  rintro n σ' H' ⟨Γ', G', hI, E', x'⟩
  refine h n Γ' hI X Ft m G0 H0 σ' G' H' E' _ fun b G1 H1 hb g1 => ?_
  have E1 := E'.step g1
  have x1 := x'.trans g1.ex
  cases b with
  | false => exact iteF (f.nx _ _ _ _ hb x1 E1)
  | true =>
    have hb' : BL (Ct.of X k0 er tp hx) body Γ' { nx := fun Γ'' => ∃ k, k < n ∧ I k Γ'', ct := fun Γ'' => ∃ k, k < n ∧ I k Γ'', bk := E.nx, rt := E.rt } := hb
    refine iteT ⟨fun σ2 H2 => ∃ k, k < n ∧ ∃ Γ2 G2, I k Γ2 ∧ En (Ct.of X k0 er tp hx) X m G0 H0 Γ2 σ2 G2 H2 ∧ Ex G G2, fun σ2 H2 q => q, ?_⟩
    exact hb' X Ft m G0 H0 σ' G1 H1 E1 _ ⟨fun Γ2 σ2 G2 H2 ⟨k, hk, hi⟩ x2 E2 => ⟨k, hk, Γ2, G2, hi, E2, x1.trans x2⟩, fun v d G2 H2 q x2 => f.rt v d G2 H2 q (x1.trans x2), fun Γ2 σ2 G2 H2 q x2 E2 => f.nx Γ2 σ2 G2 H2 q (x1.trans x2) E2, fun Γ2 σ2 G2 H2 ⟨k, hk, hi⟩ x2 E2 => ⟨k, hk, Γ2, G2, hi, E2, x1.trans x2⟩⟩
/-- x, y = a, b -/
theorem bs_par {x y : Str} {a b : Expr} {px py pt pos : Pos} {kt k2 pt2} (i j : Nat) (nd : c.N.Nodup) (hij : i ≠ j) (h : Wv c a Γ fun d => Wv c b Γ fun e => E.nx ((Γ.set i (.val d)).set j (.val e))) (hN : c.N[i]? = some x := by rfl) (hM : c.N[j]? = some y := by rfl) (hx : c.sc.names.lookup x = some .local := by rfl) (hy : c.sc.names.lookup y = some .local := by rfl)
    (hw : ∀ env : Env, env.scope = c.sc → swappedStores [.Tuple [.Name x px, .Name y py] kt pt] (.Tuple [a, b] k2 pt2) env = pure (some [x, y])) (hs : ∀ env, swapsWithSole [.Tuple [.Name x px, .Name y py] kt pt] (.Tuple [a, b] k2 pt2) pos.line env = pure false := by exact fun _ => rfl)
    (ha : ∀ env, starEach [a, b] env = (false, eval a env) :: starEach [b] env := by exact fun _ => rfl) (hb : ∀ env, starEach [b] env = (false, eval b env) :: starEach [] env := by exact fun _ => rfl) (hh : c.hx = none := by rfl) :
    BS c (.Assign [.Tuple [.Name x px, .Name y py] kt pt] (.Tuple [a, b] k2 pt2) pos) Γ E := by
  intro X Ft m G0 H0 σ G H En0 D f
  have Ft' := Ft
  obtain ⟨k0, er, tp, hx', rfl, hcold, hu0⟩ := Ft'
  obtain ⟨hc', hro, hpo⟩ := hcold hh
  refine ⟨_, ps_par hc' nd hN hM hij hx hy (pa_cons pe_je (pa_cons pe_je pa_nil (hb _)) (ha _)) (hw _ rfl) (hs _), h X Ft m G0 H0 σ G H En0 _ fun v d G1 H1 h1 g1 r1 => ?_⟩
  have E1 := En0.step g1
  refine h1 X Ft m G0 H0 σ G1 H1 E1 _ fun w e G2 H2 q g2 r2 => ⟨v, w, rfl, ?_⟩
  exact f.nx _ _ G2 H2 q (g1.ex.trans g2.ex) (((E1.step g2).set i (r1.mono g2.ex)).set j r2)
/-- three names of a tuple -/
theorem wt_tup3 {x y z : Str} {p q r pos : Pos} {kk : Nat} (i j l : Nat) (nd : c.N.Nodup) (hN : c.N[i]? = some x := by rfl) (hM : c.N[j]? = some y := by rfl) (hL : c.N[l]? = some z := by rfl) (hl : Loc c.sc x := by first | exact Or.inl rfl | exact Or.inr rfl) (hl2 : Loc c.sc y := by first | exact Or.inl rfl | exact Or.inr rfl) (hl3 : Loc c.sc z := by first | exact Or.inl rfl | exact Or.inr rfl)
    (hf : c.fn x = true ∨ c.sc.names.lookup x = some .local := by first | exact Or.inl rfl | exact Or.inr rfl) (hf2 : c.fn y = true ∨ c.sc.names.lookup y = some .local := by first | exact Or.inl rfl | exact Or.inr rfl) (hf3 : c.fn z = true ∨ c.sc.names.lookup z = some .local := by first | exact Or.inl rfl | exact Or.inr rfl) (hh : c.hx = none := by rfl) :
    WT c (.Tuple [.Name x p, .Name y q, .Name z r] kk pos) (fun d Γ N => ∃ a b e, d = .tup [a, b, e] ∧ N (((Γ.set i (.val a)).set j (.val b)).set l (.val e))) := by
  rintro X ⟨k0, er, tp, hx, rfl, hcold, hu0⟩
  obtain ⟨hc, hro, hpo⟩ := hcold hh
  refine ⟨_, pg_tup hc (pgs_cons (pg_name (i := i) nd hN hl hf) (pgs_cons (pg_name (i := j) nd hM hl2 hf2) (pgs_cons (pg_name (i := l) nd hL hl3 hf3) pgs_nil))), fun m G0 H0 Γ σ G H v d N Qh E r ⟨a, b, e, ed, h⟩ k => ?_⟩
  subst ed
  cases r with
  | @tup t us _ ht lt =>
    cases lt with
    | cons ru lt =>
      obtain ⟨w1, w2, rfl, rw1, rw2⟩ := repL2 lt
      exact ⟨t, _, rfl, ex_t E.sub.1 ht, rfl, _, _, rfl, w1, _, rfl, w2, _, rfl, rfl, k _ _ h (((E.set i ru).set j rw1).set l rw2)⟩
theorem walks_zT {K : PySem.W.Frag} {m : Option Addr} {G : Hp} {a b : Addr} {vs us : List V} {ds es : List D} (ha : SqT K G a vs) (hb : SqT K G b us) (la : RepL K m G vs ds) (lb : RepL K m G us es) : Walks K m (RZ.ItzT K a b) (List.zipWith (fun x y => D.tup [x, y]) ds es) G := by
  intro G1 H1 i e s so
  have h1 : SqT K H1 a vs := ex_t s.1 (ex_t e ha)
  have h2 : SqT K H1 b us := ex_t s.1 (ex_t e hb)
  refine ⟨fun d hd => ?_, fun hi => ⟨vs, us, h1, h2, by rw [List.length_zipWith] at hi; rw [la.length, lb.length]; omega⟩⟩
  rw [List.getElem?_zipWith] at hd
  cases e1 : ds[i]? with
  | none => rw [e1] at hd; cases hd
  | some x =>
    cases e2 : es[i]? with
    | none => rw [e1, e2] at hd; cases hd
    | some y =>
      rw [e1, e2] at hd
      cases hd
      obtain ⟨v, hv, rv⟩ := la.get e1
      obtain ⟨u, hu, ru⟩ := lb.get e2
      refine ⟨⟨vs, us, v, u, h1, h2, hv, hu⟩, fun z H2 ⟨T, x', y', e3, e4, e5, e6, e7⟩ => ?_⟩
      subst e3 e5
      have q1 := e6 vs h1
      have q2 := e7 us h2
      rw [hv] at q1
      rw [hu] at q2
      cases q1
      cases q2
      exact ⟨upd G1 T (.tup [v, u]), Good.laid s e4, .tup (.inl (.inl upd_same)) (.cons ((rv.mono e).mono (Ex.new (s.none e4))) (.cons ((ru.mono e).mono (Ex.new (s.none e4))) .nil))⟩
theorem wi_zipT [BI c.g] {e f : Expr} {elts : List Expr} {kk : Nat} {p pos tpos : Pos} {Q : List D → Prop} (h : Wv c e Γ fun d => Wv c f Γ fun d2 => ∃ ds es, d = .tup ds ∧ d2 = .tup es ∧ Q (List.zipWith (fun x y => D.tup [x, y]) ds es)) (hg : c.sc.names.lookup ("zip" : Str) = some .globalImplicit := by rfl)
    (na : ∀ env, starEach [e, f] env = (false, eval e env) :: starEach [f] env := by exact fun _ => rfl) (nb : ∀ env, starEach [f] env = (false, eval f env) :: starEach [] env := by exact fun _ => rfl) (hpl : ∀ env, (backTo pos (starEach [f] env)).any (·.1) = false := by exact fun _ => rfl) : WI c (.Tuple elts kk tpos) (.Call (.Name "zip" p) [e, f] [] pos) Γ Q := by
  intro X Ft m G0 H0 σ G H E R hR
  have m1 := bi (c := c) "zip"
  have Ft' := Ft
  obtain ⟨k0, er, tp, hx, rfl, hcold, hu0⟩ := Ft'
  refine ⟨_, RZ.pi_zipA hg m1 (pa_cons pe_je (pa_cons pe_je pa_nil (nb _)) (na _)) (na _) (hpl _), h X Ft m G0 H0 σ G H E _ fun v d G1 H1 h1 g1 r1 => ?_⟩
  have E1 := E.step g1
  refine h1 X Ft m G0 H0 σ G1 H1 E1 _ fun u d2 G2 H2 ⟨ds, es, e1, e2, q⟩ g2 r2 => ?_
  subst e1 e2
  have E2 := E1.step g2
  have r1' := r1.mono g2.ex
  cases r1' with
  | @tup a vs _ ha la =>
    cases r2 with
    | @tup b us _ hb lb => exact ⟨a, b, vs, us, rfl, .inr ⟨ex_t E2.sub.1 ha, ex_t E2.sub.1 hb, hR _ _ G2 H2 q (g1.trans E.sok g2) (walks_zT ha hb la lb)⟩⟩
end
end WL
set_option Elab.async false
set_option linter.all false
set_option maxRecDepth 100000
set_option maxHeartbeats 4000000
namespace WL
open PySem PySem.Spec PyProof.Rows L2 Evl
/-! ### going on along an arrangement -/
def itf (f : Nat → Nat) : Nat → Nat → Nat
  | 0, x => x
  | k + 1, x => f (itf f k x)
theorem itf_add (f : Nat → Nat) (a b x : Nat) : itf f (a + b) x = itf f a (itf f b x) := by
  induction a with
  | zero => rw [Nat.zero_add]; rfl
  | succ a ih => rw [Nat.succ_add]; show f (itf f (a + b) x) = f (itf f a (itf f b x)); rw [ih]
theorem itf_one (f : Nat → Nat) (k x : Nat) : itf f (k + 1) x = itf f k (f x) := itf_add f k 1 x
theorem itf_lt {n : Nat} {f : Nat → Nat} (h : PermOn n f) {x : Nat} (hx : x < n) : ∀ k, itf f k x < n
  | 0 => hx
  | k + 1 => h.1 _ (itf_lt h hx k)
theorem itf_inj {n : Nat} {f : Nat → Nat} (h : PermOn n f) {x y : Nat} (hx : x < n) (hy : y < n) : ∀ k, itf f k x = itf f k y → x = y
  | 0, e => e
  | k + 1, e => itf_inj h hx hy k (h.2 _ _ (itf_lt h hx k) (itf_lt h hy k) e)
/-- the least k below n with P, else n -/
def leastK (P : Nat → Bool) : Nat → Nat
  | 0 => 0
  | n + 1 => if leastK P n < n then leastK P n else if P n = true then n else n + 1
theorem leastK_spec {P : Nat → Bool} : ∀ {n : Nat}, (leastK P n < n → P (leastK P n) = true) ∧ (∀ j, j < leastK P n → P j = false) ∧ leastK P n ≤ n
  | 0 => ⟨fun h => absurd h (Nat.not_lt_zero _), fun j h => absurd h (Nat.not_lt_zero _), Nat.le_refl _⟩
  | n + 1 => by
    obtain ⟨h1, h2, h3⟩ := leastK_spec (P := P) (n := n)
    unfold leastK
    by_cases hl : leastK P n < n
    · rw [if_pos hl]
      exact ⟨fun _ => h1 hl, h2, by omega⟩
    · rw [if_neg hl]
      have he : leastK P n = n := by omega
      rw [he] at h2
      by_cases hP : P n = true
      · rw [if_pos hP]
        exact ⟨fun _ => hP, h2, by omega⟩
      · rw [if_neg hP]
        refine ⟨fun h => absurd h (Nat.lt_irrefl _), fun j hj => ?_, Nat.le_refl _⟩
        by_cases e : j = n
        · rw [e]; exact Bool.eq_false_iff.mpr hP
        · exact h2 j (by omega)
theorem leastK_lt {P : Nat → Bool} {n k : Nat} (hk : k < n) (h : P k = true) : leastK P n ≤ k := by
  by_cases q : leastK P n ≤ k
  · exact q
  · have := (leastK_spec (P := P) (n := n)).2.1 k (by omega)
    rw [h] at this
    cases this
/-- how many steps bring x back -/
def per (n : Nat) (f : Nat → Nat) (x : Nat) : Nat := leastK (fun k => itf f (k + 1) x == x) n + 1
section
variable {n : Nat} {f : Nat → Nat} (h : PermOn n f)
include h
theorem per_ex {x : Nat} (hx : x < n) : ∃ k, k < n ∧ itf f (k + 1) x = x := by
  by_cases q : ∃ k, k < n ∧ itf f (k + 1) x = x
  · exact q
  · have ne : ∀ k, k < n → itf f (k + 1) x ≠ x := fun k hk e => q ⟨k, hk, e⟩
    have nd : ((List.range (n + 1)).map fun k => itf f k x).Nodup := by
      rw [List.nodup_iff_pairwise_ne, List.pairwise_map]
      refine List.Pairwise.imp_of_mem ?_ List.pairwise_lt_range
      intro a b ha hb hab e
      have hb' := List.mem_range.mp hb
      obtain ⟨d, rfl⟩ : ∃ d, b = a + (d + 1) := ⟨b - a - 1, by omega⟩
      rw [itf_add] at e
      exact ne d (by omega) (itf_inj h hx (itf_lt h hx _) a e).symm
    have := len_le_of_sub (m := List.range n) nd fun y hy => by
      obtain ⟨k, _, rfl⟩ := List.mem_map.mp hy
      exact List.mem_range.mpr (itf_lt h hx k)
    rw [List.length_map, List.length_range, List.length_range] at this
    omega
theorem per_le {x : Nat} (hx : x < n) : per n f x ≤ n := by
  obtain ⟨k, hk, e⟩ := per_ex h hx
  have := leastK_lt (P := fun k => itf f (k + 1) x == x) hk (by show (itf f (k + 1) x == x) = true; rw [e]; exact beq_self_eq_true x)
  unfold per
  omega
theorem per_back {x : Nat} (hx : x < n) : itf f (per n f x) x = x := by
  have h1 := (leastK_spec (P := fun k => itf f (k + 1) x == x) (n := n)).1
  have := per_le h hx
  unfold per at this ⊢
  exact eq_of_beq (h1 (by omega))
omit h in
theorem per_pos (x : Nat) : 1 ≤ per n f x := by unfold per; omega
omit h in
theorem per_min {x k : Nat} (h1 : 1 ≤ k) (h2 : k < per n f x) : itf f k x ≠ x := by
  have := (leastK_spec (P := fun k => itf f (k + 1) x == x) (n := n)).2.1 (k - 1) (by unfold per at h2; omega)
  intro e
  rw [show k - 1 + 1 = k by omega, e] at this
  simp at this
theorem itf_mul {x : Nat} (hx : x < n) : ∀ q, itf f (q * per n f x) x = x
  | 0 => by rw [Nat.zero_mul]; rfl
  | q + 1 => by rw [Nat.succ_mul, Nat.add_comm, itf_add, itf_mul hx q, per_back h hx]
theorem itf_mod {x : Nat} (hx : x < n) (k : Nat) : itf f k x = itf f (k % per n f x) x := by
  have e : k = k % per n f x + k / per n f x * per n f x := by rw [Nat.mul_comm, Nat.mod_add_div]
  rw [congrArg (fun z => itf f z x) e, itf_add, itf_mul h hx]
theorem itf_ne {x : Nat} (hx : x < n) {i j : Nat} (hij : i < j) (hj : j < per n f x) : itf f i x ≠ itf f j x := fun e => by
  obtain ⟨d, rfl⟩ : ∃ d, j = i + d := ⟨j - i, by omega⟩
  rw [itf_add] at e
  exact per_min (n := n) (by omega) (by omega) (itf_inj h hx (itf_lt h hx d) i e).symm
theorem per_f {x : Nat} (hx : x < n) : per n f (f x) = per n f x := by
  have hfx := h.1 x hx
  have a1 : ∀ k, itf f k (f x) = f (itf f k x) := fun k => by rw [← itf_one]; rfl
  have le1 : per n f (f x) ≤ per n f x := by
    by_cases q : per n f (f x) ≤ per n f x
    · exact q
    · exact absurd (by rw [a1, per_back h hx]) (per_min (n := n) (f := f) (x := f x) (per_pos x) (by omega))
  have le2 : per n f x ≤ per n f (f x) := by
    by_cases q : per n f x ≤ per n f (f x)
    · exact q
    · have e := per_back h hfx
      rw [a1] at e
      have e2 := h.2 _ _ (itf_lt h hx _) hx e
      exact absurd e2 (per_min (n := n) (per_pos _) (by omega))
  omega
theorem per_itf {x : Nat} (hx : x < n) : ∀ k, per n f (itf f k x) = per n f x
  | 0 => rfl
  | k + 1 => by show per n f (f (itf f k x)) = _; rw [per_f h (itf_lt h hx k), per_itf hx k]
end
/-- the least place that is met from y -/
def mo (n : Nat) (f : Nat → Nat) (y : Nat) : Nat := leastK (fun z => (List.range n).any fun k => itf f k y == z) n
section
variable {n : Nat} {f : Nat → Nat} (h : PermOn n f)
include h
theorem mo_any {y k : Nat} (hy : y < n) : ((List.range n).any fun j => itf f j y == itf f k y) = true := by
  rw [List.any_eq_true]
  refine ⟨k % per n f y, List.mem_range.mpr (Nat.lt_of_lt_of_le (Nat.mod_lt _ (per_pos y)) (per_le h hy)), ?_⟩
  rw [← itf_mod h hy]
  exact beq_self_eq_true _
theorem mo_le {y : Nat} (hy : y < n) (k : Nat) : mo n f y ≤ itf f k y := leastK_lt (itf_lt h hy k) (mo_any h hy)
theorem mo_mem {y : Nat} (hy : y < n) : ∃ k, mo n f y = itf f k y := by
  have h1 := (leastK_spec (P := fun z => (List.range n).any fun k => itf f k y == z) (n := n)).1
  have h2 : mo n f y ≤ y := mo_le h hy 0
  obtain ⟨k, _, e⟩ := List.any_eq_true.mp (h1 (Nat.lt_of_le_of_lt h2 hy))
  exact ⟨k, (eq_of_beq e).symm⟩
theorem mo_lt {y : Nat} (hy : y < n) : mo n f y < n := Nat.lt_of_le_of_lt (mo_le h hy 0) hy
theorem orb_back {x : Nat} (hx : x < n) (k : Nat) : ∃ j, x = itf f j (itf f k x) := by
  refine ⟨k * (per n f x - 1), ?_⟩
  rw [← itf_add]
  have e : k * (per n f x - 1) + k = k * per n f x := by
    obtain ⟨d, hd⟩ : ∃ d, per n f x = d + 1 := ⟨per n f x - 1, by have := per_pos (n := n) (f := f) x; omega⟩
    rw [hd, Nat.add_sub_cancel, Nat.mul_succ]
  rw [e, itf_mul h hx]
theorem mo_itf {x : Nat} (hx : x < n) (k : Nat) : mo n f (itf f k x) = mo n f x := by
  have hk := itf_lt h hx k
  obtain ⟨a, ha⟩ := mo_mem h hx
  obtain ⟨b, hb⟩ := mo_mem h hk
  obtain ⟨j, hj⟩ := orb_back h hx k
  have l1 : mo n f (itf f k x) ≤ mo n f x := by
    rw [ha]
    have := mo_le h hk (a + j)
    rw [itf_add, ← hj] at this
    exact this
  have l2 : mo n f x ≤ mo n f (itf f k x) := by
    rw [hb, ← itf_add]
    exact mo_le h hx _
  omega
theorem mo_mo {y : Nat} (hy : y < n) : mo n f (mo n f y) = mo n f y := by
  obtain ⟨k, hk⟩ := mo_mem h hy
  have := mo_itf h hy k
  rw [← hk] at this
  exact this
/-- in the ring of x just if x is the least place met -/
theorem mo_iff {x y : Nat} (hx : x < n) (hy : y < n) (hm : mo n f x = x) : mo n f y = x ↔ ∃ k, k < per n f x ∧ y = itf f k x := by
  constructor
  · intro e
    obtain ⟨k, hk⟩ := mo_mem h hy
    rw [e] at hk
    obtain ⟨j, hj⟩ := orb_back h hy k
    rw [← hk] at hj
    exact ⟨j % per n f x, Nat.mod_lt _ (per_pos x), by rw [← itf_mod h hx]; exact hj⟩
  · rintro ⟨k, _, rfl⟩
    rw [mo_itf h hx, hm]
end
def ringF (n : Nat) (f : Nat → Nat) (x : Nat) : List Nat := (List.range (per n f x)).map fun k => itf f k x
/-- the least places of the rings -/
def mins (n : Nat) (f : Nat → Nat) : List Nat := (List.range n).filter fun x => mo n f x == x
end WL
set_option Elab.async false
set_option linter.all false
set_option maxRecDepth 100000
set_option maxHeartbeats 4000000
namespace WL
/-! ### parity: pairs that stand in the wrong order, rings -/
def b1 (b : Bool) : Nat := if b = true then 1 else 0
def cnt : Nat → (Nat → Bool) → Nat
  | 0, _ => 0
  | k + 1, P => cnt k P + b1 (P k)
theorem cnt_filter (P : Nat → Bool) : ∀ n, ((List.range n).filter P).length = cnt n P
  | 0 => rfl
  | n + 1 => by
    rw [List.range_succ, List.filter_append, List.length_append, cnt_filter P n]
    show _ = cnt n P + b1 (P n)
    congr 1
    unfold b1
    cases h : P n <;> simp [h]
theorem cnt_congr {P Q : Nat → Bool} : ∀ {n : Nat}, (∀ i, i < n → P i = Q i) → cnt n P = cnt n Q
  | 0, _ => rfl
  | n + 1, h => by
    show cnt n P + b1 (P n) = cnt n Q + b1 (Q n)
    rw [cnt_congr fun i hi => h i (by omega), h n (by omega)]
theorem cnt_zero {P : Nat → Bool} {n : Nat} (h : ∀ i, i < n → P i = false) : cnt n P = 0 := by
  rw [cnt_congr (Q := fun _ => false) h]
  induction n with
  | zero => rfl
  | succ n ih => show cnt n _ + 0 = 0; rw [ih fun i hi => h i (by omega)]
theorem cnt_change {P Q : Nat → Bool} {z : Nat} : ∀ {m : Nat}, z < m → (∀ i, i < m → i ≠ z → P i = Q i) → cnt m P + b1 (Q z) = cnt m Q + b1 (P z)
  | 0, h, _ => absurd h (Nat.not_lt_zero _)
  | m + 1, h, e => by
    show cnt m P + b1 (P m) + b1 (Q z) = cnt m Q + b1 (Q m) + b1 (P z)
    by_cases hz : z = m
    · subst hz
      rw [cnt_congr fun i hi => e i (by omega) (by omega)]
      omega
    · have := cnt_change (P := P) (Q := Q) (z := z) (m := m) (by omega) fun i hi => e i (by omega)
      rw [e m (by omega) (Ne.symm hz)]
      omega
def invs : Nat → (Nat → Nat) → Nat
  | 0, _ => 0
  | x + 1, f => invs x f + cnt x (fun y => decide (f x < f y))
theorem invs_congr {f g : Nat → Nat} : ∀ {n : Nat}, (∀ i, i < n → f i = g i) → invs n f = invs n g
  | 0, _ => rfl
  | n + 1, h => by
    show invs n f + cnt n _ = invs n g + cnt n _
    rw [invs_congr fun i hi => h i (by omega), cnt_congr fun i hi => by rw [h n (by omega), h i (by omega)]]
theorem invs_step {F G : Nat → Nat} {n z v : Nat} (hz : z < n) (hF : F z = n) (hG : G z = v) (hv : v < n) (eq : ∀ i, i < n → i ≠ z → G i = F i) (lt : ∀ i, i < n → i ≠ z → F i < n) (ne : ∀ i, i < n → i ≠ z → F i ≠ v) :
    ∀ m, z < m → m ≤ n → (invs m F + cnt m (fun y => decide (v < F y))) % 2 = (invs m G + 1) % 2
  | 0, h, _ => absurd h (Nat.not_lt_zero _)
  | m + 1, h, hm => by
    by_cases e : z = m
    · subst e
      show (invs z F + cnt z (fun y => decide (F z < F y)) + (cnt z (fun y => decide (v < F y)) + b1 (decide (v < F z)))) % 2 = (invs z G + cnt z (fun y => decide (G z < G y)) + 1) % 2
      have a1 : cnt z (fun y => decide (F z < F y)) = 0 := cnt_zero fun i hi => decide_eq_false (by have := lt i (by omega) (by omega); omega)
      have a2 : b1 (decide (v < F z)) = 1 := by rw [hF, decide_eq_true hv]; rfl
      have a3 : invs z F = invs z G := invs_congr fun i hi => (eq i (by omega) (by omega)).symm
      have a4 : cnt z (fun y => decide (v < F y)) = cnt z (fun y => decide (G z < G y)) := cnt_congr fun i hi => by rw [hG, eq i (by omega) (by omega)]
      rw [a1, a2, a3, a4]
      omega
    · have ih := invs_step hz hF hG hv eq lt ne m (by omega) (by omega)
      show (invs m F + cnt m (fun y => decide (F m < F y)) + (cnt m (fun y => decide (v < F y)) + b1 (decide (v < F m)))) % 2 = (invs m G + cnt m (fun y => decide (G m < G y)) + 1) % 2
      have c1 := cnt_change (P := fun y => decide (F m < F y)) (Q := fun y => decide (F m < G y)) (z := z) (m := m) (by omega) fun i hi hne => by rw [eq i (by omega) hne]
      have c2 : cnt m (fun y => decide (G m < G y)) = cnt m (fun y => decide (F m < G y)) := cnt_congr fun i hi => by rw [eq m (by omega) (Ne.symm e)]
      have hFm := lt m (by omega) (Ne.symm e)
      have hne := ne m (by omega) (Ne.symm e)
      have d1 : b1 (decide (F m < F z)) = 1 := by rw [hF, decide_eq_true hFm]; rfl
      simp only [hG] at c1
      rw [c2]
      by_cases hlt : v < F m
      · have d2 : b1 (decide (v < F m)) = 1 := by rw [decide_eq_true hlt]; rfl
        have d3 : b1 (decide (F m < v)) = 0 := by rw [decide_eq_false (by omega)]; rfl
        omega
      · have d2 : b1 (decide (v < F m)) = 0 := by rw [decide_eq_false hlt]; rfl
        have d3 : b1 (decide (F m < v)) = 1 := by rw [decide_eq_true (by omega)]; rfl
        omega
theorem mo_min {n : Nat} {f : Nat → Nat} (h : PermOn n f) {x : Nat} (hx : x < n) : mo n f x = x ↔ ∀ k, x ≤ itf f k x := by
  constructor
  · intro e k
    have := mo_le h hx k
    omega
  · intro a
    obtain ⟨k, hk⟩ := mo_mem h hx
    have h1 := a k
    have h2 : mo n f x ≤ x := mo_le h hx 0
    omega
def rings (n : Nat) (f : Nat → Nat) : Nat := cnt n (fun x => mo n f x == x)
theorem parity : ∀ {n : Nat} {f : Nat → Nat}, PermOn n f → (invs n f + rings n f + n) % 2 = 0
  | 0, _, _ => rfl
  | n + 1, f, h => by
    obtain ⟨z, hz, hfz⟩ := permOn_surj h (Nat.lt_succ_self n)
    by_cases e : z = n
    · -- n stays
      subst e
      have hp : PermOn z f := ⟨fun i hi => by
        have h1 := h.1 i (by omega)
        have h2 : f i ≠ z := fun q => by
          have := h.2 i z (by omega) (by omega) (q.trans hfz.symm)
          omega
        omega, fun i j hi hj => h.2 i j (by omega) (by omega)⟩
      have ih := parity hp
      have st : ∀ k, itf f k z = z := fun k => by
        induction k with
        | zero => rfl
        | succ k ih => show f (itf f k z) = z; rw [ih, hfz]
      have r : rings (z + 1) f = rings z f + 1 := by
        show cnt z (fun x => mo (z + 1) f x == x) + b1 (mo (z + 1) f z == z) = cnt z (fun x => mo z f x == x) + 1
        have e1 : mo (z + 1) f z = z := (mo_min h (Nat.lt_succ_self z)).mpr fun k => by rw [st k]; exact Nat.le_refl _
        rw [e1]
        congr 1
        · refine cnt_congr fun i hi => ?_
          have hh : mo (z + 1) f i = i ↔ mo z f i = i := (mo_min h (by omega)).trans (mo_min hp hi).symm
          rw [Bool.eq_iff_iff, beq_iff_eq, beq_iff_eq]
          exact hh
        · unfold b1; rw [if_pos (beq_self_eq_true z)]
      have i0 : invs (z + 1) f = invs z f := by
        show invs z f + cnt z _ = _
        rw [cnt_zero fun i hi => decide_eq_false (by have := hp.1 i hi; omega), Nat.add_zero]
      rw [r, i0]
      omega
    · have hzn : z < n := by omega
      have hvn : f n < n := by
        have h1 := h.1 n (Nat.lt_succ_self n)
        have h2 : f n ≠ n := fun q => e (h.2 z n (by omega) (by omega) (hfz.trans q.symm))
        omega
      let g : Nat → Nat := fun i => if i = z then f n else f i
      have gz : g z = f n := if_pos rfl
      have gn : ∀ i, i ≠ z → g i = f i := fun i hi => if_neg hi
      have flt : ∀ i, i < n → i ≠ z → f i < n := fun i hi hiz => by
        have h1 := h.1 i (by omega)
        have h2 : f i ≠ n := fun q => hiz (h.2 i z (by omega) (by omega) (q.trans hfz.symm))
        omega
      have fne : ∀ i, i < n → f i ≠ f n := fun i hi q => by
        have := h.2 i n (by omega) (by omega) q
        omega
      have hp : PermOn n g := by
        refine ⟨fun i hi => ?_, fun i j hi hj q => ?_⟩
        · by_cases hiz : i = z
          · rw [hiz, gz]; exact hvn
          · rw [gn i hiz]; exact flt i hi hiz
        · by_cases hiz : i = z
          · by_cases hjz : j = z
            · rw [hiz, hjz]
            · rw [hiz, gz, gn j hjz] at q
              exact absurd q.symm (fne j hj)
          · by_cases hjz : j = z
            · rw [hjz, gz, gn i hiz] at q
              exact absurd q (fne i hi)
            · rw [gn i hiz, gn j hjz] at q
              exact h.2 i j (by omega) (by omega) q
      have ih := parity hp
      -- g's going on is f's, n left out
      have g2f : ∀ i, i < n → ∀ k, ∃ k', itf g k i = itf f k' i := fun i hi k => by
        induction k with
        | zero => exact ⟨0, rfl⟩
        | succ k ihk =>
          obtain ⟨k', hk'⟩ := ihk
          by_cases q : itf g k i = z
          · refine ⟨k' + 2, ?_⟩
            show g (itf g k i) = f (f (itf f k' i))
            rw [← hk', q, gz, hfz]
          · refine ⟨k' + 1, ?_⟩
            show g (itf g k i) = f (itf f k' i)
            rw [gn _ q, hk']
      have f2g : ∀ i, i < n → ∀ k, (itf f k i = n ∧ ∃ k', itf g k' i = z) ∨ ∃ k', itf f k i = itf g k' i := fun i hi k => by
        induction k with
        | zero => exact .inr ⟨0, rfl⟩
        | succ k ihk =>
          rcases ihk with ⟨hn, k', hk'⟩ | ⟨k', hk'⟩
          · refine .inr ⟨k' + 1, ?_⟩
            show f (itf f k i) = g (itf g k' i)
            rw [hn, hk', gz]
          · by_cases q : itf g k' i = z
            · refine .inl ⟨?_, k', q⟩
              show f (itf f k i) = n
              rw [hk', q, hfz]
            · refine .inr ⟨k' + 1, ?_⟩
              show f (itf f k i) = g (itf g k' i)
              rw [hk', gn _ q]
      have r : rings (n + 1) f = rings n g := by
        show cnt n (fun x => mo (n + 1) f x == x) + b1 (mo (n + 1) f n == n) = cnt n (fun x => mo n g x == x)
        have e1 : mo (n + 1) f n ≠ n := fun q => by
          have := (mo_min h (Nat.lt_succ_self n)).mp q 1
          have : n ≤ f n := this
          omega
        have e2 : b1 (mo (n + 1) f n == n) = 0 := by unfold b1; rw [if_neg (by rw [beq_iff_eq]; exact e1)]
        rw [e2, Nat.add_zero]
        refine cnt_congr fun i hi => ?_
        have hh : mo (n + 1) f i = i ↔ mo n g i = i := by
          refine (mo_min h (by omega)).trans (Iff.trans ?_ (mo_min hp hi).symm)
          constructor
          · intro a k
            obtain ⟨k', hk'⟩ := g2f i hi k
            rw [hk']
            exact a k'
          · intro a k
            rcases f2g i hi k with ⟨hn, _⟩ | ⟨k', hk'⟩
            · rw [hn]; omega
            · rw [hk']; exact a k'
        rw [Bool.eq_iff_iff, beq_iff_eq, beq_iff_eq]
        exact hh
      have i1 := invs_step (F := f) (G := g) (n := n) (z := z) (v := f n) hzn hfz gz hvn (fun i _ hi => gn i hi) flt (fun i hi _ => fne i hi) n hzn (Nat.le_refl _)
      have i0 : invs (n + 1) f = invs n f + cnt n (fun y => decide (f n < f y)) := rfl
      rw [r, i0]
      omega
end WL
set_option Elab.async false
set_option linter.all false
set_option maxRecDepth 100000
set_option maxHeartbeats 4000000
namespace WL
open PySem PySem.Spec PyProof.Rows L2 Evl
/-! ### enumerate(tuple) -/
theorem enumT_new (l : Addr) (items : Array Value) (n : Nat) (dct : Option Addr) (sl : Array (Option Value)) :
    Meets (Builtin.«enumerate.__new__» ⟨[.type "enumerate", .ref l], []⟩) (fun _ R s => s.heap.get? l = some { cls := .type "tuple", dict := dct, data := .seq items n, slots := sl } ∧
      R (.ok (.ret (.ref (s.heap.push { cls := .type "tuple_iterator", data := .fields #[.ref l, .int 0 0] }).objs.size)))
        { s with heap := (s.heap.push { cls := .type "tuple_iterator", data := .fields #[.ref l, .int 0 0] }).push { cls := .type "enumerate", data := .fields #[.none, .bool false, .ref s.heap.objs.size, rawInt 0, .none, .none] } }) :=
  .of_wp fun prog w A R s h => by
    obtain ⟨hp, g, d, tk, os⟩ := s; obtain ⟨hl, h⟩ := h
    have hsub := sub_enumerate
    have hL : Heap.IsTuple (Shared.heap ⟨hp, g, d, tk, os⟩) l items := ⟨_, hl, rfl, n, rfl⟩
    wp_walk using AutoSeq1.wpAny_loadPart' hl
    refine wpAny_stack_any fun st => wpAny_pure ?_
    split
    · rename_i c _ _ _ _ _
      cases (c == Value.type "enumerate") <;> (wp_walk using AutoSeq1.wpAny_loadPart' hl, wpAny_pyIter_tuple hL; exact ⟨_, rfl, h⟩)
    · wp_walk using AutoSeq1.wpAny_loadPart' hl, wpAny_pyIter_tuple hL
      exact ⟨_, rfl, h⟩
theorem call_enumT {prog : Program} {w : World} {A : Around} {E : Value → Shared → Prop} {s : Shared} {l : Addr} {items : Array Value} {Q : Value → Shared → Prop} (hL : s.heap.IsTuple l items)
    (h : ∀ h', IsEnum h' (s.heap.objs.size + 1) s.heap.objs.size 0 .none → h'.IsTupleIter s.heap.objs.size l 0 → h'.objs.size = s.heap.objs.size + 2 →
      (∀ b o, s.heap.get? b = some o → h'.get? b = some o) → Q (.ref (s.heap.objs.size + 1)) { s with heap := h' }) :
    wpAny (model prog w) A (call (.type "enumerate") [.ref l]) Q E s := by
  obtain ⟨⟨c, dct, dt, sl⟩, hl, hc, n, hd⟩ := hL
  replace hc : c = .type "tuple" := hc
  replace hd : dt = .seq items n := hd
  subst hc hd
  refine callType_new F.called_enumerate (by decide) (F.typeCall_enumerate_1 _) (F.newCall_enumerate_1 _) (fun obj => F.args_object_init_2 obj _) F.entry_enumerate_new (enumT_new l items n dct sl) ⟨hl, ?_⟩
  have hz : (s.heap.push { cls := .type "tuple_iterator", data := .fields #[.ref l, .int 0 0] }).objs.size = s.heap.objs.size + 1 := Heap.size_push ..
  show _ ∧ _
  rw [hz]
  have he : IsEnum ((s.heap.push { cls := .type "tuple_iterator", data := .fields #[.ref l, .int 0 0] }).push { cls := .type "enumerate", data := .fields #[.none, .bool false, .ref s.heap.objs.size, rawInt 0, .none, .none] }) (s.heap.objs.size + 1) s.heap.objs.size 0 .none := by
    have := Heap.get?_push_size (s.heap.push { cls := .type "tuple_iterator", data := .fields #[.ref l, .int 0 0] }) (o := { cls := .type "enumerate", data := .fields #[.none, .bool false, .ref s.heap.objs.size, rawInt 0, .none, .none] }) rfl
    rw [hz] at this; exact this
  refine ⟨⟨_, he, rfl⟩, h _ he ⟨_, Heap.get?_push_of_some _ (Heap.get?_push_size _ rfl), rfl, rfl⟩ (by rw [Heap.size_push, hz]) fun b o x => Heap.get?_push_of_some _ (Heap.get?_push_of_some _ x)⟩
def IteT (K : PySem.W.Frag) (a : Addr) : It :=
  ⟨fun i H => ∃ (xs : List V) (x : V), SqT K H a xs ∧ xs[i]? = some x, fun i H v H' => ∃ T x, v = .ref T ∧ H T = none ∧ H' = upd H T (.tup [.int (i : Nat), x]) ∧ ∀ xs, SqT K H a xs → xs[i]? = some x, fun i H => ∃ xs : List V, SqT K H a xs ∧ xs.length ≤ i⟩
theorem turn_enumT {P : Program} {w : World} {K : PySem.W.Frag} {elts : List Expr} {kk : Nat} {tpos : Pos} (a e it : Addr) (hae : a ≠ e) (hai : a ≠ it) (hne : e ≠ it) :
    Turn P w K (.Tuple elts kk tpos) (IteT K a) [e, it] e (fun i h => (∃ old, IsEnum h e it ((i : Nat) : Int) old) ∧ h.IsTupleIter it a i) where
  mem := by simp
  obj := fun i h st b hb => by
    obtain ⟨⟨old, he⟩, ⟨o, ho, hc, hd⟩⟩ := st
    have e' : b = e ∨ b = it := by simpa using hb
    rcases e' with z | z
    · rw [z]; exact ⟨_, he, fun v q => nomatch q⟩
    · rw [z]; exact ⟨o, ho, fun v q => by rw [hd] at q; cases q⟩
  keep := fun i h h' st k => let ⟨⟨old, he⟩, hi⟩ := st; ⟨⟨old, k e (by simp) _ he⟩, hi.at fun o q => k it (by simp) o q⟩
  item := by
    intro X hP hw hK hc i pins s σ H E I hf st hg
    subst hP hw hK
    obtain ⟨⟨old, he⟩, hit⟩ := st
    obtain ⟨xs, x, hq, hx⟩ := hg
    obtain ⟨its, rv, p, hz⟩ := I.tuple hq
    obtain ⟨u, hu, ru⟩ := rv.get hx
    have hel : e < s.heap.objs.size := Heap.lt_size he
    have hu' : its.toArray[i]? = some u := by simpa using hu
    have hsz0 : i < its.toArray.size := by
      by_cases q : i < its.toArray.size
      · exact q
      · rw [Array.getElem?_eq_none (by omega)] at hu'; cases hu'
    refine wpAny_pyNext_enum_itemD (Draws.tuple (A := X.A.in1) (show X.A.in1.handled = none from I.ok.hd hc) it a hai its.toArray) he ⟨hit, p⟩ hsz0 hne (by simp; exact ⟨hne, Ne.symm hae⟩) fun y h' tk hP ho hst hT hsz hk => ?_
    rw [hu'] at hP
    cases hP
    refine ⟨_, rfl, wpAny_letOwnedTupleGo_enum (s := { s with heap := h', toks := tk + 1 }) ho fun h'' he' sb => ?_⟩
    have hT2 : h''.get? s.heap.objs.size = some { cls := .type "tuple", data := .seq #[.int i tk, u] } := (sb.2 _ (Nat.ne_of_gt hel)).trans hT
    have new : ObjOk X.prog X.w (upd H s.heap.objs.size (.tup [.int (i : Nat), x])) h'' s.heap.objs.size (.tup [.int (i : Nat), x]) :=
      ⟨by show 2 ≤ sizeLine; decide, [.int i tk, u], .cons ⟨_, rfl⟩ (.cons ru .nil), ⟨_, hT2, rfl, _, rfl⟩⟩
    have I1 : Inv X pins σ (upd H s.heap.objs.size (.tup [.int (i : Nat), x])) { s with heap := h'', toks := tk + 1 } :=
      I.turnedNew (ch := [e, it]) (fun b ob hb q => (sb.2 b (fun z => hb (by simp [z]))).trans (hk b ob (fun z => hb (by simp [z])) (fun z => hb (by simp [z])) q)) hf (Nat.le_refl _) new
    refine ⟨.ref s.heap.objs.size, _, I1, rfl, ⟨_, x, rfl, I.hok.fresh (Nat.le_refl _), rfl, fun ys hy => by rw [I.tuple_inj hy hq]; exact hx⟩, ⟨⟨u, ?_⟩, hst.1.at fun o q => (sb.2 it (Ne.symm hne)).trans q⟩, fun b hb => ?_⟩
    · have e1 : ((i + 1 : Nat) : Int) = (i : Int) + 1 := by omega
      rw [e1]; exact he'
    · have hb' : b < s.heap.objs.size := by
        have e' : b = e ∨ b = it := by simpa using hb
        rcases e' with z | z
        · rw [z]; exact hel
        · rw [z]; obtain ⟨_, q, _⟩ := hit; exact Heap.lt_size q
      rw [upd_ne (Nat.ne_of_lt hb')]
      exact (hf b hb).1
  done := by
    intro X hP hw hK hc i pins s σ H E I hf st hg
    subst hP hw hK
    obtain ⟨⟨old, he⟩, hit⟩ := st
    obtain ⟨xs, hq, hx⟩ := hg
    obtain ⟨its, rv, p, hz⟩ := I.tuple hq
    obtain ⟨f0, f1, f2, f3, f4, f5⟩ := hf it (by simp)
    have hl := rv.length
    have hT : s.TypeIs (.ref e) "enumerate" := ⟨_, he, rfl⟩
    unfold pyNext
    refine wpAny_bind (wpAny_attempt (wpAny_callSpecial?_slot (name := Str.ofString "__next__") hT F.slot_enumerate_next
      (wpAny_call_entry F.slot_enumerate_next hT F.entry_enumerate_next ?_ (F.args_enumerate_next_1 _))))
    show wpAny _ _ (field (.ref e) 2 >>= _) _ _ _
    refine wpAny_bind (wpAny_field he rfl (x := .ref it) rfl ?_)
    refine wpAny_bind (wpAny_nextOf_tuple_end (I.ok.hd hc) hit p (by simp; omega) fun h' x he' hx' => ?_)
    obtain ⟨o, ho, hc⟩ := hx'
    refine wpAny_bind (wpAny_isInstance (T := "StopIteration") (b := true) ⟨o, ho, hc⟩ isSubtype_stop ?_)
    exact wpAny_pure ⟨rfl, I.turned (t' := s.toks) (fun b o hb q => he' b o hb q) f0 f1 f3 f4 f5⟩
  self := fun A i s Q E st h => let ⟨⟨_, he⟩, _⟩ := st; wpAny_pyIter_enum he h
def iEnumT (K : PySem.W.Frag) (ta : TA) : TI := fun σ H R => ta σ H fun vs H1 => ∃ a xs, vs = [.ref a] ∧ SqT K H1 a xs ∧ R (IteT K a) H1
theorem pi_enumT {X : Cx} {e : Expr} {ta : TA} {p pos tpos : Pos} {elts : List Expr} {kk : Nat} (hg : Gl X "enumerate") (hm : X.mg "enumerate" = none) (ha : PA X [e] ta) (hs : starEach [e] X.env = [(false, eval e X.env)] := by rfl) :
    PI X (.Tuple elts kk tpos) (.Call (.Name "enumerate" p) [e] [] pos) (iEnumT X.K ta) := by
  refine ⟨fun pins s σ H R I h => ?_⟩
  refine Call_ (ld_blt I hg hm boot_enumerate (PyProof.Rows.callWith_type1 (thn (ha.run pos pins s σ H _ I h) fun us s1 ⟨vs, H1, I1, r1, q1⟩ => ?_) hs rfl))
  obtain ⟨a, xs, ex, hq, q⟩ := q1
  subst ex
  cases r1 with
  | cons r rr =>
    cases rr
    cases r
    obtain ⟨its, rv, p', hz⟩ := I1.tuple hq
    have hal : a < s1.heap.objs.size := by obtain ⟨_, q, _⟩ := p'; exact Heap.lt_size q
    refine call_enumT p' fun h' he hit hsz hk => wpAny_pyIter_enum he ?_
    have I2 : Inv X pins σ H1 { s1 with heap := h' } := I1.kept (t' := s1.toks) hk
    refine ⟨s1.heap.objs.size + 1, [s1.heap.objs.size + 1, s1.heap.objs.size], _, _, H1, rfl, I2, turn_enumT a (s1.heap.objs.size + 1) s1.heap.objs.size (Nat.ne_of_lt (Nat.lt_succ_of_lt hal)) (Nat.ne_of_lt hal) (Nat.succ_ne_self _), ⟨⟨.none, he⟩, hit⟩, fun b hb => ?_, q⟩
    have e' : b = s1.heap.objs.size + 1 ∨ b = s1.heap.objs.size := by simpa using hb
    have hle : s1.heap.objs.size ≤ b := by
      rcases e' with z | z
      · rw [z]; exact Nat.le_add_right _ _
      · rw [z]; exact Nat.le_refl _
    exact I1.fpOk hle (I1.hok.fresh hle)
theorem walks_et {K : PySem.W.Frag} {m : Option Addr} {G : Hp} {a : Addr} {vs : List V} {ds : List D} (h : SqT K G a vs) (l : RepL K m G vs ds) : Walks K m (IteT K a) ((List.range ds.length).map fun i => D.tup [.int (i : Nat), ds.getD i .non]) G := by
  intro G1 H1 i e s so
  have hs : SqT K H1 a vs := ex_t s.1 (ex_t e h)
  refine ⟨fun d hd => ?_, fun hi => ⟨vs, hs, by rw [l.length, hi, List.length_map, List.length_range]; exact Nat.le_refl _⟩⟩
  rw [List.getElem?_map] at hd
  by_cases hi : i < ds.length
  · rw [List.getElem?_range hi] at hd
    cases hd
    obtain ⟨d, hd⟩ : ∃ d, ds[i]? = some d := ⟨_, List.getElem?_eq_getElem hi⟩
    obtain ⟨v, hv, r⟩ := l.get hd
    refine ⟨⟨vs, v, hs, hv⟩, fun x H2 ⟨T, z, e1, e2, e3, e4⟩ => ?_⟩
    subst e1 e3
    have q := e4 vs hs
    rw [hv] at q
    cases q
    refine ⟨upd G1 T (.tup [.int (i : Nat), v]), Good.laid s e2, .tup (.inl (.inl upd_same)) (.cons (.int _) (.cons ?_ .nil))⟩
    have ed : ds.getD i D.non = d := by rw [List.getD_eq_getElem?_getD, hd]; rfl
    show Rep K m _ v (ds.getD i D.non)
    rw [ed]
    exact (r.mono e).mono (Ex.new (s.none e2))
  · rw [List.getElem?_eq_none (by rw [List.length_range]; omega)] at hd
    cases hd
section
variable {c : Ct} {Γ : Gm}
theorem wi_enumT [BI c.g] {e : Expr} {elts : List Expr} {kk : Nat} {p pos tpos : Pos} {Q : List D → Prop} (h : Wv c e Γ fun d => ∃ ds, d = .tup ds ∧ Q ((List.range ds.length).map fun i => D.tup [.int (i : Nat), ds.getD i .non])) (hg : c.sc.names.lookup ("enumerate" : Str) = some .globalImplicit := by rfl)
    (na : ∀ env, starEach [e] env = (false, eval e env) :: starEach [] env := by exact fun _ => rfl) : WI c (.Tuple elts kk tpos) (.Call (.Name "enumerate" p) [e] [] pos) Γ Q := by
  intro X Ft m G0 H0 σ G H E R hR
  have m1 := bi (c := c) "enumerate"
  have Ft' := Ft
  obtain ⟨k0, er, tp, hx, rfl, hcold, hu0⟩ := Ft'
  refine ⟨_, pi_enumT hg m1 (pa_cons pe_je pa_nil (na _)) (na _), h X Ft m G0 H0 σ G H E _ fun v d G1 H1 ⟨ds, e1, q⟩ g1 r1 => ?_⟩
  subst e1
  have E1 := E.step g1
  cases r1 with
  | @tup a vs _ ha la => exact ⟨a, vs, rfl, ex_t E1.sub.1 ha, hR _ _ G1 H1 q g1 (walks_et ha la)⟩
end
end WL
set_option Elab.async false
set_option linter.all false
set_option maxRecDepth 100000
set_option maxHeartbeats 4000000
namespace WL
open PySem PySem.Spec PyProof.Rows L2 Evl
section
variable {c : Ct} {Γ : Gm} {Q : D → Prop}
theorem w_tupRg2 {a b : Expr} {p p2 pos q : Pos} (hm : c.mg "tuple" = none) (hm2 : c.mg "range" = none) (h : Wv c a Γ fun d => Wv c b Γ fun d2 => ∃ i n, d = .int i ∧ d2 = .int n ∧ -50000 ≤ i ∧ i ≤ 50000 ∧ -50000 ≤ n ∧ n ≤ 50000 ∧ Q (.tup (rgD i n))) (hg : c.sc.names.lookup ("tuple" : Str) = some .globalImplicit := by rfl) (hg2 : c.sc.names.lookup ("range" : Str) = some .globalImplicit := by rfl)
    (na : ∀ env, starEach [a, b] env = (false, eval a env) :: starEach [b] env := by exact fun _ => rfl) (nb : ∀ env, starEach [b] env = (false, eval b env) :: starEach [] env := by exact fun _ => rfl) (hp : ∀ env, (backTo q (starEach [b] env)).any (·.1) = false := by exact fun _ => rfl) (hh : c.hx = none := by rfl) : Wv c (.Call (.Name "tuple" p) [.Call (.Name "range" p2) [a, b] [] q] [] pos) Γ Q := by
  intro X Ft m G0 H0 σ G H E Qv qv
  have Ft' := Ft
  obtain ⟨k0, er, tp, hx, rfl, hcold, hu0⟩ := Ft'
  obtain ⟨hc, hro, hpo⟩ := hcold hh
  refine ⟨_, pe_tupRg hc hg hm (prg_2 hg2 hm2 pe_je pe_je (na _) (nb _) (hp _)) rfl, h X Ft m G0 H0 σ G H E _ fun v d G1 H1 h1 g1 r1 => ?_⟩
  have E1 := E.step g1
  refine h1 X Ft m G0 H0 σ G1 H1 E1 _ fun w e G2 H2 ⟨i, n, e1, e2, l1, l2, l3, l4, q⟩ g2 r2 => ?_
  subst e1 e2
  cases r1
  cases r2
  have E2 := E1.step g2
  refine ⟨i, n, rfl, rfl, ⟨by omega, by omega, by omega, by omega, by omega⟩, fun z hz => ?_⟩
  exact qv _ _ _ _ q ((g1.trans E.sok g2).trans E.sok (Good.laid E2.sub hz)) (.tup (.inl (.inl upd_same)) (rep_rg _ _))
theorem wo_mapC {elt iter : Expr} {x : Str} {p : Pos} {scope : Scope} {pos : Pos} {Q : List D → Prop} (i : Nat) (R : D → D → Prop) (nd : c.N.Nodup) (h : WI c (.Name x p) iter Γ fun ds => ds.length ≤ 100000 ∧ (∀ d ∈ ds, Wv (c.blk scope) elt (((wipeG Γ [i]).set i (.val d))) fun e => R d e) ∧ ∀ out, All2 R ds out → Q out)
    (ok : blkC c.N c.sc scope [(x, i)] = true := by first | decide +kernel | kernel_rfl) (hN : c.N[i]? = some x := by rfl) (hl : (c.blk scope).sc.names.lookup x = some .cell := by rfl) (hf : (c.blk scope).fn x = true := by rfl) (hs : ∀ env x, foldedSetIterable iter env x = pure x := by exact fun _ _ => rfl) (hh : c.hx = none := by rfl) : WO c (.ListComp elt [⟨.Name x p, iter, [], 0⟩] scope pos) Γ Q := by
  refine wo_lc [(x, i)] nd ok (wg_name (c := c.blk scope) i (by simp) nd hN (Or.inr hl) (Or.inl hf)) ?_ hs hh
  intro X F m G0 H0 σ G H E Rr hR
  refine h X F m G0 H0 σ G H E Rr fun J ds G' H' ⟨h1, h2, h3⟩ => hR J ds G' H' ⟨h1, fun i out => All2 R (ds.take i) out, .nil, fun i d out hd ho => ?_, fun out hl ho => h3 out (by have ho' : All2 R (ds.take ds.length) out := ho; rw [List.take_length] at ho'; exact ho')⟩
  refine (h2 d (List.mem_of_getElem? hd)).imp fun e he => ?_
  show All2 R (ds.take (i + 1)) (out ++ [e])
  rw [take_get hd]
  exact ho.snoc he
theorem w_mapC {elt iter : Expr} {x : Str} {p : Pos} {scope : Scope} {pos : Pos} (i : Nat) (R : D → D → Prop) (nd : c.N.Nodup) (h : WI c (.Name x p) iter Γ fun ds => ds.length ≤ 100000 ∧ (∀ d ∈ ds, Wv (c.blk scope) elt (((wipeG Γ [i]).set i (.val d))) fun e => R d e) ∧ ∀ out, All2 R ds out → Q (.lst out))
    (ok : blkC c.N c.sc scope [(x, i)] = true := by first | decide +kernel | kernel_rfl) (hN : c.N[i]? = some x := by rfl) (hl : (c.blk scope).sc.names.lookup x = some .cell := by rfl) (hf : (c.blk scope).fn x = true := by rfl) (hs : ∀ env x, foldedSetIterable iter env x = pure x := by exact fun _ _ => rfl) (hh : c.hx = none := by rfl) : Wv c (.ListComp elt [⟨.Name x p, iter, [], 0⟩] scope pos) Γ Q :=
  w_wo (wo_mapC i R nd h ok hN hl hf hs hh)
end
end WL
set_option Elab.async false
set_option linter.all false
set_option maxRecDepth 100000
set_option maxHeartbeats 4000000
namespace WL
open PySem PySem.Spec PyProof.Rows L2 Evl
/-! ### an own list lent to an expression -/
mutual
def D.flat : D → Bool
  | .tup xs => flatL xs
  | .lst _ => false
  | .dct _ _ => false
  | .strm => false
  | _ => true
def flatL : List D → Bool
  | [] => true
  | x :: xs => x.flat && flatL xs
end
section
variable {K : PySem.W.Frag} {m : Option Addr} {G H : Hp} {a : Addr} {vs : List V}
theorem sqt_del {b : Addr} {xs : List V} (ha : G a = some (.lst vs)) (h : SqT K G b xs) : SqT K (del G a) b xs := by
  rcases h with (h | ⟨o, h⟩) | h
  · refine .inl (.inl ?_)
    rw [del_ne (fun e => by rw [e, ha] at h; cases h)]
    exact h
  · refine .inl (.inr ⟨o, ?_⟩)
    rw [del_ne (fun e => by rw [e, ha] at h; cases h)]
    exact h
  · exact .inr h
mutual
theorem Rep.del (ha : G a = some (.lst vs)) : ∀ {v : V} {d : D}, Rep K m G v d → d.flat = true → Rep K m (del G a) v d
  | _, _, .non, _ => .non
  | _, _, .bl b, _ => .bl b
  | _, _, .int i, _ => .int i
  | _, _, .str x, _ => .str x
  | _, _, .tup h l, f => .tup (sqt_del ha h) (RepL.del ha l (by unfold D.flat at f; exact f))
  | _, _, .lst _ _, f => by unfold D.flat at f; cases f
  | _, _, .dct _ _ _, f => by unfold D.flat at f; cases f
  | _, _, .raw v, _ => .raw v
  | _, _, .strm h, f => by unfold D.flat at f; cases f
theorem RepL.del (ha : G a = some (.lst vs)) : ∀ {us : List V} {ds : List D}, RepL K m G us ds → flatL ds = true → RepL K m (del G a) us ds
  | _, _, .nil, _ => .nil
  | _, _, .cons h l, f => by
    unfold flatL at f
    obtain ⟨f1, f2⟩ := Bool.and_eq_true_iff.mp f
    exact .cons (Rep.del ha h f1) (RepL.del ha l f2)
end
end
theorem freezeAt0 {K : PySem.W.Frag} {m : Option Addr} {G0 H0 G H : Hp} {Γ : Gm} {σ : L2.St} {ds : List D} (E : En0 K m G0 H0 Γ σ G H) {i : Nat} (hi : Γ[i]? = some (.own ds)) : ∃ a vs, H a = some (.lst vs) ∧ G a = none ∧ RepL K m G vs ds ∧ En0 K m G0 H0 (Γ.set i (.val (.lst ds))) σ (upd G a (.lst vs)) H := by
  obtain ⟨a, vs, ha, h0, hb, gb, mb, rl⟩ := E.own hi
  refine ⟨a, vs, hb, gb, rl, ⟨fun c o q => ?_, fun s e => ?_⟩, E.sok.mono (Ex.new gb) fun _ _ _ e => e, by rw [List.length_set]; exact E.len, fun j s h => ?_, fun j1 j2 s u b h1 h2 o1 o2 e1 e2 => ?_, E.good.tell h0 gb hb, E.sok0, E.sub0⟩
  · by_cases z : c = a
    · subst z; rw [upd_same] at q; cases q; exact hb
    · rw [upd_ne z] at q; exact E.sub.1 c o q
  · rw [upd_ne (fun z => mb (by rw [e, z]))]
    exact E.sub.2 s e
  · rcases get_set h with ⟨rfl, rfl, lt⟩ | ⟨ne, h⟩
    · exact ⟨_, ha, .lst upd_same (rl.mono (Ex.new gb))⟩
    · have old := E.slot j s h
      have other : ∀ c, s.isOwn = true → σ[j]? = some (some (V.ref c)) → c ≠ a := fun c o q z => by
        subst z
        exact ne (E.apart i j _ _ c hi h rfl o ha q)
      cases s with
      | emp => trivial
      | val d =>
        obtain ⟨v, f1, f2⟩ := old
        exact ⟨v, f1, f2.mono (Ex.new gb)⟩
      | own fs =>
        obtain ⟨c, ws, f1, f2, f3, f4, f5, f6⟩ := old
        exact ⟨c, ws, f1, f2, f3, by rw [upd_ne (other c rfl f1)]; exact f4, f5, f6.mono (Ex.new gb)⟩
      | ownd ks fs =>
        obtain ⟨c, ws, f1, f2, f3, f4, f5, f6, f7, f8⟩ := old
        exact ⟨c, ws, f1, f2, f3, by rw [upd_ne (other c rfl f1)]; exact f4, f5, f6, f7, f8.mono (Ex.new gb)⟩
  · rcases get_set h1 with ⟨rfl, rfl, lt⟩ | ⟨ne1, h1⟩
    · cases o1
    · rcases get_set h2 with ⟨z, rfl, lt2⟩ | ⟨ne2, h2⟩
      · cases o2
      · exact E.apart _ _ _ _ _ h1 h2 o1 o2 e1 e2
section
variable {c : Ct} {Γ : Gm} {Q : D → Prop}
theorem w_loan {e : Expr} {xs ds : List D} (i : Nat) (hi : Γ[i]? = some (.own (.tup xs :: ds))) (h : Wv c e (Γ.set i (.val (.lst (.tup xs :: ds)))) fun d => d.flat = true ∧ Q d) : Wv c e Γ Q := by
  intro X Ft m G0 H0 σ G H E Qv qv
  obtain ⟨a, vs, hb, gb, rl, E1⟩ := freezeAt0 E.toEn0 hi
  obtain ⟨w, ws, e1⟩ : ∃ w ws, vs = .ref w :: ws := by
    cases rl with
    | cons r _ =>
      cases r with
      | tup _ _ => exact ⟨_, _, rfl⟩
  refine h X Ft m G0 H0 σ _ H ⟨E1, E.xh⟩ Qv fun v d G' H' ⟨hf, q⟩ g r => ?_
  have ga : G' a = some (.lst vs) := g.ex _ _ upd_same
  refine qv v d (del G' a) H' q ⟨g.st, fun _ => ?_, fun b o hbo => ?_, fun b o hbo => ?_⟩ (Rep.del ga r hf)
  · intro s hs
    obtain ⟨b, c1, k, ns, s1, s2, s3⟩ := g.ok E1.sok s hs
    refine ⟨b, c1, k, ns, s1, ?_, s3⟩
    rw [del_ne]
    · exact s2
    · intro z
      rw [z, ga, e1] at s2
      cases ns with
      | nil => cases s2
      | cons n ns => cases s2
  · have ne : b ≠ a := fun z => by rw [z, del_same] at hbo; cases hbo
    rw [del_ne ne] at hbo
    rcases g.gr b o hbo with q1 | q1
    · rw [upd_ne ne] at q1
      exact .inl q1
    · exact .inr q1
  · have ne : b ≠ a := fun z => by rw [z, gb] at hbo; cases hbo
    rw [del_ne ne]
    exact g.ex _ _ (by rw [upd_ne ne]; exact hbo)
end
end WL
set_option Elab.async false
set_option linter.all false
set_option maxRecDepth 100000
set_option maxHeartbeats 4000000
namespace WL
open PySem PySem.Spec PyProof.Rows L2 Evl
/-! ### name = [..]: the statement that stores the new list itself -/
section
variable {c : Ct} {Γ : Gm}
theorem lc_pt2 {elt tg iter : Expr} {ifs : List Expr} {scope : Scope} {Q : List D → Prop} (own : List (Str × Nat)) {T : D → Gm → (Gm → Prop) → Prop} (nd : c.N.Nodup) (ok : blkC c.N c.sc scope own = true) (hT : WG (c.blk scope) tg (own.map (·.2)) T)
    (hh : c.hx = none) {X : Cx} (Ft : Fits c X) {m : Option Addr} {G0 H0 G H : Hp} {σ : L2.St} (E : En c X m G0 H0 Γ σ G H)
    (h : WIp X c.K tg iter m σ G H fun ds => ds.length ≤ 100000 ∧ ∃ R : Nat → List D → Prop, R 0 [] ∧ (∀ i d out, ds[i]? = some d → R i out → T d (wipeG Γ (own.map (·.2))) fun Γb =>
      WTs (c.blk scope) ifs Γb fun b => if b = true then Wv (c.blk scope) elt Γb fun e => R (i + 1) (out ++ [e]) else R (i + 1) out) ∧ ∀ out, out.length ≤ ds.length → R ds.length out → Q out)
    (hs : ∀ env x, foldedSetIterable iter env x = pure x) (Qv : VK) (qv : ∀ a vs ds G' H', Q ds → Good m G H G' H' → H a = none → G' a = none → H' a = some (.lst vs) → RepL c.K m G' vs ds → Qv (.ref a) H') :
    ∃ (wi : TI) (g : TG) (tt : TT) (te : TE), PI X tg iter wi ∧ BlkOk X.N X.env.scope scope own ∧ (∀ (s : Shared) (H : Hp) (C : Addr) (cl : List (Str × Addr)) (fp : List Addr), PG (X.blk s H scope (compEnvC scope cl C X.env) fp) tg g) ∧ (∀ (s : Shared) (H : Hp) (C : Addr) (cl : List (Str × Addr)) (fp : List Addr), PTs (X.blk s H scope (compEnvC scope cl C X.env) fp) ifs tt) ∧
      (∀ (s : Shared) (H : Hp) (C : Addr) (cl : List (Str × Addr)) (fp : List Addr), PE (X.blk s H scope (compEnvC scope cl C X.env) fp) elt te) ∧ tLc wi g tt te (own.map (·.2)) σ H Qv := by
  have Ft' := Ft
  obtain ⟨k0, er, tp, hx, rfl, hcold, hu0⟩ := Ft'
  obtain rfl : hx = none := hh
  have hcd := hcold rfl
  obtain ⟨hc, hro, hpo⟩ := hcold rfl
  obtain ⟨cb, hcb⟩ : ∃ cb, cb = (Ct.of X k0 er tp none).blk scope := ⟨_, rfl⟩
  have Fb : ∀ (s : Shared) (H : Hp) (C : Addr) (cl : List (Str × Addr)) (fp : List Addr), Fits cb (X.blk s H scope (compEnvC scope cl C X.env) fp) := fun s H C cl fp => by
    rw [hcb]
    exact gone_fits hcd hu0 s H scope C cl fp
  have hcbK : cb.K = X.K := by rw [hcb]
  have hcber : cb.er = fun _ _ => False := by rw [hcb]
  have hcbx : cb.hx = none := by rw [hcb]
  rw [← hcb] at hT h
  -- the target, uniform over the block's contexts
  let g : TG := fun v σ H Q => ∀ (s : Shared) (H0 : Hp) (C : Addr) (cl : List (Str × Addr)) (fp : List Addr), ∃ g' : TG, PG (X.blk s H0 scope (compEnvC scope cl C X.env) fp) tg g' ∧ g' v σ H Q
  have hg : ∀ (s : Shared) (H : Hp) (C : Addr) (cl : List (Str × Addr)) (fp : List Addr), PG (X.blk s H scope (compEnvC scope cl C X.env) fp) tg g := fun s H C cl fp => ⟨fun pins s1 σ1 H1 v u Q I r hh => by
    obtain ⟨g', p, q⟩ := hh s H C cl fp
    exact p.run pins s1 σ1 H1 v u Q I r q⟩
  let tt : TT := fun σ H Q => ∀ (s : Shared) (H0 : Hp) (C : Addr) (cl : List (Str × Addr)) (fp : List Addr), JTs (X.blk s H0 scope (compEnvC scope cl C X.env) fp) ifs σ H Q
  have htt : ∀ (s : Shared) (H : Hp) (C : Addr) (cl : List (Str × Addr)) (fp : List Addr), PTs (X.blk s H scope (compEnvC scope cl C X.env) fp) ifs tt := fun s H C cl fp => ⟨fun pins s1 σ1 H1 Q I hh => pts_jts.run pins s1 σ1 H1 Q I (hh s H C cl fp)⟩
  let te : TE := fun σ H Q => ∀ (s : Shared) (H0 : Hp) (C : Addr) (cl : List (Str × Addr)) (fp : List Addr), JE (X.blk s H0 scope (compEnvC scope cl C X.env) fp) elt σ H Q
  have hte : ∀ (s : Shared) (H : Hp) (C : Addr) (cl : List (Str × Addr)) (fp : List Addr), PE (X.blk s H scope (compEnvC scope cl C X.env) fp) elt te := fun s H C cl fp => ⟨fun pins s1 σ1 H1 Q I hh => pe_je.run pins s1 σ1 H1 Q I (hh s H C cl fp)⟩
  refine ⟨_, g, tt, te, pi_ji (tg := tg), blkOk_by ok, hg, htt, hte, ?_⟩
  refine h _ fun J ds G1 H1 ⟨hlen, R, r0, step, fin⟩ g1 walks Dl hD => ?_
  have E1 := E.step g1
  have hD0 : G1 Dl = none := E1.sub.none hD
  have so1 := E1.sok
  -- behind i items
  let Pv : Nat → Hp → Prop := fun i H' => ∃ G' acc out, Good m G1 H1 G' H' ∧ H' Dl = some (.lst acc) ∧ G' Dl = none ∧ RepL X.K m G' acc out ∧ R i out ∧ out.length ≤ i
  refine ⟨fun i n H' => n = ds.length - i ∧ i ≤ ds.length ∧ Pv i H', ⟨ds.length, by simp, Nat.zero_le _, G1, [], [], (Good.refl).mut so1 hD hD0, upd_same, hD0, .nil, r0, Nat.le_refl _⟩, ?_⟩
  rintro i n H' ⟨rfl, hi, G', acc, out, g2, hacc, hGD, rl, hR, hol⟩
  have E2 := E1.step g2
  have wk := walks G' H' i g2.ex E2.sub E2.sok
  by_cases hlt : i < ds.length
  · obtain ⟨d, hd⟩ : ∃ d, ds[i]? = some d := ⟨_, List.getElem?_eq_getElem hlt⟩
    obtain ⟨go, yl⟩ := wk.1 d hd
    refine .inr ⟨go, Pv (i + 1), fun H'' p => ⟨ds.length - (i + 1), by omega, rfl, hlt, p⟩, fun x H3 y => ?_⟩
    obtain ⟨G3, g3, rx⟩ := yl x H3 y
    have E3 := (E2.toEn0.step g3).wiped (own.map (·.2))
    have hT0 := step i d out hd hR
    show g x (wipe σ (own.map (·.2))) H3 _
    intro s0 Hs C0 cl0 fp0
    obtain ⟨g', pg', q'⟩ := hT (X.blk s0 Hs scope (compEnvC scope cl0 C0 X.env) fp0) (Fb _ _ _ _ _)
    refine ⟨g', pg', q' m G0 H0 _ (wipe σ (own.map (·.2))) σ G3 H3 x d _ _ (by rw [hcbK]; exact E3) (by rw [hcbK]; exact rx) hT0 (wipe_wipe _) fun Γb σb hN Eb hw => ?_⟩
    rw [hcbK] at Eb
    refine ⟨hw, ?_⟩
    show tt σb H3 _
    intro s1 Hs1 C1 cl1 fp1
    have Eb1 : En cb (X.blk s1 Hs1 scope (compEnvC scope cl1 C1 X.env) fp1) m G0 H0 Γb σb G3 H3 := ⟨by rw [hcbK]; exact Eb, xh_none hcber hcbx⟩
    refine jts_of hN _ (Fb _ _ _ _ _) m G0 H0 σb G3 H3 Eb1 _ fun b G4 H4 hb g4 => ?_
    have g13 : Good m G1 H1 G4 H4 := (g2.trans so1 g3).trans so1 g4
    have notD : ∀ {Ga Ha Gb Hb : Hp}, Good m Ga Ha Gb Hb → (∃ o, Ha Dl = some o) → Ga Dl = none → Gb Dl = none := fun {Ga Ha Gb Hb} g hh hn => by
      cases q : Gb Dl with
      | none => rfl
      | some o =>
        rcases g.gr Dl o q with z | ⟨z, _⟩
        · rw [hn] at z; cases z
        · obtain ⟨o', ho'⟩ := hh
          rw [ho'] at z; cases z
    have mD : m ≠ some Dl := fun z => so1.dom z hD
    have a3 : H3 Dl = some (.lst acc) := g3.st _ _ mD hacc
    have a4 : H4 Dl = some (.lst acc) := g4.st _ _ mD a3
    have n3 := notD g3 ⟨_, hacc⟩ hGD
    have n4 := notD g4 ⟨_, a3⟩ n3
    cases b with
    | false =>
      have hb' : R (i + 1) out := hb
      exact iteF ⟨G4, acc, out, g13, a4, n4, rl.mono (g3.ex.trans g4.ex), hb', Nat.le_succ_of_le hol⟩
    | true =>
      have hb' : Wv cb elt Γb fun e => R (i + 1) (out ++ [e]) := hb
      refine iteT ?_
      show te σb H4 _
      intro s2 Hs2 C2 cl2 fp2
      have Eb2 : En cb (X.blk s2 Hs2 scope (compEnvC scope cl2 C2 X.env) fp2) m G0 H0 Γb σb G4 H4 := ⟨by rw [hcbK]; exact Eb.step g4, xh_none hcber hcbx⟩
      refine hb' _ (Fb _ _ _ _ _) m G0 H0 σb G4 H4 Eb2 _ fun v e G5 H5 he g5 r5 => ?_
      rw [hcbK] at r5
      have a5 : H5 Dl = some (.lst acc) := g5.st _ _ mD a4
      have n5 := notD g5 ⟨_, a4⟩ n4
      have la := rl.length
      refine ⟨acc, a5, Nat.lt_of_le_of_lt (show acc.length ≤ 100000 by omega) (by decide), G5, acc ++ [v], out ++ [e], (g13.trans so1 g5).mut so1 hD n5, upd_same, n5, (rl.mono ((g3.ex.trans g4.ex).trans g5.ex)).append (.cons r5 .nil), he, ?_⟩
      rw [List.length_append, List.length_singleton]
      omega
  · have e : i = ds.length := by omega
    refine .inl ⟨wk.2 e, ?_⟩
    subst e
    exact qv Dl acc out G' H' (fin out hol hR) (g1.trans E.sok g2) (g1.back E.sok hD) hGD hacc rl
theorem bs_lc {y : Str} {py : Pos} {elt tg iter : Expr} {ifs : List Expr} {scope : Scope} {pos spos : Pos} {E : Ends'} (i : Nat) (own : List (Str × Nat)) {T : D → Gm → (Gm → Prop) → Prop} (nd : c.N.Nodup) (ok : blkC c.N c.sc scope own = true) (hT : WG (c.blk scope) tg (own.map (·.2)) T)
    (h : WI c tg iter Γ fun ds => ds.length ≤ 100000 ∧ ∃ R : Nat → List D → Prop, R 0 [] ∧ (∀ i d out, ds[i]? = some d → R i out → T d (wipeG Γ (own.map (·.2))) fun Γb =>
      WTs (c.blk scope) ifs Γb fun b => if b = true then Wv (c.blk scope) elt Γb fun e => R (i + 1) (out ++ [e]) else R (i + 1) out) ∧ ∀ out, out.length ≤ ds.length → R ds.length out → E.nx (Γ.set i (.own out)))
    (hN : c.N[i]? = some y) (hyl : c.sc.names.lookup y = some .local) (hk : c.sc.kind = .function) (hln : (py.line == pos.line) = true) (ha : (scope.names.any fun (n, k) => n == y && (k == .local || k == .cell)) = false)
    (hs : ∀ env x, foldedSetIterable iter env x = pure x) (hh : c.hx = none) : BS c (.Assign [.Name y py] (.ListComp elt [⟨tg, iter, ifs, 0⟩] scope pos) spos) Γ E := by
  intro X Ft m G0 H0 σ G H En D f
  obtain ⟨wi, g, tt, te, hi, hok, hg, ht, he, hl⟩ := lc_pt2 own nd ok hT hh Ft En (h X Ft m G0 H0 σ G H En) hs (fun x H1 => gName i x σ H1 D.nx) fun a vs ds G1 H1 q g n1 n2 e1 r => f.nx _ _ G1 H1 q g.ex ⟨En.toEn0.setO g i n1 n2 e1 r, En.xh⟩
  obtain ⟨k0, er, tp, hx, rfl, hcold, hu0⟩ := Ft
  obtain ⟨hc, hro, hpo⟩ := hcold hh
  exact ⟨_, ps_setLc (i := i) hc nd hN hyl (sw_true hk hyl hln ha) hi hok hg ht he (hs _), hl⟩
theorem bs_filter {y : Str} {py : Pos} {elt iter t : Expr} {x : Str} {p : Pos} {scope : Scope} {pos spos : Pos} {E : Ends'} (iy : Nat) (i : Nat) (P : D → Bool) (f : D → D) (nd : c.N.Nodup) (h : WI c (.Name x p) iter Γ fun ds => ds.length ≤ 100000 ∧ (∀ d ∈ ds, WB (c.blk scope) t (((wipeG Γ [i]).set i (.val d))) fun b => b = P d) ∧
      (∀ d ∈ ds, P d = true → Wv (c.blk scope) elt (((wipeG Γ [i]).set i (.val d))) fun e => e = f d) ∧ E.nx (Γ.set iy (.own ((ds.filter P).map f))))
    (ok : blkC c.N c.sc scope [(x, i)] = true := by first | decide +kernel | kernel_rfl) (hN : c.N[i]? = some x := by rfl) (hl : (c.blk scope).sc.names.lookup x = some .local := by rfl) (hNy : c.N[iy]? = some y := by rfl) (hyl : c.sc.names.lookup y = some .local := by rfl) (hk : c.sc.kind = .function := by rfl) (hln : (py.line == pos.line) = true := by decide +kernel) (ha : (scope.names.any fun (n, k) => n == y && (k == .local || k == .cell)) = false := by decide +kernel)
    (hs : ∀ env x, foldedSetIterable iter env x = pure x := by exact fun _ _ => rfl) (hh : c.hx = none := by rfl) : BS c (.Assign [.Name y py] (.ListComp elt [⟨.Name x p, iter, [t], 0⟩] scope pos) spos) Γ E := by
  refine bs_lc iy [(x, i)] nd ok (wg_name (c := c.blk scope) i (by simp) nd hN (Or.inl hl) (Or.inr hl)) ?_ hNy hyl hk hln ha hs hh
  intro X F m G0 H0 σ G H E0 Rr hR
  refine h X F m G0 H0 σ G H E0 Rr fun J ds G' H' ⟨h1, h2, h3, h4⟩ => hR J ds G' H' ⟨h1, fun i out => out = ((ds.take i).filter P).map f, rfl, fun i d out hd ho => ?_, fun out hl ho => by rw [ho, List.take_length]; exact h4⟩
  have hm := List.mem_of_getElem? hd
  intro X2 F2 m2 G02 H02 σ2 G2 H2 E2 Qv qv
  refine h2 d hm X2 F2 m2 G02 H02 σ2 G2 H2 E2 Qv fun b G3 H3 hb g3 => qv b G3 H3 ?_ g3
  subst hb
  cases hp : P d with
  | true =>
    refine iteT ((h3 d hm hp).imp fun e he => ?_)
    show out ++ [e] = ((ds.take (i + 1)).filter P).map f
    rw [he, ho, take_get hd, List.filter_append, List.map_append]
    simp [hp]
  | false =>
    refine iteF ?_
    show out = ((ds.take (i + 1)).filter P).map f
    rw [ho, take_get hd, List.filter_append, List.map_append]
    simp [hp]
theorem bs_map {y : Str} {py : Pos} {elt iter : Expr} {x : Str} {p : Pos} {scope : Scope} {pos spos : Pos} {E : Ends'} (iy : Nat) (i : Nat) (R : D → D → Prop) (nd : c.N.Nodup) (h : WI c (.Name x p) iter Γ fun ds => ds.length ≤ 100000 ∧ (∀ d ∈ ds, Wv (c.blk scope) elt (((wipeG Γ [i]).set i (.val d))) fun e => R d e) ∧ ∀ out, All2 R ds out → E.nx (Γ.set iy (.own out)))
    (ok : blkC c.N c.sc scope [(x, i)] = true := by first | decide +kernel | kernel_rfl) (hN : c.N[i]? = some x := by rfl) (hl : (c.blk scope).sc.names.lookup x = some .local := by rfl) (hNy : c.N[iy]? = some y := by rfl) (hyl : c.sc.names.lookup y = some .local := by rfl) (hk : c.sc.kind = .function := by rfl) (hln : (py.line == pos.line) = true := by decide +kernel) (ha : (scope.names.any fun (n, k) => n == y && (k == .local || k == .cell)) = false := by decide +kernel)
    (hs : ∀ env x, foldedSetIterable iter env x = pure x := by exact fun _ _ => rfl) (hh : c.hx = none := by rfl) : BS c (.Assign [.Name y py] (.ListComp elt [⟨.Name x p, iter, [], 0⟩] scope pos) spos) Γ E := by
  refine bs_lc iy [(x, i)] nd ok (wg_name (c := c.blk scope) i (by simp) nd hN (Or.inl hl) (Or.inr hl)) ?_ hNy hyl hk hln ha hs hh
  intro X F m G0 H0 σ G H E0 Rr hR
  refine h X F m G0 H0 σ G H E0 Rr fun J ds G' H' ⟨h1, h2, h3⟩ => hR J ds G' H' ⟨h1, fun i out => All2 R (ds.take i) out, .nil, fun i d out hd ho => ?_, fun out hl ho => h3 out (by have ho' : All2 R (ds.take ds.length) out := ho; rw [List.take_length] at ho'; exact ho')⟩
  refine (h2 d (List.mem_of_getElem? hd)).imp fun e he => ?_
  show All2 R (ds.take (i + 1)) (out ++ [e])
  rw [take_get hd]
  exact ho.snoc he
end
end WL
set_option Elab.async false
set_option linter.all false
set_option maxRecDepth 100000
set_option maxHeartbeats 4000000
namespace WL
open PySem PySem.Spec PyProof.Rows L2 Evl
/-! ### tables of n places -/
def tab (n : Nat) (F : Nat → D) : List D := (List.range n).map F
theorem tab_len (n : Nat) (F : Nat → D) : (tab n F).length = n := by unfold tab; rw [List.length_map, List.length_range]
theorem tab_get {n : Nat} {F : Nat → D} {i : Nat} (h : i < n) : (tab n F)[i]? = some (F i) := by
  unfold tab
  rw [List.getElem?_map, List.getElem?_range h]; rfl
theorem tab_ix {n : Nat} {F : Nat → D} {i : Nat} (h : i < n) : ixN (tab n F).length (i : Int) = some i := ixN_nat (by rw [tab_len]; exact h)
theorem tab_at {n : Nat} {F : Nat → D} {i : Nat} (h : i < n) : atI (tab n F) (i : Int) = some (F i) := by
  unfold L2.atI
  rw [tab_ix h]
  exact tab_get h
theorem tab_congr {n : Nat} {F G : Nat → D} (h : ∀ i, i < n → F i = G i) : tab n F = tab n G := by
  unfold tab
  exact List.map_congr_left fun i hi => h i (List.mem_range.mp hi)
theorem tab_ext {n : Nat} {F : Nat → D} {l : List D} (hl : l.length = n) (h : ∀ i, i < n → l[i]? = some (F i)) : l = tab n F := by
  apply List.ext_getElem?
  intro i
  by_cases hi : i < n
  · rw [h i hi, tab_get hi]
  · rw [List.getElem?_eq_none (by omega), List.getElem?_eq_none (by rw [tab_len]; omega)]
theorem tab_set {n j : Nat} {F G : Nat → D} {v : D} (h1 : G j = v) (h2 : ∀ i, i < n → i ≠ j → G i = F i) : (tab n F).set j v = tab n G := by
  refine tab_ext (by rw [List.length_set, tab_len]) fun i hi => ?_
  rw [List.getElem?_set]
  by_cases e : j = i
  · subst e
    rw [if_pos rfl, tab_len, if_pos hi, h1]
  · rw [if_neg e, tab_get hi, h2 i hi (fun z => e z.symm)]
theorem tab_rep (n : Nat) (d : D) : (List.replicate n [d]).flatten = tab n fun _ => d := by
  refine tab_ext (by simp) fun i hi => ?_
  have : (List.replicate n [d]).flatten = List.replicate n d := by
    clear hi
    induction n with
    | zero => rfl
    | succ n ih => rw [List.replicate_succ, List.flatten_cons, ih]; rfl
  rw [this, List.getElem?_replicate, if_pos hi]
theorem arrL_tab (n : Nat) (f : Nat → Nat) : (arrI n f).map D.int = tab n fun i => .int (f i : Int) := by
  unfold arrI tab
  rw [List.map_map]; rfl
theorem arr_tab (n : Nat) (f : Nat → Nat) : arrD n f = .tup (tab n fun i => .int (f i : Int)) := by
  unfold arrD; rw [arrL_tab]
theorem arrL_mem {n : Nat} {f : Nat → Nat} {d : D} (h : d ∈ (arrI n f).map D.int) : ∃ i, i < n ∧ d = .int (f i : Int) := by
  rw [arrL_tab] at h
  obtain ⟨i, hi, e⟩ := List.mem_map.mp h
  exact ⟨i, List.mem_range.mp hi, e.symm⟩
theorem map_arr {n : Nat} {p : Nat → Nat} {q : Nat → Nat} {out : List D} (h : All2 (fun d e => e = D.int (q d.toI.toNat : Int)) ((arrI n p).map D.int) out) : out = (arrI n (fun i => q (p i))).map D.int := by
  have e := All2.eq_map (f := fun (d : D) => D.int (q d.toI.toNat : Int)) h
  rw [e, arrL_tab, arrL_tab]
  unfold tab
  rw [List.map_map]; rfl
/-- v laid along m, as far as i -/
def scat (n : Nat) (m : Nat → Nat) (v : Nat → D) (i : Nat) : List D := tab n fun y => if backF n m y < i then v (backF n m y) else .int 0
section
variable {n : Nat} {m : Nat → Nat} (h : PermOn n m)
include h
omit h in
theorem scat_0 (v : Nat → D) : scat n m v 0 = tab n fun _ => .int 0 := tab_congr fun i _ => by rw [if_neg (Nat.not_lt_zero _)]
theorem scat_set (v : Nat → D) {i : Nat} (hi : i < n) : (scat n m v i).set (m i) (v i) = scat n m v (i + 1) := by
  refine tab_set ?_ fun y hy ne => ?_
  · show (if backF n m (m i) < i + 1 then v (backF n m (m i)) else .int 0) = v i
    rw [backF_left h hi, if_pos (Nat.lt_succ_self i)]
  · have hb : backF n m y ≠ i := fun e => ne (by rw [← e]; exact ((backF_right h hy).1).symm)
    show (if backF n m y < i + 1 then v (backF n m y) else .int 0) = if backF n m y < i then v (backF n m y) else .int 0
    by_cases q : backF n m y < i
    · rw [if_pos q, if_pos (by omega)]
    · rw [if_neg q, if_neg (by omega)]
theorem scat_n (v : Nat → D) : scat n m v n = tab n fun y => v (backF n m y) := tab_congr fun y hy => by rw [if_pos (backF_right h hy).2]
end
/-! ### the cycles -/
def ringD (n : Nat) (f : Nat → Nat) (x : Nat) : D := .tup ((ringF n f x).map fun (y : Nat) => D.int (y : Int))
def ringsD (n : Nat) (f : Nat → Nat) (x : Nat) : List D := ((List.range x).filter fun z => mo n f z == z).map (ringD n f)
def metB (n : Nat) (f : Nat → Nat) (x j y : Nat) : Bool := decide (mo n f y < x) || (List.range j).any fun k => itf f k x == y
def metT (n : Nat) (f : Nat → Nat) (x j : Nat) : List D := tab n fun y => .bl (metB n f x j y)
section
variable {n : Nat} {f : Nat → Nat} (h : PermOn n f)
theorem met_start : metT n f 0 0 = tab n fun _ => .bl false := tab_congr fun i _ => by
  show D.bl (metB n f 0 0 i) = _
  unfold metB
  rw [decide_eq_false (Nat.not_lt_zero _)]; rfl
theorem any_succ {P : Nat → Bool} (j : Nat) : (List.range (j + 1)).any P = ((List.range j).any P || P j) := by
  rw [List.range_succ, List.any_append]; simp
include h
theorem met_set {x j : Nat} (hx : x < n) : (metT n f x j).set (itf f j x) (.bl true) = metT n f x (j + 1) := by
  refine tab_set ?_ fun y hy ne => ?_
  · show D.bl (metB n f x (j + 1) (itf f j x)) = .bl true
    unfold metB
    rw [any_succ, beq_self_eq_true, Bool.or_true, Bool.or_true]
  · show D.bl (metB n f x (j + 1) y) = D.bl (metB n f x j y)
    unfold metB
    have e : (itf f j x == y) = false := by
      rw [Bool.eq_false_iff]
      exact fun z => ne (eq_of_beq z).symm
    rw [any_succ, e, Bool.or_false]
theorem met_no {x j : Nat} (hx : x < n) (hm : mo n f x = x) (hj : j < per n f x) : metB n f x j (itf f j x) = false := by
  unfold metB
  rw [mo_itf h hx, hm, decide_eq_false (Nat.lt_irrefl _), Bool.false_or, Bool.eq_false_iff]
  intro e
  obtain ⟨k, hk, e⟩ := List.any_eq_true.mp e
  exact itf_ne h hx (List.mem_range.mp hk) hj (eq_of_beq e)
theorem met_yes {x : Nat} (hx : x < n) : metB n f x (per n f x) (itf f (per n f x) x) = true := by
  unfold metB
  rw [per_back h hx, Bool.or_eq_true]
  exact Or.inr (List.any_eq_true.mpr ⟨0, List.mem_range.mpr (per_pos x), beq_self_eq_true _⟩)
theorem met_full {x : Nat} (hx : x < n) (hm : mo n f x = x) : metT n f x (per n f x) = metT n f (x + 1) 0 := tab_congr fun y hy => by
  have e : metB n f x (per n f x) y = metB n f (x + 1) 0 y := by
    unfold metB
    rw [List.range_zero, List.any_nil, Bool.or_false]
    rw [Bool.eq_iff_iff, Bool.or_eq_true, decide_eq_true_iff, decide_eq_true_iff, List.any_eq_true]
    have q := mo_iff h hx hy hm
    constructor
    · rintro (a | ⟨k, hk, e⟩)
      · omega
      · have := q.mpr ⟨k, List.mem_range.mp hk, (eq_of_beq e).symm⟩
        omega
    · intro a
      by_cases z : mo n f y < x
      · exact Or.inl z
      · obtain ⟨k, hk, e⟩ := q.mp (by omega)
        exact Or.inr ⟨k, List.mem_range.mpr hk, by rw [e]; exact beq_self_eq_true _⟩
  rw [e]
theorem met_skip {x : Nat} (hm : mo n f x ≠ x) : metT n f (x + 1) 0 = metT n f x 0 := tab_congr fun y hy => by
  have e : metB n f (x + 1) 0 y = metB n f x 0 y := by
    unfold metB
    have ne : mo n f y ≠ x := fun z => hm (by rw [← z]; exact mo_mo h hy)
    congr 1
    rw [decide_eq_decide]
    omega
  rw [e]
theorem met_at {x : Nat} (hx : x < n) : metB n f x 0 x = decide (mo n f x ≠ x) := by
  unfold metB
  rw [List.range_zero, List.any_nil, Bool.or_false, decide_eq_decide]
  have := mo_le h hx 0
  have e : itf f 0 x = x := rfl
  omega
omit h in
theorem rings_yes {x : Nat} (hm : mo n f x = x) : ringsD n f (x + 1) = ringsD n f x ++ [ringD n f x] := by
  unfold ringsD
  rw [List.range_succ, List.filter_append, List.map_append]
  have : [x].filter (fun z => mo n f z == z) = [x] := by simp [hm]
  rw [this]; rfl
omit h in
theorem rings_no {x : Nat} (hm : mo n f x ≠ x) : ringsD n f (x + 1) = ringsD n f x := by
  unfold ringsD
  rw [List.range_succ, List.filter_append, List.map_append]
  have : [x].filter (fun z => mo n f z == z) = [] := by simp [hm]
  rw [this, List.map_nil, List.append_nil]
omit h in
theorem rings_len (x : Nat) : (ringsD n f x).length ≤ x := by
  unfold ringsD
  rw [List.length_map]
  have := List.length_filter_le (fun z => mo n f z == z) (List.range x)
  rwa [List.length_range] at this
end
end WL
set_option Elab.async false
set_option linter.all false
set_option maxRecDepth 100000
set_option maxHeartbeats 4000000
namespace WL
open PySem PySem.Spec PyProof.Rows L2 Evl
/-! ### arrangements among the values -/
def Arr (x : D) (n : Nat) (f : Nat → Nat) : Prop := 0 < n ∧ n ≤ 4000 ∧ PermOn n f ∧ x = arrD n f
theorem arr_toI (n : Nat) (f : Nat → Nat) : ((arrI n f).map D.int).map D.toI = arrI n f := by
  rw [List.map_map]
  have : D.toI ∘ D.int = id := rfl
  rw [this, List.map_id]
theorem ok_arr {n : Nat} {f : Nat → Nat} (h : n ≤ 4000) : (arrD n f).ok = true := mk_tup (by rw [arrL_len]; exact h) (ints_facts _).1
theorem Arr.ok {x : D} {n : Nat} {f : Nat → Nat} (h : Arr x n f) : x.ok = true := by rw [h.2.2.2]; exact ok_arr h.2.1
theorem Arr.is {x : D} {n : Nat} {f : Nat → Nat} (h : Arr x n f) (k : D) : isArr x k = lenIs k n := by
  obtain ⟨h0, h1, hp, rfl⟩ := h
  show (!((arrI n f).map D.int).isEmpty && (lenIs k ((arrI n f).map D.int).length && (((arrI n f).map D.int).all (fun y => inside y 0 ((((arrI n f).map D.int).length : Int) - 1)) && decide ((((arrI n f).map D.int).map D.toI).Nodup)))) = _
  rw [arr_toI, decide_eq_true (arrI_nodup hp), arrL_len]
  have e1 : ((arrI n f).map D.int).isEmpty = false := by
    rw [Bool.eq_false_iff]
    intro z
    have := arrL_len n f
    rw [List.isEmpty_iff.mp z] at this
    simp at this
    omega
  have e2 : ((arrI n f).map D.int).all (fun y => inside y 0 ((n : Int) - 1)) = true := by
    rw [List.all_eq_true]
    intro d hd
    obtain ⟨i, hi, rfl⟩ := arrL_mem hd
    have := hp.1 i hi
    show (decide ((0 : Int) ≤ (f i : Int)) && decide ((f i : Int) ≤ (n : Int) - 1)) = true
    rw [decide_eq_true (by omega), decide_eq_true (by omega)]; rfl
  rw [e1, e2]
  simp
theorem inside_iff {d : D} {a b : Int} : inside d a b = true ↔ ∃ i, d = .int i ∧ a ≤ i ∧ i ≤ b := by
  cases d with
  | int i =>
    show (decide (a ≤ i) && decide (i ≤ b)) = true ↔ _
    rw [Bool.and_eq_true, decide_eq_true_iff, decide_eq_true_iff]
    exact ⟨fun h => ⟨i, rfl, h⟩, fun ⟨j, e, h⟩ => by cases e; exact h⟩
  | _ => exact ⟨fun h => Bool.noConfusion (show false = true from h), fun ⟨j, e, h⟩ => by cases e⟩
theorem arr_of {x : D} (hok : x.ok = true) {k : D} (h : isArr x k = true) : ∃ n f, Arr x n f := by
  cases x with
  | tup xs =>
    obtain ⟨hl, hokL⟩ := ok_tup hok
    obtain ⟨h1, h⟩ := Bool.and_eq_true_iff.mp (show (!xs.isEmpty && (lenIs k xs.length && (xs.all (fun y => inside y 0 ((xs.length : Int) - 1)) && decide ((xs.map D.toI).Nodup)))) = true from h)
    obtain ⟨h2, h⟩ := Bool.and_eq_true_iff.mp h
    obtain ⟨h3, h4⟩ := Bool.and_eq_true_iff.mp h
    have hI := ints_of_inside h3
    have nd : (xs.map D.toI).Nodup := of_decide_eq_true h4
    have hn : 0 < xs.length := by
      cases xs with
      | nil => exact Bool.noConfusion (show false = true from h1)
      | cons a as => exact Nat.succ_pos _
    have p : (xs.map D.toI).Perm (rgI (xs.length : Int)) := by
      refine perm_of_sub nd (rgI_nodup _) (fun y hy => ?_) (by rw [rgI_len, List.length_map]; omega)
      obtain ⟨d, hd, rfl⟩ := List.mem_map.mp hy
      obtain ⟨i, rfl, ha, hb⟩ := inside_iff.mp (List.all_eq_true.mp h3 d hd)
      refine rgI_mem.mpr ⟨ha, ?_⟩
      show i < _
      omega
    obtain ⟨f, hf, e⟩ := perm_fun p
    exact ⟨xs.length, f, hn, hl, hf, by rw [hI, e] <;> (try rw [arrL_len]) <;> rfl⟩
  | _ => exact Bool.noConfusion (show false = true from h)
/-! ### orders -/
def lcmN (a b : Nat) : Nat := a / Nat.gcd a b * b
theorem lcmN_le (a b : Nat) : lcmN a b ≤ a * b := Nat.mul_le_mul_right b (Nat.div_le_self a _)
def ordL (n : Nat) (f : Nat → Nat) (zs : List Nat) : Nat := zs.foldl (fun a z => lcmN a (per n f z)) 1
theorem ordL_snoc (n : Nat) (f : Nat → Nat) (zs : List Nat) (z : Nat) : ordL n f (zs ++ [z]) = lcmN (ordL n f zs) (per n f z) := by
  unfold ordL; rw [List.foldl_append]; rfl
theorem ord_take {n : Nat} {f : Nat → Nat} (h : PermOn n f) (hn : n ≤ 4096) : ∀ i, i ≤ (mins n f).length → ordL n f ((mins n f).take i) ≤ 2 ^ (12 * i)
  | 0, _ => by rw [List.take_zero]; exact Nat.le_refl 1
  | i + 1, hi => by
    obtain ⟨z, hz⟩ : ∃ z, (mins n f)[i]? = some z := ⟨_, List.getElem?_eq_getElem hi⟩
    rw [take_get hz, ordL_snoc]
    have ih := ord_take h hn i (by omega)
    have hm := List.mem_of_getElem? hz
    have hzn : z < n := List.mem_range.mp (List.mem_filter.mp hm).1
    have hp := per_le h hzn
    refine Nat.le_trans (lcmN_le _ _) ?_
    have : 2 ^ (12 * (i + 1)) = 2 ^ (12 * i) * 2 ^ 12 := by rw [Nat.mul_succ, Nat.pow_add]
    rw [this]
    exact Nat.mul_le_mul ih (by omega)
theorem mins_mem {n : Nat} {f : Nat → Nat} {z : Nat} : z ∈ mins n f ↔ z < n ∧ mo n f z = z := by
  unfold mins
  rw [List.mem_filter, List.mem_range, beq_iff_eq]
theorem mins_len (n : Nat) (f : Nat → Nat) : (mins n f).length ≤ n := by
  unfold mins
  have := List.length_filter_le (fun z => mo n f z == z) (List.range n)
  rwa [List.length_range] at this
theorem ringsD_mins (n : Nat) (f : Nat → Nat) : ringsD n f n = (mins n f).map (ringD n f) := rfl
theorem ringsD_get {n : Nat} {f : Nat → Nat} {i : Nat} {d : D} (h : (ringsD n f n)[i]? = some d) : ∃ z, (mins n f)[i]? = some z ∧ d = ringD n f z := by
  rw [ringsD_mins, List.getElem?_map] at h
  cases e : (mins n f)[i]? with
  | none => rw [e] at h; cases h
  | some z => rw [e] at h; exact ⟨z, rfl, by cases h; rfl⟩
def ringL (n : Nat) (f : Nat → Nat) (z : Nat) : List D := tab (per n f z) fun k => .int (itf f k z : Int)
theorem ringD_tab (n : Nat) (f : Nat → Nat) (z : Nat) : ringD n f z = .tup (ringL n f z) := by
  unfold ringD ringF ringL tab
  rw [List.map_map]; rfl
theorem ringL_len (n : Nat) (f : Nat → Nat) (z : Nat) : (ringL n f z).length = per n f z := tab_len _ _
theorem len_ring (n : Nat) (f : Nat → Nat) (z : Nat) : (ringD n f z).len = some (per n f z) := by
  rw [ringD_tab]
  show some (ringL n f z).length = _
  rw [ringL_len]
/-! ### powers -/
def powF (n : Nat) (f : Nat → Nat) (e : Int) (y : Nat) : Nat := itf f (e % (per n f y : Int)).toNat y
def powT (n : Nat) (f : Nat → Nat) (e : Int) (P : Nat → Bool) : List D := tab n fun y => if P y = true then .int (powF n f e y : Int) else .int 0
def ringP (n : Nat) (f : Nat → Nat) (zs : List Nat) (z j y : Nat) : Bool := zs.any (fun w => mo n f y == w) || (List.range j).any fun k => itf f k z == y
section
variable {n : Nat} {f : Nat → Nat} (h : PermOn n f)
include h
theorem powT_set (e : Int) {zs : List Nat} {z j : Nat} (hz : z < n) : (powT n f e (ringP n f zs z j)).set (itf f j z) (.int (powF n f e (itf f j z) : Int)) = powT n f e (ringP n f zs z (j + 1)) := by
  refine tab_set ?_ fun y hy ne => ?_
  · have e1 : ringP n f zs z (j + 1) (itf f j z) = true := by
      unfold ringP
      rw [any_succ, beq_self_eq_true, Bool.or_true, Bool.or_true]
    rw [e1, if_pos rfl]
  · have e1 : ringP n f zs z (j + 1) y = ringP n f zs z j y := by
      unfold ringP
      have e : (itf f j z == y) = false := by
        rw [Bool.eq_false_iff]
        exact fun z => ne (eq_of_beq z).symm
      rw [any_succ, e, Bool.or_false]
    rw [e1]
theorem powT_full (e : Int) {zs : List Nat} {z : Nat} (hz : z < n) (hm : mo n f z = z) : powT n f e (ringP n f zs z (per n f z)) = powT n f e (ringP n f (zs ++ [z]) 0 0) := tab_congr fun y hy => by
  have e1 : ringP n f zs z (per n f z) y = ringP n f (zs ++ [z]) 0 0 y := by
    unfold ringP
    rw [List.range_zero, List.any_nil, Bool.or_false, List.any_append]
    congr 1
    rw [Bool.eq_iff_iff, List.any_eq_true]
    have q := mo_iff h hz hy hm
    have s : [z].any (fun w => mo n f y == w) = (mo n f y == z) := by simp
    rw [s, beq_iff_eq, q]
    constructor
    · rintro ⟨k, hk, e⟩
      exact ⟨k, List.mem_range.mp hk, (eq_of_beq e).symm⟩
    · rintro ⟨k, hk, e⟩
      exact ⟨k, List.mem_range.mpr hk, by rw [e]; exact beq_self_eq_true _⟩
  rw [e1]
omit h in
theorem powT_start (e : Int) : powT n f e (ringP n f [] 0 0) = tab n fun _ => .int 0 := tab_congr fun y hy => by
  rw [if_neg (by unfold ringP; simp)]
omit h in
theorem powT_z (e : Int) (zs : List Nat) (z z' : Nat) : powT n f e (ringP n f zs z 0) = powT n f e (ringP n f zs z' 0) := rfl
theorem powT_end (e : Int) : .tup (powT n f e (ringP n f (mins n f) 0 0)) = arrD n (powF n f e) := by
  rw [arr_tab]
  congr 1
  refine tab_congr fun y hy => ?_
  rw [if_pos ?_]
  unfold ringP
  rw [Bool.or_eq_true]
  exact Or.inl (List.any_eq_true.mpr ⟨mo n f y, mins_mem.mpr ⟨mo_lt h hy, mo_mo h hy⟩, beq_self_eq_true _⟩)
theorem powF_ring (e : Int) {z : Nat} (hz : z < n) (k : Nat) : powF n f e (itf f k z) = itf f ((e % (per n f z : Int)).toNat + k) z := by
  unfold powF
  rw [per_itf h hz, itf_add]
theorem rot_get {z : Nat} (hz : z < n) {s i : Nat} (hs : s < per n f z) (hi : i < per n f z) : ((ringL n f z).drop s ++ (ringL n f z).take s)[i]? = some (.int (itf f (s + i) z : Int)) := by
  by_cases q : i < per n f z - s
  · rw [List.getElem?_append_left (by rw [List.length_drop, ringL_len]; exact q), List.getElem?_drop]
    exact tab_get (F := fun k => D.int (itf f k z : Int)) (by omega)
  · rw [List.getElem?_append_right (by rw [List.length_drop, ringL_len]; omega), List.length_drop, ringL_len, List.getElem?_take, if_pos (by omega)]
    have e : (ringL n f z)[i - (per n f z - s)]? = some (.int (itf f (i - (per n f z - s)) z : Int)) := tab_get (F := fun k => D.int (itf f k z : Int)) (by omega)
    rw [e]
    have e2 : itf f (s + i) z = itf f (i - (per n f z - s)) z := by
      have : s + i = (i - (per n f z - s)) + per n f z := by omega
      rw [this, itf_add, per_back h hz]
    rw [e2]
theorem mod_ring (e : Int) {z : Nat} (hz : z < n) (i : Nat) : itf f (((i : Int) + e) % (per n f z : Int)).toNat z = itf f ((e % (per n f z : Int)).toNat + i) z := by
  rw [itf_mod h hz ((e % (per n f z : Int)).toNat + i)]
  have hp := per_pos (n := n) (f := f) z
  have h0 : 0 ≤ e % (per n f z : Int) := Int.emod_nonneg _ (by omega)
  have h1 : 0 ≤ ((i : Int) + e) % (per n f z : Int) := Int.emod_nonneg _ (by omega)
  congr 1
  apply Int.ofNat_inj.mp
  rw [Int.toNat_of_nonneg h1]
  show _ = (((e % (per n f z : Int)).toNat + i : Nat) : Int) % (per n f z : Int)
  rw [Int.natCast_add, Int.toNat_of_nonneg h0, Int.emod_add_emod, Int.add_comm]
theorem permOn_pow (e : Int) : PermOn n (powF n f e) := by
  refine ⟨fun i hi => itf_lt h hi _, fun i j hi hj q => ?_⟩
  unfold powF at q
  have e1 := mo_itf h hi (e % (per n f i : Int)).toNat
  have e2 : per n f i = per n f j := by
    have a := per_itf h hi (e % (per n f i : Int)).toNat
    have b := per_itf h hj (e % (per n f j : Int)).toNat
    rw [q] at a
    rw [← a, b]
  rw [e2] at q
  exact itf_inj h hi hj _ q
end
end WL
set_option Elab.async false
set_option linter.all false
set_option maxRecDepth 100000
set_option maxHeartbeats 4000000
namespace WL
open PySem PySem.Spec PyProof.Rows L2 Evl
/-! ### arrangements built of others -/
theorem tab_app (m k : Nat) (F G : Nat → D) : tab m F ++ tab k G = tab (m + k) fun y => if y < m then F y else G (y - m) := by
  refine tab_ext (by rw [List.length_append, tab_len, tab_len]) fun i hi => ?_
  by_cases q : i < m
  · rw [List.getElem?_append_left (by rw [tab_len]; exact q), tab_get q, if_pos q]
  · rw [List.getElem?_append_right (by rw [tab_len]; omega), tab_len, tab_get (by omega), if_neg q]
def inF (s m : Nat) (f : Nat → Nat) (y : Nat) : Nat := if s ≤ y ∧ y < s + m then s + f (y - s) else y
theorem permOn_in {n s m : Nat} {f : Nat → Nat} (h : PermOn m f) (hs : s + m ≤ n) : PermOn n (inF s m f) := by
  refine ⟨fun i hi => ?_, fun i j hi hj e => ?_⟩
  · unfold inF
    by_cases q : s ≤ i ∧ i < s + m
    · rw [if_pos q]
      have := h.1 (i - s) (by omega)
      omega
    · rw [if_neg q]; exact hi
  · unfold inF at e
    by_cases q : s ≤ i ∧ i < s + m <;> by_cases q2 : s ≤ j ∧ j < s + m
    · rw [if_pos q, if_pos q2] at e
      have := h.2 (i - s) (j - s) (by omega) (by omega) (by omega)
      omega
    · rw [if_pos q, if_neg q2] at e
      have := h.1 (i - s) (by omega)
      omega
    · rw [if_neg q, if_pos q2] at e
      have := h.1 (j - s) (by omega)
      omega
    · rw [if_neg q, if_neg q2] at e
      exact e
def joinF (m : Nat) (f g : Nat → Nat) (y : Nat) : Nat := if y < m then f y else m + g (y - m)
theorem permOn_join {m k : Nat} {f g : Nat → Nat} (h : PermOn m f) (h2 : PermOn k g) : PermOn (m + k) (joinF m f g) := by
  refine ⟨fun i hi => ?_, fun i j hi hj e => ?_⟩
  · unfold joinF
    by_cases q : i < m
    · rw [if_pos q]
      have := h.1 i q
      omega
    · rw [if_neg q]
      have := h2.1 (i - m) (by omega)
      omega
  · unfold joinF at e
    by_cases q : i < m <;> by_cases q2 : j < m
    · rw [if_pos q, if_pos q2] at e
      exact h.2 i j q q2 e
    · rw [if_pos q, if_neg q2] at e
      have := h.1 i q
      omega
    · rw [if_neg q, if_pos q2] at e
      have := h.1 j q2
      omega
    · rw [if_neg q, if_neg q2] at e
      have := h2.2 (i - m) (j - m) (by omega) (by omega) (by omega)
      omega
theorem join_arr (m k : Nat) (f g : Nat → Nat) : (arrI m f).map D.int ++ (arrI k (fun y => m + g y)).map D.int = (arrI (m + k) (joinF m f g)).map D.int := by
  rw [arrL_tab, arrL_tab, arrL_tab, tab_app]
  refine tab_congr fun y hy => ?_
  unfold joinF
  by_cases q : y < m
  · rw [if_pos q, if_pos q]
  · rw [if_neg q, if_neg q]
def overF (m : Nat) (q : Nat → Nat) (x : Nat) : Nat := q (x / m) * m + x % m
theorem permOn_over {m k : Nat} {q : Nat → Nat} (h : PermOn k q) (hm : 0 < m) : PermOn (m * k) (overF m q) := by
  have dv : ∀ x, x < m * k → x / m < k := fun x hx => Nat.div_lt_of_lt_mul hx
  refine ⟨fun i hi => ?_, fun i j hi hj e => ?_⟩
  · unfold overF
    have a := h.1 _ (dv i hi)
    have b := Nat.mod_lt i hm
    have c : (q (i / m) + 1) * m ≤ k * m := Nat.mul_le_mul_right m a
    rw [Nat.succ_mul] at c
    rw [Nat.mul_comm m k]
    omega
  · unfold overF at e
    have b1 := Nat.mod_lt i hm
    have b2 := Nat.mod_lt j hm
    have d1 : (q (i / m) * m + i % m) / m = q (i / m) := by
      rw [Nat.mul_comm, Nat.mul_add_div hm, Nat.div_eq_of_lt b1, Nat.add_zero]
    have d2 : (q (j / m) * m + j % m) / m = q (j / m) := by
      rw [Nat.mul_comm, Nat.mul_add_div hm, Nat.div_eq_of_lt b2, Nat.add_zero]
    have e1 : q (i / m) = q (j / m) := by rw [← d1, ← d2, e]
    rw [e1] at e
    have e2 := h.2 _ _ (dv i hi) (dv j hj) e1
    have e3 : i % m = j % m := by omega
    rw [← Nat.div_add_mod i m, ← Nat.div_add_mod j m, e2, e3]
def turnF (k y : Nat) : Nat := if y = 0 then 1 else if y = 1 then k else if y = k then 0 else y
theorem permOn_turn {n k : Nat} (h : 2 ≤ k) (hk : k < n) : PermOn n (turnF k) := by
  refine ⟨fun i hi => ?_, fun i j hi hj e => ?_⟩
  · unfold turnF
    split
    · omega
    · split
      · omega
      · split <;> omega
  · unfold turnF at e
    split at e <;> split at e <;> (try split at e) <;> (try split at e) <;> (try split at e) <;> (try split at e) <;> omega
/-- x to (b + s x) mod n, s one of 1, -1 -/
def modF (n : Nat) (F : Int → Int) (x : Nat) : Nat := (F x % (n : Int)).toNat
theorem permOn_mod {n : Nat} {F : Int → Int} (hn : 0 < n) (h : ∀ x y : Nat, x < n → y < n → F x % (n : Int) = F y % (n : Int) → x = y) : PermOn n (modF n F) := by
  have a : ∀ x : Nat, 0 ≤ F x % (n : Int) ∧ F x % (n : Int) < n := fun x => ⟨Int.emod_nonneg _ (by omega), Int.emod_lt_of_pos _ (by omega)⟩
  refine ⟨fun i hi => ?_, fun i j hi hj e => h i j hi hj ?_⟩
  · unfold modF
    have := a i
    omega
  · unfold modF at e
    have := a i
    have := a j
    omega
theorem mod_sub {a b n : Int} (h : a % n = b % n) : (a - b) % n = 0 := Int.emod_eq_emod_iff_emod_sub_eq_zero.mp h
theorem small_zero {d : Int} {n : Nat} (h : d % (n : Int) = 0) (h1 : -(n : Int) < d) (h2 : d < n) : d = 0 := by
  obtain ⟨k, hk⟩ := Int.dvd_of_emod_eq_zero h
  subst hk
  have hn : (0 : Int) < n := by omega
  have k1 : k < 1 := by
    by_cases q : k < 1
    · exact q
    · have := Int.mul_le_mul_of_nonneg_left (show (1 : Int) ≤ k by omega) (Int.le_of_lt hn)
      omega
  have k2 : -1 < k := by
    by_cases q : -1 < k
    · exact q
    · have := Int.mul_le_mul_of_nonneg_left (show k ≤ (-1 : Int) by omega) (Int.le_of_lt hn)
      omega
  have : k = 0 := by omega
  rw [this, Int.mul_zero]
theorem permOn_shift {n : Nat} (hn : 0 < n) (b s : Int) (hs : s = 1 ∨ s = -1) : PermOn n (modF n fun x => b + s * x) := permOn_mod hn fun x y hx hy e => by
  have e2 := mod_sub e
  rcases hs with rfl | rfl
  · have := small_zero e2 (by omega) (by omega)
    omega
  · have := small_zero e2 (by omega) (by omega)
    omega
def primes4 : List Nat := [5, 7, 11, 13]
theorem prime_mul : ∀ n ∈ primes4, ∀ t, t < n → 1 ≤ t → ∀ x, x < n → ∀ y, y < n → (t * x) % n = (t * y) % n → x = y := by decide +kernel
theorem permOn_affine {n : Nat} (hp : n ∈ primes4) (b : Int) {t : Nat} (h1 : 1 ≤ t) (h2 : t < n) : PermOn n (modF n fun x => b + (t : Int) * x) := permOn_mod (by omega) fun x y hx hy e => by
  refine prime_mul n hp t h2 h1 x hx y hy ?_
  have e2 : ((t : Int) * x) % (n : Int) = ((t : Int) * y) % (n : Int) := by
    have := mod_sub e
    have e3 : b + (t : Int) * x - (b + (t : Int) * y) = (t : Int) * x - (t : Int) * y := by omega
    rw [e3] at this
    exact Int.emod_eq_emod_iff_emod_sub_eq_zero.mpr this
  have e4 : ((t * x : Nat) : Int) % (n : Int) = ((t * y : Nat) : Int) % (n : Int) := by rw [Int.natCast_mul, Int.natCast_mul]; exact e2
  exact Int.ofNat_inj.mp (by rw [Int.natCast_emod, Int.natCast_emod]; exact e4)
theorem map_rg {n : Nat} {m : Int} (hm : m.toNat = n) {F : Int → Int} {out : List D} (h : All2 (fun (d e : D) => e = D.int (F d.toI)) ((List.range m.toNat).map fun (i : Nat) => D.int (0 + (i : Nat))) out) (h0 : ∀ x : Nat, x < n → 0 ≤ F x) : out = (arrI n fun x => (F x).toNat).map D.int := by
  have e := All2.eq_map (f := fun (d : D) => D.int (F d.toI)) h
  rw [e, arrL_tab, List.map_map, hm]
  refine tab_congr fun i hi => ?_
  have : F i = (((F i).toNat : Nat) : Int) := (Int.toNat_of_nonneg (h0 i hi)).symm
  show D.int (F (0 + (i : Int))) = D.int ((F i).toNat : Nat)
  rw [Int.zero_add, ← this]
/-! ### rooms in words -/
inductive Spc : Nat → D → Nat → Prop
  | still {k n : Nat} (h : 1 ≤ n) : Spc k (.tup [.str "still", .int n]) n
  | ring {k n : Nat} (h : 1 ≤ n) : Spc k (.tup [.str "ring", .int n]) n
  | all {k n : Nat} (h : 1 ≤ n) : Spc k (.tup [.str "all", .int n]) n
  | mirror {k n : Nat} (h : 3 ≤ n) : Spc k (.tup [.str "mirror", .int n]) n
  | even {k n : Nat} (h : 3 ≤ n) : Spc k (.tup [.str "even", .int n]) n
  | affine {k n : Nat} (h : n ∈ primes4) : Spc k (.tup [.str "affine", .int n]) n
  | twice {k m : Nat} {s : D} (h : Spc k s m) : Spc (k + 1) (.tup [.str "twice", s]) (2 * m)
  | beside {k m l : Nat} {s t : D} (h : Spc k s m) (h2 : Spc k t l) : Spc (k + 1) (.tup [.str "beside", s, t]) (m + l)
  | boxes {k m l : Nat} {s t : D} (h : Spc k s m) (h2 : Spc k t l) : Spc (k + 1) (.tup [.str "boxes", s, t]) (m * l)
theorem Spc.pos {k n : Nat} {s : D} (h : Spc k s n) : 1 ≤ n := by
  induction h with
  | affine h => simp [primes4] at h; omega
  | boxes _ _ a b => exact Nat.mul_pos a b
  | _ => omega
end WL
set_option Elab.async false
set_option linter.all false
set_option maxRecDepth 100000
set_option maxHeartbeats 4000000
namespace WL
open PySem PySem.Spec PyProof.Rows L2 Evl
/-! ### the rings together have n places -/
theorem ringF_nodup {n : Nat} {f : Nat → Nat} (h : PermOn n f) {z : Nat} (hz : z < n) : (ringF n f z).Nodup := by
  unfold ringF
  rw [List.nodup_iff_pairwise_ne, List.pairwise_map]
  refine List.Pairwise.imp_of_mem ?_ List.pairwise_lt_range
  intro a b ha hb hab
  exact itf_ne h hz hab (List.mem_range.mp hb)
theorem rings_nodup {n : Nat} {f : Nat → Nat} (h : PermOn n f) : ∀ zs : List Nat, zs.Nodup → (∀ z ∈ zs, z < n ∧ mo n f z = z) → (zs.flatMap (ringF n f)).Nodup
  | [], _, _ => List.nodup_nil
  | z :: zs, nd, hz => by
    rw [List.flatMap_cons, List.nodup_append]
    obtain ⟨n1, n2⟩ := List.nodup_cons.mp nd
    have hz0 := hz z List.mem_cons_self
    refine ⟨ringF_nodup h hz0.1, rings_nodup h zs n2 fun w hw => hz w (List.mem_cons_of_mem _ hw), ?_⟩
    intro a ha b hb e
    subst e
    unfold ringF at ha
    obtain ⟨k, _, rfl⟩ := List.mem_map.mp ha
    obtain ⟨w, hw, hb⟩ := List.mem_flatMap.mp hb
    unfold ringF at hb
    obtain ⟨j, _, e⟩ := List.mem_map.mp hb
    have hw0 := hz w (List.mem_cons_of_mem _ hw)
    have a1 := mo_itf h hz0.1 k
    have a2 := mo_itf h hw0.1 j
    rw [e, a1, hz0.2, hw0.2] at a2
    exact n1 (a2 ▸ hw)
theorem rings_total {n : Nat} {f : Nat → Nat} (h : PermOn n f) : ((mins n f).flatMap (ringF n f)).length ≤ n := by
  have nd : (mins n f).Nodup := List.Pairwise.filter _ List.nodup_range
  have := len_le_of_sub (m := List.range n) (rings_nodup h (mins n f) nd fun z hz => mins_mem.mp hz) fun y hy => by
    obtain ⟨w, hw, hb⟩ := List.mem_flatMap.mp hy
    unfold ringF at hb
    obtain ⟨j, _, rfl⟩ := List.mem_map.mp hb
    exact List.mem_range.mpr (itf_lt h (mins_mem.mp hw).1 j)
  rwa [List.length_range] at this
theorem ring_wt (n : Nat) (f : Nat → Nat) (z : Nat) : (ringD n f z).ok = true ∨ 4000 < per n f z := by
  by_cases q : 4000 < per n f z
  · exact .inr q
  · refine .inl ?_
    have e : ringD n f z = .tup (((ringF n f z).map fun (y : Nat) => (y : Int)).map D.int) := by
      unfold ringD
      rw [List.map_map]; rfl
    rw [e]
    refine mk_tup ?_ (ints_facts _).1
    rw [List.length_map, List.length_map]
    unfold ringF
    rw [List.length_map, List.length_range]
    omega
theorem ringD_wt (n : Nat) (f : Nat → Nat) (z : Nat) : (ringD n f z).wt = (ringF n f z).length + 1 := by
  have e : ringD n f z = .tup (((ringF n f z).map fun (y : Nat) => (y : Int)).map D.int) := by
    unfold ringD
    rw [List.map_map]; rfl
  rw [e, wt_tup, (ints_facts _).2.2, List.length_map]
theorem rings_wtL (n : Nat) (f : Nat → Nat) : ∀ zs : List Nat, wtL (zs.map (ringD n f)) = (zs.flatMap (ringF n f)).length + zs.length
  | [] => by rw [List.map_nil, wtL_nil]; rfl
  | z :: zs => by
    rw [List.map_cons, wtL_cons, rings_wtL n f zs, ringD_wt, List.flatMap_cons, List.length_append, List.length_cons]
    omega
theorem rings_same {n : Nat} {f : Nat → Nat} (h : PermOn n f) (h4 : n ≤ 1000) : (D.lst (ringsD n f n)).ok = true ∧ (D.lst (ringsD n f n)).wt ≤ 2001 := by
  have hl := mins_len n f
  refine ⟨mk_lst ?_ (okL_of fun x hx => ?_), ?_⟩
  · rw [ringsD_mins, List.length_map]
    omega
  · rw [ringsD_mins] at hx
    obtain ⟨z, hz, rfl⟩ := List.mem_map.mp hx
    have := per_le h (mins_mem.mp hz).1
    rcases ring_wt n f z with e | e
    · exact e
    · omega
  · rw [wt_lst, ringsD_mins, rings_wtL]
    have := rings_total h
    omega
end WL
set_option Elab.async false
set_option linter.all false
set_option maxRecDepth 100000
set_option maxHeartbeats 4000000
namespace WL
open PySem PySem.Spec PyProof.Rows L2 Evl
section
variable {c : Ct} {Γ : Gm} {Q : D → Prop}
/-! ### range going down, reversed lists, ^ of ints, sum -/
theorem dn_get {lo : Int} {n : Nat} {i : Nat} {d : D} (h : ((List.range n).map fun (i : Nat) => D.int (lo - (i : Nat)))[i]? = some d) : i < n ∧ d = .int (lo - (i : Nat)) := by
  rw [List.getElem?_map] at h
  by_cases hi : i < n
  · rw [List.getElem?_range hi] at h
    cases h
    exact ⟨hi, rfl⟩
  · rw [List.getElem?_eq_none (by simp; omega)] at h
    cases h
theorem walks_d {K : PySem.W.Frag} {m : Option Addr} {G : Hp} (lo : Int) (n : Nat) : Walks K m (Itc lo (-1) n) ((List.range n).map fun (i : Nat) => D.int (lo - (i : Nat))) G := by
  intro G1 H1 i e s so
  refine ⟨fun d hd => ?_, fun hi => ?_⟩
  · obtain ⟨hi, rfl⟩ := dn_get hd
    refine ⟨hi, fun x H2 ⟨e2, y⟩ => ?_⟩
    subst e2 y
    refine ⟨G1, Good.refl, ?_⟩
    rw [show lo + (i : Int) * (-1) = lo - (i : Nat) by omega]
    exact .int _
  · rw [List.length_map, List.length_range] at hi
    exact Nat.le_of_eq hi.symm
theorem wi_down {tg : Expr} {e f q : Expr} {p pos : Pos} {Q : List D → Prop} (hm : c.mg "range" = none) (h : Wv c e Γ fun d => Wv c f Γ fun d2 => Wv c q Γ fun d3 => ∃ a b, d = .int a ∧ d2 = .int b ∧ d3 = .int (-1) ∧ (-(2 ^ 62) ≤ a ∧ a < 2 ^ 62 ∧ -(2 ^ 62) ≤ b ∧ b < 2 ^ 62) ∧ Q ((List.range (a - b).toNat).map fun (i : Nat) => D.int (a - (i : Nat)))) (hg : c.sc.names.lookup ("range" : Str) = some .globalImplicit := by rfl)
    (na : ∀ env, starEach [e, f, q] env = (false, eval e env) :: starEach [f, q] env := by exact fun _ => rfl) (nb : ∀ env, starEach [f, q] env = (false, eval f env) :: starEach [q] env := by exact fun _ => rfl) (nc : ∀ env, starEach [q] env = (false, eval q env) :: starEach [] env := by exact fun _ => rfl) (hpl : ∀ env, (backTo pos (starEach [f, q] env)).any (·.1) = false := by exact fun _ => rfl) : WI c tg (.Call (.Name "range" p) [e, f, q] [] pos) Γ Q := by
  intro X Ft m G0 H0 σ G H E R hR
  have Ft' := Ft
  obtain ⟨k0, er, tp, hx, rfl, hcold, hu0⟩ := Ft'
  refine ⟨_, pi_range3 hg hm (pa_cons pe_je (pa_cons pe_je (pa_cons pe_je pa_nil (nc _)) (nb _)) (na _)) (na _) (hpl _), h X Ft m G0 H0 σ G H E _ fun v d G1 H1 h1 g1 r1 => ?_⟩
  have E1 := E.step g1
  refine h1 X Ft m G0 H0 σ G1 H1 E1 _ fun u d2 G2 H2 h2 g2 r2 => ?_
  have E2 := E1.step g2
  refine h2 X Ft m G0 H0 σ G2 H2 E2 _ fun u3 d3 G3 H3 ⟨a, b, e1, e2, e3, hb, q⟩ g3 r3 => ?_
  subst e1 e2 e3
  cases r1
  cases r2
  cases r3
  exact ⟨a, b, -1, (a - b).toNat, rfl, RgC.neg hb.1 hb.2.1 hb.2.2.1 hb.2.2.2, hR _ _ G3 H3 q ((g1.trans E.sok g2).trans E.sok g3) (walks_d a (a - b).toNat)⟩
theorem walks_v {K : PySem.W.Frag} {m : Option Addr} {G : Hp} {a : Addr} {vs : List V} {ds : List D} (h : G a = some (.lst vs)) (l : RepL K m G vs ds) : Walks K m (Itv K a vs.length) ds.reverse G := by
  intro G1 H1 i e s so
  have hs : SqL K H1 a vs := .inl (.inl (s.1 _ _ (e _ _ h)))
  refine ⟨fun d hd => ?_, fun hi => ?_⟩
  · have hl : i < ds.length := by
      have := (List.getElem?_eq_some_iff.mp hd).1
      rwa [List.length_reverse] at this
    rw [List.getElem?_reverse hl, ← l.length] at hd
    obtain ⟨v, hv, r⟩ := l.get hd
    refine ⟨⟨by rw [l.length]; exact hl, vs, v, hs, hv⟩, fun x H2 ⟨e2, y⟩ => ?_⟩
    subst e2
    have q := y vs hs
    rw [hv] at q
    cases q
    exact ⟨G1, Good.refl, r.mono e⟩
  · rw [List.length_reverse] at hi
    show vs.length ≤ i
    rw [l.length]
    omega
theorem wi_rev [BI c.g] {tg e : Expr} {p pos : Pos} {Q : List D → Prop} (h : Wv c e Γ fun d => ∃ ds, d = .lst ds ∧ Q ds.reverse) (hg : c.sc.names.lookup ("reversed" : Str) = some .globalImplicit := by rfl) (na : ∀ env, starEach [e] env = (false, eval e env) :: starEach [] env := by exact fun _ => rfl) : WI c tg (.Call (.Name "reversed" p) [e] [] pos) Γ Q := by
  have hm : c.mg "reversed" = none := bi "reversed"
  intro X Ft m G0 H0 σ G H E R hR
  have Ft' := Ft
  obtain ⟨k0, er, tp, hx, rfl, hcold, hu0⟩ := Ft'
  refine ⟨_, pi_reversed hg hm (pa_cons pe_je pa_nil (na _)) (by rw [na]; rfl), h X Ft m G0 H0 σ G H E _ fun v d G1 H1 ⟨ds, e1, q⟩ g1 r1 => ?_⟩
  subst e1
  have E1 := E.step g1
  cases r1 with
  | @lst a vs _ ha la => exact ⟨a, vs, rfl, .inl (.inl (E1.sub.1 _ _ ha)), hR _ _ G1 H1 q g1 (walks_v ha la)⟩
theorem xor_1 (i : Int) : Builtin.bitXor i 1 = if i % 2 = 0 then i + 1 else i - 1 := by
  rw [bitXor_and, bitAnd_m1]
  split <;> omega
theorem d_xor1 : Op2 c (binaryOp .BitXor) (fun x y Q => ∃ i, x = .int i ∧ y = .int 1 ∧ Q (.int (if i % 2 = 0 then i + 1 else i - 1))) := fun X Ft => by
  obtain ⟨r, hr, R⟩ := op2_I0 (c := c) (f := binaryOp .BitXor) (g := fun i j => .int (Builtin.bitXor i j)) _ (fun _ _ _ _ _ => .int _) (fun _ => op_xor) X Ft
  refine ⟨r, hr, fun m G H x y dx dy Q Qv s1 s2 rx ry ⟨i, e1, e2, q⟩ k => R m G H x y dx dy Q Qv s1 s2 rx ry ⟨i, 1, e1, e2, ?_⟩ k⟩
  show Q (.int (Builtin.bitXor i 1))
  rw [xor_1]
  exact q
theorem w_sum [BI c.g] {e : Expr} {p pos : Pos} (h : Wv c e Γ fun d => ∃ ns : List Int, d = .lst (ns.map D.int) ∧ Q (.int ns.sum)) (hh : c.hx = none := by rfl) (hg : c.sc.names.lookup ("sum" : Str) = some .globalImplicit := by rfl) (he : ∀ env, starEach [e] env = (false, eval e env) :: starEach [] env := by exact fun _ => rfl) : Wv c (.Call (.Name "sum" p) [e] [] pos) Γ Q :=
  w_callB (c_sum hh) (bi "sum") (wa_cons (h.imp fun d ⟨ns, e, q⟩ => wa_nil ⟨ns, by rw [e], q⟩) he) hg (by decide +kernel) (by decide) (by decide) he (fun _ => rfl)
end
end WL
set_option Elab.async false
set_option linter.all false
set_option maxRecDepth 100000
set_option maxHeartbeats 4000000
namespace WL
open PySem PySem.Spec PyProof.Rows L2 Evl
section
variable {c : Ct} {Γ : Gm} {E : Ends'}
/-! ### tests by their truth value -/
theorem WB.imp {e : Expr} {Q Q' : Bool → Prop} (h : WB c e Γ Q) (i : ∀ b, Q b → Q' b) : WB c e Γ Q' := fun X F m G0 H0 σ G H En Qv qv => h X F m G0 H0 σ G H En Qv fun b G' H' q g => qv b G' H' (i b q) g
theorem bs_ifB {t : Expr} {a b : List Stmt} {pos : Pos} (T : Bool) (h : WB c t Γ fun x => x = T) (h1 : T = true → BL c a Γ E) (h2 : T = false → BL c b Γ E) : BS c (.If t a b pos) Γ E :=
  bs_if (h.imp fun x e => by
    subst e
    cases x with
    | true => exact h1 rfl
    | false => exact h2 rfl)
theorem ww_orB {a b : Expr} {rest : List Expr} {pos : Pos} {A B : Bool} (h : WB c a Γ fun x => x = A) (h2 : A = false → WWB c (.BoolOp .Or (b :: rest) pos) Γ fun x => x = B) : WWB c (.BoolOp .Or (a :: b :: rest) pos) Γ fun x => x = (A || B) :=
  ww_or (h.imp fun x e => by
    subst e
    cases x with
    | true => exact rfl
    | false => exact h2 rfl)
theorem ww_andB {a b : Expr} {rest : List Expr} {pos : Pos} {A B : Bool} (h : WB c a Γ fun x => x = A) (h2 : A = true → WWB c (.BoolOp .And (b :: rest) pos) Γ fun x => x = B) : WWB c (.BoolOp .And (a :: b :: rest) pos) Γ fun x => x = (A && B) :=
  ww_and (h.imp fun x e => by
    subst e
    cases x with
    | true => exact h2 rfl
    | false => exact rfl)
theorem w_andB {a b : Expr} {rest : List Expr} {pos : Pos} {A B : Bool} {Q : D → Prop} (h : Wv c a Γ fun x => x = .bl A) (h2 : A = true → Wv c (.BoolOp .And (b :: rest) pos) Γ fun x => x = .bl B) (q : Q (.bl (A && B))) : Wv c (.BoolOp .And (a :: b :: rest) pos) Γ Q :=
  w_and (h.imp fun x e => ⟨A, e, by
    cases A with
    | true => exact (h2 rfl).imp fun y ey => by rw [ey]; exact q
    | false => exact q⟩)
theorem w_orB {a b : Expr} {rest : List Expr} {pos : Pos} {A B : Bool} {Q : D → Prop} (h : Wv c a Γ fun x => x = .bl A) (h2 : A = false → Wv c (.BoolOp .Or (b :: rest) pos) Γ fun x => x = .bl B) (q : Q (.bl (A || B))) : Wv c (.BoolOp .Or (a :: b :: rest) pos) Γ Q :=
  w_or (h.imp fun x e => ⟨A, e, by
    cases A with
    | true => exact q
    | false => exact (h2 rfl).imp fun y ey => by rw [ey]; exact q⟩)
theorem wb_eqI {a b : Expr} {pos : Pos} {i j : Int} (h : Wv c a Γ fun x => Wv c b Γ fun y => x = .int i ∧ y = .int j) (hm : behindInMarks .Eq b = false := by first | rfl | exact nomark _) : WB c (.Compare a [.Eq] [b] pos) Γ fun x => x = decide (i = j) :=
  wb_cmp d_eq (h.imp fun x hx => hx.imp fun y ⟨e1, e2⟩ => ⟨_, by rw [e1, e2]; rfl, _, rfl, rfl⟩) hm
theorem wb_neI {a b : Expr} {pos : Pos} {i j : Int} (h : Wv c a Γ fun x => Wv c b Γ fun y => x = .int i ∧ y = .int j) (hm : behindInMarks .NotEq b = false := by first | rfl | exact nomark _) : WB c (.Compare a [.NotEq] [b] pos) Γ fun x => x = !decide (i = j) :=
  wb_cmp d_ne (h.imp fun x hx => hx.imp fun y ⟨e1, e2⟩ => ⟨_, by rw [e1, e2]; rfl, _, rfl, rfl⟩) hm
theorem wb_ltI {a b : Expr} {pos : Pos} {i j : Int} (h : Wv c a Γ fun x => Wv c b Γ fun y => x = .int i ∧ y = .int j) (hm : behindInMarks .Lt b = false := by first | rfl | exact nomark _) : WB c (.Compare a [.Lt] [b] pos) Γ fun x => x = decide (i < j) :=
  wb_cmp d_lt (h.imp fun x hx => hx.imp fun y ⟨e1, e2⟩ => ⟨_, _, e1, e2, _, rfl, rfl⟩) hm
theorem wb_gtI {a b : Expr} {pos : Pos} {i j : Int} (h : Wv c a Γ fun x => Wv c b Γ fun y => x = .int i ∧ y = .int j) (hm : behindInMarks .Gt b = false := by first | rfl | exact nomark _) : WB c (.Compare a [.Gt] [b] pos) Γ fun x => x = decide (j < i) :=
  wb_cmp d_gt (h.imp fun x hx => hx.imp fun y ⟨e1, e2⟩ => ⟨_, _, e1, e2, _, rfl, rfl⟩) hm
theorem wb_eqS {a b : Expr} {pos : Pos} {i j : Str} (h : Wv c a Γ fun x => Wv c b Γ fun y => x = .str i ∧ y = .str j) (hm : behindInMarks .Eq b = false := by first | rfl | exact nomark _) : WB c (.Compare a [.Eq] [b] pos) Γ fun x => x = decide (i = j) :=
  wb_cmp d_eq (h.imp fun x hx => hx.imp fun y ⟨e1, e2⟩ => ⟨_, by rw [e1, e2]; rfl, _, rfl, rfl⟩) hm
theorem wo_if {t a b : Expr} {pos : Pos} {Q : List D → Prop} (h : WB c t Γ fun x => if x = true then WO c a Γ Q else WO c b Γ Q) : WO c (.IfExp t a b pos) Γ Q := by
  intro X F m G0 H0 σ G H E Qv qv
  refine ⟨_, pe_ifExp pt_jt pe_je pe_je, h X F m G0 H0 σ G H E _ fun x G1 H1 h1 g1 => ?_⟩
  have E1 := E.step g1
  cases x with
  | true => exact iteT ((show WO c a Γ Q from h1) X F m G0 H0 σ G1 H1 E1 _ fun p vs ds G2 H2 h2 g2 n1 n2 e3 r3 => qv p vs ds G2 H2 h2 (g1.trans E.sok g2) (g1.back E.sok n1) n2 e3 r3)
  | false => exact iteF ((show WO c b Γ Q from h1) X F m G0 H0 σ G1 H1 E1 _ fun p vs ds G2 H2 h2 g2 n1 n2 e3 r3 => qv p vs ds G2 H2 h2 (g1.trans E.sok g2) (g1.back E.sok n1) n2 e3 r3)
theorem w_ifB {t a b : Expr} {pos : Pos} {Q : D → Prop} (T : Bool) (h : WB c t Γ fun x => x = T) (h1 : T = true → Wv c a Γ Q) (h2 : T = false → Wv c b Γ Q) : Wv c (.IfExp t a b pos) Γ Q :=
  w_if (h.imp fun x e => by
    subst e
    cases x with
    | true => exact h1 rfl
    | false => exact h2 rfl)
end
end WL
set_option Elab.async false
set_option linter.all false
set_option maxRecDepth 100000
set_option maxHeartbeats 4000000
namespace WL
open PySem PySem.Spec PyProof.Rows L2 Evl
/-! ### rooms in words, boxes of two and more -/
inductive Spd : Nat → D → Nat → Prop
  | still {k n : Nat} (h : 1 ≤ n) : Spd k (.tup [.str "still", .int n]) n
  | ring {k n : Nat} (h : 1 ≤ n) : Spd k (.tup [.str "ring", .int n]) n
  | all {k n : Nat} (h : 1 ≤ n) : Spd k (.tup [.str "all", .int n]) n
  | mirror {k n : Nat} (h : 3 ≤ n) : Spd k (.tup [.str "mirror", .int n]) n
  | even {k n : Nat} (h : 3 ≤ n) : Spd k (.tup [.str "even", .int n]) n
  | affine {k n : Nat} (h : n ∈ primes4) : Spd k (.tup [.str "affine", .int n]) n
  | twice {k m : Nat} {s : D} (h : Spd k s m) : Spd (k + 1) (.tup [.str "twice", s]) (2 * m)
  | beside {k m l : Nat} {s t : D} (h : Spd k s m) (h2 : Spd k t l) : Spd (k + 1) (.tup [.str "beside", s, t]) (m + l)
  | boxes {k m l : Nat} {s t : D} (h : Spd k s m) (h2 : Spd k t l) (hm : 2 ≤ m) (hl : 2 ≤ l) : Spd (k + 1) (.tup [.str "boxes", s, t]) (m * l)
theorem Spd.spc {k n : Nat} {s : D} (h : Spd k s n) : Spc k s n := by
  induction h with
  | still h => exact .still h
  | ring h => exact .ring h
  | all h => exact .all h
  | mirror h => exact .mirror h
  | even h => exact .even h
  | affine h => exact .affine h
  | twice _ ih => exact .twice ih
  | beside _ _ ih ih2 => exact .beside ih ih2
  | boxes _ _ _ _ ih ih2 => exact .boxes ih ih2
theorem Spd.pos {k n : Nat} {s : D} (h : Spd k s n) : 1 ≤ n := h.spc.pos
/-- how many moves a room in words may have -/
def mvB : Nat → Nat → Nat
  | 0, n => if n = 1 then 1 else n - 1
  | 1, n => n
  | 2, n => n + n / 2
  | k + 3, n => n * 2 ^ (k + 3)
theorem mvB_le {k n : Nat} (h : 1 ≤ n) : mvB k n ≤ n * 2 ^ k := by
  match k with
  | 0 => show (if n = 1 then 1 else n - 1) ≤ n * 1; split <;> omega
  | 1 => show n ≤ n * 2; omega
  | 2 => show n + n / 2 ≤ n * 4; omega
  | k + 3 => exact Nat.le_refl _
theorem mvB_two {k n : Nat} (h : 3 ≤ n) : 2 ≤ mvB k n := by
  match k with
  | 0 => show 2 ≤ (if n = 1 then 1 else n - 1); split <;> omega
  | 1 => show 2 ≤ n; omega
  | 2 => show 2 ≤ n + n / 2; omega
  | k + 3 =>
    show 2 ≤ n * 2 ^ (k + 3)
    have : n * 1 ≤ n * 2 ^ (k + 3) := Nat.mul_le_mul_left n Nat.one_le_two_pow
    omega
theorem mvB_one {k n : Nat} (h : 1 ≤ n) : 1 ≤ mvB k n := by
  match k with
  | 0 => show 1 ≤ (if n = 1 then 1 else n - 1); split <;> omega
  | 1 => exact h
  | 2 => show 1 ≤ n + n / 2; omega
  | k + 3 =>
    have : n * 1 ≤ n * 2 ^ (k + 3) := Nat.mul_le_mul_left n Nat.one_le_two_pow
    show 1 ≤ n * 2 ^ (k + 3)
    omega
theorem mvB_even {k n : Nat} (h : 3 ≤ n) : n - 2 ≤ mvB k n := by
  match k with
  | 0 => show n - 2 ≤ (if n = 1 then 1 else n - 1); split <;> omega
  | 1 => show n - 2 ≤ n; omega
  | 2 => show n - 2 ≤ n + n / 2; omega
  | k + 3 =>
    have : n * 1 ≤ n * 2 ^ (k + 3) := Nat.mul_le_mul_left n Nat.one_le_two_pow
    show n - 2 ≤ n * 2 ^ (k + 3)
    omega
theorem mvB_twice {k m : Nat} (h : 1 ≤ m) : mvB k m ≤ mvB (k + 1) (2 * m) := by
  match k with
  | 0 => show (if m = 1 then 1 else m - 1) ≤ 2 * m; split <;> omega
  | 1 => show m ≤ 2 * m + 2 * m / 2; omega
  | 2 => show m + m / 2 ≤ 2 * m * 8; omega
  | k + 3 =>
    show m * 2 ^ (k + 3) ≤ 2 * m * 2 ^ (k + 3 + 1)
    exact Nat.mul_le_mul (by omega) (Nat.pow_le_pow_right (by omega) (by omega))
theorem mvB_beside {k m l : Nat} (h : 1 ≤ m) (h2 : 1 ≤ l) : mvB k m + mvB k l ≤ mvB (k + 1) (m + l) := by
  match k with
  | 0 => show (if m = 1 then 1 else m - 1) + (if l = 1 then 1 else l - 1) ≤ m + l; split <;> split <;> omega
  | 1 => show m + l ≤ m + l + (m + l) / 2; omega
  | 2 => show m + m / 2 + (l + l / 2) ≤ (m + l) * 8; omega
  | k + 3 =>
    show m * 2 ^ (k + 3) + l * 2 ^ (k + 3) ≤ (m + l) * 2 ^ (k + 3 + 1)
    rw [← Nat.add_mul]
    exact Nat.mul_le_mul (by omega) (Nat.pow_le_pow_right (by omega) (by omega))
theorem mvB_boxes {k m l : Nat} (h : 2 ≤ m) (h2 : 2 ≤ l) : l * mvB k m + mvB k l ≤ mvB (k + 1) (m * l) := by
  have e : l * m = m * l := Nat.mul_comm l m
  have b : 2 * l ≤ m * l := Nat.mul_le_mul_right l h
  match k with
  | 0 =>
    show l * (if m = 1 then 1 else m - 1) + (if l = 1 then 1 else l - 1) ≤ m * l
    rw [if_neg (by omega), if_neg (by omega), Nat.mul_sub, Nat.mul_one]
    omega
  | 1 => show l * m + l ≤ m * l + m * l / 2; omega
  | 2 =>
    show l * (m + m / 2) + (l + l / 2) ≤ m * l * 8
    have : l * (m / 2) ≤ l * m := Nat.mul_le_mul_left l (Nat.div_le_self m 2)
    rw [Nat.mul_add]
    omega
  | k + 3 =>
    show l * (m * 2 ^ (k + 3)) + l * 2 ^ (k + 3) ≤ m * l * 2 ^ (k + 3 + 1)
    rw [Nat.pow_succ 2 (k + 3), ← Nat.mul_assoc l m, e]
    generalize 2 ^ (k + 3) = P
    have h1 : l * P ≤ m * l * P := Nat.mul_le_mul_right _ (by omega)
    have h2 : m * l * (P * 2) = m * l * P + m * l * P := by rw [← Nat.mul_assoc]; omega
    omega
end WL
set_option Elab.async false
set_option linter.all false
set_option maxRecDepth 100000
set_option maxHeartbeats 4000000
namespace WL
open PySem PySem.Spec PyProof.Rows L2 Evl
/-! ### lines, ways -/
inductive Ln where
  | stay | mv (i : Nat) | th (a b : Nat) | bk (a : Nat)
deriving Inhabited
def Ln.d : Ln → D
  | .stay => .tup [.str "stay"]
  | .mv i => .tup [.str "move", .int i]
  | .th a b => .tup [.str "then", .int a, .int b]
  | .bk a => .tup [.str "back", .int a]
def Ln.okAt (many i : Nat) : Ln → Prop
  | .stay => True
  | .mv j => j < many
  | .th a b => a < i ∧ b < i
  | .bk a => a < i
def Right (many : Nat) (ls : List Ln) : Prop := ∀ (i : Nat) (l : Ln), ls[i]? = some l → l.okAt many i
theorem Right.nil (many : Nat) : Right many [] := fun i l h => by simp at h
theorem Right.snoc {many : Nat} {ls : List Ln} {l : Ln} (h : Right many ls) (hl : l.okAt many ls.length) : Right many (ls ++ [l]) := fun i k hk => by
  by_cases hi : i < ls.length
  · rw [List.getElem?_append_left hi] at hk
    exact h i k hk
  · rw [List.getElem?_append_right (by omega)] at hk
    obtain ⟨e1, e2⟩ := List.getElem?_eq_some_iff.mp hk
    have : i = ls.length := by simp at e1; omega
    subst this
    simp at hk
    subst hk
    exact hl
theorem Right.take {many : Nat} {ls : List Ln} (h : Right many ls) (k : Nat) : Right many (ls.take k) := fun i l hl => by
  rw [List.getElem?_take] at hl
  split at hl
  · exact h i l hl
  · cases hl
theorem Ln.okAt_mono {many i j : Nat} {l : Ln} (h : l.okAt many i) (hij : i ≤ j) : l.okAt many j := by
  cases l with
  | stay => exact trivial
  | mv k => exact h
  | th a b => exact ⟨Nat.lt_of_lt_of_le h.1 hij, Nat.lt_of_lt_of_le h.2 hij⟩
  | bk a => exact Nat.lt_of_lt_of_le h hij
theorem inside_nat {j m : Nat} : inside (.int (j : Nat)) 0 ((m : Int) - 1) = decide (j < m) := by
  show (decide ((0 : Int) ≤ (j : Nat)) && decide (((j : Nat) : Int) ≤ (m : Int) - 1)) = _
  rw [decide_eq_true (by omega), Bool.true_and]
  exact decide_eq_decide.mpr (by omega)
theorem inside_ex {x : D} {m : Nat} (h : inside x 0 ((m : Int) - 1) = true) : ∃ j : Nat, x = .int (j : Nat) ∧ j < m := by
  cases x <;> first | (exact Bool.noConfusion (show false = true from h)) | skip
  rename_i i
  have h' : (decide ((0 : Int) ≤ i) && decide (i ≤ (m : Int) - 1)) = true := h
  obtain ⟨a, b⟩ := Bool.and_eq_true_iff.mp h'
  have a := of_decide_eq_true a
  have b := of_decide_eq_true b
  exact ⟨i.toNat, by rw [Int.toNat_of_nonneg a], by omega⟩
theorem isLine_d {many i : Nat} {l : Ln} : isLine l.d i many = true ↔ l.okAt many i := by
  cases l with
  | stay => exact ⟨fun _ => trivial, fun _ => rfl⟩
  | mv j =>
    show (inside (.int (j : Nat)) 0 ((many : Int) - 1) && true) = true ↔ j < many
    rw [Bool.and_true, inside_nat, decide_eq_true_iff]
  | th a b =>
    show (inside (.int (a : Nat)) 0 ((i : Int) - 1) && (inside (.int (b : Nat)) 0 ((i : Int) - 1) && true)) = true ↔ a < i ∧ b < i
    rw [Bool.and_true, inside_nat, inside_nat, Bool.and_eq_true, decide_eq_true_iff, decide_eq_true_iff]
  | bk a =>
    show (inside (.int (a : Nat)) 0 ((i : Int) - 1) && true) = true ↔ a < i
    rw [Bool.and_true, inside_nat, decide_eq_true_iff]
theorem of_isLine {many i : Nat} {x : D} (h : isLine x i many = true) : ∃ l : Ln, x = l.d ∧ l.okAt many i := by
  unfold isLine at h
  split at h
  · rename_i s r
    split at h
    · rename_i e
      subst e
      have := of_decide_eq_true h
      have : r = [] := List.length_eq_zero_iff.mp this
      subst this
      exact ⟨.stay, rfl, trivial⟩
    · split at h
      · rename_i e
        subst e
        obtain ⟨h1, h2⟩ := Bool.and_eq_true_iff.mp h
        obtain ⟨y, rfl⟩ := List.length_eq_one_iff.mp (of_decide_eq_true h1)
        obtain ⟨j, rfl, hj⟩ := inside_ex (List.all_eq_true.mp h2 y (by simp))
        exact ⟨.mv j, rfl, hj⟩
      · split at h
        · rename_i e
          subst e
          obtain ⟨h1, h2⟩ := Bool.and_eq_true_iff.mp h
          obtain ⟨y, rfl⟩ := List.length_eq_one_iff.mp (of_decide_eq_true h1)
          obtain ⟨j, rfl, hj⟩ := inside_ex (List.all_eq_true.mp h2 y (by simp))
          exact ⟨.bk j, rfl, hj⟩
        · obtain ⟨h0, h3⟩ := Bool.and_eq_true_iff.mp h
          obtain ⟨h1, h2⟩ := Bool.and_eq_true_iff.mp h3
          have e := of_decide_eq_true h0
          subst e
          match r, of_decide_eq_true h1, h2 with
          | [y, z], _, h2 =>
            obtain ⟨j, rfl, hj⟩ := inside_ex (List.all_eq_true.mp h2 y (by simp))
            obtain ⟨k, rfl, hk⟩ := inside_ex (List.all_eq_true.mp h2 z (by simp))
            exact ⟨.th j k, rfl, hj, hk⟩
  · cases h
theorem wrongFrom_right {many : Nat} : ∀ {xs : List D} {k : Nat}, wrongFrom many k xs = .non → ∃ ls : List Ln, xs = ls.map Ln.d ∧ ∀ (i : Nat) (l : Ln), ls[i]? = some l → l.okAt many (k + i)
  | [], k, _ => ⟨[], rfl, fun i l h => by simp at h⟩
  | x :: xs, k, h => by
    unfold wrongFrom at h
    split at h
    · rename_i hx
      obtain ⟨l, rfl, hl⟩ := of_isLine hx
      obtain ⟨ls, rfl, hr⟩ := wrongFrom_right h
      refine ⟨l :: ls, rfl, fun i m hm => ?_⟩
      cases i with
      | zero => simp at hm; subst hm; exact hl
      | succ i =>
        have := hr i m (by simpa using hm)
        rwa [show k + 1 + i = k + (i + 1) by omega] at this
    · cases h
theorem wrongFrom_of {many : Nat} : ∀ {ls : List Ln} {k : Nat}, (∀ (i : Nat) (l : Ln), ls[i]? = some l → l.okAt many (k + i)) → wrongFrom many k (ls.map Ln.d) = .non
  | [], k, _ => rfl
  | l :: ls, k, h => by
    show wrongFrom many k (l.d :: ls.map Ln.d) = .non
    unfold wrongFrom
    rw [if_pos (isLine_d.mpr (show l.okAt many k from h 0 l rfl))]
    refine wrongFrom_of fun i m hm => ?_
    have := h (i + 1) m (by simpa using hm)
    rwa [show k + (i + 1) = k + 1 + i by omega] at this
theorem right_of {many most : Nat} {x : D} (h : wrongLine x many most = .non) : ∃ ls : List Ln, x = .lst (ls.map Ln.d) ∧ ls ≠ [] ∧ ls.length ≤ most ∧ Right many ls := by
  unfold wrongLine at h
  split at h
  · rename_i y ys
    split at h
    · cases h
    · rename_i hl
      obtain ⟨ls, e, hr⟩ := wrongFrom_right h
      refine ⟨ls, congrArg D.lst e, fun z => ?_, ?_, fun i l hi => by have := hr i l hi; rwa [Nat.zero_add] at this⟩
      · rw [z] at e
        cases e
      · rw [e, List.length_map] at hl
        omega
  · cases h
theorem wrong_right {many most : Nat} {ls : List Ln} (h0 : ls ≠ []) (h1 : ls.length ≤ most) (h : Right many ls) : wrongLine (.lst (ls.map Ln.d)) many most = .non := by
  have key := wrongFrom_of (many := many) (ls := ls) (k := 0) fun i l hi => by rw [Nat.zero_add]; exact h i l hi
  cases ls with
  | nil => exact absurd rfl h0
  | cons l ls =>
    show (if (most : Int) < ((l.d :: ls.map Ln.d).length : Int) then D.int (-1) else wrongFrom many 0 (l.d :: ls.map Ln.d)) = .non
    rw [if_neg (by rw [List.length_cons, List.length_map]; rw [List.length_cons] at h1; omega)]
    exact key
/-! ### line by line -/
def runL {α : Type} (f : List α → Ln → α) (ls : List Ln) : List α := ls.foldl (fun acc l => acc ++ [f acc l]) []
theorem runL_snoc {α : Type} (f : List α → Ln → α) (ls : List Ln) (l : Ln) : runL f (ls ++ [l]) = runL f ls ++ [f (runL f ls) l] := by
  unfold runL
  rw [List.foldl_append]
  rfl
theorem snoc_ind {α : Type} {P : List α → Prop} (h0 : P []) (h : ∀ l a, P l → P (l ++ [a])) (l : List α) : P l := by
  have : ∀ n (l : List α), l.length = n → P l := by
    intro n
    induction n with
    | zero => intro l hl; rw [List.length_eq_zero_iff.mp hl]; exact h0
    | succ n ih =>
      intro l hl
      obtain ⟨l', a, e⟩ := (List.eq_nil_or_concat l).resolve_left (by intro z; rw [z] at hl; cases hl)
      rw [e, List.concat_eq_append]
      refine h _ _ (ih _ ?_)
      rw [e, List.length_concat] at hl
      omega
  exact this _ l rfl
theorem runL_len {α : Type} (f : List α → Ln → α) (ls : List Ln) : (runL f ls).length = ls.length := by
  induction ls using snoc_ind with
  | h0 => rfl
  | h l a ih => rw [runL_snoc, List.length_append, List.length_append, ih]; rfl
theorem runL_take {α : Type} (f : List α → Ln → α) (ls : List Ln) (k : Nat) : (runL f ls).take k = runL f (ls.take k) := by
  induction ls using snoc_ind with
  | h0 => rw [List.take_nil]; exact List.take_nil
  | h l a ih =>
    rw [runL_snoc]
    by_cases hk : k ≤ l.length
    · rw [List.take_append_of_le_length (by rw [runL_len]; exact hk), List.take_append_of_le_length hk, ih]
    · rw [List.take_of_length_le (by rw [List.length_append, runL_len]; simp; omega), List.take_of_length_le (by rw [List.length_append]; simp; omega), runL_snoc]
theorem runL_get {α : Type} (f : List α → Ln → α) {ls : List Ln} {i : Nat} {l : Ln} (h : ls[i]? = some l) : (runL f ls)[i]? = some (f (runL f (ls.take i)) l) := by
  have e := runL_take f ls (i + 1)
  rw [take_get h, runL_snoc] at e
  have hi : i < ls.length := (List.getElem?_eq_some_iff.mp h).1
  have e2 : ((runL f ls).take (i + 1))[i]? = (runL f ls)[i]? := by rw [List.getElem?_take, if_pos (Nat.lt_succ_self i)]
  rw [← e2, e, List.getElem?_append_right (by rw [runL_len, List.length_take]; omega), runL_len, List.length_take]
  rw [show i - min i ls.length = 0 by omega]
  rfl
/-- the value of line i, d if there is none -/
def valL {α : Type} (f : List α → Ln → α) (d : α) (ls : List Ln) (i : Nat) : α := (runL f ls).getD i d
theorem valL_take {α : Type} (f : List α → Ln → α) (d : α) {ls : List Ln} {i j : Nat} (h : j < i) : (runL f (ls.take i)).getD j d = valL f d ls j := by
  unfold valL
  rw [← runL_take, List.getD_eq_getElem?_getD, List.getD_eq_getElem?_getD, List.getElem?_take, if_pos h]
theorem runL_mem {α : Type} (f : List α → Ln → α) (d : α) {ls : List Ln} {i : Nat} (h : i < ls.length) : (runL f ls)[i]? = some (valL f d ls i) := by
  unfold valL
  rw [List.getD_eq_getElem?_getD, List.getElem?_eq_getElem (by rw [runL_len]; exact h)]
  rfl
theorem valL_get {α : Type} (f : List α → Ln → α) (d : α) {ls : List Ln} {i : Nat} {l : Ln} (h : ls[i]? = some l) : valL f d ls i = f (runL f (ls.take i)) l := by
  unfold valL
  rw [List.getD_eq_getElem?_getD, runL_get f h]
  rfl
/-- lengths -/
def szF (s : List Nat) : Ln → Nat
  | .stay => 0
  | .mv _ => 1
  | .th a b => s.getD a 0 + s.getD b 0
  | .bk a => s.getD a 0
def szL (ls : List Ln) : Nat → Nat := valL szF 0 ls
theorem szL_eq {many : Nat} {ls : List Ln} (hr : Right many ls) {i : Nat} {l : Ln} (h : ls[i]? = some l) : szL ls i = match l with
    | .stay => 0
    | .mv _ => 1
    | .th a b => szL ls a + szL ls b
    | .bk a => szL ls a := by
  have ok := hr i l h
  unfold szL
  rw [valL_get szF 0 h]
  cases l with
  | stay => rfl
  | mv j => rfl
  | th a b =>
    show (runL szF (ls.take i)).getD a 0 + (runL szF (ls.take i)).getD b 0 = _
    rw [valL_take szF 0 ok.1, valL_take szF 0 ok.2]
  | bk a => exact valL_take szF 0 ok
/-- plain rows: moves and whether they go on (true) or back -/
def flipS (x : Nat × Bool) : Nat × Bool := (x.1, !x.2)
def invR (r : List (Nat × Bool)) : List (Nat × Bool) := (r.map flipS).reverse
theorem invR_inv (r : List (Nat × Bool)) : invR (invR r) = r := by
  unfold invR
  rw [List.map_reverse, List.reverse_reverse, List.map_map]
  have : flipS ∘ flipS = id := by
    funext ⟨i, b⟩
    show (i, !!b) = (i, b)
    rw [Bool.not_not]
  rw [this, List.map_id]
theorem invR_app (r s : List (Nat × Bool)) : invR (r ++ s) = invR s ++ invR r := by
  unfold invR
  rw [List.map_append, List.reverse_append]
theorem invR_len (r : List (Nat × Bool)) : (invR r).length = r.length := by
  unfold invR
  rw [List.length_reverse, List.length_map]
def rwF (s : List (List (Nat × Bool))) : Ln → List (Nat × Bool)
  | .stay => []
  | .mv i => [(i, true)]
  | .th a b => s.getD a [] ++ s.getD b []
  | .bk a => invR (s.getD a [])
def rwL (ls : List Ln) : Nat → List (Nat × Bool) := valL rwF [] ls
theorem rwL_eq {many : Nat} {ls : List Ln} (hr : Right many ls) {i : Nat} {l : Ln} (h : ls[i]? = some l) : rwL ls i = match l with
    | .stay => []
    | .mv j => [(j, true)]
    | .th a b => rwL ls a ++ rwL ls b
    | .bk a => invR (rwL ls a) := by
  have ok := hr i l h
  unfold rwL
  rw [valL_get rwF [] h]
  cases l with
  | stay => rfl
  | mv j => rfl
  | th a b =>
    show (runL rwF (ls.take i)).getD a [] ++ (runL rwF (ls.take i)).getD b [] = _
    rw [valL_take rwF [] ok.1, valL_take rwF [] ok.2]
  | bk a => exact congrArg invR (valL_take rwF [] ok)
theorem lt_ex {ls : List Ln} {i : Nat} (h : i < ls.length) : ∃ l, ls[i]? = some l := ⟨_, List.getElem?_eq_getElem h⟩
theorem rwL_len {many : Nat} {ls : List Ln} (hr : Right many ls) : ∀ {i : Nat}, i < ls.length → (rwL ls i).length = szL ls i := by
  intro i
  induction i using Nat.strongRecOn with
  | ind i ih =>
    intro hi
    obtain ⟨l, hl⟩ := lt_ex hi
    have ok := hr i l hl
    rw [rwL_eq hr hl, szL_eq hr hl]
    cases l with
    | stay => rfl
    | mv j => rfl
    | th a b =>
      show (rwL ls a ++ rwL ls b).length = szL ls a + szL ls b
      rw [List.length_append, ih a ok.1 (Nat.lt_trans ok.1 hi), ih b ok.2 (Nat.lt_trans ok.2 hi)]
    | bk a =>
      show (invR (rwL ls a)).length = szL ls a
      rw [invR_len, ih a ok (Nat.lt_trans ok hi)]
theorem rwL_mem {many : Nat} {ls : List Ln} (hr : Right many ls) : ∀ {i : Nat}, i < ls.length → ∀ x ∈ rwL ls i, x.1 < many := by
  intro i
  induction i using Nat.strongRecOn with
  | ind i ih =>
    intro hi x hx
    obtain ⟨l, hl⟩ := lt_ex hi
    have ok := hr i l hl
    rw [rwL_eq hr hl] at hx
    cases l with
    | stay => cases hx
    | mv j =>
      have : x = (j, true) := List.mem_singleton.mp hx
      subst this
      exact ok
    | th a b =>
      rcases List.mem_append.mp hx with h | h
      · exact ih a ok.1 (Nat.lt_trans ok.1 hi) x h
      · exact ih b ok.2 (Nat.lt_trans ok.2 hi) x h
    | bk a =>
      have hx' : x ∈ invR (rwL ls a) := hx
      unfold invR at hx'
      rw [List.mem_reverse, List.mem_map] at hx'
      obtain ⟨y, hy, rfl⟩ := hx'
      exact ih a ok (Nat.lt_trans ok hi) y hy
/-- what the lines make -/
def mkF (n : Nat) (ms : List (Nat → Nat)) (s : List (Nat → Nat)) : Ln → Nat → Nat
  | .stay => fun y => y
  | .mv i => ms.getD i fun y => y
  | .th a b => fun y => (s.getD b fun y => y) ((s.getD a fun y => y) y)
  | .bk a => backF n (s.getD a fun y => y)
def mkL (n : Nat) (ms : List (Nat → Nat)) (ls : List Ln) : Nat → Nat → Nat := valL (mkF n ms) (fun y => y) ls
theorem mkL_eq {n : Nat} {ms : List (Nat → Nat)} {many : Nat} {ls : List Ln} (hr : Right many ls) {i : Nat} {l : Ln} (h : ls[i]? = some l) : mkL n ms ls i = match l with
    | .stay => fun y => y
    | .mv j => ms.getD j fun y => y
    | .th a b => fun y => mkL n ms ls b (mkL n ms ls a y)
    | .bk a => backF n (mkL n ms ls a) := by
  have ok := hr i l h
  unfold mkL
  rw [valL_get (mkF n ms) (fun y => y) h]
  cases l with
  | stay => rfl
  | mv j => rfl
  | th a b =>
    show (fun y => ((runL (mkF n ms) (ls.take i)).getD b fun y => y) (((runL (mkF n ms) (ls.take i)).getD a fun y => y) y)) = _
    rw [valL_take (mkF n ms) _ ok.1, valL_take (mkF n ms) _ ok.2]
  | bk a => exact congrArg (backF n) (valL_take (mkF n ms) _ ok)
def Perms (n : Nat) (ms : List (Nat → Nat)) : Prop := ∀ f ∈ ms, PermOn n f
theorem Perms.getD {n : Nat} {ms : List (Nat → Nat)} (h : Perms n ms) (i : Nat) : PermOn n (ms.getD i fun y => y) := by
  rw [List.getD_eq_getElem?_getD]
  cases e : ms[i]? with
  | none => exact permOn_id n
  | some f => exact h f (List.mem_of_getElem? e)
theorem mkF_perm {n : Nat} {ms s : List (Nat → Nat)} (hm : Perms n ms) (hs : Perms n s) (l : Ln) : PermOn n (mkF n ms s l) := by
  cases l with
  | stay => exact permOn_id n
  | mv j => exact hm.getD j
  | th a b => exact permOn_comp (f := s.getD a fun y => y) (g := s.getD b fun y => y) (hs.getD a) (hs.getD b)
  | bk a => exact permOn_back (hs.getD a)
theorem mkL_perms {n : Nat} {ms : List (Nat → Nat)} (hm : Perms n ms) (ls : List Ln) : Perms n (runL (mkF n ms) ls) := by
  induction ls using snoc_ind with
  | h0 => intro f hf; cases hf
  | h l a ih =>
    rw [runL_snoc]
    intro f hf
    rcases List.mem_append.mp hf with h | h
    · exact ih f h
    · rw [List.mem_singleton.mp h]
      exact mkF_perm hm ih a
theorem mkL_perm {n : Nat} {ms : List (Nat → Nat)} (hm : Perms n ms) (ls : List Ln) (i : Nat) : PermOn n (mkL n ms ls i) := (mkL_perms hm ls).getD i
/-- what a row makes -/
def oneR (n : Nat) (ms : List (Nat → Nat)) (x : Nat × Bool) : Nat → Nat := if x.2 = true then ms.getD x.1 (fun y => y) else backF n (ms.getD x.1 fun y => y)
def mkR (n : Nat) (ms : List (Nat → Nat)) (r : List (Nat × Bool)) : Nat → Nat := r.foldl (fun p x => fun y => oneR n ms x (p y)) fun y => y
theorem oneR_perm {n : Nat} {ms : List (Nat → Nat)} (hm : Perms n ms) (x : Nat × Bool) : PermOn n (oneR n ms x) := by
  unfold oneR
  split
  · exact hm.getD _
  · exact permOn_back (hm.getD _)
theorem mkR_snoc (n : Nat) (ms : List (Nat → Nat)) (r : List (Nat × Bool)) (x : Nat × Bool) : mkR n ms (r ++ [x]) = fun y => oneR n ms x (mkR n ms r y) := by
  unfold mkR
  rw [List.foldl_append]
  rfl
theorem mkR_app (n : Nat) (ms : List (Nat → Nat)) (r s : List (Nat × Bool)) : mkR n ms (r ++ s) = fun y => mkR n ms s (mkR n ms r y) := by
  induction s using snoc_ind with
  | h0 => rw [List.append_nil]; rfl
  | h l a ih => rw [← List.append_assoc, mkR_snoc, ih, mkR_snoc]
theorem mkR_perm {n : Nat} {ms : List (Nat → Nat)} (hm : Perms n ms) (r : List (Nat × Bool)) : PermOn n (mkR n ms r) := by
  induction r using snoc_ind with
  | h0 => exact permOn_id n
  | h l a ih => rw [mkR_snoc]; exact permOn_comp ih (oneR_perm hm a)
theorem one_flip {n : Nat} {ms : List (Nat → Nat)} (hm : Perms n ms) (x : Nat × Bool) {y : Nat} (hy : y < n) : oneR n ms (flipS x) (oneR n ms x y) = y := by
  obtain ⟨i, b⟩ := x
  have hp := hm.getD i
  cases b with
  | true => exact backF_left hp hy
  | false => exact (backF_right hp hy).1
theorem mkR_inv {n : Nat} {ms : List (Nat → Nat)} (hm : Perms n ms) (r : List (Nat × Bool)) : ∀ {y : Nat}, y < n → mkR n ms (invR r) (mkR n ms r y) = y := by
  induction r using snoc_ind with
  | h0 => intro y _; rfl
  | h l a ih =>
    intro y hy
    rw [mkR_snoc, invR_app]
    show mkR n ms ([flipS a] ++ invR l) (oneR n ms a (mkR n ms l y)) = y
    rw [mkR_app]
    show mkR n ms (invR l) (oneR n ms (flipS a) (oneR n ms a (mkR n ms l y))) = y
    rw [one_flip hm a ((mkR_perm hm l).1 y hy)]
    exact ih hy
theorem back_uniq {n : Nat} {f g : Nat → Nat} (hf : PermOn n f) (h : ∀ y, y < n → g (f y) = y) {y : Nat} (hy : y < n) : backF n f y = g y := by
  obtain ⟨e, hb⟩ := backF_right hf hy
  have := h _ hb
  rw [e] at this
  exact this.symm
theorem back_congr {n : Nat} {f g : Nat → Nat} (hf : PermOn n f) (h : ∀ y, y < n → f y = g y) {y : Nat} (hy : y < n) : backF n f y = backF n g y := by
  have hg : PermOn n g := ⟨fun i hi => by rw [← h i hi]; exact hf.1 i hi, fun i j hi hj e => hf.2 i j hi hj (by rw [h i hi, h j hj, e])⟩
  refine back_uniq hf (fun z hz => ?_) hy
  rw [h z hz]
  exact backF_left hg hz
theorem made_row {n : Nat} {ms : List (Nat → Nat)} {many : Nat} {ls : List Ln} (hm : Perms n ms) (hr : Right many ls) : ∀ {i : Nat}, i < ls.length → ∀ y, y < n → mkL n ms ls i y = mkR n ms (rwL ls i) y := by
  intro i
  induction i using Nat.strongRecOn with
  | ind i ih =>
    intro hi y hy
    obtain ⟨l, hl⟩ := lt_ex hi
    have ok := hr i l hl
    rw [mkL_eq hr hl, rwL_eq hr hl]
    cases l with
    | stay => rfl
    | mv j => rfl
    | th a b =>
      show mkL n ms ls b (mkL n ms ls a y) = mkR n ms (rwL ls a ++ rwL ls b) y
      rw [mkR_app]
      show _ = mkR n ms (rwL ls b) (mkR n ms (rwL ls a) y)
      rw [ih a ok.1 (Nat.lt_trans ok.1 hi) y hy, ih b ok.2 (Nat.lt_trans ok.2 hi) _ ((mkR_perm hm _).1 y hy)]
    | bk a =>
      show backF n (mkL n ms ls a) y = mkR n ms (invR (rwL ls a)) y
      have h1 : ∀ y, y < n → mkL n ms ls a y = mkR n ms (rwL ls a) y := fun y hy => ih a ok (Nat.lt_trans ok hi) y hy
      rw [back_congr (mkL_perm hm ls a) h1 hy]
      exact back_uniq (mkR_perm hm _) (fun z hz => mkR_inv hm _ hz) hy
/-! ### writing out a row, pile by pile -/
def expS (ls : List Ln) (x : Nat × Bool) : List (Nat × Bool) := if x.2 = true then rwL ls x.1 else invR (rwL ls x.1)
/-- how often something is taken from the pile for line i -/
def costF (s : List (Nat × Nat)) : Ln → Nat × Nat
  | .stay => (0, 1)
  | .mv _ => (1, 1)
  | .th a b => ((s.getD a (0, 0)).1 + (s.getD b (0, 0)).1, if (s.getD a (0, 0)).1 + (s.getD b (0, 0)).1 = 0 then 1 else 1 + (s.getD a (0, 0)).2 + (s.getD b (0, 0)).2)
  | .bk a => ((s.getD a (0, 0)).1, if (s.getD a (0, 0)).1 = 0 then 1 else 1 + (s.getD a (0, 0)).2)
def costP (ls : List Ln) : Nat → Nat × Nat := valL costF (0, 0) ls
def costL (ls : List Ln) (i : Nat) : Nat := (costP ls i).2
theorem costP_eq {many : Nat} {ls : List Ln} (hr : Right many ls) {i : Nat} {l : Ln} (h : ls[i]? = some l) : costP ls i = match l with
    | .stay => (0, 1)
    | .mv _ => (1, 1)
    | .th a b => ((costP ls a).1 + (costP ls b).1, if (costP ls a).1 + (costP ls b).1 = 0 then 1 else 1 + (costP ls a).2 + (costP ls b).2)
    | .bk a => ((costP ls a).1, if (costP ls a).1 = 0 then 1 else 1 + (costP ls a).2) := by
  have ok := hr i l h
  unfold costP
  rw [valL_get costF (0, 0) h]
  cases l with
  | stay => rfl
  | mv j => rfl
  | th a b =>
    have e1 := valL_take costF (0, 0) (ls := ls) ok.1
    have e2 := valL_take costF (0, 0) (ls := ls) ok.2
    dsimp only
    generalize valL costF (0, 0) ls a = x1 at e1 ⊢
    generalize valL costF (0, 0) ls b = x2 at e2 ⊢
    generalize runL costF (ls.take i) = s at e1 e2 ⊢
    rw [← e1, ← e2]
    rfl
  | bk a =>
    have e1 := valL_take costF (0, 0) (ls := ls) ok
    dsimp only
    generalize valL costF (0, 0) ls a = x1 at e1 ⊢
    generalize runL costF (ls.take i) = s at e1 ⊢
    rw [← e1]
    rfl
theorem costP_sz {many : Nat} {ls : List Ln} (hr : Right many ls) : ∀ {i : Nat}, i < ls.length → (costP ls i).1 = szL ls i := by
  intro i
  induction i using Nat.strongRecOn with
  | ind i ih =>
    intro hi
    obtain ⟨l, hl⟩ := lt_ex hi
    have ok := hr i l hl
    rw [costP_eq hr hl, szL_eq hr hl]
    cases l with
    | stay => rfl
    | mv j => rfl
    | th a b =>
      show (costP ls a).1 + (costP ls b).1 = szL ls a + szL ls b
      rw [ih a ok.1 (Nat.lt_trans ok.1 hi), ih b ok.2 (Nat.lt_trans ok.2 hi)]
    | bk a => exact ih a ok (Nat.lt_trans ok hi)
theorem costL_pos {many : Nat} {ls : List Ln} (hr : Right many ls) {i : Nat} (hi : i < ls.length) : 1 ≤ costL ls i := by
  obtain ⟨l, hl⟩ := lt_ex hi
  unfold costL
  rw [costP_eq hr hl]
  cases l with
  | stay => exact Nat.le_refl 1
  | mv j => exact Nat.le_refl 1
  | th a b => dsimp only; split <;> omega
  | bk a => dsimp only; split <;> omega
theorem costL_th {many : Nat} {ls : List Ln} (hr : Right many ls) {i a b : Nat} (hl : ls[i]? = some (.th a b)) (h0 : szL ls i ≠ 0) : costL ls i = 1 + costL ls a + costL ls b := by
  have hi := (List.getElem?_eq_some_iff.mp hl).1
  have ok := hr i _ hl
  have e := szL_eq hr hl
  unfold costL
  rw [costP_eq hr hl]
  show (if (costP ls a).1 + (costP ls b).1 = 0 then 1 else 1 + (costP ls a).2 + (costP ls b).2) = _
  rw [if_neg]
  rw [costP_sz hr (Nat.lt_trans ok.1 hi), costP_sz hr (Nat.lt_trans ok.2 hi)]
  dsimp only at e
  omega
theorem costL_bk {many : Nat} {ls : List Ln} (hr : Right many ls) {i a : Nat} (hl : ls[i]? = some (.bk a)) (h0 : szL ls i ≠ 0) : costL ls i = 1 + costL ls a := by
  have hi := (List.getElem?_eq_some_iff.mp hl).1
  have ok := hr i _ hl
  have e := szL_eq hr hl
  unfold costL
  rw [costP_eq hr hl]
  show (if (costP ls a).1 = 0 then 1 else 1 + (costP ls a).2) = _
  rw [if_neg]
  rw [costP_sz hr (Nat.lt_trans ok hi)]
  dsimp only at e
  omega
theorem costL_le {many : Nat} {ls : List Ln} (hr : Right many ls) : ∀ {i : Nat}, i < ls.length → costL ls i ≤ 1 + 2 * szL ls i * i := by
  intro i
  induction i using Nat.strongRecOn with
  | ind i ih =>
    intro hi
    obtain ⟨l, hl⟩ := lt_ex hi
    have ok := hr i l hl
    have es := szL_eq hr hl
    by_cases h0 : szL ls i = 0
    · rw [h0]
      unfold costL
      rw [costP_eq hr hl]
      cases l with
      | stay => dsimp only; omega
      | mv j => dsimp only; omega
      | th a b =>
        dsimp only at es ⊢
        rw [costP_sz hr (Nat.lt_trans ok.1 hi), costP_sz hr (Nat.lt_trans ok.2 hi), if_pos (by omega)]
        omega
      | bk a =>
        dsimp only at es ⊢
        rw [costP_sz hr (Nat.lt_trans ok hi), if_pos (by omega)]
        omega
    · cases l with
      | stay => exact absurd es h0
      | mv j =>
        unfold costL
        rw [costP_eq hr hl]
        dsimp only
        omega
      | th a b =>
        rw [costL_th hr hl h0]
        have h1 := ih a ok.1 (Nat.lt_trans ok.1 hi)
        have h2 := ih b ok.2 (Nat.lt_trans ok.2 hi)
        have ok1 : a + 1 ≤ i := ok.1
        have ok2 : b + 1 ≤ i := ok.2
        have m1 : 2 * szL ls a * (a + 1) ≤ 2 * szL ls a * i := Nat.mul_le_mul_left _ ok1
        have m2 : 2 * szL ls b * (b + 1) ≤ 2 * szL ls b * i := Nat.mul_le_mul_left _ ok2
        rw [Nat.mul_add, Nat.mul_one] at m1 m2
        dsimp only at es
        have e3 : 2 * szL ls i * i = 2 * szL ls a * i + 2 * szL ls b * i := by rw [es, Nat.mul_add, Nat.add_mul]
        rw [e3]
        omega
      | bk a =>
        rw [costL_bk hr hl h0]
        have h1 := ih a ok (Nat.lt_trans ok hi)
        have ok1 : a + 1 ≤ i := ok
        have m1 : 2 * szL ls a * (a + 1) ≤ 2 * szL ls a * i := Nat.mul_le_mul_left _ ok1
        rw [Nat.mul_add, Nat.mul_one] at m1
        dsimp only at es
        rw [es] at h0 ⊢
        omega
/-- the pile: its bottom first -/
def pileC (ls : List Ln) (st : List (Nat × Bool)) : Nat := (st.map fun x => costL ls x.1).sum
theorem pileC_app (ls : List Ln) (st su : List (Nat × Bool)) : pileC ls (st ++ su) = pileC ls st + pileC ls su := by
  unfold pileC
  rw [List.map_append, List.sum_append_nat]
def pileR (ls : List Ln) (st : List (Nat × Bool)) : List (Nat × Bool) := st.reverse.flatMap (expS ls)
theorem pileR_snoc (ls : List Ln) (st : List (Nat × Bool)) (x : Nat × Bool) : pileR ls (st ++ [x]) = expS ls x ++ pileR ls st := by
  unfold pileR
  rw [List.reverse_append]
  rfl
/-- how low the pile is -/
def Low (N : Nat) (st : List (Nat × Bool)) : Prop := ∀ (i : Nat) (x : Nat × Bool), st[i]? = some x → x.1 + i + 1 ≤ N
theorem Low.len {N : Nat} {st : List (Nat × Bool)} (h : Low N st) : st.length ≤ N := by
  cases e : st.length with
  | zero => omega
  | succ k =>
    obtain ⟨x, hx⟩ : ∃ x, st[k]? = some x := ⟨_, List.getElem?_eq_getElem (by omega)⟩
    have := h k x hx
    omega
theorem Low.left {N : Nat} {st su : List (Nat × Bool)} (h : Low N (st ++ su)) : Low N st := fun i x hx => h i x (by
  rw [List.getElem?_append_left (List.getElem?_eq_some_iff.mp hx).1]
  exact hx)
theorem Low.snoc {N : Nat} {st : List (Nat × Bool)} {x : Nat × Bool} (h : Low N st) (hx : x.1 + st.length + 1 ≤ N) : Low N (st ++ [x]) := fun i y hy => by
  by_cases hi : i < st.length
  · rw [List.getElem?_append_left hi] at hy
    exact h i y hy
  · have hl := (List.getElem?_eq_some_iff.mp hy).1
    have : i = st.length := by simp at hl; omega
    subst this
    simp at hy
    subst hy
    exact hx
theorem Low.top {N : Nat} {st : List (Nat × Bool)} {x : Nat × Bool} (h : Low N (st ++ [x])) : x.1 + st.length + 1 ≤ N := h st.length x (by simp)
end WL
set_option Elab.async false
set_option linter.all false
set_option maxRecDepth 100000
set_option maxHeartbeats 4000000
namespace K3
open PySem PySem.Spec PyProof.Rows L2 Evl WL
abbrev n_is_int : List Str := ["value"]
theorem c_is_int : FnScope n_is_int ["value"] (defScope s_is_int) := ⟨rfl, rfl, rfl, by decide +kernel, rfl, by decide +kernel, by decide +kernel⟩
theorem b_is_int : BindN "is_int" s_is_int ["value"] := fun _ _ _ _ _ _ us hl => match us, hl with | [_], _ => rfl
abbrev n_is_between : List Str := ["value", "low", "high"]
theorem c_is_between : FnScope n_is_between ["value", "low", "high"] (defScope s_is_between) := ⟨rfl, rfl, rfl, by decide +kernel, rfl, by decide +kernel, by decide +kernel⟩
theorem b_is_between : BindN "is_between" s_is_between ["value", "low", "high"] := fun _ _ _ _ _ _ us hl => match us, hl with | [_, _, _], _ => rfl
abbrev n_is_arrangement : List Str := ["value", "n", "x"]
theorem c_is_arrangement : FnScope n_is_arrangement ["value", "n"] (defScope s_is_arrangement) := ⟨rfl, rfl, rfl, by decide +kernel, rfl, by decide +kernel, by decide +kernel⟩
theorem b_is_arrangement : BindN "is_arrangement" s_is_arrangement ["value", "n"] := fun _ _ _ _ _ _ us hl => match us, hl with | [_, _], _ => rfl
abbrev n_stay : List Str := ["n"]
theorem c_stay : FnScope n_stay ["n"] (defScope s_stay) := ⟨rfl, rfl, rfl, by decide +kernel, rfl, by decide +kernel, by decide +kernel⟩
theorem b_stay : BindN "stay" s_stay ["n"] := fun _ _ _ _ _ _ us hl => match us, hl with | [_], _ => rfl
abbrev n_mul : List Str := ["p", "q", "x"]
theorem c_mul : FnScope n_mul ["p", "q"] (defScope s_mul) := ⟨rfl, rfl, rfl, by decide +kernel, rfl, by decide +kernel, by decide +kernel⟩
theorem b_mul : BindN "mul" s_mul ["p", "q"] := fun _ _ _ _ _ _ us hl => match us, hl with | [_, _], _ => rfl
abbrev n_inv : List Str := ["p", "found", "x", "y"]
theorem c_inv : FnScope n_inv ["p"] (defScope s_inv) := ⟨rfl, rfl, rfl, by decide +kernel, rfl, by decide +kernel, by decide +kernel⟩
theorem b_inv : BindN "inv" s_inv ["p"] := fun _ _ _ _ _ _ us hl => match us, hl with | [_], _ => rfl
abbrev n_wrong_key : List Str := ["value", "n", "moves", "key", "move"]
theorem c_wrong_key : FnScope n_wrong_key ["value"] (defScope s_wrong_key) := ⟨rfl, rfl, rfl, by decide +kernel, rfl, by decide +kernel, by decide +kernel⟩
theorem b_wrong_key : BindN "wrong_key" s_wrong_key ["value"] := fun _ _ _ _ _ _ us hl => match us, hl with | [_], _ => rfl
abbrev n_check_room : List Str := ["room", "key"]
theorem c_check_room : FnScope n_check_room ["room"] (defScope s_check_room) := ⟨rfl, rfl, rfl, by decide +kernel, rfl, by decide +kernel, by decide +kernel⟩
theorem b_check_room : BindN "check_room" s_check_room ["room"] := fun _ _ _ _ _ _ us hl => match us, hl with | [_], _ => rfl
abbrev n_is_line : List Str := ["line", "at", "moves", "j"]
theorem c_is_line : FnScope n_is_line ["line", "at", "moves"] (defScope s_is_line) := ⟨rfl, rfl, rfl, by decide +kernel, rfl, by decide +kernel, by decide +kernel⟩
theorem b_is_line : BindN "is_line" s_is_line ["line", "at", "moves"] := fun _ _ _ _ _ _ us hl => match us, hl with | [_, _, _], _ => rfl
abbrev n_wrong_line : List Str := ["value", "moves", "most", "at", "line"]
theorem c_wrong_line : FnScope n_wrong_line ["value", "moves", "most"] (defScope s_wrong_line) := ⟨rfl, rfl, rfl, by decide +kernel, rfl, by decide +kernel, by decide +kernel⟩
theorem b_wrong_line : BindN "wrong_line" s_wrong_line ["value", "moves", "most"] := fun _ _ _ _ _ _ us hl => match us, hl with | [_, _, _], _ => rfl
abbrev n_is_lines : List Str := ["value", "moves", "most"]
theorem c_is_lines : FnScope n_is_lines ["value", "moves", "most"] (defScope s_is_lines) := ⟨rfl, rfl, rfl, by decide +kernel, rfl, by decide +kernel, by decide +kernel⟩
abbrev n_check_lines : List Str := ["value", "moves", "at"]
theorem c_check_lines : FnScope n_check_lines ["value", "moves"] (defScope s_check_lines) := ⟨rfl, rfl, rfl, by decide +kernel, rfl, by decide +kernel, by decide +kernel⟩
theorem b_check_lines : BindN "check_lines" s_check_lines ["value", "moves"] := fun _ _ _ _ _ _ us hl => match us, hl with | [_, _], _ => rfl
abbrev n_check_way : List Str := ["room", "value"]
theorem c_check_way : FnScope n_check_way ["room", "value"] (defScope s_check_way) := ⟨rfl, rfl, rfl, by decide +kernel, rfl, by decide +kernel, by decide +kernel⟩
theorem b_check_way : BindN "check_way" s_check_way ["room", "value"] := fun _ _ _ _ _ _ us hl => match us, hl with | [_, _], _ => rfl
abbrev n_made_lines : List Str := ["n", "moves", "way", "found", "line"]
theorem c_made_lines : FnScope n_made_lines ["n", "moves", "way"] (defScope s_made_lines) := ⟨rfl, rfl, rfl, by decide +kernel, rfl, by decide +kernel, by decide +kernel⟩
theorem b_made_lines : BindN "made_lines" s_made_lines ["n", "moves", "way"] := fun _ _ _ _ _ _ us hl => match us, hl with | [_, _, _], _ => rfl
abbrev n_steps_of : List Str := ["way", "found", "line", "j"]
theorem c_steps_of : FnScope n_steps_of ["way"] (defScope s_steps_of) := ⟨rfl, rfl, rfl, by decide +kernel, rfl, by decide +kernel, by decide +kernel⟩
theorem b_steps_of : BindN "steps_of" s_steps_of ["way"] := fun _ _ _ _ _ _ us hl => match us, hl with | [_], _ => rfl
abbrev n_used_lines : List Str := ["way", "used", "at", "j"]
theorem c_used_lines : FnScope n_used_lines ["way"] (defScope s_used_lines) := ⟨rfl, rfl, rfl, by decide +kernel, rfl, by decide +kernel, by decide +kernel⟩
theorem b_used_lines : BindN "used_lines" s_used_lines ["way"] := fun _ _ _ _ _ _ us hl => match us, hl with | [_], _ => rfl
abbrev n_signs_of : List Str := ["way", "used", "rows", "at", "line", "sign"]
theorem c_signs_of : FnScope n_signs_of ["way"] (defScope s_signs_of) := ⟨rfl, rfl, rfl, by decide +kernel, rfl, by decide +kernel, by decide +kernel⟩
theorem b_signs_of : BindN "signs_of" s_signs_of ["way"] := fun _ _ _ _ _ _ us hl => match us, hl with | [_], _ => rfl
abbrev n_is_way : List Str := ["room", "value"]
theorem c_is_way : FnScope n_is_way ["room", "value"] (defScope s_is_way) := ⟨rfl, rfl, rfl, by decide +kernel, rfl, by decide +kernel, by decide +kernel⟩
theorem b_is_way : BindN "is_way" s_is_way ["room", "value"] := fun _ _ _ _ _ _ us hl => match us, hl with | [_, _], _ => rfl
abbrev n_made : List Str := ["room", "way"]
theorem c_made : FnScope n_made ["room", "way"] (defScope s_made) := ⟨rfl, rfl, rfl, by decide +kernel, rfl, by decide +kernel, by decide +kernel⟩
theorem b_made : BindN "made" s_made ["room", "way"] := fun _ _ _ _ _ _ us hl => match us, hl with | [_, _], _ => rfl
abbrev n_length : List Str := ["room", "way"]
theorem c_length : FnScope n_length ["room", "way"] (defScope s_length) := ⟨rfl, rfl, rfl, by decide +kernel, rfl, by decide +kernel, by decide +kernel⟩
theorem b_length : BindN "length" s_length ["room", "way"] := fun _ _ _ _ _ _ us hl => match us, hl with | [_, _], _ => rfl
abbrev n_plain : List Str := ["room", "way", "sign"]
theorem c_plain : FnScope n_plain ["room", "way"] (defScope s_plain) := ⟨rfl, rfl, rfl, by decide +kernel, rfl, by decide +kernel, by decide +kernel⟩
theorem b_plain : BindN "plain" s_plain ["room", "way"] := fun _ _ _ _ _ _ us hl => match us, hl with | [_, _], _ => rfl
abbrev n__law_stream : List Str := ["script"]
theorem c__law_stream : FnScope n__law_stream ["script"] (defScope s__law_stream) := ⟨rfl, rfl, rfl, by decide +kernel, rfl, by decide +kernel, by decide +kernel⟩
theorem b__law_stream : BindN "_law_stream" s__law_stream ["script"] := fun _ _ _ _ _ _ us hl => match us, hl with | [_], _ => rfl
abbrev n__law_next : List Str := ["stream", "many", "k", "cell", "digit"]
theorem c__law_next : FnScope n__law_next ["stream", "many"] (defScope s__law_next) := ⟨rfl, rfl, rfl, by decide +kernel, rfl, by decide +kernel, by decide +kernel⟩
theorem b__law_next : BindN "_law_next" s__law_next ["stream", "many"] := fun _ _ _ _ _ _ us hl => match us, hl with | [_, _], _ => rfl
abbrev n__law_pick : List Str := ["stream", "rows"]
theorem c__law_pick : FnScope n__law_pick ["stream", "rows"] (defScope s__law_pick) := ⟨rfl, rfl, rfl, by decide +kernel, rfl, by decide +kernel, by decide +kernel⟩
theorem b__law_pick : BindN "_law_pick" s__law_pick ["stream", "rows"] := fun _ _ _ _ _ _ us hl => match us, hl with | [_, _], _ => rfl
abbrev n__law_from : List Str := ["stream", "low", "high"]
theorem c__law_from : FnScope n__law_from ["stream", "low", "high"] (defScope s__law_from) := ⟨rfl, rfl, rfl, by decide +kernel, rfl, by decide +kernel, by decide +kernel⟩
theorem b__law_from : BindN "_law_from" s__law_from ["stream", "low", "high"] := fun _ _ _ _ _ _ us hl => match us, hl with | [_, _, _], _ => rfl
abbrev n__law_shuffled : List Str := ["stream", "rows", "left", "found", "turn"]
theorem c__law_shuffled : FnScope n__law_shuffled ["stream", "rows"] (defScope s__law_shuffled) := ⟨rfl, rfl, rfl, by decide +kernel, rfl, by decide +kernel, by decide +kernel⟩
theorem b__law_shuffled : BindN "_law_shuffled" s__law_shuffled ["stream", "rows"] := fun _ _ _ _ _ _ us hl => match us, hl with | [_, _], _ => rfl
abbrev n__law_number : List Str := ["value", "low", "high"]
theorem c__law_number : FnScope n__law_number ["value", "low", "high"] (defScope s__law_number) := ⟨rfl, rfl, rfl, by decide +kernel, rfl, by decide +kernel, by decide +kernel⟩
theorem b__law_number : BindN "_law_number" s__law_number ["value", "low", "high"] := fun _ _ _ _ _ _ us hl => match us, hl with | [_, _, _], _ => rfl
abbrev n__law_same : List Str := ["actual", "due", "left", "turn", "one", "other", "at", "key"]
theorem c__law_same : FnScope n__law_same ["actual", "due"] (defScope s__law_same) := ⟨rfl, rfl, rfl, by decide +kernel, rfl, by decide +kernel, by decide +kernel⟩
theorem b__law_same : BindN "_law_same" s__law_same ["actual", "due"] := fun _ _ _ _ _ _ us hl => match us, hl with | [_, _], _ => rfl
abbrev n__law_copy : List Str := ["value", "found", "key", "item"]
theorem c__law_copy : FnScope n__law_copy ["value"] (defScope s__law_copy) := ⟨rfl, rfl, rfl, by decide +kernel, rfl, by decide +kernel, by decide +kernel⟩
theorem b__law_copy : BindN "_law_copy" s__law_copy ["value"] := fun _ _ _ _ _ _ us hl => match us, hl with | [_], _ => rfl
abbrev n__law_named : List Str := ["error", "names", "fits"]
theorem c__law_named : FnScope n__law_named ["error"] (defScope s__law_named) := ⟨rfl, rfl, rfl, by decide +kernel, rfl, by decide +kernel, by decide +kernel⟩
theorem b__law_named : BindN "_law_named" s__law_named ["error"] := fun _ _ _ _ _ _ us hl => match us, hl with | [_], _ => rfl
abbrev n__law_attributes : List Str := ["e", "name"]
theorem c__law_attributes : FnScope n__law_attributes ["e", "name"] (defScope s__law_attributes) := ⟨rfl, rfl, rfl, by decide +kernel, rfl, by decide +kernel, by decide +kernel⟩
theorem b__law_attributes : BindN "_law_attributes" s__law_attributes ["e", "name"] := fun _ _ _ _ _ _ us hl => match us, hl with | [_, _], _ => rfl
abbrev n__law_stay : List Str := ["n"]
theorem c__law_stay : FnScope n__law_stay ["n"] (defScope s__law_stay) := ⟨rfl, rfl, rfl, by decide +kernel, rfl, by decide +kernel, by decide +kernel⟩
theorem b__law_stay : BindN "_law_stay" s__law_stay ["n"] := fun _ _ _ _ _ _ us hl => match us, hl with | [_], _ => rfl
abbrev n__law_mul : List Str := ["p", "q", "x"]
theorem c__law_mul : FnScope n__law_mul ["p", "q"] (defScope s__law_mul) := ⟨rfl, rfl, rfl, by decide +kernel, rfl, by decide +kernel, by decide +kernel⟩
theorem b__law_mul : BindN "_law_mul" s__law_mul ["p", "q"] := fun _ _ _ _ _ _ us hl => match us, hl with | [_, _], _ => rfl
abbrev n__law_inv : List Str := ["p", "found", "x"]
theorem c__law_inv : FnScope n__law_inv ["p"] (defScope s__law_inv) := ⟨rfl, rfl, rfl, by decide +kernel, rfl, by decide +kernel, by decide +kernel⟩
theorem b__law_inv : BindN "_law_inv" s__law_inv ["p"] := fun _ _ _ _ _ _ us hl => match us, hl with | [_], _ => rfl
abbrev n__law_conj : List Str := ["p", "m", "found", "x"]
theorem c__law_conj : FnScope n__law_conj ["p", "m"] (defScope s__law_conj) := ⟨rfl, rfl, rfl, by decide +kernel, rfl, by decide +kernel, by decide +kernel⟩
theorem b__law_conj : BindN "_law_conj" s__law_conj ["p", "m"] := fun _ _ _ _ _ _ us hl => match us, hl with | [_, _], _ => rfl
abbrev n__law_any_arr : List Str := ["stream", "n"]
theorem c__law_any_arr : FnScope n__law_any_arr ["stream", "n"] (defScope s__law_any_arr) := ⟨rfl, rfl, rfl, by decide +kernel, rfl, by decide +kernel, by decide +kernel⟩
theorem b__law_any_arr : BindN "_law_any_arr" s__law_any_arr ["stream", "n"] := fun _ _ _ _ _ _ us hl => match us, hl with | [_, _], _ => rfl
abbrev n__law_spec_places : List Str := ["spec"]
theorem c__law_spec_places : FnScope n__law_spec_places ["spec"] (defScope s__law_spec_places) := ⟨rfl, rfl, rfl, by decide +kernel, rfl, by decide +kernel, by decide +kernel⟩
theorem b__law_spec_places : BindN "_law_spec_places" s__law_spec_places ["spec"] := fun _ _ _ _ _ _ us hl => match us, hl with | [_], _ => rfl
abbrev n__law_within : List Str := ["n", "start", "p", "found", "x"]
theorem c__law_within : FnScope n__law_within ["n", "start", "p"] (defScope s__law_within) := ⟨rfl, rfl, rfl, by decide +kernel, rfl, by decide +kernel, by decide +kernel⟩
theorem b__law_within : BindN "_law_within" s__law_within ["n", "start", "p"] := fun _ _ _ _ _ _ us hl => match us, hl with | [_, _, _], _ => rfl
abbrev n__law_over : List Str := ["inner", "q", "x"]
theorem c__law_over : FnScope n__law_over ["inner", "q"] (defScope s__law_over) := ⟨rfl, rfl, rfl, by decide +kernel, rfl, by decide +kernel, by decide +kernel⟩
theorem b__law_over : BindN "_law_over" s__law_over ["inner", "q"] := fun _ _ _ _ _ _ us hl => match us, hl with | [_, _], _ => rfl
abbrev n__law_spec_moves : List Str := ["spec", "word", "inner", "n", "found", "b", "ring", "root", "p", "x", "q", "k"]
theorem c__law_spec_moves : FnScope n__law_spec_moves ["spec"] (defScope s__law_spec_moves) := ⟨rfl, rfl, rfl, by decide +kernel, rfl, by decide +kernel, by decide +kernel⟩
theorem b__law_spec_moves : BindN "_law_spec_moves" s__law_spec_moves ["spec"] := fun _ _ _ _ _ _ us hl => match us, hl with | [_], _ => rfl
abbrev n__law_turn : List Str := ["n", "a", "b", "c", "found"]
theorem c__law_turn : FnScope n__law_turn ["n", "a", "b", "c"] (defScope s__law_turn) := ⟨rfl, rfl, rfl, by decide +kernel, rfl, by decide +kernel, by decide +kernel⟩
theorem b__law_turn : BindN "_law_turn" s__law_turn ["n", "a", "b", "c"] := fun _ _ _ _ _ _ us hl => match us, hl with | [_, _, _, _], _ => rfl
abbrev n__law_spec_plain : List Str := ["stream", "places", "words"]
theorem c__law_spec_plain : FnScope n__law_spec_plain ["stream", "places"] (defScope s__law_spec_plain) := ⟨rfl, rfl, rfl, by decide +kernel, rfl, by decide +kernel, by decide +kernel⟩
theorem b__law_spec_plain : BindN "_law_spec_plain" s__law_spec_plain ["stream", "places"] := fun _ _ _ _ _ _ us hl => match us, hl with | [_, _], _ => rfl
abbrev n__law_spec : List Str := ["stream", "places", "depth", "cuts", "kind", "inner", "first", "k"]
theorem c__law_spec : FnScope n__law_spec ["stream", "places", "depth"] (defScope s__law_spec) := ⟨rfl, rfl, rfl, by decide +kernel, rfl, by decide +kernel, by decide +kernel⟩
theorem b__law_spec : BindN "_law_spec" s__law_spec ["stream", "places", "depth"] := fun _ _ _ _ _ _ us hl => match us, hl with | [_, _, _], _ => rfl
abbrev n__law_mixed : List Str := ["stream", "rows", "times", "limit", "stay_v", "turn", "i", "j", "kind"]
theorem c__law_mixed : FnScope n__law_mixed ["stream", "rows", "times", "limit"] (defScope s__law_mixed) := ⟨rfl, rfl, rfl, by decide +kernel, rfl, by decide +kernel, by decide +kernel⟩
theorem b__law_mixed : BindN "_law_mixed" s__law_mixed ["stream", "rows", "times", "limit"] := fun _ _ _ _ _ _ us hl => match us, hl with | [_, _, _, _], _ => rfl
abbrev n__law_planted : List Str := ["stream", "places", "depth", "spec", "names", "rows", "p"]
theorem c__law_planted : FnScope n__law_planted ["stream", "places", "depth"] (defScope s__law_planted) := ⟨rfl, rfl, rfl, by decide +kernel, rfl, by decide +kernel, by decide +kernel⟩
theorem b__law_planted : BindN "_law_planted" s__law_planted ["stream", "places", "depth"] := fun _ _ _ _ _ _ us hl => match us, hl with | [_, _, _], _ => rfl
abbrev n__law_any_room : List Str := ["stream", "places", "limit", "tame", "rows", "k", "p", "turn", "a", "b", "swap"]
theorem c__law_any_room : FnScope n__law_any_room ["stream", "places", "limit", "tame"] (defScope s__law_any_room) := ⟨rfl, rfl, rfl, by decide +kernel, rfl, by decide +kernel, by decide +kernel⟩
theorem b__law_any_room : BindN "_law_any_room" s__law_any_room ["stream", "places", "limit", "tame"] := fun _ _ _ _ _ _ us hl => match us, hl with | [_, _, _, _], _ => rfl
abbrev n__law_is_line : List Str := ["line", "at", "many"]
theorem c__law_is_line : FnScope n__law_is_line ["line", "at", "many"] (defScope s__law_is_line) := ⟨rfl, rfl, rfl, by decide +kernel, rfl, by decide +kernel, by decide +kernel⟩
theorem b__law_is_line : BindN "_law_is_line" s__law_is_line ["line", "at", "many"] := fun _ _ _ _ _ _ us hl => match us, hl with | [_, _, _], _ => rfl
abbrev n__law_bad_line : List Str := ["value", "many", "limit", "at"]
theorem c__law_bad_line : FnScope n__law_bad_line ["value", "many", "limit"] (defScope s__law_bad_line) := ⟨rfl, rfl, rfl, by decide +kernel, rfl, by decide +kernel, by decide +kernel⟩
theorem b__law_bad_line : BindN "_law_bad_line" s__law_bad_line ["value", "many", "limit"] := fun _ _ _ _ _ _ us hl => match us, hl with | [_, _, _], _ => rfl
abbrev n__law_made : List Str := ["n", "moves", "lines", "found", "line"]
theorem c__law_made : FnScope n__law_made ["n", "moves", "lines"] (defScope s__law_made) := ⟨rfl, rfl, rfl, by decide +kernel, rfl, by decide +kernel, by decide +kernel⟩
theorem b__law_made : BindN "_law_made" s__law_made ["n", "moves", "lines"] := fun _ _ _ _ _ _ us hl => match us, hl with | [_, _, _], _ => rfl
abbrev n__law_lengths : List Str := ["lines", "found", "line"]
theorem c__law_lengths : FnScope n__law_lengths ["lines"] (defScope s__law_lengths) := ⟨rfl, rfl, rfl, by decide +kernel, rfl, by decide +kernel, by decide +kernel⟩
theorem b__law_lengths : BindN "_law_lengths" s__law_lengths ["lines"] := fun _ _ _ _ _ _ us hl => match us, hl with | [_], _ => rfl
abbrev n__law_plain : List Str := ["lines", "limit", "sizes", "found", "left", "turn", "at", "sign", "line"]
theorem c__law_plain : FnScope n__law_plain ["lines", "limit"] (defScope s__law_plain) := ⟨rfl, rfl, rfl, by decide +kernel, rfl, by decide +kernel, by decide +kernel⟩
theorem b__law_plain : BindN "_law_plain" s__law_plain ["lines", "limit"] := fun _ _ _ _ _ _ us hl => match us, hl with | [_, _], _ => rfl
abbrev n__law_row_made : List Str := ["n", "moves", "row", "p", "i", "sign"]
theorem c__law_row_made : FnScope n__law_row_made ["n", "moves", "row"] (defScope s__law_row_made) := ⟨rfl, rfl, rfl, by decide +kernel, rfl, by decide +kernel, by decide +kernel⟩
theorem b__law_row_made : BindN "_law_row_made" s__law_row_made ["n", "moves", "row"] := fun _ _ _ _ _ _ us hl => match us, hl with | [_, _, _], _ => rfl
abbrev n__law_way : List Str := ["stream", "many", "lines", "found", "at", "kind"]
theorem c__law_way : FnScope n__law_way ["stream", "many", "lines"] (defScope s__law_way) := ⟨rfl, rfl, rfl, by decide +kernel, rfl, by decide +kernel, by decide +kernel⟩
theorem b__law_way : BindN "_law_way" s__law_way ["stream", "many", "lines"] := fun _ _ _ _ _ _ us hl => match us, hl with | [_, _, _], _ => rfl
abbrev n__law_doubling : List Str := ["stream", "many", "lines", "found", "at", "kind"]
theorem c__law_doubling : FnScope n__law_doubling ["stream", "many", "lines"] (defScope s__law_doubling) := ⟨rfl, rfl, rfl, by decide +kernel, rfl, by decide +kernel, by decide +kernel⟩
theorem b__law_doubling : BindN "_law_doubling" s__law_doubling ["stream", "many", "lines"] := fun _ _ _ _ _ _ us hl => match us, hl with | [_, _, _], _ => rfl
abbrev n__law_with_steps : List Str := ["stream", "many", "steps", "found", "double", "last", "left", "turn", "one"]
theorem c__law_with_steps : FnScope n__law_with_steps ["stream", "many", "steps"] (defScope s__law_with_steps) := ⟨rfl, rfl, rfl, by decide +kernel, rfl, by decide +kernel, by decide +kernel⟩
theorem b__law_with_steps : BindN "_law_with_steps" s__law_with_steps ["stream", "many", "steps"] := fun _ _ _ _ _ _ us hl => match us, hl with | [_, _, _], _ => rfl
abbrev n__law_bent_line : List Str := ["stream", "line", "at", "many", "kind"]
theorem c__law_bent_line : FnScope n__law_bent_line ["stream", "line", "at", "many"] (defScope s__law_bent_line) := ⟨rfl, rfl, rfl, by decide +kernel, rfl, by decide +kernel, by decide +kernel⟩
theorem b__law_bent_line : BindN "_law_bent_line" s__law_bent_line ["stream", "line", "at", "many"] := fun _ _ _ _ _ _ us hl => match us, hl with | [_, _, _, _], _ => rfl
abbrev n__law_bent_way : List Str := ["stream", "way", "many", "kind", "at"]
theorem c__law_bent_way : FnScope n__law_bent_way ["stream", "way", "many"] (defScope s__law_bent_way) := ⟨rfl, rfl, rfl, by decide +kernel, rfl, by decide +kernel, by decide +kernel⟩
theorem b__law_bent_way : BindN "_law_bent_way" s__law_bent_way ["stream", "way", "many"] := fun _ _ _ _ _ _ us hl => match us, hl with | [_, _, _], _ => rfl
abbrev n__law_base_way : List Str := ["stream", "many", "turn", "kind"]
theorem c__law_base_way : FnScope n__law_base_way ["stream", "many", "turn"] (defScope s__law_base_way) := ⟨rfl, rfl, rfl, by decide +kernel, rfl, by decide +kernel, by decide +kernel⟩
theorem b__law_base_way : BindN "_law_base_way" s__law_base_way ["stream", "many", "turn"] := fun _ _ _ _ _ _ us hl => match us, hl with | [_, _, _], _ => rfl
abbrev n__law_ask : List Str := ["word", "room", "way", "answer", "e", "name"]
theorem c__law_ask : FnScope n__law_ask ["word", "room", "way"] (defScope s__law_ask) := ⟨rfl, rfl, rfl, by decide +kernel, rfl, by decide +kernel, by decide +kernel⟩
theorem b__law_ask : BindN "_law_ask" s__law_ask ["word", "room", "way"] := fun _ _ _ _ _ _ us hl => match us, hl with | [_, _, _], _ => rfl
abbrev n__law_due : List Str := ["word", "room", "way", "wrong", "found", "sizes", "row"]
theorem c__law_due : FnScope n__law_due ["word", "room", "way", "wrong"] (defScope s__law_due) := ⟨rfl, rfl, rfl, by decide +kernel, rfl, by decide +kernel, by decide +kernel⟩
theorem b__law_due : BindN "_law_due" s__law_due ["word", "room", "way", "wrong"] := fun _ _ _ _ _ _ us hl => match us, hl with | [_, _, _, _], _ => rfl
abbrev n__law_room : List Str := ["stream", "n"]
theorem c__law_room : FnScope n__law_room ["stream"] (defScope s__law_room) := ⟨rfl, rfl, rfl, by decide +kernel, rfl, by decide +kernel, by decide +kernel⟩
theorem b__law_room : BindN "_law_room" s__law_room ["stream"] := fun _ _ _ _ _ _ us hl => match us, hl with | [_], _ => rfl
abbrev n_law : List Str := ["script", "stream", "turn", "room", "many", "way", "ways", "one", "wrong", "words", "word", "passed", "other", "row"]
theorem c_law : FnScope n_law ["script"] (defScope s_law) := ⟨rfl, rfl, rfl, by decide +kernel, rfl, by decide +kernel, by decide +kernel⟩
theorem b_law : BindN "law" s_law ["script"] := fun _ _ _ _ _ _ us hl => match us, hl with | [_], _ => rfl
end K3
set_option Elab.async false
set_option linter.all false
set_option maxRecDepth 100000
set_option maxHeartbeats 4000000
namespace K3
open PySem PySem.Spec PyProof.Rows L2 Evl WL
def spIsInt : DSp := fun ds Q _ => ∃ x, ds = [x] ∧ x.ok = true ∧ Q (.bl x.isI)
theorem ok_is_int {g : Gx} [BI g] (h : Has g "is_int" s_is_int) : FnG g "is_int" 1 spIsInt := by
  refine fn_has h c_is_int b_is_int (fun ds Q E ⟨x, h, _⟩ => by rw [h]; rfl) fun ds Q E ⟨x, h, hp, q⟩ => ?_
  subst h
  refine bl_one (bs_ret ?_)
  refine w_and (w_isi .int (w_name 0 rfl ⟨_, isA_int hp, _, rfl, ?_⟩))
  cases x <;> first | (cases hp; done) | exact q | exact (w_one (w_not (w_isi .bool (w_name 0 rfl ⟨_, rfl, _, rfl, q⟩))))
def spIsBetween : DSp := fun ds Q _ => ∃ x a b, ds = [x, .int a, .int b] ∧ x.ok = true ∧ Q (.bl (inside x a b))
theorem ok_is_between {g : Gx} [BI g] (h : Has g "is_between" s_is_between) (g1 : FnG g "is_int" 1 spIsInt) : FnG g "is_between" 2 spIsBetween := by
  refine fn_has h c_is_between b_is_between (fun ds Q E ⟨x, a, b, h, _⟩ => by rw [h]; rfl) fun ds Q E ⟨x, lo, hi, h, hp, q⟩ => ?_
  subst h
  refine bl_one (bs_ret (w_and (w_call g1 (wa_cons (w_name 0 rfl (wa_nil ⟨_, rfl, hp, _, rfl, ?_⟩))))))
  cases x with
  | int i =>
    refine iteT (w_and (w_cmp d_le (w_name 1 rfl (w_name 0 rfl ⟨_, _, rfl, rfl, _, rfl, ?_⟩))))
    have q' : Q (.bl (decide (lo ≤ i) && decide (i ≤ hi))) := q
    cases h1 : decide (lo ≤ i) with
    | true =>
      rw [h1] at q'
      exact iteT (w_one (w_cmp d_le (w_name 0 rfl (w_name 2 rfl ⟨_, _, rfl, rfl, q'⟩))))
    | false =>
      rw [h1] at q'
      exact iteF q'
  | _ => exact iteF q
def spIsArr : DSp := fun ds Q _ => ∃ x n, ds = [x, n] ∧ x.ok = true ∧ (n = .non ∨ ∃ i, n = .int i) ∧ Q (.bl (isArr x n))
theorem ok_is_arrangement {g : Gx} [BI g] (h : Has g "is_arrangement" s_is_arrangement) (g2 : FnG g "is_between" 2 spIsBetween) : FnG g "is_arrangement" 3 spIsArr := by
  refine fn_has h c_is_arrangement b_is_arrangement (fun ds Q E ⟨x, n, h, _⟩ => by rw [h]; rfl) fun ds Q E ⟨x, n, h, hok, hn, q⟩ => ?_
  subst h
  refine bl_cons (bs_if (wb_ww (ww_or (wb_not (wb_val (w_isi .tuple (w_name 0 rfl ⟨_, isA_tuple hok, _, rfl, ?_⟩)))))))
  cases x with
  | tup xs =>
    obtain ⟨hl, hokL⟩ := ok_tup hok
    refine iteF (ww_or (wb_cmp d_eq (w_len (w_name 0 rfl ⟨_, rfl, w_int ⟨_, rfl, _, rfl, ?_⟩⟩))))
    have e0 : decide ((xs.length : Int) = 0) = xs.isEmpty := by cases xs <;> simp <;> omega
    rw [e0]
    have q' : Q (.bl (!xs.isEmpty && (lenIs n xs.length && (xs.all (fun y => inside y 0 ((xs.length : Int) - 1)) && decide ((xs.map D.toI).Nodup))))) := q
    cases hE : xs.isEmpty with
    | true =>
      rw [hE] at q'
      exact iteT (iteT (bl_one (bs_ret (w_bl q'))))
    | false =>
      rw [hE] at q'
      refine iteF (ww_or1 (wb_ww (ww_and (wb_cmp d_notN (w_name 1 rfl (w_non ⟨rfl, ?_⟩))))))
      have rest : ∀ q : Q (.bl (xs.all (fun y => inside y 0 ((xs.length : Int) - 1)) && decide ((xs.map D.toI).Nodup))), BL (Ct.def g n_is_arrangement (defScope s_is_arrangement) 2 E) ((defBody s_is_arrangement).drop 1) (Γ0 n_is_arrangement [.tup xs, n]) { nx := fun _ => Q .non, rt := Q } := by
        intro q
        refine bl_cons (bs_if (wb_not (wb_val (w_all (w_map 2 (fun d e => e = .bl (inside d 0 ((xs.length : Int) - 1))) c_is_arrangement.nd (wi_tup (w_name 0 rfl ⟨_, rfl, by omega, fun d hd => ?_, fun out ho => ?_⟩)))))))
        · exact w_call g2 (wa_cons (w_name 2 rfl (wa_cons (w_int (wa_cons (w_op d_sub (w_len (w_name 0 rfl ⟨_, rfl, w_int ⟨_, _, rfl, rfl, wa_nil ⟨_, _, _, rfl, okL_mem hokL hd, rfl⟩⟩⟩))))))))
        · have e1 := All2.eq_map ho
          refine ⟨xs.map (fun y => inside y 0 ((xs.length : Int) - 1)), by rw [e1, List.map_map] <;> rfl, _, rfl, ?_⟩
          rw [List.all_map]
          have e2 : xs.all (id ∘ fun y => inside y 0 ((xs.length : Int) - 1)) = xs.all (fun y => inside y 0 ((xs.length : Int) - 1)) := rfl
          rw [e2]
          cases hA : xs.all (fun y => inside y 0 ((xs.length : Int) - 1)) with
          | false =>
            rw [hA] at q
            exact iteT (bl_one (bs_ret (w_bl q)))
          | true =>
            rw [hA] at q
            have hI := ints_of_inside hA
            refine els (bl_one (bs_ret (w_cmp d_eq (w_lenSet (w_name 0 rfl ⟨xs.map D.toI, by rw [← hI], by rw [List.length_map]; exact hl, fun z hz => w_len (w_name 0 rfl ⟨_, rfl, _, rfl, ?_⟩)⟩)))))
            have e3 : decide ((z : Int) = (xs.length : Int)) = decide ((xs.map D.toI).Nodup) := by
              rw [List.length_map] at hz
              exact decide_eq_decide.mpr (Int.ofNat_inj.trans hz)
            rw [e3]
            exact q
      rcases hn with rfl | ⟨i, rfl⟩
      · exact ⟨_, rfl, _, rfl, iteF (els (rest q'))⟩
      · refine ⟨_, rfl, _, rfl, iteT (ww_and1 (wb_cmp d_ne (w_len (w_name 0 rfl ⟨_, rfl, w_name 1 rfl ⟨_, rfl, _, rfl, ?_⟩⟩))))⟩
        have q2 : Q (.bl (true && (decide ((xs.length : Int) = i) && (xs.all (fun y => inside y 0 ((xs.length : Int) - 1)) && decide ((xs.map D.toI).Nodup))))) := q'
        cases hD : decide ((xs.length : Int) = i) with
        | false =>
          rw [hD] at q2
          exact iteT (bl_one (bs_ret (w_bl q2)))
        | true =>
          rw [hD] at q2
          exact els (rest q2)
  | _ => exact iteT (iteT (bl_one (bs_ret (w_bl q))))
def spNext : DSp := fun ds Q _ => ∃ n, ds = [.strm, .int n] ∧ 0 < n ∧ n < 1073741824 ∧ ∀ r, 0 ≤ r → r < n → Q (.int r)
theorem ok_next {g : Gx} [BI g] (h : Has g "_law_next" s__law_next) : FnG g "_law_next" 1 spNext := by
  refine fn_has h c__law_next b__law_next (fun ds Q E ⟨n, h, _⟩ => by rw [h]; rfl) fun ds Q E ⟨n, h, h1, h2, q⟩ => ?_
  subst h
  have tail : ∀ a b c, BL (Ct.def g n__law_next (defScope s__law_next) 0 E) ((defBody s__law_next).drop 1) [.val .strm, .val (.int n), a, b, c] { nx := fun _ => Q .non, rt := Q } := fun a b c => by
    refine bl_cons (bs_set 4 c__law_next.nd (w_op d_mod (w_intC (w_st1 0 rfl fun z => ⟨z, rfl, w_name 1 rfl ⟨z, n, rfl, rfl, h1, ?_⟩⟩))))
    refine bl_cons (bs_stSet 0 rfl (.inl rfl) (w_op d_fdiv (w_st1 0 rfl fun y => w_name 1 rfl ⟨y, n, rfl, rfl, ⟨h1, h2⟩, _, rfl, (fun e => by cases e), ?_⟩)))
    exact bl_one (bs_ret (w_name 4 rfl (q _ (Int.emod_nonneg z (by omega)) (Int.emod_lt_of_pos z h1))))
  refine bl_cons (bs_if (wb_cmp d_eq (w_st1 0 rfl fun z => w_int ⟨_, rfl, _, rfl, ?_⟩)))
  by_cases hz : z = 0
  · rw [decide_eq_true hz]
    refine iteT (bl_cons (bs_set 2 c__law_next.nd (w_st2 0 rfl fun k hk => bl_cons (bs_set 3 c__law_next.nd (w_op d_add (w_int (w_name 2 rfl ⟨_, _, rfl, rfl, ?_⟩)))))))
    have fin : ∀ cell : Int, BL (Ct.def g n__law_next (defScope s__law_next) 0 E) ((match defBody s__law_next with | .If _ b _ _ :: _ => b | _ => []).drop 3) [.val .strm, .val (.int n), .val (.int k), .val (.int cell), .emp] { nx := fun Γ' => BL (Ct.def g n__law_next (defScope s__law_next) 0 E) ((defBody s__law_next).drop 1) Γ' { nx := fun _ => Q .non, rt := Q }, rt := Q } := fun cell => by
      have last : ∀ cell : Int, BL (Ct.def g n__law_next (defScope s__law_next) 0 E) ((match defBody s__law_next with | .If _ b _ _ :: _ => b | _ => []).drop 4) [.val .strm, .val (.int n), .val (.int k), .val (.int cell), .emp] { nx := fun Γ' => BL (Ct.def g n__law_next (defScope s__law_next) 0 E) ((defBody s__law_next).drop 1) Γ' { nx := fun _ => Q .non, rt := Q }, rt := Q } := fun cell => by
        refine bl_cons (bs_stSet 0 rfl (.inl rfl) (w_name 3 rfl ⟨_, rfl, (fun e => by cases e), ?_⟩))
        exact bl_one (bs_stSet 0 rfl (.inr rfl) (w_op d_add (w_name 2 rfl (w_int ⟨_, _, rfl, rfl, _, rfl, (fun _ => by omega), tail _ _ _⟩))))
      refine bl_cons (bs_if (wb_cmp d_lt (w_name 3 rfl (w_op d_pow (w_int (w_int ⟨_, _, rfl, rfl, ⟨by decide, by decide, by decide⟩, _, _, rfl, rfl, _, rfl, ?_⟩))))))
      by_cases hc : cell < (10 : Int) ^ (18 : Int).toNat
      · rw [decide_eq_true hc]
        refine iteT (bl_cons (bs_set 3 c__law_next.nd ?_))
        refine w_op d_mod (w_intC (w_op d_add (w_op d_add (w_op d_mul (w_name 3 rfl (w_int ?_))))))
        refine ⟨_, _, rfl, rfl, .inr ⟨by decide, by decide⟩, ?_⟩
        refine w_op d_mul (w_name 2 rfl (w_int ?_))
        refine ⟨_, _, rfl, rfl, .inr ⟨by decide, by decide⟩, _, _, rfl, rfl, ?_⟩
        refine w_int ⟨_, _, rfl, rfl, _, rfl, ?_⟩
        refine w_int ⟨_, _, rfl, rfl, by decide, ?_⟩
        refine bl_one (bs_set 3 c__law_next.nd ?_)
        refine w_op d_add (w_op d_mul (w_op d_mod (w_intC (w_op d_add (w_op d_mul (w_name 3 rfl (w_int ?_)))))))
        refine ⟨_, _, rfl, rfl, .inr ⟨by decide, by decide⟩, ?_⟩
        refine w_int ⟨_, _, rfl, rfl, _, rfl, ?_⟩
        refine w_int ⟨_, _, rfl, rfl, by decide, ?_⟩
        refine w_int ⟨_, _, rfl, rfl, .inr ⟨by decide, by decide⟩, ?_⟩
        exact w_name 3 rfl ⟨_, _, rfl, rfl, last _⟩
      · rw [decide_eq_false hc]
        exact els (last cell)
    refine bl_cons (bs_draw 0 2 3 c__law_next.nd rfl rfl hk (fin _) fun i hi => ?_)
    refine w_op d_mulW (w_op d_mulW (w_op d_pow (w_int (w_int ?_))))
    refine ⟨_, _, rfl, rfl, ⟨by decide, by decide, by decide⟩, ?_⟩
    refine w_op d_pow (w_int (w_int ?_))
    refine ⟨_, _, rfl, rfl, ⟨by decide, by decide, by decide⟩, ?_⟩
    refine ⟨_, _, rfl, rfl, wide_mul (a := 256) (b := 256) (by decide) (by decide) (by decide) (by decide) (by decide), ?_⟩
    refine w_op d_pow (w_int (w_int ?_))
    refine ⟨_, _, rfl, rfl, ⟨by decide, by decide, by decide⟩, ?_⟩
    refine ⟨_, _, rfl, rfl, wide_mul (a := 512) (b := 256) (by decide) (by decide) (by decide) (by decide) (by decide), ?_⟩
    exact ⟨_, rfl, by decide, fin _⟩
  · rw [decide_eq_false hz]
    exact els (tail _ _ _)
theorem atI_lt {xs : List D} {r : Int} (h0 : 0 ≤ r) (h1 : r < xs.length) : ∃ d, atI xs r = some d ∧ d ∈ xs := by
  obtain ⟨n, rfl⟩ := Int.eq_ofNat_of_zero_le h0
  have hn : n < xs.length := Int.ofNat_lt.mp h1
  refine ⟨xs[n], ?_, List.getElem_mem hn⟩
  unfold L2.atI
  rw [ixN_nat hn]
  exact List.getElem?_eq_getElem hn
def spPick : DSp := fun ds Q _ => ∃ x xs, ds = [.strm, x] ∧ x.seq = some xs ∧ xs ≠ [] ∧ xs.length ≤ 4000 ∧ ∀ d ∈ xs, Q d
theorem len_seq {x : D} {xs : List D} (h : x.seq = some xs) : x.len = some xs.length := by
  cases x <;> first | (cases h; done) | (cases h; rfl)
theorem ok_pick {g : Gx} [BI g] (h : Has g "_law_pick" s__law_pick) (g1 : FnG g "_law_next" 1 spNext) : FnG g "_law_pick" 2 spPick := by
  refine fn_has h c__law_pick b__law_pick (fun ds Q E ⟨x, xs, h, _⟩ => by rw [h]; rfl) fun ds Q E ⟨x, xs, h, hs, h0, hl, q⟩ => ?_
  subst h
  have hp : 0 < xs.length := List.length_pos_iff.mpr h0
  refine bl_one (bs_ret (w_ix i_seq (w_name 1 rfl (w_call g1 (wa_cons (w_name 0 rfl (wa_cons (w_len (w_name 1 rfl ⟨_, len_seq hs, wa_nil ⟨_, rfl, by omega, by omega, fun r h1 h2 => ?_⟩⟩)))))))))
  obtain ⟨d, hd, hm⟩ := atI_lt h1 h2
  exact ⟨xs, r, d, hs, rfl, hd, q d hm⟩
def spFrom : DSp := fun ds Q _ => ∃ a b, ds = [.strm, .int a, .int b] ∧ a ≤ b ∧ b - a < 1000000000 ∧ ∀ r, a ≤ r → r ≤ b → Q (.int r)
theorem ok_from {g : Gx} [BI g] (h : Has g "_law_from" s__law_from) (g1 : FnG g "_law_next" 1 spNext) : FnG g "_law_from" 2 spFrom := by
  refine fn_has h c__law_from b__law_from (fun ds Q E ⟨x, xs, h, _⟩ => by rw [h]; rfl) fun ds Q E ⟨a, b, h, hab, hl, q⟩ => ?_
  subst h
  refine bl_one (bs_ret (w_op d_add (w_name 1 rfl (w_call g1 (wa_cons (w_name 0 rfl (wa_cons (w_op d_add (w_op d_sub (w_name 2 rfl (w_name 1 rfl ?_)))))))))))
  refine ⟨_, _, rfl, rfl, w_int ⟨_, _, rfl, rfl, ?_⟩⟩
  exact wa_nil ⟨_, rfl, by omega, by omega, fun r h1 h2 => ⟨_, _, rfl, rfl, q _ (by omega) (by omega)⟩⟩
def spShuffled : DSp := fun ds Q _ => ∃ x xs, ds = [.strm, x] ∧ x.seq = some xs ∧ xs.length ≤ 4000 ∧ ∀ ys, ys.Perm xs → Q (.lst ys)
theorem perm_erase {d : D} : ∀ {l : List D} {j : Nat}, l[j]? = some d → (d :: l.eraseIdx j).Perm l
  | [], _, h => by cases h
  | a :: l, 0, h => by cases h; exact List.Perm.refl _
  | a :: l, j + 1, h => by
    have ih := perm_erase (l := l) (j := j) (by simpa using h)
    rw [List.eraseIdx_cons_succ]
    exact (List.Perm.swap a d _).trans (ih.cons a)
theorem ok_shuffled {g : Gx} [BI g] (h : Has g "_law_shuffled" s__law_shuffled) (g1 : FnG g "_law_next" 1 spNext) : FnG g "_law_shuffled" 2 spShuffled := by
  refine fn_has h c__law_shuffled b__law_shuffled (fun ds Q E ⟨x, xs, h, _⟩ => by rw [h]; rfl) fun ds Q E ⟨x, xs, h, hs, hl, q⟩ => ?_
  subst h
  refine bl_cons (bs_setO 2 c__law_shuffled.nd (wo_callT co_list (bi "list") (wa_cons (w_name 1 rfl (wa_nil ⟨x, xs, rfl, hs, ?_⟩)))))
  refine bl_cons (bs_setO 3 c__law_shuffled.nd (wo_lst (wa_nil ⟨by decide, ?_⟩)))
  refine bl_cons (bs_for (wt_name 4 c__law_shuffled.nd) (wi_rg1 (bi "range") (w_len (w_name 1 rfl ⟨_, len_seq hs, _, rfl, by omega, by omega, ?_⟩))))
  refine ⟨fun i Γ => ∃ l f t, Γ = [.val .strm, .val x, .own l, .own f, t] ∧ (f ++ l).Perm xs ∧ f.length = i, ⟨xs, [], _, rfl, List.Perm.refl _, rfl⟩, ?_, ?_⟩
  · rintro i d Γ' hd ⟨l, f, t, rfl, hp, hf⟩
    have hi : i < xs.length := by
      have := (rg_get (n := ((xs.length : Nat) : Int).toNat) hd).1
      simpa using this
    have hlen := hp.length_eq
    rw [List.length_append] at hlen
    refine bl_one (bs_append 3 (wm_popAt 2 rfl (w_call g1 (wa_cons (w_name 0 rfl (wa_cons (w_lenO 2 rfl (wa_nil ⟨_, rfl, by omega, by omega, fun r h1 h2 => ?_⟩))))))))
    obtain ⟨j, rfl⟩ := Int.eq_ofNat_of_zero_le h1
    have hj : j < l.length := Int.ofNat_lt.mp h2
    refine ⟨j, l[j], rfl, List.getElem?_eq_getElem hj, by omega, f, rfl, by omega, _, _, _, rfl, ?_, by rw [List.length_append, hf] <;> rfl⟩
    rw [List.append_assoc]
    exact ((perm_erase (List.getElem?_eq_getElem hj)).append_left f).trans hp
  · rintro Γ' ⟨l, f, t, rfl, hp, hf⟩
    have hlen := hp.length_eq
    rw [List.length_append] at hlen
    have hf2 : f.length = xs.length := by
      rw [hf, List.length_map, List.length_range]
      simp
    have hl0 : l = [] := List.length_eq_zero_iff.mp (by omega)
    subst hl0
    rw [List.append_nil] at hp
    exact bl_freeze 3 rfl (bl_one (bs_ret (w_name 3 rfl (q f hp))))
def spNumber : DSp := fun ds Q _ => ∃ x a b, ds = [x, .int a, .int b] ∧ x.ok = true ∧ Q (.bl (inside x a b))
theorem ok_number {g : Gx} [BI g] (h : Has g "_law_number" s__law_number) : FnG g "_law_number" 1 spNumber := by
  refine fn_has h c__law_number b__law_number (fun ds Q E ⟨x, a, b, h, _⟩ => by rw [h]; rfl) fun ds Q E ⟨x, lo, hi, h, hp, q⟩ => ?_
  subst h
  refine bl_cons (bs_if (wb_ww (ww_or (wb_not (wb_val (w_isi .int (w_name 0 rfl ⟨_, isA_int hp, _, rfl, ?_⟩)))))))
  cases x with
  | int i =>
    refine iteF (ww_or1 (wb_val (w_isi .bool (w_name 0 rfl ⟨_, rfl, _, rfl, els (bl_one (bs_ret (w_and (w_cmp d_le (w_name 1 rfl (w_name 0 rfl ⟨_, _, rfl, rfl, _, rfl, ?_⟩))))))⟩))))
    have q' : Q (.bl (decide (lo ≤ i) && decide (i ≤ hi))) := q
    cases h1 : decide (lo ≤ i) with
    | true =>
      rw [h1] at q'
      exact iteT (w_one (w_cmp d_le (w_name 0 rfl (w_name 2 rfl ⟨_, _, rfl, rfl, q'⟩))))
    | false =>
      rw [h1] at q'
      exact iteF q'
  | bl b => exact iteF (ww_or1 (wb_val (w_isi .bool (w_name 0 rfl ⟨_, rfl, _, rfl, iteT (bl_one (bs_ret (w_bl q)))⟩))))
  | _ => exact iteT (iteT (bl_one (bs_ret (w_bl q))))
def spStay : DSp := fun ds Q _ => ∃ n, ds = [.int n] ∧ -100000 ≤ n ∧ n ≤ 100000 ∧ Q (.tup (rgD 0 n))
theorem ok_lawStay {g : Gx} [BI g] (h : Has g "_law_stay" s__law_stay) : FnG g "_law_stay" 1 spStay := by
  refine fn_has h c__law_stay b__law_stay (fun ds Q E ⟨n, h, _⟩ => by rw [h]; rfl) fun ds Q E ⟨n, h, h1, h2, q⟩ => ?_
  subst h
  exact bl_one (bs_ret (w_tupRg (bi "tuple") (bi "range") (w_name 0 rfl ⟨n, rfl, h1, h2, q⟩)))
theorem perm_ints {ys : List D} {ns : List Int} (h : ys.Perm (ns.map D.int)) : ∃ ms : List Int, ys = ms.map D.int ∧ ms.Perm ns := by
  have e : ∀ zs : List D, (∀ z ∈ zs, z ∈ ns.map D.int) → zs = (zs.map D.toI).map D.int := fun zs => by
    induction zs with
    | nil => exact fun _ => rfl
    | cons z zs ih =>
      intro hz
      have e1 := ih fun y hy => hz y (List.mem_cons_of_mem _ hy)
      obtain ⟨i, _, hi⟩ := List.mem_map.mp (hz z List.mem_cons_self)
      subst hi
      rw [List.map_cons, List.map_cons, ← e1] <;> rfl
  refine ⟨ys.map D.toI, e ys fun z hz => h.mem_iff.mp hz, ?_⟩
  have := h.map D.toI
  rw [List.map_map] at this
  have e2 : List.map (D.toI ∘ D.int) ns = ns := by
    rw [show (D.toI ∘ D.int) = id from rfl, List.map_id]
  rw [e2] at this
  exact this
def spAnyArr : DSp := fun ds Q _ => ∃ n, ds = [.strm, .int n] ∧ 0 ≤ n ∧ n ≤ 4000 ∧ ∀ ns : List Int, ns.Perm (rgI n) → Q (.tup (ns.map D.int))
theorem ok_any_arr {g : Gx} [BI g] (h : Has g "_law_any_arr" s__law_any_arr) (g2 : FnG g "_law_shuffled" 2 spShuffled) : FnG g "_law_any_arr" 3 spAnyArr := by
  refine fn_has h c__law_any_arr b__law_any_arr (fun ds Q E ⟨n, h, _⟩ => by rw [h]; rfl) fun ds Q E ⟨n, h, h1, h2, q⟩ => ?_
  subst h
  refine bl_one (bs_ret (w_tuple (w_call g2 (wa_cons (w_name 0 rfl (wa_cons (w_wo (wo_listRg (bi "list") (bi "range") (w_name 1 rfl ⟨n, rfl, by omega, by omega, ?_⟩)))))))))
  refine wa_nil ⟨.lst (rgD 0 n), rgD 0 n, rfl, rfl, by rw [rgD_int, List.length_map, rgI_len]; omega, fun ys hp => ⟨ys, rfl, ?_⟩⟩
  rw [rgD_int] at hp
  obtain ⟨ms, rfl, hm⟩ := perm_ints hp
  exact q ms hm
theorem all2_id {ds out : List D} (h : All2 (fun d e => e = d) ds out) : out = ds := by
  have := All2.eq_map (f := id) h
  rw [this, List.map_id]
def spCopy (k : Nat) : DSp := fun ds Q _ => ∃ x, ds = [x] ∧ x.ok = true ∧ x.dep ≤ k ∧ Q x
theorem copy_step {g : Gx} [BI g] (h : Has g "_law_copy" s__law_copy) (k : Nat) (ih : ∀ j, k = j + 1 → FnG g "_law_copy" (j + 1) (spCopy j)) : FnG g "_law_copy" (k + 1) (spCopy k) := by
  refine fn_has h c__law_copy b__law_copy (fun ds Q E ⟨x, h, _⟩ => by rw [h]; rfl) fun ds Q E ⟨x, h, hok, hd, q⟩ => ?_
  subst h
  refine bl_cons (bs_if (wb_val (w_isi .dict (w_name 0 rfl ⟨_, isA_dict hok, _, rfl, ?_⟩))))
  have lv : ∀ xs : List D, depL xs + 1 ≤ k → ∃ j, k = j + 1 ∧ depL xs ≤ j := fun xs hh => ⟨k - 1, by omega, by omega⟩
  cases x with
  | dct ks xs =>
    obtain ⟨hl, hle, hnd, hokL⟩ := ok_dctN hok
    rw [dep_dct] at hd
    obtain ⟨j, hj, hdj⟩ := lv xs hd
    have F := ih j hj
    refine iteT (bl_cons (bs_newD 1 c__law_copy.nd ?_))
    refine bl_cons (bs_forD 0 2 rfl c__law_copy.nd ⟨fun i Γ => ∃ t, Γ = [.val (.dct ks xs), .ownd (ks.take i) (xs.take i), t, .emp], ⟨_, rfl⟩, ?_, ?_⟩)
    · rintro i kk Γ' hk ⟨t, rfl⟩
      have hi : i < ks.length := (List.getElem?_eq_some_iff.mp hk).1
      obtain ⟨x, hx⟩ : ∃ x, xs[i]? = some x := ⟨_, List.getElem?_eq_getElem (by omega)⟩
      have xm := List.mem_of_getElem? hx
      refine bl_one (bs_dput 1 rfl (w_call F (wa_cons (w_dget (w_name 0 rfl (w_name 2 rfl ⟨ks, xs, kk, x, rfl, rfl, dval_at hnd hk hx, wa_nil ⟨x, rfl, okL_mem hokL xm, Nat.le_trans (depL_mem xm) hdj, w_name 2 rfl ⟨kk, rfl, by rw [List.length_take]; omega, .val (keyD kk), ?_⟩⟩⟩)))) (by show j + 1 ≤ k; omega)))
      rw [kputK_new (not_take hnd hk), kputD_new (not_take hnd hk) (by rw [List.length_take, List.length_take, hle]), ← take_get hk, ← take_get hx]
      rfl
    · rintro Γ' ⟨t, rfl⟩
      rw [List.take_length, hle, List.take_length]
      exact bl_freezeD 1 rfl (bl_one (bs_ret (w_name 1 rfl q)))
  | lst xs =>
    obtain ⟨hl, hokL⟩ := ok_lst hok
    rw [dep_lst] at hd
    obtain ⟨j, hj, hdj⟩ := lv xs hd
    have F := ih j hj
    refine els (bl_cons (bs_if (wb_val (w_isi .list (w_name 0 rfl ⟨_, rfl, _, rfl, ?_⟩)))))
    refine iteT (bl_one (bs_ret (w_map 3 (fun d e => e = d) c__law_copy.nd (wi_lst (w_name 0 rfl ⟨_, rfl, by omega, fun d hd => ?_, fun out ho => ?_⟩)))))
    · exact w_call F (wa_cons (w_name 3 rfl (wa_nil ⟨d, rfl, okL_mem hokL hd, Nat.le_trans (depL_mem hd) hdj, rfl⟩))) (by show j + 1 ≤ k; omega)
    · rw [all2_id ho]
      exact q
  | tup xs =>
    obtain ⟨hl, hokL⟩ := ok_tup hok
    rw [dep_tup] at hd
    obtain ⟨j, hj, hdj⟩ := lv xs hd
    have F := ih j hj
    refine els (bl_cons (bs_if (wb_val (w_isi .list (w_name 0 rfl ⟨_, rfl, _, rfl, ?_⟩)))))
    refine els (bl_cons (bs_if (wb_val (w_isi .tuple (w_name 0 rfl ⟨_, rfl, _, rfl, ?_⟩)))))
    refine iteT (bl_one (bs_ret (w_tuple (w_map 3 (fun d e => e = d) c__law_copy.nd (wi_tup (w_name 0 rfl ⟨_, rfl, by omega, fun d hd => ?_, fun out ho => ?_⟩))))))
    · exact w_call F (wa_cons (w_name 3 rfl (wa_nil ⟨d, rfl, okL_mem hokL hd, Nat.le_trans (depL_mem hd) hdj, rfl⟩))) (by show j + 1 ≤ k; omega)
    · rw [all2_id ho]
      exact ⟨_, rfl, q⟩
  | raw v => cases hok
  | strm => cases hok
  | _ =>
    refine els (bl_cons (bs_if (wb_val (w_isi .list (w_name 0 rfl ⟨_, rfl, _, rfl, ?_⟩)))))
    refine els (bl_cons (bs_if (wb_val (w_isi .tuple (w_name 0 rfl ⟨_, rfl, _, rfl, ?_⟩)))))
    exact els (bl_one (bs_ret (w_name 0 rfl q)))
theorem ok_copy {g : Gx} [BI g] (h : Has g "_law_copy" s__law_copy) : ∀ k : Nat, FnG g "_law_copy" (k + 1) (spCopy k)
  | 0 => copy_step h 0 fun j e => by omega
  | k + 1 => copy_step h (k + 1) fun j e => by
    have : j = k := by omega
    subst this
    exact ok_copy h j
def pair (d : D) : D := .tup [d, d]
def spSame : DSp := fun ds Q _ => ∃ x, ds = [x, x] ∧ x.ok = true ∧ x.wt ≤ 90000 ∧ Q (.bl true)
theorem sEq_self {d : D} (h : d.isI || d.isB || d.isS = true) : sEq d d = some true := by
  cases d <;> first | (exact Bool.noConfusion (show false = true from h)) | (simp [sEq])
theorem snoc_of {α : Type} {L : List α} (h : L ≠ []) : ∃ L' d, L = L' ++ [d] := by
  obtain ⟨L', d, e⟩ := (List.eq_nil_or_concat L).resolve_left h
  exact ⟨L', d, by rw [e, List.concat_eq_append]⟩
theorem rg_pairs (xs : List D) : ((List.range (xs.length : Int).toNat).map fun (i : Nat) => D.int (0 + (i : Int))).map (fun dd => pair (xs.getD dd.toI.toNat .non)) = xs.map pair := by
  rw [List.map_map]
  apply List.ext_getElem
  · simp
  · intro i h1 h2
    rw [List.length_map] at h2
    rw [List.getElem_map, List.getElem_range, List.getElem_map]
    show pair (xs.getD (0 + (i : Int)).toNat .non) = _
    rw [show (0 + (i : Int)).toNat = i by omega, List.getD_eq_getElem?_getD, List.getElem?_eq_getElem h2]
    rfl
theorem ok_same {g : Gx} [BI g] (h : Has g "_law_same" s__law_same) : FnG g "_law_same" 1 spSame := by
  refine fn_has h c__law_same b__law_same (fun ds Q E ⟨x, h, _⟩ => by rw [h]; rfl) fun ds Q E ⟨x, h, hok, hw, q⟩ => ?_
  subst h
  refine bl_cons (bs_setO 2 c__law_same.nd (wo_lst (wa_cons (w_tup (wa_cons (w_name 0 rfl (wa_cons (w_name 1 rfl (wa_nil ⟨by simp, wa_nil ⟨by simp, ?_⟩⟩)))))))))
  refine bl_cons (bs_for (wt_name 3 c__law_same.nd) (wi_rg1 (bi "range") (w_op d_pow (w_int (w_int ⟨_, _, rfl, rfl, ⟨by decide, by decide, by decide⟩, _, rfl, by decide, by decide, ?_⟩)))))
  refine ⟨fun i Γ => ∃ L t o r, Γ = [.val x, .val x, .own (L.map pair), t, o, r, .emp, .emp] ∧ okL L = true ∧ wtL L + i ≤ x.wt, ⟨[x], _, _, _, rfl, okL_of fun y hy => by rw [List.mem_singleton.mp hy]; exact hok, by rw [wtL_cons, wtL_nil]; omega⟩, ?_, ?_⟩
  · rintro i d0 Γ' hd ⟨L, t, o, r, rfl, hL, hLw⟩
    refine bl_cons (bs_if (wb_cmp d_eq (w_lenO 2 rfl (w_int ⟨_, rfl, _, rfl, ?_⟩))))
    by_cases hL0 : L = []
    · subst hL0
      exact iteT (bl_one (bs_ret (w_bl q)))
    · have hpos := List.length_pos_iff.mpr hL0
      rw [List.length_map, decide_eq_false (by omega)]
      obtain ⟨L', d, rfl⟩ : ∃ L' d, L = L' ++ [d] := snoc_of hL0
      have dok : d.ok = true := okL_mem hL (by simp)
      have hL' : okL L' = true := okL_of fun y hy => okL_mem hL (List.mem_append_left _ hy)
      rw [wtL_app, wtL_cons, wtL_nil] at hLw
      have hm : (L' ++ [d]).map pair = L'.map pair ++ [pair d] := by rw [List.map_append, List.map_singleton]
      rw [hm]
      refine els (bl_cons (bs_unpack (wt_tup2 4 5 c__law_same.nd) (wm_pop 2 rfl ⟨d, d, rfl, ?_⟩)))
      have fin : ∀ cs : List D, okL cs = true → wtL cs + 1 ≤ d.wt → ∃ L2 t2 o2 r2, [Sl.val x, .val x, .own (L'.map pair ++ cs.map pair), .val d0, .val d, .val d, .emp, .emp] = [.val x, .val x, .own (L2.map pair), t2, o2, r2, .emp, .emp] ∧ okL L2 = true ∧ wtL L2 + (i + 1) ≤ x.wt := fun cs hc hcw => by
        refine ⟨L' ++ cs, _, _, _, by rw [List.map_append], okL_of fun y hy => ?_, by rw [wtL_app]; omega⟩
        rcases List.mem_append.mp hy with h | h
        · exact okL_mem hL' h
        · exact okL_mem hc h
      have fin0 : ∃ L2 t2 o2 r2, [Sl.val x, .val x, .own (L'.map pair), .val d0, .val d, .val d, .emp, .emp] = [.val x, .val x, .own (L2.map pair), t2, o2, r2, .emp, .emp] ∧ okL L2 = true ∧ wtL L2 + (i + 1) ≤ x.wt := by
        have := fin [] (by unfold okL; rfl) (by rw [wtL_nil]; have := wt_pos d; omega)
        rw [List.map_nil, List.append_nil] at this
        exact this
      refine bl_one (bs_if (wb_ww (ww_imp (Q' := fun b => b = (d.isT || d.isL)) ?_ (fun b hb => ?_))))
      · refine ww_or (wb_val (w_isi .tuple (w_name 5 rfl ⟨_, isA_tuple dok, _, rfl, ?_⟩)))
        cases d.isT with
        | true => exact iteT rfl
        | false => exact iteF (ww_or1 (wb_val (w_isi .list (w_name 5 rfl ⟨_, isA_list dok, _, rfl, rfl⟩))))
      · subst hb
        cases hB : d.isT || d.isL with
        | true =>
          obtain ⟨xs, hs, hxok, hxl, hxw⟩ : ∃ xs, d.seq = some xs ∧ okL xs = true ∧ xs.length ≤ 4000 ∧ wtL xs + 1 ≤ d.wt := by
            cases d <;> first | (exact Bool.noConfusion (show false = true from hB)) | skip
            · exact ⟨_, rfl, (ok_tup dok).2, (ok_tup dok).1, by rw [wt_tup]; omega⟩
            · exact ⟨_, rfl, (ok_lst dok).2, (ok_lst dok).1, by rw [wt_lst]; omega⟩
          refine iteT (bl_cons (bs_if (wb_ww (ww_or (wb_cmp d_ne (w_isi .tuple (w_name 5 rfl ⟨_, isA_tuple dok, w_isi .tuple (w_name 4 rfl ⟨_, isA_tuple dok, true, by simp [sEq], _, rfl, ?_⟩)⟩)))))))
          refine iteF (ww_or (wb_cmp d_ne (w_isi .list (w_name 5 rfl ⟨_, isA_list dok, w_isi .list (w_name 4 rfl ⟨_, isA_list dok, true, by simp [sEq], _, rfl, ?_⟩)⟩))))
          refine iteF (ww_or1 (wb_cmp d_ne (w_len (w_name 4 rfl ⟨_, len_seq hs, w_len (w_name 5 rfl ⟨_, len_seq hs, true, by simp [sEq], _, rfl, ?_⟩)⟩))))
          have hll := wtL_len L'
          refine els (bl_one (bs_extend 2 rfl (wo_map 6 (fun dd e => e = pair (xs.getD dd.toI.toNat .non)) c__law_same.nd (wi_rg1 (bi "range") (w_len (w_name 5 rfl ⟨_, len_seq hs, _, rfl, by omega, by omega, by simp; omega, fun dd hdd => ?_, fun out ho => ?_⟩))))))
          · obtain ⟨i, hi, rfl⟩ := List.mem_map.mp hdd
            have hi' : i < xs.length := by simpa using hi
            have ha : atI xs (0 + (i : Int)) = some xs[i] := by
              rw [Int.zero_add]
              unfold L2.atI
              rw [ixN_nat hi']
              exact List.getElem?_eq_getElem hi'
            have hg : xs.getD (0 + (i : Int)).toNat .non = xs[i] := by
              rw [show (0 + (i : Int)).toNat = i by omega, List.getD_eq_getElem?_getD, List.getElem?_eq_getElem hi']
              rfl
            refine w_tup (wa_cons (w_ix i_seq (w_name 4 rfl (w_name 6 rfl ⟨xs, _, _, hs, rfl, ha, wa_cons (w_ix i_seq (w_name 5 rfl (w_name 6 rfl ⟨xs, _, _, hs, rfl, ha, wa_nil ⟨by simp, ?_⟩⟩)))⟩))))
            show D.tup [xs[i], xs[i]] = pair (xs.getD (0 + (i : Int)).toNat .non)
            rw [hg]
            rfl
          · have e1 := All2.eq_map ho
            rw [rg_pairs] at e1
            subst e1
            exact ⟨by rw [List.length_map, List.length_map]; omega, fin xs hxok hxw⟩
        | false =>
          refine iteF (bl_one (bs_if (wb_val (w_isi .dict (w_name 5 rfl ⟨_, isA_dict dok, _, rfl, ?_⟩)))))
          cases d with
          | tup xs => exact Bool.noConfusion (show true = false from hB)
          | lst xs => exact Bool.noConfusion (show true = false from hB)
          | raw v => cases dok
          | strm => cases dok
          | dct ks xs =>
            obtain ⟨dl, dle, dnd, dL⟩ := ok_dctN dok
            have dw : (D.dct ks xs).wt = wtL xs + 1 := wt_dct ks xs
            have hll := wtL_len L'
            refine iteT (bl_cons (bs_if (wb_ww (ww_or (wb_not (wb_val (w_isi .dict (w_name 4 rfl ⟨_, isA_dict dok, _, rfl, ?_⟩))))))))
            refine iteF (ww_or (wb_cmp d_ne (w_len (w_name 4 rfl ⟨_, rfl, w_len (w_name 5 rfl ⟨_, rfl, true, by simp [sEq], _, rfl, ?_⟩)⟩))))
            refine iteF (ww_or1 (wb_cmp d_gt (w_len (w_wo (wo_lcD 5 7 rfl c__law_same.nd (by omega) ⟨fun _ out => out = [], rfl, fun n kk out hk ho => ?_, fun out ho => ?_⟩)))))
            · have hn : n < ks.length := (List.getElem?_eq_some_iff.mp hk).1
              obtain ⟨y, hy⟩ : ∃ y, xs[n]? = some y := ⟨_, List.getElem?_eq_getElem (by omega)⟩
              refine wts_one (wb_dnotin (w_name 7 rfl (w_name 4 rfl ⟨ks, xs, kk, rfl, rfl, ?_⟩)))
              rw [dval_at dnd hk hy]
              exact iteF ho
            · subst ho
              refine ⟨_, rfl, w_int ⟨_, _, rfl, rfl, _, rfl, ?_⟩⟩
              refine els (bl_one (bs_extend 2 rfl (wo_lcD 5 7 rfl c__law_same.nd (by omega) ⟨fun n out => out = (xs.take n).map pair, rfl, fun n kk out hk ho => ?_, fun out ho => ?_⟩)))
              · have hn : n < ks.length := (List.getElem?_eq_some_iff.mp hk).1
                obtain ⟨y, hy⟩ : ∃ y, xs[n]? = some y := ⟨_, List.getElem?_eq_getElem (by omega)⟩
                have hd := dval_at dnd hk hy
                refine wts_nil (iteT (w_tup (wa_cons (w_dget (w_name 4 rfl (w_name 7 rfl ⟨ks, xs, kk, y, rfl, rfl, hd, wa_cons (w_dget (w_name 5 rfl (w_name 7 rfl ⟨ks, xs, kk, y, rfl, rfl, hd, wa_nil ⟨by simp, ?_⟩⟩)))⟩))))))
                show out ++ [D.tup [y, y]] = (xs.take (n + 1)).map pair
                rw [ho, take_get hy, List.map_append]
                rfl
              · rw [dle, List.take_length] at ho
                subst ho
                exact ⟨by rw [List.length_map, List.length_map]; omega, fin xs dL (by omega)⟩
          | str s =>
            refine iteF (bl_one (bs_if (wb_ww (ww_or (wb_val (w_isi .bool (w_name 5 rfl ⟨_, rfl, _, rfl, ?_⟩)))))))
            refine iteF (ww_or1 (wb_val (w_isi .str (w_name 5 rfl ⟨_, rfl, _, rfl, ?_⟩))))
            refine iteT (bl_one (bs_if (wb_ww (ww_or (wb_cmp d_ne (w_isi .bool (w_name 4 rfl ⟨_, rfl, w_isi .bool (w_name 5 rfl ⟨_, rfl, true, rfl, _, rfl, ?_⟩)⟩)))))))
            refine iteF (ww_or (wb_cmp d_ne (w_isi .str (w_name 4 rfl ⟨_, rfl, w_isi .str (w_name 5 rfl ⟨_, rfl, true, rfl, _, rfl, ?_⟩)⟩))))
            exact iteF (ww_or1 (wb_cmp d_ne (w_name 4 rfl (w_name 5 rfl ⟨true, sEq_self rfl, _, rfl, els fin0⟩))))
          | bl b =>
            refine iteF (bl_one (bs_if (wb_ww (ww_or (wb_val (w_isi .bool (w_name 5 rfl ⟨_, rfl, _, rfl, ?_⟩)))))))
            refine iteT (iteT (bl_one (bs_if (wb_ww (ww_or (wb_cmp d_ne (w_isi .bool (w_name 4 rfl ⟨_, rfl, w_isi .bool (w_name 5 rfl ⟨_, rfl, true, rfl, _, rfl, ?_⟩)⟩))))))))
            refine iteF (ww_or (wb_cmp d_ne (w_isi .str (w_name 4 rfl ⟨_, rfl, w_isi .str (w_name 5 rfl ⟨_, rfl, true, rfl, _, rfl, ?_⟩)⟩))))
            exact iteF (ww_or1 (wb_cmp d_ne (w_name 4 rfl (w_name 5 rfl ⟨true, sEq_self rfl, _, rfl, els fin0⟩))))
          | int n =>
            refine iteF (bl_one (bs_if (wb_ww (ww_or (wb_val (w_isi .bool (w_name 5 rfl ⟨_, rfl, _, rfl, ?_⟩)))))))
            refine iteF (ww_or1 (wb_val (w_isi .str (w_name 5 rfl ⟨_, rfl, _, rfl, ?_⟩))))
            refine iteF (bl_one (bs_if (wb_val (w_isi .int (w_name 5 rfl ⟨_, rfl, _, rfl, ?_⟩)))))
            refine iteT (bl_one (bs_if (wb_ww (ww_or (wb_not (wb_val (w_isi .int (w_name 4 rfl ⟨_, rfl, _, rfl, ?_⟩))))))))
            refine iteF (ww_or (wb_val (w_isi .bool (w_name 4 rfl ⟨_, rfl, _, rfl, ?_⟩))))
            exact iteF (ww_or1 (wb_cmp d_ne (w_name 4 rfl (w_name 5 rfl ⟨true, sEq_self rfl, _, rfl, els fin0⟩))))
          | non =>
            refine iteF (bl_one (bs_if (wb_ww (ww_or (wb_val (w_isi .bool (w_name 5 rfl ⟨_, rfl, _, rfl, ?_⟩)))))))
            refine iteF (ww_or1 (wb_val (w_isi .str (w_name 5 rfl ⟨_, rfl, _, rfl, ?_⟩))))
            refine iteF (bl_one (bs_if (wb_val (w_isi .int (w_name 5 rfl ⟨_, rfl, _, rfl, ?_⟩)))))
            exact iteF (bl_one (bs_if (wb_cmp d_notN (w_name 4 rfl (w_non ⟨rfl, true, rfl, _, rfl, els fin0⟩)))))
  · rintro Γ' ⟨L, t, o, r, rfl, hL, hLw⟩
    rw [List.length_map, List.length_range] at hLw
    have : 90001 ≤ ((10 : Int) ^ (9 : Int).toNat).toNat := by decide
    omega
def spNamed : HSp := fun a z ds Q => ds = [.raw (.ref a)] ∧ z.name ∈ exLeaf ∧ Q (.str z.name)
theorem ok_named {g : Gx} [BI g] [XW g] (h : Has g "_law_named" s__law_named) : FnX g "_law_named" 1 spNamed := by
  refine fnX_has h c__law_named b__law_named (fun a z ds Q ⟨h, _⟩ => by rw [h]; rfl) fun a z ds Q ⟨h, hz, q⟩ => ?_
  subst h
  have hz' := leaf_sub hz
  obtain ⟨f1, f2, f3, f4⟩ := ex_facts z.name hz
  have hb : fvs ((exBits z.name).map D.bl) = some ((exBits z.name).map V.bl) := fvs_bl _
  have is : ∀ {Γ : Gm} {y : Str} {p p1 p2 pos : Pos} {Q : D → Prop}, Γ[0]? = some (.val (.raw (.ref a))) → y ∈ exNames → (defScope s__law_named).names.lookup y = some .globalImplicit → (y == ("__debug__" : Str)) = false → Q (.bl (exSub z.name y)) → Wv (Ct.defX g n__law_named (defScope s__law_named) 0 a z) (.Call (.Name "isinstance" p) [.Name "error" p1, .Name y p2] [] pos) Γ Q := fun h0 hy hg hd q =>
    w_isX 0 rfl hz' h0 hy q rfl (Or.inl rfl) (by decide) (by decide) rfl hg hd
  refine bl_cons (bs_set 1 c__law_named.nd (w_str ?_))
  refine bl_cons (bs_set 2 c__law_named.nd (w_lst ?_))
  refine wa_cons (is rfl (by decide +kernel) rfl (by decide) ?_)
  refine wa_cons (is rfl (by decide +kernel) rfl (by decide) ?_)
  refine wa_cons (is rfl (by decide +kernel) rfl (by decide) ?_)
  refine wa_cons (is rfl (by decide +kernel) rfl (by decide) ?_)
  refine wa_cons (is rfl (by decide +kernel) rfl (by decide) (wa_nil ⟨by simp, ?_⟩))
  refine bl_cons (bs_set 2 c__law_named.nd (w_wo (wo_op d_addL (w_name 2 rfl (w_lst ?_)))))
  refine wa_cons (is rfl (by decide +kernel) rfl (by decide) ?_)
  refine wa_cons (is rfl (by decide +kernel) rfl (by decide) ?_)
  refine wa_cons (is rfl (by decide +kernel) rfl (by decide) ?_)
  refine wa_cons (is rfl (by decide +kernel) rfl (by decide) ?_)
  refine wa_cons (is rfl (by decide +kernel) rfl (by decide) (wa_nil ⟨by simp, _, _, rfl, rfl, by simp, ?_⟩))
  refine bl_cons (bs_set 2 c__law_named.nd (w_wo (wo_op d_addL (w_name 2 rfl (w_lst ?_)))))
  refine wa_cons (is rfl (by decide +kernel) rfl (by decide) ?_)
  refine wa_cons (is rfl (by decide +kernel) rfl (by decide) ?_)
  refine wa_cons (is rfl (by decide +kernel) rfl (by decide) ?_)
  refine wa_cons (is rfl (by decide +kernel) rfl (by decide) (wa_nil ⟨by simp, _, _, rfl, rfl, by simp, ?_⟩))
  refine bl_cons (bs_set 2 c__law_named.nd (w_wo (wo_op d_addL (w_name 2 rfl (w_lst ?_)))))
  refine wa_cons (is rfl (by decide +kernel) rfl (by decide) ?_)
  refine wa_cons (is rfl (by decide +kernel) rfl (by decide) (wa_nil ⟨by simp, _, _, rfl, rfl, by simp, ?_⟩))
  refine bl_cons (bs_if (wb_ww (ww_or (wb_cmp d_ne (w_count (w_name 2 rfl ⟨(exBits z.name).map D.bl, rfl, wa_cons (w_bl (wa_nil ⟨_, _, _, rfl, rfl, hb, ?_⟩))⟩))))))
  rw [f1]
  refine w_int ⟨_, rfl, _, rfl, iteF (ww_or (wb_not (wb_val (is rfl (by decide +kernel) rfl (by decide) ⟨_, rfl, ?_⟩))))⟩
  have hr : exSub z.name "RoomError" = true := by unfold exSub; rw [decide_eq_true (rfl : ("RoomError" : Str) = "RoomError"), Bool.or_true]
  rw [hr]
  refine iteF (ww_or1 (wb_not (wb_val (w_isVE 0 rfl hz' rfl (bi "ValueError") ⟨_, rfl, ?_⟩))))
  refine els (bl_one (bs_ret (w_ix i_lst (w_split (w_name 1 rfl ⟨exText, rfl, wa_cons (w_str (wa_nil ⟨_, rfl, by decide, by decide, ?_⟩))⟩)))))
  refine w_index (w_name 2 rfl ⟨(exBits z.name).map D.bl, rfl, wa_cons (w_bl (wa_nil ⟨_, _, _, exIdx z.name, _, rfl, rfl, hb, f2, rfl, fun i z' hi hz1 => ?_, ?_⟩))⟩)
  · rw [f3 i hi] at hz1
    cases hz1
    rfl
  · rw [ex_split]
    have hlt : exIdx z.name < (exLeaf.map D.str).length := by rw [List.length_map]; exact (List.getElem?_eq_some_iff.mp f4).1
    refine ⟨_, _, .str z.name, rfl, rfl, ?_, q⟩
    unfold L2.atI
    rw [ixN_nat hlt]
    show (exLeaf.map D.str)[exIdx z.name]? = _
    rw [List.getElem?_map, f4] <;> rfl
theorem map_zero {vs : List D} (h : ([] : List Str).map (fun _ => (none : Option D)) = vs.map some) : vs = [] := by
  cases vs with
  | nil => rfl
  | cons v vs => cases h
theorem map_one {g : Str → Option D} {f : Str} {vs : List D} (h : [f].map g = vs.map some) : ∃ v, vs = [v] ∧ g f = some v := by
  cases vs with
  | nil => cases h
  | cons v vs =>
    have h1 : g f = some v := (List.cons.inj h).1
    have h2 : ([] : List (Option D)) = vs.map some := (List.cons.inj h).2
    cases vs with
    | nil => exact ⟨v, rfl, h1⟩
    | cons u us => cases h2
theorem map_two {g : Str → Option D} {f f2 : Str} {vs : List D} (h : [f, f2].map g = vs.map some) : ∃ v u, vs = [v, u] ∧ g f = some v ∧ g f2 = some u := by
  cases vs with
  | nil => cases h
  | cons v vs =>
    have h1 : g f = some v := (List.cons.inj h).1
    have h2 : [f2].map g = vs.map some := (List.cons.inj h).2
    obtain ⟨u, rfl, hu⟩ := map_one h2
    exact ⟨v, u, rfl, h1, hu⟩
def spAttr : HSp := fun a z ds Q => ds = [.raw (.ref a), .str z.name] ∧ z.name ∈ exLeaf ∧ ∃ vs : List D, (exFields z.name).map (fun f => z.flds.lookup f) = vs.map some ∧ Q (.tup vs)
theorem ok_attr {g : Gx} [BI g] [XW g] (h : Has g "_law_attributes" s__law_attributes) : FnX g "_law_attributes" 1 spAttr := by
  refine fnX_has h c__law_attributes b__law_attributes (fun a z ds Q ⟨h, _⟩ => by rw [h]; rfl) fun a z ds Q ⟨h, hz, vs, hv, q⟩ => ?_
  subst h
  have hz' := leaf_sub hz
  have one : ∀ {Γ : Gm} {f : Str} {p1 pos : Pos} {kk : Nat} {pos' : Pos}, Γ[0]? = some (.val (.raw (.ref a))) → f ∈ exFlds → exFields z.name = [f] → Wv (Ct.defX g n__law_attributes (defScope s__law_attributes) 0 a z) (.Tuple [.Attribute (.Name "e" p1) f pos] kk pos') Γ Q := fun {Γ f p1 pos kk pos'} h0 hf he => by
    rw [he] at hv
    obtain ⟨v, rfl, hv2⟩ := map_one hv
    exact w_tup (wa_cons (w_fld 0 rfl hz' h0 hf hv2 (wa_nil ⟨by simp, q⟩)))
  have name_is : ∀ {Γ : Gm} {s : Str} {p : Pos} {j : Nat} {p2 pos : Pos} {Q : Bool → Prop}, Γ[1]? = some (.val (.str z.name)) → Q (decide (z.name = s)) → WB (Ct.defX g n__law_attributes (defScope s__law_attributes) 0 a z) (.Compare (.Name "name" p) [.Eq] [.Constant (.str s) j p2] pos) Γ Q := fun h1 q => wb_cmp d_eq (w_name 1 h1 (w_str ⟨_, rfl, _, rfl, q⟩))
  refine bl_cons (bs_if (name_is rfl ?_))
  by_cases h1 : z.name = "BadRoom"
  · rw [decide_eq_true h1]
    exact iteT (bl_one (bs_ret (one rfl (by decide +kernel) (by rw [h1]; decide +kernel))))
  rw [decide_eq_false h1]
  refine els (bl_cons (bs_if (wb_cmp d_in (w_name 1 rfl (w_tup (wa_cons (w_str (wa_cons (w_str (wa_cons (w_str (wa_nil ⟨by simp, _, _, _, rfl, rfl, rfl, _, rfl, ?_⟩))))))))))))
  have in3 : ∀ a b c : Str, inV (.str z.name) [.str a, .str b, .str c] = (decide (z.name = a) || (decide (z.name = b) || decide (z.name = c))) := fun a b c => by
    have e : ∀ u : Str, eqV (.str u) (.str z.name) = decide (z.name = u) := fun u => by
      show (u == z.name) = _
      exact Bool.eq_iff_iff.mpr ⟨fun h => decide_eq_true (eq_of_beq h).symm, fun h => by rw [of_decide_eq_true h]; exact beq_self_eq_true _⟩
    show (eqV (.str a) (.str z.name) || (eqV (.str b) (.str z.name) || (eqV (.str c) (.str z.name) || false))) = _
    rw [e, e, e, Bool.or_false]
  rw [in3]
  by_cases h2 : z.name = "BadArrangement" ∨ z.name = "BadThing" ∨ z.name = "BadValue"
  · have e : (decide (z.name = "BadArrangement") || (decide (z.name = "BadThing") || decide (z.name = "BadValue"))) = true := by
      rcases h2 with h | h | h <;> rw [h] <;> decide +kernel
    rw [e]
    exact iteT (bl_one (bs_ret (one rfl (by decide +kernel) (by rcases h2 with h | h | h <;> rw [h] <;> decide +kernel))))
  have n2 := not_or.mp h2
  have n2b := not_or.mp n2.2
  rw [decide_eq_false n2.1, decide_eq_false n2b.1, decide_eq_false n2b.2]
  refine els (bl_cons (bs_if (name_is rfl ?_)))
  by_cases h3 : z.name = "BadWay"
  · rw [decide_eq_true h3]
    exact iteT (bl_one (bs_ret (one rfl (by decide +kernel) (by rw [h3]; decide +kernel))))
  rw [decide_eq_false h3]
  refine els (bl_cons (bs_if (name_is rfl ?_)))
  by_cases h4 : z.name = "BadShape"
  · rw [decide_eq_true h4]
    exact iteT (bl_one (bs_ret (one rfl (by decide +kernel) (by rw [h4]; decide +kernel))))
  rw [decide_eq_false h4]
  refine els (bl_cons (bs_if (wb_cmp d_in (w_name 1 rfl (w_tup (wa_cons (w_str (wa_cons (w_str (wa_cons (w_str (wa_nil ⟨by simp, _, _, _, rfl, rfl, rfl, _, rfl, ?_⟩))))))))))))
  rw [in3]
  by_cases h5 : z.name = "BadRules" ∨ z.name = "BadMove" ∨ z.name = "TooMany"
  · have e : (decide (z.name = "BadRules") || (decide (z.name = "BadMove") || decide (z.name = "TooMany"))) = true := by
      rcases h5 with h | h | h <;> rw [h] <;> decide +kernel
    rw [e]
    exact iteT (bl_one (bs_ret (one rfl (by decide +kernel) (by rcases h5 with h | h | h <;> rw [h] <;> decide +kernel))))
  have n5 := not_or.mp h5
  have n5b := not_or.mp n5.2
  rw [decide_eq_false n5.1, decide_eq_false n5b.1, decide_eq_false n5b.2]
  refine els (bl_one (bs_ret (w_if (name_is rfl ?_))))
  by_cases h6 : z.name = "BadText"
  · rw [decide_eq_true h6]
    have he : exFields z.name = (["line", "column"] : List Str) := by rw [h6]; decide +kernel
    rw [he] at hv
    obtain ⟨v, u, rfl, hv2, hv3⟩ := map_two hv
    exact iteT (w_tup (wa_cons (w_fld 0 rfl hz' rfl (by decide +kernel) hv2 (wa_cons (w_fld 0 rfl hz' rfl (by decide +kernel) hv3 (wa_nil ⟨by simp, q⟩))))))
  · rw [decide_eq_false h6]
    have he : exFields z.name = [] := by
      unfold exFields
      rw [if_neg h1, if_neg h2, if_neg h3, if_neg h4, if_neg h5, if_neg h6]
    rw [he] at hv
    obtain rfl := map_zero hv
    exact iteF (w_tup (wa_nil ⟨by simp, q⟩))
theorem leafBR : ("BadRoom" : Str) ∈ exLeaf := by decide +kernel
theorem lookup_self (k : Str) (v : D) : ([(k, v)] : List (Str × D)).lookup k = some v := by simp [List.lookup]
def exCt (nm : Str) : Option Bool := if nm ∈ exNames then some true else none
def spStream (K : PySem.W.Frag) : Sp := fun vs H Q _ => ∃ (p : Addr) (xs : List V), vs = [.ref p] ∧ SqL K H p xs ∧ ∀ a s, H a = none → upd H a (.lst xs) s = none → Q (.ref s) (upd (upd H a (.lst xs)) s (.lst [.ref a, .int 0, .int 0]))
theorem ok_stream {P : Program} {w : World} {K : PySem.W.Frag} {mg : Str → Option Value} {base : Heap} {f : Addr} {fd : FuncData} (F : FunD K "_law_stream" "_law_stream" (defArgs s__law_stream) (defBody s__law_stream) (defScope s__law_stream) [] [] f fd) (hm : mg "list" = none) :
    FnOk P w K mg base (L2.CX P w) 1 f fd ["script"] (spStream K) := by
  refine F.ok c__law_stream (fun vs H Q E ⟨p, xs, e, _⟩ => by rw [e]; rfl) fun cdv A outer s H vs Q E hr ⟨p, xs, e, hs, q⟩ => ?_
  subst e
  refine ⟨_, pss_one (ps_ret (pe_lst (pa_cons (pe_callTy call_list_of rfl hm (by decide +kernel) (pa_cons (pe_var (i := 0) rfl (Or.inl rfl) (by decide) (by decide)) pa_nil rfl)) (pa_cons pe_int (pa_cons pe_int pa_nil rfl) rfl) rfl))), ?_⟩
  exact ⟨.ref p, rfl, p, xs, rfl, .inl hs, fun a ha => ⟨by show 3 ≤ sizeLine; rw [sizeLine_eq]; omega, fun s hs2 => q a s ha hs2⟩⟩
end K3
set_option Elab.async false
set_option linter.all false
set_option maxRecDepth 100000
set_option maxHeartbeats 4000000
namespace K3
open PySem PySem.Spec PyProof.Rows L2 Evl WL
def spMul : DSp := fun ds Q _ => ∃ (n : Nat) (p q : Nat → Nat), ds = [arrD n p, arrD n q] ∧ n ≤ 4000 ∧ (∀ i, i < n → p i < n) ∧ Q (arrD n fun i => q (p i))
theorem ok_mul {g : Gx} [BI g] (h : Has g "mul" s_mul) : FnG g "mul" 1 spMul := by
  refine fn_has h c_mul b_mul (fun ds Q E ⟨n, p, q, h, _⟩ => by rw [h]; rfl) fun ds Q E ⟨n, p, q, h, hn, hp, q1⟩ => ?_
  subst h
  refine bl_one (bs_ret (w_tuple (w_map 2 (fun (d e : D) => e = D.int (q d.toI.toNat : Int)) c_mul.nd (wi_tup (w_name 0 rfl ⟨_, rfl, by rw [arrL_len] <;> omega, fun d hd => ?_, fun out ho => ?_⟩)))))
  · obtain ⟨i, hi, rfl⟩ := arrL_mem hd
    exact w_ix i_tup (w_name 1 rfl (w_name 2 rfl ⟨_, _, _, rfl, rfl, arr_at (hp i hi), rfl⟩))
  · exact ⟨_, rfl, by rw [map_arr ho] <;> exact q1⟩
theorem ok_lmul {g : Gx} [BI g] (h : Has g "_law_mul" s__law_mul) : FnG g "_law_mul" 1 spMul := by
  refine fn_has h c__law_mul b__law_mul (fun ds Q E ⟨n, p, q, h, _⟩ => by rw [h]; rfl) fun ds Q E ⟨n, p, q, h, hn, hp, q1⟩ => ?_
  subst h
  refine bl_one (bs_ret (w_tuple (w_map 2 (fun (d e : D) => e = D.int (q d.toI.toNat : Int)) c__law_mul.nd (wi_tup (w_name 0 rfl ⟨_, rfl, by rw [arrL_len] <;> omega, fun d hd => ?_, fun out ho => ?_⟩)))))
  · obtain ⟨i, hi, rfl⟩ := arrL_mem hd
    exact w_ix i_tup (w_name 1 rfl (w_name 2 rfl ⟨_, _, _, rfl, rfl, arr_at (hp i hi), rfl⟩))
  · exact ⟨_, rfl, by rw [map_arr ho] <;> exact q1⟩
theorem len_arr (n : Nat) (f : Nat → Nat) : (arrD n f).len = some n := by
  unfold arrD
  show some (_ : List D).length = _
  rw [arrL_len]
def spInv : DSp := fun ds Q _ => ∃ (n : Nat) (p : Nat → Nat), ds = [arrD n p] ∧ n ≤ 4000 ∧ PermOn n p ∧ Q (arrD n (backF n p))
theorem ok_inv {g : Gx} [BI g] (h : Has g "inv" s_inv) : FnG g "inv" 1 spInv := by
  refine fn_has h c_inv b_inv (fun ds Q E ⟨n, p, h, _⟩ => by rw [h]; rfl) fun ds Q E ⟨n, p, h, hn, hp, q⟩ => ?_
  subst h
  refine bl_cons (bs_setO 1 c_inv.nd (wo_op d_repL (w_lst (wa_cons (w_int (wa_nil ⟨by decide, w_len (w_name 0 rfl ⟨_, len_arr n p, _, _, rfl, rfl, by omega, by omega, by simp <;> omega, ?_⟩)⟩))))))
  rw [Int.toNat_natCast, tab_rep, ← scat_0 (m := p) fun i => D.int (i : Int)]
  refine bl_cons (bs_for (wt_tup2 2 3 c_inv.nd) (wi_enumT (w_name 0 rfl ⟨_, rfl, fun i Γ => ∃ a b, Γ = [.val (arrD n p), .own (scat n p (fun i => .int (i : Int)) i), a, b], ⟨_, _, rfl⟩, ?_, ?_⟩)))
  · rintro i d Γ' hd ⟨a, b, rfl⟩
    rw [List.getElem?_map, arrL_len] at hd
    by_cases hi : i < n
    · rw [List.getElem?_range hi] at hd
      cases hd
      refine ⟨_, _, rfl, ?_⟩
      have e : ((arrI n p).map D.int).getD i D.non = .int (p i : Int) := by rw [List.getD_eq_getElem?_getD, arrL_get hi]; rfl
      rw [e]
      refine bl_one (bs_setAt 1 rfl (w_name 2 rfl (w_name 3 rfl ⟨_, p i, rfl, tab_ix (hp.1 i hi), ?_⟩)))
      have e2 := scat_set hp (fun i => D.int (i : Int)) hi
      exact ⟨_, _, by rw [← e2] <;> rfl⟩
    · rw [List.getElem?_eq_none (by rw [List.length_range]; omega)] at hd
      cases hd
  · rintro Γ' ⟨a, b, rfl⟩
    rw [List.length_map, List.length_range, arrL_len, scat_n hp]
    refine bl_freeze 1 rfl (bl_one (bs_ret (w_tuple (w_name 1 rfl ⟨_, rfl, ?_⟩))))
    rw [← arr_tab]
    exact q
theorem ok_linv {g : Gx} [BI g] (h : Has g "_law_inv" s__law_inv) : FnG g "_law_inv" 1 spInv := by
  refine fn_has h c__law_inv b__law_inv (fun ds Q E ⟨n, p, h, _⟩ => by rw [h]; rfl) fun ds Q E ⟨n, p, h, hn, hp, q⟩ => ?_
  subst h
  refine bl_cons (bs_setO 1 c__law_inv.nd (wo_op d_repL (w_lst (wa_cons (w_int (wa_nil ⟨by decide, w_len (w_name 0 rfl ⟨_, len_arr n p, _, _, rfl, rfl, by omega, by omega, by simp <;> omega, ?_⟩)⟩))))))
  rw [Int.toNat_natCast, tab_rep, ← scat_0 (m := p) fun i => D.int (i : Int)]
  refine bl_cons (bs_for (wt_name 2 c__law_inv.nd) (wi_rg1 (bi "range") (w_len (w_name 0 rfl ⟨_, len_arr n p, _, rfl, by omega, by omega, ?_⟩))))
  refine ⟨fun i Γ => ∃ a, Γ = [.val (arrD n p), .own (scat n p (fun i => .int (i : Int)) i), a], ⟨_, rfl⟩, ?_, ?_⟩
  · rintro i d Γ' hd ⟨a, rfl⟩
    obtain ⟨hi, rfl⟩ := rg_get hd
    rw [Int.toNat_natCast] at hi
    rw [Int.zero_add]
    refine bl_one (bs_setAt 1 rfl (w_name 2 rfl (w_ix i_tup (w_name 0 rfl (w_name 2 rfl ⟨_, _, _, rfl, rfl, arr_at hi, _, p i, rfl, tab_ix (hp.1 i hi), ?_⟩)))))
    have e2 := scat_set hp (fun i => D.int (i : Int)) hi
    exact ⟨_, by rw [← e2] <;> rfl⟩
  · rintro Γ' ⟨a, rfl⟩
    rw [List.length_map, List.length_range, Int.toNat_natCast, scat_n hp]
    refine bl_freeze 1 rfl (bl_one (bs_ret (w_tuple (w_name 1 rfl ⟨_, rfl, ?_⟩))))
    rw [← arr_tab]
    exact q
def spConj : DSp := fun ds Q _ => ∃ (n : Nat) (p m : Nat → Nat), ds = [arrD n p, arrD n m] ∧ n ≤ 4000 ∧ (∀ i, i < n → p i < n) ∧ PermOn n m ∧ Q (arrD n fun y => m (p (backF n m y)))
theorem ok_conj {g : Gx} [BI g] (h : Has g "_law_conj" s__law_conj) : FnG g "_law_conj" 1 spConj := by
  refine fn_has h c__law_conj b__law_conj (fun ds Q E ⟨n, p, m, h, _⟩ => by rw [h]; rfl) fun ds Q E ⟨n, p, m, h, hn, hp, hm, q⟩ => ?_
  subst h
  refine bl_cons (bs_setO 2 c__law_conj.nd (wo_op d_repL (w_lst (wa_cons (w_int (wa_nil ⟨by decide, w_len (w_name 0 rfl ⟨_, len_arr n p, _, _, rfl, rfl, by omega, by omega, by simp <;> omega, ?_⟩)⟩))))))
  rw [Int.toNat_natCast, tab_rep, ← scat_0 (m := m) fun i => D.int (m (p i) : Int)]
  refine bl_cons (bs_for (wt_name 3 c__law_conj.nd) (wi_rg1 (bi "range") (w_len (w_name 0 rfl ⟨_, len_arr n p, _, rfl, by omega, by omega, ?_⟩))))
  refine ⟨fun i Γ => ∃ a, Γ = [.val (arrD n p), .val (arrD n m), .own (scat n m (fun i => .int (m (p i) : Int)) i), a], ⟨_, rfl⟩, ?_, ?_⟩
  · rintro i d Γ' hd ⟨a, rfl⟩
    obtain ⟨hi, rfl⟩ := rg_get hd
    rw [Int.toNat_natCast] at hi
    rw [Int.zero_add]
    refine bl_one (bs_setAt 2 rfl (w_ix i_tup (w_name 1 rfl (w_ix i_tup (w_name 0 rfl (w_name 3 rfl ⟨_, _, _, rfl, rfl, arr_at hi, _, _, _, rfl, rfl, arr_at (hp i hi), ?_⟩))))))
    refine w_ix i_tup (w_name 1 rfl (w_name 3 rfl ⟨_, _, _, rfl, rfl, arr_at hi, _, m i, rfl, tab_ix (hm.1 i hi), ?_⟩))
    have e2 := scat_set hm (fun i => D.int (m (p i) : Int)) hi
    exact ⟨_, by rw [← e2] <;> rfl⟩
  · rintro Γ' ⟨a, rfl⟩
    rw [List.length_map, List.length_range, Int.toNat_natCast, scat_n hm]
    refine bl_freeze 2 rfl (bl_one (bs_ret (w_tuple (w_name 2 rfl ⟨_, rfl, ?_⟩))))
    rw [← arr_tab n fun y => m (p (backF n m y))]
    exact q
end K3
set_option Elab.async false
set_option linter.all false
set_option maxRecDepth 100000
set_option maxHeartbeats 4000000
namespace K3
open PySem PySem.Spec PyProof.Rows L2 Evl WL
theorem ok_stay {g : Gx} [BI g] (h : Has g "stay" s_stay) : FnG g "stay" 1 spStay := by
  refine fn_has h c_stay b_stay (fun ds Q E ⟨n, h, _⟩ => by rw [h]; rfl) fun ds Q E ⟨n, h, h1, h2, q⟩ => ?_
  subst h
  exact bl_one (bs_ret (w_tupRg (bi "tuple") (bi "range") (w_name 0 rfl ⟨n, rfl, h1, h2, q⟩)))
def spWrongKey : DSp := fun ds Q _ => ∃ x, ds = [x] ∧ x.ok = true ∧ Q (wrongK x)
theorem ok_wrong_key {g : Gx} [BI g] (h : Has g "wrong_key" s_wrong_key) (mp : ConI g "MOST_PLACES" 16) (mm : ConI g "MOST_MOVES" 28) (g2 : FnG g "is_between" 2 spIsBetween) (g3 : FnG g "is_arrangement" 3 spIsArr) : FnG g "wrong_key" 4 spWrongKey := by
  refine fn_has h c_wrong_key b_wrong_key (fun ds Q E ⟨x, h, _⟩ => by rw [h]; rfl) fun ds Q E ⟨x, h, hok, q⟩ => ?_
  subst h
  refine bl_cons (bs_if (wb_ww (ww_or (wb_not (wb_val (w_isi .dict (w_name 0 rfl ⟨_, isA_dict hok, _, rfl, ?_⟩)))))))
  cases x with
  | dct ks xs =>
    obtain ⟨hl, hle, hokL⟩ := ok_dct hok
    refine iteF (ww_or (wb_cmp d_ne (w_len (w_name 0 rfl ⟨_, rfl, w_int ⟨_, rfl, _, rfl, ?_⟩⟩))))
    by_cases h2 : ks.length = 2
    · have e2 : (!decide ((ks.length : Int) = 2)) = false := by rw [h2] <;> rfl
      rw [e2]
      refine iteF (ww_or1 (wb_not (wb_val (w_all (w_map 3 (fun d e => e = .bl (hasD ks xs d)) c_wrong_key.nd (wi_tup (w_tup (wa_cons (w_str (wa_cons (w_str (wa_nil ⟨by decide, _, rfl, by decide, fun d hd => ?_, fun out ho => ?_⟩)))))))))))) 
      · have hs : ∃ s, d = .str s := by
          rcases List.mem_cons.mp hd with e | hd
          · exact ⟨_, e⟩
          · rcases List.mem_cons.mp hd with e | hd
            · exact ⟨_, e⟩
            · cases hd
        obtain ⟨s, rfl⟩ := hs
        exact w_din (w_name 3 rfl (w_name 0 rfl ⟨ks, xs, .inr s, rfl, rfl, rfl⟩))
      · have e1 := All2.eq_map ho
        refine ⟨[hasD ks xs (.str "places"), hasD ks xs (.str "moves")], by rw [e1] <;> rfl, _, rfl, ?_⟩
        show if (!([(dval ks xs kPl).isSome, (dval ks xs kMv).isSome].all id)) = true then _ else _
        cases hp : dval ks xs kPl with
        | none =>
          refine iteT (bl_one (bs_ret (w_str ?_)))
          have : wrongK (.dct ks xs) = .str "room" := by simp only [wrongK, hp]
          rw [this] at q
          exact q
        | some n =>
          cases hm : dval ks xs kMv with
          | none =>
            refine iteT (bl_one (bs_ret (w_str ?_)))
            have : wrongK (.dct ks xs) = .str "room" := by simp only [wrongK, hp, hm]
            rw [this] at q
            exact q
          | some mv =>
            have nok : n.ok = true := okL_mem hokL (dval_mem hp)
            have mok : mv.ok = true := okL_mem hokL (dval_mem hm)
            have e : wrongK (.dct ks xs) = (if inside n 1 16 = true then wrongMoves mv n else .str "places") := by simp only [wrongK, hp, hm, h2, if_true]
            rw [e] at q
            refine els (bl_cons (bs_set 1 c_wrong_key.nd (w_dget (w_name 0 rfl (w_str ⟨ks, xs, kPl, n, rfl, rfl, hp, bl_cons (bs_set 2 c_wrong_key.nd (w_dget (w_name 0 rfl (w_str ⟨ks, xs, kMv, mv, rfl, rfl, hm, ?_⟩))))⟩)))))
            refine bl_cons (bs_if (wb_not (wb_val (w_call g2 (wa_cons (w_name 1 rfl (wa_cons (w_int (wa_cons (w_con mp (wa_nil ⟨_, _, _, rfl, nok, _, rfl, ?_⟩)))))))))))
            cases hi : inside n 1 16 with
            | false =>
              rw [hi] at q
              exact iteT (bl_one (bs_ret (w_str q)))
            | true =>
              rw [hi, if_pos rfl] at q
              refine els (bl_cons (bs_if (wb_ww (ww_or (wb_not (wb_val (w_isi .list (w_name 2 rfl ⟨_, isA_list mok, _, rfl, ?_⟩))))))))
              cases mv with
              | lst rows =>
                obtain ⟨rl, rok⟩ := ok_lst mok
                have q' : Q (if 28 < rows.length then .str "moves" else if rows.all (fun p => isArr p n) = true then .non else .str "moves") := q
                refine iteF (ww_or1 (wb_cmp d_gt (w_len (w_name 2 rfl ⟨_, rfl, w_con mm ⟨_, _, rfl, rfl, _, rfl, ?_⟩⟩))))
                by_cases h28 : 28 < rows.length
                · rw [decide_eq_true (by omega)]
                  rw [if_pos h28] at q'
                  exact iteT (bl_one (bs_ret (w_str q')))
                · rw [decide_eq_false (by omega)]
                  rw [if_neg h28] at q'
                  have hn : n = .non ∨ ∃ i, n = .int i := by
                    cases n <;> first | (exact Bool.noConfusion (show false = true from hi)) | exact .inr ⟨_, rfl⟩
                  refine els (bl_one (bs_ret (w_if (wb_val (w_all (w_map 4 (fun d e => e = .bl (isArr d n)) c_wrong_key.nd (wi_lst (w_name 2 rfl ⟨_, rfl, by omega, fun d hd => ?_, fun out ho => ?_⟩))))))))
                  · exact w_call g3 (wa_cons (w_name 4 rfl (wa_cons (w_name 1 rfl (wa_nil ⟨_, _, rfl, okL_mem rok hd, hn, rfl⟩)))))
                  · have e1 := All2.eq_map ho
                    refine ⟨rows.map (fun p => isArr p n), by rw [e1, List.map_map] <;> rfl, _, rfl, ?_⟩
                    rw [List.all_map]
                    show if rows.all (fun p => isArr p n) = true then _ else _
                    cases hA : rows.all (fun p => isArr p n) with
                    | true => rw [hA] at q'; exact iteT (w_non q')
                    | false => rw [hA] at q'; exact iteF (w_str q')
              | _ => exact iteT (iteT (bl_one (bs_ret (w_str q))))
    · have e2 : (!decide ((ks.length : Int) = 2)) = true := by rw [decide_eq_false (by omega)] <;> rfl
      rw [e2]
      refine iteT (iteT (bl_one (bs_ret (w_str ?_))))
      have : wrongK (.dct ks xs) = .str "room" := by
        simp only [wrongK]
        split
        · rw [if_neg h2]
        · rfl
      rw [this] at q
      exact q
  | _ => exact iteT (iteT (bl_one (bs_ret (w_str q))))
theorem wrongMoves_kind (m n : D) : wrongMoves m n = .non ∨ wrongMoves m n = .str "moves" := by
  unfold wrongMoves
  split
  · split
    · exact .inr rfl
    · split
      · exact .inl rfl
      · exact .inr rfl
  · exact .inr rfl
theorem wrongK_kind (x : D) : wrongK x = .non ∨ ∃ s, wrongK x = .str s := by
  unfold wrongK
  split
  · split
    · split
      · split
        · exact (wrongMoves_kind _ _).imp id fun e => ⟨_, e⟩
        · exact .inr ⟨_, rfl⟩
      · exact .inr ⟨_, rfl⟩
    · exact .inr ⟨_, rfl⟩
  · exact .inr ⟨_, rfl⟩
theorem at_zero (y : D) (r : List D) : atI (y :: r) 0 = some y := by
  unfold L2.atI
  rw [show (0 : Int) = ((0 : Nat) : Int) from rfl, ixN_nat (by simp)]
  rfl
/-- a room passes; BadRoom with the first wrong key -/
def roomOr (x : D) (Q : Prop) (E : Exn → Prop) : Prop := (wrongK x = .non → Q) ∧ (wrongK x ≠ .non → E ⟨"BadRoom", [("key", wrongK x)]⟩)
def spCheckRoom : DSp := fun ds Q E => ∃ x, ds = [x] ∧ x.ok = true ∧ roomOr x (Q .non) E
theorem ok_check_room {g : Gx} [BI g] (h : Has g "check_room" s_check_room) (xr : XCls g "BadRoom" "key") (g4 : FnG g "wrong_key" 4 spWrongKey) : FnG g "check_room" 5 spCheckRoom := by
  refine fn_has h c_check_room b_check_room (fun ds Q E ⟨x, h, _⟩ => by rw [h]; rfl) fun ds Q E ⟨x, h, hok, q1, q2⟩ => ?_
  subst h
  refine bl_cons (bs_set 1 c_check_room.nd (w_call g4 (wa_cons (w_name 0 rfl (wa_nil ⟨_, rfl, hok, bl_one (bs_if (wb_cmp d_notN (w_name 1 rfl (w_non ⟨rfl, ?_⟩))))⟩)))))
  rcases wrongK_kind x with e | ⟨s, e⟩
  · exact ⟨true, by rw [e] <;> rfl, _, rfl, els (q1 e)⟩
  · refine ⟨false, by rw [e] <;> rfl, _, rfl, iteT (bl_one (bs_raise1 xr (w_name 1 rfl (q2 ?_))))⟩
    rw [e]
    exact fun z => nomatch z
def spIsLine : DSp := fun ds Q _ => ∃ x i m, ds = [x, .int i, .int m] ∧ x.ok = true ∧ Q (.bl (isLine x i m))
theorem ok_is_line {g : Gx} [BI g] (h : Has g "is_line" s_is_line) (g2 : FnG g "is_between" 2 spIsBetween) : FnG g "is_line" 3 spIsLine := by
  refine fn_has h c_is_line b_is_line (fun ds Q E ⟨x, i, m, h, _⟩ => by rw [h]; rfl) fun ds Q E ⟨x, i, m, h, hok, q⟩ => ?_
  subst h
  refine bl_cons (bs_if (wb_ww (ww_or (wb_not (wb_val (w_isi .tuple (w_name 0 rfl ⟨_, isA_tuple hok, _, rfl, ?_⟩)))))))
  cases x with
  | tup xs =>
    obtain ⟨hl, hokL⟩ := ok_tup hok
    refine iteF (ww_or (wb_cmp d_eq (w_len (w_name 0 rfl ⟨_, rfl, w_int ⟨_, rfl, _, rfl, ?_⟩⟩))))
    cases xs with
    | nil => exact iteT (iteT (bl_one (bs_ret (w_bl q))))
    | cons y r =>
      have e0 : decide (((y :: r).length : Int) = 0) = false := decide_eq_false (by simp; omega)
      rw [e0]
      have yok : y.ok = true := okL_mem hokL List.mem_cons_self
      have at0 : atI (y :: r) 0 = some y := at_zero y r
      refine iteF (ww_or1 (wb_not (wb_val (w_isi .str (w_ix i_tup (w_name 0 rfl (w_int ⟨_, _, y, rfl, rfl, at0, _, isA_str yok, _, rfl, ?_⟩)))))))
      cases y with
      | str s =>
        have q' : Q (.bl (if s = "stay" then decide (r.length = 0) else if s = "move" then decide (r.length = 1) && r.all (fun j => inside j 0 (m - 1)) else if s = "back" then decide (r.length = 1) && r.all (fun j => inside j 0 (i - 1))
          else decide (s = "then") && (decide (r.length = 2) && r.all (fun j => inside j 0 (i - 1))))) := q
        refine els (bl_cons (bs_if (wb_cmp d_eq (w_ix i_tup (w_name 0 rfl (w_int ⟨_, _, _, rfl, rfl, at0, w_str ⟨_, rfl, _, rfl, ?_⟩⟩))))))
        have lenR : ∀ n : Nat, decide (((.str s :: r : List D).length : Int) = ((n : Nat) + 1 : Nat)) = decide (r.length = n) := fun n => decide_eq_decide.mpr (by rw [List.length_cons]; omega)
        by_cases h1 : s = "stay"
        · rw [if_pos h1] at q'
          rw [decide_eq_true h1]
          refine iteT (bl_one (bs_ret (w_cmp d_eq (w_len (w_name 0 rfl ⟨_, rfl, w_int ⟨_, rfl, ?_⟩⟩)))))
          have := lenR 0
          rw [show ((0 + 1 : Nat) : Int) = 1 from rfl] at this
          rw [this]
          exact q'
        · rw [if_neg h1] at q'
          rw [decide_eq_false h1]
          refine els (bl_cons (bs_if (wb_cmp d_eq (w_ix i_tup (w_name 0 rfl (w_int ⟨_, _, _, rfl, rfl, at0, w_str ⟨_, rfl, _, rfl, ?_⟩⟩))))))
          by_cases h2 : s = "move"
          · rw [if_pos h2] at q'
            rw [decide_eq_true h2]
            refine iteT (bl_one (bs_ret (w_and (w_cmp d_eq (w_len (w_name 0 rfl ⟨_, rfl, w_int ⟨_, rfl, _, rfl, ?_⟩⟩))))))
            have := lenR 1
            rw [show ((1 + 1 : Nat) : Int) = 2 from rfl] at this
            rw [this]
            by_cases hr : r.length = 1
            · obtain ⟨z, rfl⟩ := List.length_eq_one_iff.mp hr
              rw [decide_eq_true hr] at q' ⊢
              have zok : z.ok = true := okL_mem hokL (List.mem_cons_of_mem _ List.mem_cons_self)
              refine iteT (w_one (w_call g2 (wa_cons (w_ix i_tup (w_name 0 rfl (w_int ⟨_, _, z, rfl, rfl, rfl, wa_cons (w_int (wa_cons (w_op d_sub (w_name 2 rfl (w_int ⟨_, _, rfl, rfl, wa_nil ⟨_, _, _, rfl, zok, ?_⟩⟩)))))⟩))))))
              have q2 : Q (.bl (true && (inside z 0 (m - 1) && true))) := q'
              rw [Bool.and_true, Bool.true_and] at q2
              exact q2
            · rw [decide_eq_false hr] at q' ⊢
              exact iteF q'
          · rw [if_neg h2] at q'
            rw [decide_eq_false h2]
            refine els (bl_cons (bs_if (wb_cmp d_eq (w_ix i_tup (w_name 0 rfl (w_int ⟨_, _, _, rfl, rfl, at0, w_str ⟨_, rfl, _, rfl, ?_⟩⟩))))))
            by_cases h3 : s = "back"
            · rw [if_pos h3] at q'
              rw [decide_eq_true h3]
              refine iteT (bl_one (bs_ret (w_and (w_cmp d_eq (w_len (w_name 0 rfl ⟨_, rfl, w_int ⟨_, rfl, _, rfl, ?_⟩⟩))))))
              have := lenR 1
              rw [show ((1 + 1 : Nat) : Int) = 2 from rfl] at this
              rw [this]
              by_cases hr : r.length = 1
              · obtain ⟨z, rfl⟩ := List.length_eq_one_iff.mp hr
                rw [decide_eq_true hr] at q' ⊢
                have zok : z.ok = true := okL_mem hokL (List.mem_cons_of_mem _ List.mem_cons_self)
                refine iteT (w_one (w_call g2 (wa_cons (w_ix i_tup (w_name 0 rfl (w_int ⟨_, _, z, rfl, rfl, rfl, wa_cons (w_int (wa_cons (w_op d_sub (w_name 1 rfl (w_int ⟨_, _, rfl, rfl, wa_nil ⟨_, _, _, rfl, zok, ?_⟩⟩)))))⟩))))))
                have q2 : Q (.bl (true && (inside z 0 (i - 1) && true))) := q'
                rw [Bool.and_true, Bool.true_and] at q2
                exact q2
              · rw [decide_eq_false hr] at q' ⊢
                exact iteF q'
            · rw [if_neg h3] at q'
              rw [decide_eq_false h3]
              refine els (bl_one (bs_ret (w_and (w_cmp d_eq (w_ix i_tup (w_name 0 rfl (w_int ⟨_, _, _, rfl, rfl, at0, w_str ⟨_, rfl, _, rfl, ?_⟩⟩)))))))
              by_cases h4 : s = "then"
              · rw [decide_eq_true h4] at q' ⊢
                refine iteT (w_and (w_cmp d_eq (w_len (w_name 0 rfl ⟨_, rfl, w_int ⟨_, rfl, _, rfl, ?_⟩⟩))))
                have := lenR 2
                rw [show ((2 + 1 : Nat) : Int) = 3 from rfl] at this
                rw [this]
                by_cases hr : r.length = 2
                · rw [decide_eq_true hr] at q' ⊢
                  refine iteT (w_one (w_all (w_map 3 (fun d e => e = .bl (inside d 0 (i - 1))) c_is_line.nd (wi_tup (w_cutT (w_name 0 rfl ⟨_, rfl, (?_ : WPo _ (some _) _ _)⟩))))))
                  refine w_int ⟨1, rfl, ?_⟩
                  have ec : cutD (.str s :: r) (some 1) none = r := by
                    match r, hr with
                    | [a, b], _ => rfl
                  show ∃ ds, D.tup (cutD (.str s :: r) (some 1) none) = .tup ds ∧ _
                  rw [ec]
                  refine ⟨r, rfl, by omega, fun d hd => ?_, fun out ho => ?_⟩
                  · exact w_call g2 (wa_cons (w_name 3 rfl (wa_cons (w_int (wa_cons (w_op d_sub (w_name 1 rfl (w_int ⟨_, _, rfl, rfl, wa_nil ⟨_, _, _, rfl, okL_mem hokL (List.mem_cons_of_mem _ hd), rfl⟩⟩))))))))
                  · have e1 := All2.eq_map ho
                    refine ⟨r.map (fun j => inside j 0 (i - 1)), by rw [e1, List.map_map] <;> rfl, ?_⟩
                    rw [List.all_map]
                    have q2 : Q (.bl (true && (true && r.all (fun j => inside j 0 (i - 1))))) := q'
                    rw [Bool.true_and, Bool.true_and] at q2
                    exact q2
                · rw [decide_eq_false hr] at q' ⊢
                  exact iteF q'
              · rw [decide_eq_false h4] at q' ⊢
                exact iteF q'
      | _ => exact iteT (bl_one (bs_ret (w_bl q)))
  | _ => exact iteT (iteT (bl_one (bs_ret (w_bl q))))
theorem b1_is_lines : Bind1 "is_lines" s_is_lines 2 ["value", "moves", "most"] := fun _ _ _ _ _ _ _ us its hu hi => match us, its, hu, hi with | [_, _], [_], _, _ => ⟨_, rfl, rfl⟩
def spWrongLine : DSp := fun ds Q _ => ∃ x m b, ds = [x, .int m, .int b] ∧ x.ok = true ∧ Q (wrongLine x m b)
theorem ok_wrong_line {g : Gx} [BI g] (h : Has g "wrong_line" s_wrong_line) (g3 : FnG g "is_line" 3 spIsLine) : FnG g "wrong_line" 4 spWrongLine := by
  refine fn_has h c_wrong_line b_wrong_line (fun ds Q E ⟨x, i, m, h, _⟩ => by rw [h]; rfl) fun ds Q E ⟨x, m, b, h, hok, q⟩ => ?_
  subst h
  refine bl_cons (bs_if (wb_ww (ww_or (wb_not (wb_val (w_isi .list (w_name 0 rfl ⟨_, isA_list hok, _, rfl, ?_⟩)))))))
  cases x with
  | lst xs =>
    obtain ⟨hl, hokL⟩ := ok_lst hok
    refine iteF (ww_or (wb_cmp d_eq (w_len (w_name 0 rfl ⟨_, rfl, w_int ⟨_, rfl, _, rfl, ?_⟩⟩))))
    cases xs with
    | nil => exact iteT (iteT (bl_one (bs_ret (w_un d_neg (w_int ⟨1, rfl, q⟩)))))
    | cons y r =>
      have e0 : decide (((y :: r).length : Int) = 0) = false := decide_eq_false (by simp; omega)
      rw [e0]
      have q' : Q (if b < ((y :: r).length : Int) then .int (-1) else wrongFrom m 0 (y :: r)) := q
      refine iteF (ww_or1 (wb_cmp d_gt (w_len (w_name 0 rfl ⟨_, rfl, w_name 2 rfl ⟨_, _, rfl, rfl, _, rfl, ?_⟩⟩))))
      by_cases hb : b < ((y :: r).length : Int)
      · rw [decide_eq_true hb]
        rw [if_pos hb] at q'
        exact iteT (bl_one (bs_ret (w_un d_neg (w_int ⟨1, rfl, q'⟩))))
      · rw [decide_eq_false hb]
        rw [if_neg hb] at q'
        generalize hxs : (y :: r) = xs at *
        refine els (bl_cons (bs_for (wt_tup2 3 4 c_wrong_line.nd) (wi_enum (w_name 0 rfl ⟨xs, rfl, fun i Γ => (∃ a l, Γ = [.val (.lst xs), .val (.int m), .val (.int b), a, l]) ∧ wrongFrom m 0 xs = wrongFrom m i (xs.drop i), ⟨⟨_, _, rfl⟩, rfl⟩, fun i d Γ' hd ⟨⟨a, l, hΓ⟩, hw⟩ => ?_, fun Γ' ⟨⟨a, l, hΓ⟩, hw⟩ => ?_⟩))))
        · subst hΓ
          rw [List.getElem?_map] at hd
          by_cases hi : i < xs.length
          · rw [List.getElem?_range hi] at hd
            cases hd
            obtain ⟨d, hd⟩ : ∃ d, xs[i]? = some d := ⟨_, List.getElem?_eq_getElem hi⟩
            have ed : xs.getD i D.non = d := by rw [List.getD_eq_getElem?_getD, hd]; rfl
            have edrop : xs.drop i = d :: xs.drop (i + 1) := by
              rw [List.drop_eq_getElem_cons hi]
              rw [List.getElem?_eq_getElem hi] at hd
              rw [Option.some.inj hd]
            have dok : d.ok = true := okL_getD hokL i hd
            refine ⟨_, _, rfl, bl_one (bs_if (wb_not (wb_val (w_call g3 (wa_cons (w_name 4 rfl (wa_cons (w_name 3 rfl (wa_cons (w_name 1 rfl (wa_nil ⟨xs.getD i .non, _, _, rfl, by rw [ed]; exact dok, _, rfl, ?_⟩)))))))))))⟩
            rw [ed]
            rw [edrop] at hw
            have hw' : wrongFrom m 0 xs = if isLine d i m = true then wrongFrom m (i + 1) (xs.drop (i + 1)) else .int (i : Nat) := hw
            cases hL : isLine d i m with
            | true =>
              rw [hL] at hw'
              exact els ⟨⟨_, _, rfl⟩, hw'⟩
            | false =>
              rw [hL] at hw'
              rw [hw'] at q'
              exact iteT (bl_one (bs_ret (w_name 3 rfl q')))
          · rw [List.getElem?_eq_none (by rw [List.length_range]; omega)] at hd
            cases hd
        · subst hΓ
          rw [List.length_map, List.length_range, List.drop_length] at hw
          rw [hw] at q'
          exact bl_one (bs_ret (w_non q'))
  | _ => exact iteT (iteT (bl_one (bs_ret (w_un d_neg (w_int ⟨1, rfl, q⟩)))))
theorem wrongFrom_kind (m : Int) : ∀ (xs : List D) (i : Nat), wrongFrom m i xs = .non ∨ ∃ j, wrongFrom m i xs = .int j
  | [], _ => .inl rfl
  | x :: r, i => by
    unfold wrongFrom
    split
    · exact wrongFrom_kind m r (i + 1)
    · exact .inr ⟨_, rfl⟩
theorem wrongLine_kind (x : D) (m b : Int) : wrongLine x m b = .non ∨ ∃ j, wrongLine x m b = .int j := by
  unfold wrongLine
  split
  · split
    · exact .inr ⟨_, rfl⟩
    · exact wrongFrom_kind m _ 0
  · exact .inr ⟨_, rfl⟩
def spIsLines : DSp := fun ds Q _ => ∃ x m b, ds = [x, .int m, .int b] ∧ x.ok = true ∧ Q (.bl (match wrongLine x m b with | .non => true | _ => false))
theorem ok_is_lines {g : Gx} [BI g] (h : Has g "is_lines" s_is_lines [.int 2500]) (g4 : FnG g "wrong_line" 4 spWrongLine) : FnG g "is_lines" 5 spIsLines [.int 2500] := by
  refine fn_has1 h (fun _ _ => .int _) c_is_lines b1_is_lines rfl (fun ds Q E ⟨x, i, m, h, _⟩ => by rw [h]; rfl) fun ds Q E ⟨x, m, b, h, hok, q⟩ => ?_
  subst h
  refine bl_one (bs_ret (w_cmp d_isN (w_call g4 (wa_cons (w_name 0 rfl (wa_cons (w_name 1 rfl (wa_cons (w_name 2 rfl (wa_nil ⟨_, _, _, rfl, hok, w_non ⟨rfl, ?_⟩⟩))))))))))
  rcases wrongLine_kind x m b with e | ⟨j, e⟩
  · rw [e] at q ⊢
    exact ⟨_, rfl, q⟩
  · rw [e] at q ⊢
    exact ⟨_, rfl, q⟩
def wayOr (x : D) (m : Int) (Q : Prop) (E : Exn → Prop) : Prop := (wrongLine x m 2500 = .non → Q) ∧ (wrongLine x m 2500 ≠ .non → E ⟨"BadWay", [("line", wrongLine x m 2500)]⟩)
def spCheckLines : DSp := fun ds Q E => ∃ x m, ds = [x, .int m] ∧ x.ok = true ∧ wayOr x m (Q .non) E
theorem ok_check_lines {g : Gx} [BI g] (h : Has g "check_lines" s_check_lines) (xr : XCls g "BadWay" "line") (ml : ConI g "MOST_LINES" 2500) (g4 : FnG g "wrong_line" 4 spWrongLine) : FnG g "check_lines" 5 spCheckLines := by
  refine fn_has h c_check_lines b_check_lines (fun ds Q E ⟨x, m, h, _⟩ => by rw [h]; rfl) fun ds Q E ⟨x, m, h, hok, q1, q2⟩ => ?_
  subst h
  refine bl_cons (bs_set 2 c_check_lines.nd (w_call g4 (wa_cons (w_name 0 rfl (wa_cons (w_name 1 rfl (wa_cons (w_con ml (wa_nil ⟨_, _, _, rfl, hok, bl_one (bs_if (wb_cmp d_notN (w_name 2 rfl (w_non ⟨rfl, ?_⟩))))⟩)))))))))
  rcases wrongLine_kind x m 2500 with e | ⟨s, e⟩
  · exact ⟨true, by rw [e] <;> rfl, _, rfl, els (q1 e)⟩
  · refine ⟨false, by rw [e] <;> rfl, _, rfl, iteT (bl_one (bs_raise1 xr (w_name 2 rfl (q2 ?_))))⟩
    rw [e]
    exact fun z => nomatch z
/-- a room's parts -/
def isRoom (x n : D) (rows : List D) : Prop := ∃ ks xs, x = .dct ks xs ∧ dval ks xs kPl = some n ∧ dval ks xs kMv = some (.lst rows)
def spCheckWay : DSp := fun ds Q E => ∃ x w n rows, ds = [x, w] ∧ w.ok = true ∧ isRoom x n rows ∧ wayOr w rows.length (Q .non) E
theorem ok_check_way {g : Gx} [BI g] (h : Has g "check_way" s_check_way) (g5 : FnG g "check_lines" 5 spCheckLines) : FnG g "check_way" 6 spCheckWay := by
  refine fn_has h c_check_way b_check_way (fun ds Q E ⟨x, w, n, r, h, _⟩ => by rw [h]; rfl) fun ds Q E ⟨x, w, n, rows, h, hok, ⟨ks, xs, ex, hp, hm⟩, q⟩ => ?_
  subst h ex
  exact bl_one (bs_expr (w_call g5 (wa_cons (w_name 1 rfl (wa_cons (w_len (w_dget (w_name 0 rfl (w_str ⟨_, _, kMv, _, rfl, rfl, hm, _, rfl, wa_nil ⟨_, _, rfl, hok, q⟩⟩)))))))))
def spIsWay : DSp := fun ds Q E => ∃ x w, ds = [x, w] ∧ x.ok = true ∧ w.ok = true ∧ (wrongK x ≠ .non → E ⟨"BadRoom", [("key", wrongK x)]⟩) ∧ (wrongK x = .non → ∀ n rows, isRoom x n rows → Q (.bl (match wrongLine w rows.length 2500 with | .non => true | _ => false)))
theorem room_of {x : D} (h : wrongK x = .non) : ∃ n rows, isRoom x (.int n) rows ∧ 1 ≤ n ∧ n ≤ 16 ∧ rows.length ≤ 28 ∧ rows.all (fun p => isArr p (.int n)) = true := by
  unfold wrongK at h
  split at h
  · rename_i ks xs
    split at h
    · rename_i n m hp hm
      split at h
      · split at h
        · rename_i hi
          unfold wrongMoves at h
          split at h
          · rename_i rows
            split at h
            · cases h
            · rename_i hl
              split at h
              · rename_i hA
                cases n <;> first | (exact Bool.noConfusion (show false = true from hi)) | skip
                rename_i z
                have hi' : (decide (1 ≤ z) && decide (z ≤ 16)) = true := hi
                obtain ⟨a, b⟩ := Bool.and_eq_true_iff.mp hi'
                exact ⟨z, rows, ⟨ks, xs, rfl, hp, hm⟩, of_decide_eq_true a, of_decide_eq_true b, by omega, hA⟩
              · cases h
          · cases h
        · cases h
      · cases h
    · cases h
  · cases h
theorem ok_is_way {g : Gx} [BI g] (h : Has g "is_way" s_is_way) (g5 : FnG g "check_room" 5 spCheckRoom) (g5' : FnG g "is_lines" 5 spIsLines [.int 2500]) : FnG g "is_way" 6 spIsWay := by
  refine fn_has h c_is_way b_is_way (fun ds Q E ⟨x, w, h, _⟩ => by rw [h]; rfl) fun ds Q E ⟨x, w, h, xok, wok, q1, q2⟩ => ?_
  subst h
  refine bl_cons (bs_expr (w_call g5 (wa_cons (w_name 0 rfl (wa_nil ⟨_, rfl, xok, fun e => ?_, q1⟩)))))
  obtain ⟨n, rows, hr, _⟩ := room_of e
  obtain ⟨ks, xs, ex, hp, hm⟩ := id hr
  subst ex
  exact bl_one (bs_ret (w_call g5' (wa_cons (w_name 1 rfl (wa_cons (w_len (w_dget (w_name 0 rfl (w_str ⟨_, _, kMv, _, rfl, rfl, hm, _, rfl, wa_nil ⟨_, _, _, rfl, wok, q2 e _ _ hr⟩⟩)))))))))
end K3
set_option Elab.async false
set_option linter.all false
set_option maxRecDepth 100000
set_option maxHeartbeats 4000000
namespace K3
open PySem PySem.Spec PyProof.Rows L2 Evl WL
theorem nat_mod (a b : Nat) : ((a : Int) % (b : Int)) = ((a % b : Nat) : Int) := rfl
theorem nat_div (a b : Nat) : ((a : Int) / (b : Int)) = ((a / b : Nat) : Int) := rfl
theorem elsF {A : Prop} {c : Ct} {Γ : Gm} {E : Ends'} {b : Bool} (hb : b = false) (h : E.nx Γ) : if b = true then A else BL c [] Γ E := by subst hb; exact els h
theorem iteTr {A B : Prop} {b : Bool} (hb : b = true) (h : A) : if b = true then A else B := by subst hb; exact iteT h
theorem iteFa {A B : Prop} {b : Bool} (hb : b = false) (h : B) : if b = true then A else B := by subst hb; exact iteF h
theorem ix0 {a : D} {l : List D} : atI (a :: l) 0 = some a := atI_nat (j := 0) rfl
theorem ix1 {a b : D} {l : List D} : atI (a :: b :: l) 1 = some b := atI_nat (j := 1) rfl
theorem ix2 {a b c : D} {l : List D} : atI (a :: b :: c :: l) 2 = some c := atI_nat (j := 2) rfl
def spPlaces (k : Nat) : DSp := fun ds Q _ => ∃ (d : D) (n : Nat), ds = [d] ∧ Spc k d n ∧ n ≤ 4000 ∧ Q (.int (n : Nat))
theorem places_step {g : Gx} [BI g] (h : Has g "_law_spec_places" s__law_spec_places) (k : Nat) (ih : ∀ j, k = j + 1 → FnG g "_law_spec_places" (j + 1) (spPlaces j)) : FnG g "_law_spec_places" (k + 1) (spPlaces k) := by
  refine fn_has h c__law_spec_places b__law_spec_places (fun ds Q E ⟨x, n, h, _⟩ => by rw [h]; rfl) fun ds Q E ⟨x, n, h, hS, hn, q⟩ => ?_
  subst h
  have plain : ∀ (w : Str), decide (w = ("twice" : Str)) = false → decide (w = ("beside" : Str)) = false → decide (w = ("boxes" : Str)) = false → BL (Ct.def g n__law_spec_places (defScope s__law_spec_places) k E) (defBody s__law_spec_places) [.val (.tup [.str w, .int (n : Nat)])] { nx := fun _ => Q .non, rt := Q } := fun w h1 h2 h3 => by
    refine bl_cons (bs_if (wb_cmp d_eq (w_ix i_tup (w_name 0 rfl (w_int ⟨_, _, _, rfl, rfl, ix0, w_str ⟨_, rfl, _, rfl, ?_⟩⟩)))))
    refine elsF h1 ?_
    refine bl_cons (bs_if (wb_cmp d_eq (w_ix i_tup (w_name 0 rfl (w_int ⟨_, _, _, rfl, rfl, ix0, w_str ⟨_, rfl, _, rfl, ?_⟩⟩)))))
    refine elsF h2 ?_
    refine bl_cons (bs_if (wb_cmp d_eq (w_ix i_tup (w_name 0 rfl (w_int ⟨_, _, _, rfl, rfl, ix0, w_str ⟨_, rfl, _, rfl, ?_⟩⟩)))))
    refine elsF h3 ?_
    exact bl_one (bs_ret (w_ix i_tup (w_name 0 rfl (w_int ⟨_, _, _, rfl, rfl, ix1, q⟩))))
  have pos1 := hS.pos
  cases hS with
  | still => exact plain _ (by decide +kernel) (by decide +kernel) (by decide +kernel)
  | ring => exact plain _ (by decide +kernel) (by decide +kernel) (by decide +kernel)
  | all => exact plain _ (by decide +kernel) (by decide +kernel) (by decide +kernel)
  | mirror => exact plain _ (by decide +kernel) (by decide +kernel) (by decide +kernel)
  | even => exact plain _ (by decide +kernel) (by decide +kernel) (by decide +kernel)
  | affine => exact plain _ (by decide +kernel) (by decide +kernel) (by decide +kernel)
  | @twice j m s hs =>
    have F := ih j rfl
    refine bl_cons (bs_if (wb_cmp d_eq (w_ix i_tup (w_name 0 rfl (w_int ⟨_, _, _, rfl, rfl, ix0, w_str ⟨_, rfl, _, rfl, ?_⟩⟩)))))
    refine iteTr (by decide +kernel) ?_
    refine bl_one (bs_ret (w_op d_mul (w_int (w_call F (hk := Nat.le_refl _) (wa_cons (w_ix i_tup (w_name 0 rfl (w_int ⟨_, _, _, rfl, rfl, ix1, wa_nil ⟨s, m, rfl, hs, by omega, _, _, rfl, rfl, .inl ⟨by omega, by omega⟩, ?_⟩⟩)))))))) 
    rw [Int.natCast_mul] at q
    exact q
  | @beside j m l s t hs ht =>
    have F := ih j rfl
    refine bl_cons (bs_if (wb_cmp d_eq (w_ix i_tup (w_name 0 rfl (w_int ⟨_, _, _, rfl, rfl, ix0, w_str ⟨_, rfl, _, rfl, ?_⟩⟩)))))
    refine elsF (by decide +kernel) ?_
    refine bl_cons (bs_if (wb_cmp d_eq (w_ix i_tup (w_name 0 rfl (w_int ⟨_, _, _, rfl, rfl, ix0, w_str ⟨_, rfl, _, rfl, ?_⟩⟩)))))
    refine iteTr (by decide +kernel) ?_
    refine bl_one (bs_ret (w_op d_add (w_call F (hk := Nat.le_refl _) (wa_cons (w_ix i_tup (w_name 0 rfl (w_int ⟨_, _, _, rfl, rfl, ix1, wa_nil ⟨s, m, rfl, hs, by omega, ?_⟩⟩)))))))
    refine w_call F (hk := Nat.le_refl _) (wa_cons (w_ix i_tup (w_name 0 rfl (w_int ⟨_, _, _, rfl, rfl, ix2, wa_nil ⟨t, l, rfl, ht, by omega, _, _, rfl, rfl, ?_⟩⟩))))
    rw [Int.natCast_add] at q
    exact q
  | @boxes j m l s t hs ht =>
    have F := ih j rfl
    have h1 := hs.pos
    have h2 := ht.pos
    have b1 : m ≤ m * l := Nat.le_mul_of_pos_right m h2
    have b2 : l ≤ m * l := Nat.le_mul_of_pos_left l h1
    refine bl_cons (bs_if (wb_cmp d_eq (w_ix i_tup (w_name 0 rfl (w_int ⟨_, _, _, rfl, rfl, ix0, w_str ⟨_, rfl, _, rfl, ?_⟩⟩)))))
    refine elsF (by decide +kernel) ?_
    refine bl_cons (bs_if (wb_cmp d_eq (w_ix i_tup (w_name 0 rfl (w_int ⟨_, _, _, rfl, rfl, ix0, w_str ⟨_, rfl, _, rfl, ?_⟩⟩)))))
    refine elsF (by decide +kernel) ?_
    refine bl_cons (bs_if (wb_cmp d_eq (w_ix i_tup (w_name 0 rfl (w_int ⟨_, _, _, rfl, rfl, ix0, w_str ⟨_, rfl, _, rfl, ?_⟩⟩)))))
    refine iteTr (by decide +kernel) ?_
    refine bl_one (bs_ret (w_op d_mul (w_call F (hk := Nat.le_refl _) (wa_cons (w_ix i_tup (w_name 0 rfl (w_int ⟨_, _, _, rfl, rfl, ix1, wa_nil ⟨s, m, rfl, hs, by omega, ?_⟩⟩)))))))
    refine w_call F (hk := Nat.le_refl _) (wa_cons (w_ix i_tup (w_name 0 rfl (w_int ⟨_, _, _, rfl, rfl, ix2, wa_nil ⟨t, l, rfl, ht, by omega, _, _, rfl, rfl, .inl ⟨by omega, by omega⟩, ?_⟩⟩))))
    rw [Int.natCast_mul] at q
    exact q
theorem ok_places {g : Gx} [BI g] (h : Has g "_law_spec_places" s__law_spec_places) : ∀ k : Nat, FnG g "_law_spec_places" (k + 1) (spPlaces k)
  | 0 => places_step h 0 fun j e => by omega
  | k + 1 => places_step h (k + 1) fun j e => by
    have : j = k := by omega
    subst this
    exact ok_places h j
/-- found[start + x] = start + p[x] -/
def spWithin : DSp := fun ds Q _ => ∃ (n s m : Nat) (f : Nat → Nat), ds = [.int n, .int s, arrD m f] ∧ n ≤ 4000 ∧ s + m ≤ n ∧ PermOn m f ∧ Q (arrD n (inF s m f))
theorem ok_within {g : Gx} [BI g] (h : Has g "_law_within" s__law_within) : FnG g "_law_within" 1 spWithin := by
  refine fn_has h c__law_within b__law_within (fun ds Q E ⟨n, s, m, f, h, _⟩ => by rw [h]; rfl) fun ds Q E ⟨n, s, m, f, h, hn, hs, hf, q⟩ => ?_
  subst h
  refine bl_cons (bs_setO 3 c__law_within.nd (wo_listRg (bi "list") (bi "range") (w_name 0 rfl ⟨_, rfl, by omega, by omega, ?_⟩)))
  have e0 : rgD 0 (n : Int) = tab n fun y => .int ((if s ≤ y ∧ y < s + 0 then s + f (y - s) else y : Nat) : Int) := by
    rw [rgD_int]
    unfold rgI tab
    rw [Int.toNat_natCast, List.map_map]
    refine List.map_congr_left fun y hy => ?_
    rw [if_neg (by omega)]; rfl
  rw [e0]
  refine bl_cons (bs_for (wt_name 4 c__law_within.nd) (wi_rg1 (bi "range") (w_len (w_name 2 rfl ⟨_, len_arr m f, _, rfl, by omega, by omega, ?_⟩))))
  refine ⟨fun i Γ => ∃ a, Γ = [.val (.int n), .val (.int s), .val (arrD m f), .own (tab n fun y => .int ((if s ≤ y ∧ y < s + i then s + f (y - s) else y : Nat) : Int)), a], ⟨_, rfl⟩, ?_, ?_⟩
  · rintro i d Γ' hd ⟨a, rfl⟩
    obtain ⟨hi, rfl⟩ := rg_get hd
    rw [Int.toNat_natCast] at hi
    rw [Int.zero_add]
    refine bl_one (bs_setAt 3 rfl (w_op d_add (w_name 1 rfl (w_ix i_tup (w_name 2 rfl (w_name 4 rfl ⟨_, _, _, rfl, rfl, arr_at hi, _, _, rfl, rfl, ?_⟩))))))
    refine w_op d_add (w_name 1 rfl (w_name 4 rfl ⟨_, _, rfl, rfl, _, s + i, rfl, ?_, ?_⟩))
    · rw [← Int.natCast_add]
      exact tab_ix (by omega)
    · have e2 : (tab n fun y => D.int ((if s ≤ y ∧ y < s + i then s + f (y - s) else y : Nat) : Int)).set (s + i) (.int ((s : Int) + (f i : Int))) = tab n fun y => D.int ((if s ≤ y ∧ y < s + (i + 1) then s + f (y - s) else y : Nat) : Int) := by
        refine tab_set ?_ fun y hy ne => ?_
        · show D.int ((if s ≤ s + i ∧ s + i < s + (i + 1) then s + f (s + i - s) else s + i : Nat) : Int) = _
          rw [if_pos (by omega), Nat.add_sub_cancel_left, Int.natCast_add]
        · show D.int ((if s ≤ y ∧ y < s + (i + 1) then s + f (y - s) else y : Nat) : Int) = D.int ((if s ≤ y ∧ y < s + i then s + f (y - s) else y : Nat) : Int)
          by_cases c1 : s ≤ y ∧ y < s + i
          · rw [if_pos c1, if_pos (by omega)]
          · rw [if_neg c1, if_neg (by omega)]
      exact ⟨_, by rw [← e2] <;> rfl⟩
  · rintro Γ' ⟨a, rfl⟩
    rw [List.length_map, List.length_range, Int.toNat_natCast]
    refine bl_freeze 3 rfl (bl_one (bs_ret (w_tuple (w_name 3 rfl ⟨_, rfl, ?_⟩))))
    have e3 := arr_tab n (inF s m f)
    unfold inF at e3
    rw [← e3]
    exact q
def spOver : DSp := fun ds Q _ => ∃ (m k : Nat) (f : Nat → Nat), ds = [.int m, arrD k f] ∧ m * k ≤ 4000 ∧ 0 < m ∧ m ≤ 4000 ∧ PermOn k f ∧ Q (arrD (m * k) (overF m f))
theorem ok_over {g : Gx} [BI g] (h : Has g "_law_over" s__law_over) : FnG g "_law_over" 1 spOver := by
  refine fn_has h c__law_over b__law_over (fun ds Q E ⟨m, k, f, h, _⟩ => by rw [h]; rfl) fun ds Q E ⟨m, k, f, h, hn, hm, hm4, hf, q⟩ => ?_
  subst h
  have hkk : k ≤ m * k := Nat.le_mul_of_pos_left k hm
  refine bl_one (bs_ret (w_tuple (w_map 2 (fun (d e : D) => e = D.int ((fun x : Int => ((overF m f x.toNat : Nat) : Int)) d.toI)) c__law_over.nd (wi_rg1 (bi "range") (w_op d_mul (w_name 0 rfl (w_len (w_name 1 rfl ⟨_, len_arr k f, _, _, rfl, rfl, .inl ⟨by omega, by omega⟩, _, rfl, ?_⟩))))))))
  rw [← Int.natCast_mul]
  refine ⟨by omega, by omega, by rw [List.length_map, List.length_range, Int.toNat_natCast] <;> omega, fun d hd => ?_, fun out ho => ⟨_, rfl, ?_⟩⟩
  · obtain ⟨i, hi⟩ := List.getElem?_of_mem hd
    obtain ⟨hi2, rfl⟩ := rg_get hi
    rw [Int.toNat_natCast] at hi2
    rw [Int.zero_add]
    have hdv : i / m < k := Nat.div_lt_of_lt_mul hi2
    refine w_op d_add (w_op d_mul (w_ix i_tup (w_name 1 rfl (w_op d_fdiv (w_intC (w_name 2 rfl ⟨_, rfl, w_name 0 rfl ⟨_, _, rfl, rfl, ⟨by omega, by omega⟩, ?_⟩⟩))))))
    rw [nat_div]
    refine ⟨_, _, _, rfl, rfl, arr_at hdv, w_name 0 rfl ⟨_, _, rfl, rfl, .inr ⟨by omega, by omega⟩, w_op d_mod (w_intC (w_name 2 rfl ⟨_, rfl, w_name 0 rfl ⟨_, _, rfl, rfl, by omega, _, _, rfl, rfl, ?_⟩⟩))⟩⟩
    rw [nat_mod, ← Int.natCast_mul, ← Int.natCast_add]
    rfl
  · have := map_rg (n := m * k) (F := fun x : Int => ((overF m f x.toNat : Nat) : Int)) (Int.toNat_natCast _) ho fun x _ => Int.natCast_nonneg _
    rw [this]
    exact q
def spTurn : DSp := fun ds Q _ => ∃ (n k : Nat), ds = [.int n, .int 0, .int 1, .int k] ∧ n ≤ 4000 ∧ 2 ≤ k ∧ k < n ∧ Q (arrD n (turnF k))
theorem rgD_tab (n : Nat) : rgD 0 (n : Int) = tab n fun y => .int ((y : Nat) : Int) := by
  rw [rgD_int]
  unfold rgI tab
  rw [Int.toNat_natCast, List.map_map]; rfl
theorem ok_turn {g : Gx} [BI g] (h : Has g "_law_turn" s__law_turn) : FnG g "_law_turn" 1 spTurn := by
  refine fn_has h c__law_turn b__law_turn (fun ds Q E ⟨n, k, h, _⟩ => by rw [h]; rfl) fun ds Q E ⟨n, k, h, hn, h2, hk, q⟩ => ?_
  subst h
  have e1 : (tab n fun y => D.int ((y : Nat) : Int)).set 0 (.int 1) = tab n fun y => D.int ((if y = 0 then 1 else y : Nat) : Int) := tab_set rfl fun i _ ne => by
    show D.int ((if i = 0 then 1 else i : Nat) : Int) = _
    rw [if_neg ne]
  have e2 : (tab n fun y => D.int ((if y = 0 then 1 else y : Nat) : Int)).set 1 (.int k) = tab n fun y => D.int ((if y = 0 then 1 else if y = 1 then k else y : Nat) : Int) := tab_set rfl fun i _ ne => by
    show D.int ((if i = 0 then 1 else if i = 1 then k else i : Nat) : Int) = _
    rw [if_neg ne]
  have e3 : (tab n fun y => D.int ((if y = 0 then 1 else if y = 1 then k else y : Nat) : Int)).set k (.int 0) = tab n fun y => D.int ((turnF k y : Nat) : Int) := by
    refine tab_set ?_ fun i _ ne => ?_
    · show D.int ((turnF k k : Nat) : Int) = _
      unfold turnF
      rw [if_neg (by omega), if_neg (by omega), if_pos rfl]; rfl
    · show D.int ((turnF k i : Nat) : Int) = _
      unfold turnF
      rw [if_neg ne]
  refine bl_cons (bs_setO 4 c__law_turn.nd (wo_listRg (bi "list") (bi "range") (w_name 0 rfl ⟨_, rfl, by omega, by omega, ?_⟩)))
  rw [rgD_tab]
  refine bl_cons (bs_setAt 4 rfl (w_name 2 rfl (w_name 1 rfl ⟨_, 0, rfl, tab_ix (show 0 < n by omega), ?_⟩)))
  rw [e1]
  refine bl_cons (bs_setAt 4 rfl (w_name 3 rfl (w_name 2 rfl ⟨_, 1, rfl, tab_ix (show 1 < n by omega), ?_⟩)))
  rw [e2]
  refine bl_cons (bs_setAt 4 rfl (w_name 1 rfl (w_name 3 rfl ⟨_, k, rfl, tab_ix (show k < n by omega), ?_⟩)))
  rw [e3]
  refine bl_freeze 4 rfl (bl_one (bs_ret (w_tuple (w_name 4 rfl ⟨_, rfl, ?_⟩))))
  rw [← arr_tab]
  exact q
def ArrL (n : Nat) (ms : List D) : Prop := ∀ d ∈ ms, ∃ f, PermOn n f ∧ d = arrD n f
theorem ArrL.nil (n : Nat) : ArrL n [] := fun d h => nomatch h
theorem ArrL.cons {n : Nat} {f : Nat → Nat} {ms : List D} (h : PermOn n f) (h2 : ArrL n ms) : ArrL n (arrD n f :: ms) := fun d hd => by
  rcases List.mem_cons.mp hd with rfl | hd
  · exact ⟨f, h, rfl⟩
  · exact h2 d hd
theorem ArrL.app {n : Nat} {ms ns : List D} (h : ArrL n ms) (h2 : ArrL n ns) : ArrL n (ms ++ ns) := fun d hd => by
  rcases List.mem_append.mp hd with hd | hd
  · exact h d hd
  · exact h2 d hd
def isA (n : Nat) (e : D) : Prop := ∃ f, PermOn n f ∧ e = arrD n f
theorem ArrL.of {n : Nat} : ∀ {ds out : List D}, All2 (fun _ e => isA n e) ds out → ArrL n out
  | _, _, .nil => ArrL.nil n
  | _, _, .cons ⟨f, hf, e⟩ t => by rw [e]; exact ArrL.cons hf (ArrL.of t)
theorem join_map {m k : Nat} {f h : Nat → Nat} {out : List D} (a : All2 (fun (d e : D) => e = D.int ((m : Int) + d.toI)) ((arrI k h).map D.int) out) : (arrI m f).map D.int ++ out = (arrI (m + k) (joinF m f h)).map D.int := by
  have e := All2.eq_map (f := fun (d : D) => D.int ((m : Int) + d.toI)) a
  rw [e, ← join_arr]
  congr 1
  rw [arrL_tab, arrL_tab]
  unfold tab
  rw [List.map_map]
  refine List.map_congr_left fun y hy => ?_
  show D.int ((m : Int) + (h y : Int)) = D.int ((m + h y : Nat) : Int)
  rw [Int.natCast_add]
end K3
set_option Elab.async false
set_option linter.all false
set_option maxRecDepth 100000
set_option maxHeartbeats 4000000
namespace K3
open PySem PySem.Spec PyProof.Rows L2 Evl WL
def spMoves (k : Nat) : DSp := fun ds Q _ => ∃ (d : D) (n : Nat), ds = [d] ∧ Spd k d n ∧ n * 2 ^ k ≤ 2000 ∧ ∀ ms, ArrL n ms → ms.length ≤ n * 2 ^ k → ms.length ≤ mvB k n → Q (.lst ms)
theorem two_pos (k : Nat) : 1 ≤ 2 ^ k := Nat.one_le_two_pow
theorem bd_self {n k : Nat} (h : n * 2 ^ k ≤ 2000) : n ≤ 2000 := Nat.le_trans (Nat.le_mul_of_pos_right n (two_pos k)) h
theorem bd_sub {n m k : Nat} (hm : m ≤ n) (h : n * 2 ^ (k + 1) ≤ 2000) : m * 2 ^ k ≤ 2000 := Nat.le_trans (Nat.mul_le_mul hm (Nat.pow_le_pow_right (by omega) (Nat.le_succ k))) h
theorem bd_two (n k : Nat) : n * 2 ^ (k + 1) = n * 2 ^ k + n * 2 ^ k := by rw [Nat.pow_succ, ← Nat.mul_assoc]; omega
def swapF (y : Nat) : Nat := if y = 0 then 1 else if y = 1 then 0 else y
theorem permOn_swap {n : Nat} (h : 2 ≤ n) : PermOn n swapF := by
  refine ⟨fun i hi => ?_, fun i j hi hj e => ?_⟩
  · unfold swapF
    split
    · omega
    · split <;> omega
  · unfold swapF at e
    split at e <;> split at e <;> (try split at e) <;> (try split at e) <;> omega
theorem swap_arr {n : Nat} (h : 2 ≤ n) : [D.int 1, D.int 0] ++ rgD 2 (n : Int) = (arrI n swapF).map D.int := by
  rw [arrL_tab]
  refine tab_ext ?_ fun i hi => ?_
  · unfold rgD
    rw [List.length_append, List.length_map, List.length_range]
    show 2 + _ = n
    omega
  · match i, hi with
    | 0, _ => rfl
    | 1, _ => rfl
    | i + 2, hi =>
      show (rgD 2 (n : Int))[i]? = _
      unfold rgD
      rw [List.getElem?_map, List.getElem?_range (by omega)]
      show some (D.int (2 + (i : Nat))) = some (D.int ((swapF (i + 2) : Nat) : Int))
      unfold swapF
      rw [if_neg (by omega), if_neg (by omega)]
      congr 2
      omega
theorem ring_perm {n : Nat} (hn : 0 < n) : PermOn n (modF n fun x => x + 1) := by
  have e : (fun x : Int => x + 1) = fun x => 1 + 1 * x := funext fun x => by omega
  rw [e]
  exact permOn_shift hn 1 1 (.inl rfl)
theorem mirror_perm {n : Nat} (hn : 0 < n) : PermOn n (modF n fun x => (n : Int) - x) := by
  have e : (fun x : Int => (n : Int) - x) = fun x => (n : Int) + (-1) * x := funext fun x => by omega
  rw [e]
  exact permOn_shift hn n (-1) (.inr rfl)
theorem affine_perm {n : Nat} (hp : n ∈ primes4) {t : Nat} (h1 : 1 ≤ t) (h2 : t < n) : PermOn n (modF n fun x => x * (t : Int)) := by
  have e : (fun x : Int => x * (t : Int)) = fun x => 0 + (t : Int) * x := funext fun x => by rw [Int.mul_comm]; omega
  rw [e]
  exact permOn_affine hp 0 h1 h2
theorem mod_out {n : Nat} {F : Int → Int} {out : List D} (hn : 0 < n) (h : All2 (fun (d e : D) => e = D.int ((fun x => F x % (n : Int)) d.toI)) ((List.range (n : Int).toNat).map fun (i : Nat) => D.int (0 + (i : Nat))) out) : D.tup out = arrD n (modF n F) := by
  have := map_rg (n := n) (F := fun x => F x % (n : Int)) (Int.toNat_natCast _) h fun x _ => Int.emod_nonneg _ (by omega)
  rw [this]
  rfl
def bodyOf : List Stmt → List Stmt
  | .If _ b _ _ :: _ => b.drop 1
  | _ => []
theorem moves_step {g : Gx} [BI g] (h : Has g "_law_spec_moves" s__law_spec_moves) (gp : ∀ k, FnG g "_law_spec_places" (k + 1) (spPlaces k)) (gw : FnG g "_law_within" 1 spWithin) (go : FnG g "_law_over" 1 spOver) (gt : FnG g "_law_turn" 1 spTurn) (k : Nat) (ih : ∀ j, k = j + 1 → FnG g "_law_spec_moves" (j + 2) (spMoves j)) : FnG g "_law_spec_moves" (k + 2) (spMoves k) := by
  refine fn_has h c__law_spec_moves b__law_spec_moves (fun ds Q E ⟨x, n, h, _⟩ => by rw [h]; rfl) fun ds Q E ⟨x, n, h, hS, hn, q⟩ => ?_
  subst h
  have nd := c__law_spec_moves.nd
  have hn1 := hS.pos
  have hn2 := bd_self hn
  have hlen : n ≤ n * 2 ^ k := Nat.le_mul_of_pos_right n (two_pos k)
  have plain : ∀ (w : Str), decide (w = ("twice" : Str)) = false → decide (w = ("beside" : Str)) = false → decide (w = ("boxes" : Str)) = false → BL (Ct.def g n__law_spec_moves (defScope s__law_spec_moves) (k + 1) E) ((defBody s__law_spec_moves).drop 5) [.val (.tup [.str w, .int (n : Nat)]), .val (.str w), .emp, .val (.int (n : Nat)), .emp, .emp, .emp, .emp, .emp, .emp, .emp, .emp] { nx := fun _ => Q .non, rt := Q } →
      BL (Ct.def g n__law_spec_moves (defScope s__law_spec_moves) (k + 1) E) (defBody s__law_spec_moves) [.val (.tup [.str w, .int (n : Nat)]), .emp, .emp, .emp, .emp, .emp, .emp, .emp, .emp, .emp, .emp, .emp] { nx := fun _ => Q .non, rt := Q } := fun w h1 h2 h3 tail => by
    refine bl_cons (bs_set 1 nd (w_ix i_tup (w_name 0 rfl (w_int ⟨_, _, _, rfl, rfl, ix0, ?_⟩))))
    refine bl_cons (bs_if (wb_cmp d_eq (w_name 1 rfl (w_str ⟨_, rfl, _, rfl, ?_⟩))))
    refine elsF h1 ?_
    refine bl_cons (bs_if (wb_cmp d_eq (w_name 1 rfl (w_str ⟨_, rfl, _, rfl, ?_⟩))))
    refine elsF h2 ?_
    refine bl_cons (bs_if (wb_cmp d_eq (w_name 1 rfl (w_str ⟨_, rfl, _, rfl, ?_⟩))))
    refine elsF h3 ?_
    exact bl_cons (bs_set 3 nd (w_ix i_tup (w_name 0 rfl (w_int ⟨_, _, _, rfl, rfl, ix1, tail⟩))))
  have ringed : ∀ (w : Str), decide (w = ("still" : Str)) = false → BL (Ct.def g n__law_spec_moves (defScope s__law_spec_moves) (k + 1) E) ((defBody s__law_spec_moves).drop 7) [.val (.tup [.str w, .int (n : Nat)]), .val (.str w), .emp, .val (.int (n : Nat)), .emp, .emp, .val (arrD n (modF n fun x => x + 1)), .emp, .emp, .emp, .emp, .emp] { nx := fun _ => Q .non, rt := Q } →
      BL (Ct.def g n__law_spec_moves (defScope s__law_spec_moves) (k + 1) E) ((defBody s__law_spec_moves).drop 5) [.val (.tup [.str w, .int (n : Nat)]), .val (.str w), .emp, .val (.int (n : Nat)), .emp, .emp, .emp, .emp, .emp, .emp, .emp, .emp] { nx := fun _ => Q .non, rt := Q } := fun w h1 tail => by
    refine bl_cons (bs_if (wb_cmp d_eq (w_name 1 rfl (w_str ⟨_, rfl, _, rfl, ?_⟩))))
    refine elsF h1 ?_
    refine bl_cons (bs_set 6 nd (w_tuple (w_map 9 (fun (d e : D) => e = D.int ((fun x : Int => (x + 1) % (n : Int)) d.toI)) nd (wi_rg1 (bi "range") (w_name 3 rfl ⟨_, rfl, by omega, by omega, by rw [List.length_map, List.length_range, Int.toNat_natCast] <;> omega, fun d hd => ?_, fun out ho => ⟨_, rfl, ?_⟩⟩)))))
    · obtain ⟨i, hi⟩ := List.getElem?_of_mem hd
      obtain ⟨hi2, rfl⟩ := rg_get hi
      exact w_op d_mod (w_intC (w_op d_add (w_name 9 rfl (w_int ⟨_, _, rfl, rfl, _, rfl, w_name 3 rfl ⟨_, _, rfl, rfl, by omega, rfl⟩⟩))))
    · have e := mod_out (F := fun x => x + 1) hn1 ho
      rw [e]
      exact tail
  have hr := ring_perm hn1
  cases hS with
  | still =>
    refine plain _ (by decide +kernel) (by decide +kernel) (by decide +kernel) ?_
    refine bl_cons (bs_if (wb_cmp d_eq (w_name 1 rfl (w_str ⟨_, rfl, _, rfl, ?_⟩))))
    refine iteTr (by decide +kernel) ?_
    exact bl_one (bs_ret (w_lst (wa_nil ⟨by decide, q _ (ArrL.nil n) (Nat.zero_le _) (Nat.zero_le _)⟩)))
  | ring =>
    refine plain _ (by decide +kernel) (by decide +kernel) (by decide +kernel) (ringed _ (by decide +kernel) ?_)
    refine bl_cons (bs_if (wb_cmp d_eq (w_name 1 rfl (w_str ⟨_, rfl, _, rfl, ?_⟩))))
    refine iteTr (by decide +kernel) ?_
    exact bl_one (bs_ret (w_lst (wa_cons (w_name 6 rfl (wa_nil ⟨by simp, q _ (ArrL.cons hr (ArrL.nil n)) (by simp <;> omega) (mvB_one hn1)⟩)))))
  | mirror h3 =>
    refine plain _ (by decide +kernel) (by decide +kernel) (by decide +kernel) (ringed _ (by decide +kernel) ?_)
    refine bl_cons (bs_if (wb_cmp d_eq (w_name 1 rfl (w_str ⟨_, rfl, _, rfl, ?_⟩))))
    refine elsF (by decide +kernel) ?_
    refine bl_cons (bs_if (wb_cmp d_eq (w_name 1 rfl (w_str ⟨_, rfl, _, rfl, ?_⟩))))
    refine iteTr (by decide +kernel) ?_
    refine bl_one (bs_ret (w_lst (wa_cons (w_name 6 rfl (wa_cons (w_tuple (w_map 9 (fun (d e : D) => e = D.int ((fun x : Int => ((n : Int) - x) % (n : Int)) d.toI)) nd (wi_rg1 (bi "range") (w_name 3 rfl ⟨_, rfl, by omega, by omega, by rw [List.length_map, List.length_range, Int.toNat_natCast] <;> omega, fun d hd => ?_, fun out ho => ⟨_, rfl, ?_⟩⟩)))))))))
    · obtain ⟨i, hi⟩ := List.getElem?_of_mem hd
      obtain ⟨hi2, rfl⟩ := rg_get hi
      exact w_op d_mod (w_intC (w_op d_sub (w_name 3 rfl (w_name 9 rfl ⟨_, _, rfl, rfl, _, rfl, w_name 3 rfl ⟨_, _, rfl, rfl, by omega, rfl⟩⟩))))
    · have e := mod_out (F := fun x => (n : Int) - x) hn1 ho
      rw [e]
      exact wa_nil ⟨by simp, q _ (ArrL.cons hr (ArrL.cons (mirror_perm hn1) (ArrL.nil n))) (by simp <;> omega) (mvB_two h3)⟩
  | affine hp =>
    refine plain _ (by decide +kernel) (by decide +kernel) (by decide +kernel) (ringed _ (by decide +kernel) ?_)
    have h5 : 5 ≤ n := by simp [primes4] at hp; omega
    refine bl_cons (bs_if (wb_cmp d_eq (w_name 1 rfl (w_str ⟨_, rfl, _, rfl, ?_⟩))))
    refine elsF (by decide +kernel) ?_
    refine bl_cons (bs_if (wb_cmp d_eq (w_name 1 rfl (w_str ⟨_, rfl, _, rfl, ?_⟩))))
    refine elsF (by decide +kernel) ?_
    refine bl_cons (bs_if (wb_cmp d_eq (w_name 1 rfl (w_str ⟨_, rfl, _, rfl, ?_⟩))))
    refine iteTr (by decide +kernel) ?_
    have fin : ∀ (t : Nat) (N B C : Gm → Prop), 1 ≤ t → t < n → BL (Ct.def g n__law_spec_moves (defScope s__law_spec_moves) (k + 1) E) (bodyOf ((defBody s__law_spec_moves).drop 9)) [.val (.tup [.str "affine", .int (n : Nat)]), .val (.str "affine"), .emp, .val (.int (n : Nat)), .emp, .emp, .val (arrD n (modF n fun x => x + 1)), .val (.int (t : Nat)), .emp, .emp, .emp, .emp] { nx := N, rt := Q, bk := B, ct := C } := fun t N B C ht1 ht2 => by
      refine bl_one (bs_ret (w_lst (wa_cons (w_name 6 rfl (wa_cons (w_tuple (w_map 9 (fun (d e : D) => e = D.int ((fun x : Int => (x * (t : Int)) % (n : Int)) d.toI)) nd (wi_rg1 (bi "range") (w_name 3 rfl ⟨_, rfl, by omega, by omega, by rw [List.length_map, List.length_range, Int.toNat_natCast] <;> omega, fun d hd => ?_, fun out ho => ⟨_, rfl, ?_⟩⟩)))))))))
      · obtain ⟨i, hi⟩ := List.getElem?_of_mem hd
        obtain ⟨hi2, rfl⟩ := rg_get hi
        rw [Int.toNat_natCast] at hi2
        exact w_op d_mod (w_intC (w_op d_mul (w_name 9 rfl (w_name 7 rfl ⟨_, _, rfl, rfl, .inl ⟨by omega, by omega⟩, _, rfl, w_name 3 rfl ⟨_, _, rfl, rfl, by omega, rfl⟩⟩))))
      · have e := mod_out (F := fun x => x * (t : Int)) hn1 ho
        rw [e]
        exact wa_nil ⟨by simp, q _ (ArrL.cons hr (ArrL.cons (affine_perm hp ht1 ht2) (ArrL.nil n))) (by simp <;> omega) (mvB_two (by omega))⟩
    refine bl_cons (bs_set 7 nd (w_if (wb_cmp d_eq (w_name 3 rfl (w_int ⟨_, rfl, _, rfl, ?_⟩)))))
    cases decide ((n : Int) = 7) with
    | true => exact iteT (w_int (fin 3 _ _ _ (by omega) (by omega)))
    | false => exact iteF (w_int (fin 2 _ _ _ (by omega) (by omega)))
  | all =>
    refine plain _ (by decide +kernel) (by decide +kernel) (by decide +kernel) (ringed _ (by decide +kernel) ?_)
    refine bl_cons (bs_if (wb_cmp d_eq (w_name 1 rfl (w_str ⟨_, rfl, _, rfl, ?_⟩))))
    refine elsF (by decide +kernel) ?_
    refine bl_cons (bs_if (wb_cmp d_eq (w_name 1 rfl (w_str ⟨_, rfl, _, rfl, ?_⟩))))
    refine elsF (by decide +kernel) ?_
    refine bl_cons (bs_if (wb_cmp d_eq (w_name 1 rfl (w_str ⟨_, rfl, _, rfl, ?_⟩))))
    refine elsF (by decide +kernel) ?_
    refine bl_cons (bs_if (wb_cmp d_eq (w_name 1 rfl (w_str ⟨_, rfl, _, rfl, ?_⟩))))
    refine iteTr (by decide +kernel) ?_
    refine bl_cons (bs_if (wb_cmp d_lt (w_name 3 rfl (w_int ⟨_, _, rfl, rfl, _, rfl, ?_⟩))))
    by_cases h3 : (n : Int) < 3
    · rw [decide_eq_true h3]
      refine iteT (bl_one (bs_ret (w_if (wb_cmp d_eq (w_name 3 rfl (w_int ⟨_, rfl, _, rfl, ?_⟩))))))
      cases decide ((n : Int) = 2) with
      | true => exact iteT (w_lst (wa_cons (w_name 6 rfl (wa_nil ⟨by simp, q _ (ArrL.cons hr (ArrL.nil n)) (by simp <;> omega) (mvB_one hn1)⟩))))
      | false => exact iteF (w_lst (wa_nil ⟨by decide, q _ (ArrL.nil n) (Nat.zero_le _) (Nat.zero_le _)⟩))
    · rw [decide_eq_false h3]
      refine els (bl_one (bs_ret (w_lst (wa_cons (w_name 6 rfl (wa_cons (w_op d_addT (w_tup (wa_cons (w_int (wa_cons (w_int (wa_nil ⟨by simp, ?_⟩)))))))))))))
      refine w_tupRg2 (bi "tuple") (bi "range") (w_int (w_name 3 rfl ⟨_, _, rfl, rfl, by omega, by omega, by omega, by omega, _, _, rfl, rfl, ?_, ?_⟩))
      · unfold rgD
        rw [List.length_map, List.length_range]
        show 2 + _ ≤ _
        omega
      · rw [swap_arr (by omega)]
        exact wa_nil ⟨by simp, q _ (ArrL.cons hr (ArrL.cons (permOn_swap (by omega)) (ArrL.nil n))) (by simp <;> omega) (mvB_two (by omega))⟩
  | even h3 =>
    refine plain _ (by decide +kernel) (by decide +kernel) (by decide +kernel) (ringed _ (by decide +kernel) ?_)
    refine bl_cons (bs_if (wb_cmp d_eq (w_name 1 rfl (w_str ⟨_, rfl, _, rfl, ?_⟩))))
    refine elsF (by decide +kernel) ?_
    refine bl_cons (bs_if (wb_cmp d_eq (w_name 1 rfl (w_str ⟨_, rfl, _, rfl, ?_⟩))))
    refine elsF (by decide +kernel) ?_
    refine bl_cons (bs_if (wb_cmp d_eq (w_name 1 rfl (w_str ⟨_, rfl, _, rfl, ?_⟩))))
    refine elsF (by decide +kernel) ?_
    refine bl_cons (bs_if (wb_cmp d_eq (w_name 1 rfl (w_str ⟨_, rfl, _, rfl, ?_⟩))))
    refine elsF (by decide +kernel) ?_
    refine bl_one (bs_ret (w_map 11 (fun _ e => isA n e) nd (wi_rg2 (bi "range") (w_int (w_name 3 rfl ⟨_, _, rfl, rfl, ⟨by omega, by omega, by omega, by omega⟩, by rw [List.length_map, List.length_range] <;> omega, fun d hd => ?_, fun out ho => q out (ArrL.of ho) ?_ ?_⟩)))))
    · obtain ⟨i, hi⟩ := List.getElem?_of_mem hd
      obtain ⟨hi2, rfl⟩ := rg_get hi
      have e : (2 : Int) + (i : Int) = ((i + 2 : Nat) : Int) := by omega
      rw [e]
      exact w_call gt (wa_cons (w_name 3 rfl (wa_cons (w_int (wa_cons (w_int (wa_cons (w_name 11 rfl (wa_nil ⟨n, i + 2, rfl, by omega, by omega, by omega, _, permOn_turn (by omega) (by omega), rfl⟩)))))))))
    · rw [← ho.length, List.length_map, List.length_range]
      omega
    · rw [← ho.length, List.length_map, List.length_range]
      have := mvB_even (k := k) h3
      omega
  | @twice j m s hs =>
    have F := ih j rfl
    have hb := bd_sub (show m ≤ 2 * m by omega) hn
    have hm := bd_self hb
    refine bl_cons (bs_set 1 nd (w_ix i_tup (w_name 0 rfl (w_int ⟨_, _, _, rfl, rfl, ix0, ?_⟩))))
    refine bl_cons (bs_if (wb_cmp d_eq (w_name 1 rfl (w_str ⟨_, rfl, _, rfl, ?_⟩))))
    refine iteTr (by decide +kernel) ?_
    refine bl_one (bs_ret (w_mapC 8 (fun _ e => isA (2 * m) e) nd (wi_lst (w_call F (hk := Nat.le_refl _) (wa_cons (w_ix i_tup (w_name 0 rfl (w_int ⟨_, _, _, rfl, rfl, ix1, wa_nil ⟨s, m, rfl, hs, hb, fun ms hA hL hV => ⟨_, rfl, by omega, fun d hd => ?_, fun out ho => q out (ArrL.of ho) ?_ ?_⟩⟩⟩))))))))
    · obtain ⟨f, hf, rfl⟩ := hA d hd
      refine w_op d_addT (w_name 8 rfl (w_tuple (w_map 9 (fun (d e : D) => e = D.int ((m : Int) + d.toI)) nd (wi_tup (w_name 8 rfl ⟨_, rfl, by rw [arrL_len] <;> omega, fun d hd => ?_, fun out ho => ⟨_, rfl, _, _, rfl, rfl, by rw [← ho.length, arrL_len] <;> omega, ?_⟩⟩)))))
      · obtain ⟨i, hi, rfl⟩ := arrL_mem hd
        exact w_op d_add (w_len (w_name 8 rfl ⟨_, len_arr m f, w_name 9 rfl ⟨_, _, rfl, rfl, rfl⟩⟩))
      · rw [join_map ho, Nat.two_mul]
        exact ⟨_, permOn_join hf hf, rfl⟩
    · rw [← ho.length, bd_two]
      have : m * 2 ^ j ≤ 2 * m * 2 ^ j := Nat.mul_le_mul_right _ (by omega)
      omega
    · rw [← ho.length]
      have := mvB_twice (k := j) hs.pos
      omega
  | @beside j m l s t hs ht =>
    have F := ih j rfl
    have hb := bd_sub (show m ≤ m + l by omega) hn
    have hb2 := bd_sub (show l ≤ m + l by omega) hn
    have hm := bd_self hb
    have hl := bd_self hb2
    refine bl_cons (bs_set 1 nd (w_ix i_tup (w_name 0 rfl (w_int ⟨_, _, _, rfl, rfl, ix0, ?_⟩))))
    refine bl_cons (bs_if (wb_cmp d_eq (w_name 1 rfl (w_str ⟨_, rfl, _, rfl, ?_⟩))))
    refine elsF (by decide +kernel) ?_
    refine bl_cons (bs_if (wb_cmp d_eq (w_name 1 rfl (w_str ⟨_, rfl, _, rfl, ?_⟩))))
    refine iteTr (by decide +kernel) ?_
    refine bl_cons (bs_set 2 nd (w_call (gp j) (hk := Nat.le_succ _) (wa_cons (w_ix i_tup (w_name 0 rfl (w_int ⟨_, _, _, rfl, rfl, ix1, wa_nil ⟨s, m, rfl, hs.spc, by omega, ?_⟩⟩))))))
    refine bl_cons (bs_set 3 nd (w_call (gp (j + 1)) (hk := Nat.le_refl _) (wa_cons (w_name 0 rfl (wa_nil ⟨_, m + l, rfl, (Spd.beside hs ht).spc, by omega, ?_⟩)))))
    refine bl_one (bs_ret (w_wo (wo_op d_addL (w_map 8 (fun _ e => isA (m + l) e) nd (wi_lst (w_call F (hk := Nat.le_refl _) (wa_cons (w_ix i_tup (w_name 0 rfl (w_int ⟨_, _, _, rfl, rfl, ix1, wa_nil ⟨s, m, rfl, hs, hb, fun ms hA hL hV => ⟨_, rfl, by omega, fun d hd => ?_, fun out ho => ?_⟩⟩⟩))))))))))
    · obtain ⟨f, hf, rfl⟩ := hA d hd
      exact w_call gw (wa_cons (w_name 3 rfl (wa_cons (w_int (wa_cons (w_name 8 rfl (wa_nil ⟨m + l, 0, m, f, rfl, by omega, by omega, hf, _, permOn_in hf (by omega), rfl⟩)))))))
    · refine w_map 8 (fun _ e => isA (m + l) e) nd (wi_lst (w_call F (hk := Nat.le_refl _) (wa_cons (w_ix i_tup (w_name 0 rfl (w_int ⟨_, _, _, rfl, rfl, ix2, wa_nil ⟨t, l, rfl, ht, hb2, fun ms2 hA2 hL2 hV2 => ⟨_, rfl, by omega, fun d hd => ?_, fun out2 ho2 => ⟨_, _, rfl, rfl, ?_, q _ (ArrL.app (ArrL.of ho) (ArrL.of ho2)) ?_ ?_⟩⟩⟩⟩))))))
      · obtain ⟨f, hf, rfl⟩ := hA2 d hd
        exact w_call gw (wa_cons (w_name 3 rfl (wa_cons (w_name 2 rfl (wa_cons (w_name 8 rfl (wa_nil ⟨m + l, m, l, f, rfl, by omega, by omega, hf, _, permOn_in hf (by omega), rfl⟩)))))))
      · rw [← ho.length, ← ho2.length]
        omega
      · rw [List.length_append, ← ho.length, ← ho2.length, bd_two, Nat.add_mul]
        omega
      · rw [List.length_append, ← ho.length, ← ho2.length]
        have := mvB_beside (k := j) hs.pos ht.pos
        omega
  | @boxes j m l s t hs ht hm2 hl2 =>
    have F := ih j rfl
    have h1 := hs.pos
    have h2 := ht.pos
    have b1 : m ≤ m * l := Nat.le_mul_of_pos_right m h2
    have b2 : l ≤ m * l := Nat.le_mul_of_pos_left l h1
    have hb := bd_sub b1 hn
    have hb2 := bd_sub b2 hn
    have hm := bd_self hb
    have hl := bd_self hb2
    refine bl_cons (bs_set 1 nd (w_ix i_tup (w_name 0 rfl (w_int ⟨_, _, _, rfl, rfl, ix0, ?_⟩))))
    refine bl_cons (bs_if (wb_cmp d_eq (w_name 1 rfl (w_str ⟨_, rfl, _, rfl, ?_⟩))))
    refine elsF (by decide +kernel) ?_
    refine bl_cons (bs_if (wb_cmp d_eq (w_name 1 rfl (w_str ⟨_, rfl, _, rfl, ?_⟩))))
    refine elsF (by decide +kernel) ?_
    refine bl_cons (bs_if (wb_cmp d_eq (w_name 1 rfl (w_str ⟨_, rfl, _, rfl, ?_⟩))))
    refine iteTr (by decide +kernel) ?_
    refine bl_cons (bs_set 2 nd (w_call (gp j) (hk := Nat.le_succ _) (wa_cons (w_ix i_tup (w_name 0 rfl (w_int ⟨_, _, _, rfl, rfl, ix1, wa_nil ⟨s, m, rfl, hs.spc, by omega, ?_⟩⟩))))))
    refine bl_cons (bs_set 3 nd (w_call (gp (j + 1)) (hk := Nat.le_refl _) (wa_cons (w_name 0 rfl (wa_nil ⟨_, m * l, rfl, (Spd.boxes hs ht hm2 hl2).spc, by omega, ?_⟩)))))
    refine bl_cons (bs_set 4 nd (w_lst (wa_nil ⟨by decide, ?_⟩)))
    have eP : l * (m * 2 ^ j) = m * l * 2 ^ j := by rw [← Nat.mul_assoc, Nat.mul_comm l m]
    have eL : m * l * 2 ^ (j + 1) = m * l * 2 ^ j + m * l * 2 ^ j := bd_two _ _
    have eM : l * 2 ^ j ≤ m * l * 2 ^ j := Nat.mul_le_mul_right _ b2
    have eD : ((m * l : Nat) : Int) / (m : Int) = (l : Int) := by rw [nat_div, Nat.mul_div_cancel_left l h1]
    refine bl_cons (bs_for (wt_name 5 nd) (wi_rg1 (bi "range") (w_op d_fdiv (w_name 3 rfl (w_name 2 rfl ⟨_, _, rfl, rfl, ⟨by omega, by omega⟩, ?_⟩)))))
    rw [eD]
    refine ⟨_, rfl, by omega, by omega, ?_⟩
    refine ⟨fun i Γ => ∃ ms a, Γ = [.val (.tup [.str "boxes", s, t]), .val (.str "boxes"), .val (.int (m : Nat)), .val (.int (m * l : Nat)), .val (.lst ms), a, .emp, .emp, .emp, .emp, .emp, .emp] ∧ ArrL (m * l) ms ∧ ms.length ≤ i * (m * 2 ^ j) ∧ ms.length ≤ i * mvB j m, ⟨[], _, rfl, ArrL.nil _, Nat.zero_le _, Nat.zero_le _⟩, ?_, ?_⟩
    · rintro i d Γ' hd ⟨ms0, a, rfl, hA0, hL0, hV0⟩
      obtain ⟨hi, rfl⟩ := rg_get hd
      rw [Int.toNat_natCast] at hi
      rw [Int.zero_add]
      have c1 : (i + 1) * m ≤ l * m := Nat.mul_le_mul_right m hi
      rw [Nat.succ_mul, Nat.mul_comm l m] at c1
      have c2 : (i + 1) * (m * 2 ^ j) ≤ l * (m * 2 ^ j) := Nat.mul_le_mul_right _ hi
      have c3 : (i + 1) * (m * 2 ^ j) = i * (m * 2 ^ j) + m * 2 ^ j := Nat.succ_mul i (m * 2 ^ j)
      refine bl_one (bs_set 4 nd (w_wo (wo_op d_addL (w_name 4 rfl (w_map 8 (fun _ e => isA (m * l) e) nd (wi_lst (w_call F (hk := Nat.le_refl _) (wa_cons (w_ix i_tup (w_name 0 rfl (w_int ⟨_, _, _, rfl, rfl, ix1, wa_nil ⟨s, m, rfl, hs, hb, fun ms hA hL hV => ⟨_, rfl, by omega, fun d hd => ?_, fun out ho => ⟨_, _, rfl, rfl, ?_, _, _, rfl, ArrL.app hA0 (ArrL.of ho), ?_, ?_⟩⟩⟩⟩)))))))))))
      · obtain ⟨f, hf, rfl⟩ := hA d hd
        refine w_call gw (wa_cons (w_name 3 rfl (wa_cons (w_op d_mul (w_name 5 rfl (w_name 2 rfl ⟨_, _, rfl, rfl, .inl ⟨by omega, by omega⟩, ?_⟩))))))
        rw [← Int.natCast_mul]
        exact wa_cons (w_name 8 rfl (wa_nil ⟨m * l, i * m, m, f, rfl, by omega, by omega, hf, _, permOn_in hf (by omega), rfl⟩))
      · rw [← ho.length]
        omega
      · rw [List.length_append, ← ho.length]
        omega
      · rw [List.length_append, ← ho.length, Nat.succ_mul]
        omega
    · rintro Γ' ⟨ms0, a, rfl, hA0, hL0, hV0⟩
      rw [List.length_map, List.length_range, Int.toNat_natCast] at hL0 hV0
      refine bl_one (bs_ret (w_wo (wo_op d_addL (w_name 4 rfl (w_map 10 (fun _ e => isA (m * l) e) nd (wi_lst (w_call F (hk := Nat.le_refl _) (wa_cons (w_ix i_tup (w_name 0 rfl (w_int ⟨_, _, _, rfl, rfl, ix2, wa_nil ⟨t, l, rfl, ht, hb2, fun ms hA hL hV => ⟨_, rfl, by omega, fun d hd => ?_, fun out ho => ⟨_, _, rfl, rfl, ?_, q _ (ArrL.app hA0 (ArrL.of ho)) ?_ ?_⟩⟩⟩⟩)))))))))))
      · obtain ⟨f, hf, rfl⟩ := hA d hd
        exact w_call go (wa_cons (w_name 2 rfl (wa_cons (w_name 10 rfl (wa_nil ⟨m, l, f, rfl, by omega, by omega, by omega, hf, _, permOn_over hf h1, rfl⟩)))))
      · rw [← ho.length]
        omega
      · rw [List.length_append, ← ho.length]
        omega
      · rw [List.length_append, ← ho.length]
        have := mvB_boxes (k := j) hm2 hl2
        omega
theorem ok_moves {g : Gx} [BI g] (h : Has g "_law_spec_moves" s__law_spec_moves) (gp : ∀ k, FnG g "_law_spec_places" (k + 1) (spPlaces k)) (gw : FnG g "_law_within" 1 spWithin) (go : FnG g "_law_over" 1 spOver) (gt : FnG g "_law_turn" 1 spTurn) : ∀ k : Nat, FnG g "_law_spec_moves" (k + 2) (spMoves k)
  | 0 => moves_step h gp gw go gt 0 fun j e => by omega
  | k + 1 => moves_step h gp gw go gt (k + 1) fun j e => by
    have : j = k := by omega
    subst this
    exact ok_moves h gp gw go gt j
end K3
set_option Elab.async false
set_option linter.all false
set_option maxRecDepth 100000
set_option maxHeartbeats 4000000
namespace K3
open PySem PySem.Spec PyProof.Rows L2 Evl WL
theorem arr_of_perm {n : Nat} {ns : List Int} (h : ns.Perm (rgI (n : Int))) : ∃ f, PermOn n f ∧ D.tup (ns.map D.int) = arrD n f := by
  obtain ⟨f, hf, e⟩ := perm_fun h
  exact ⟨f, hf, by rw [e]; rfl⟩
theorem rgD_arr (n : Nat) : D.tup (rgD 0 (n : Int)) = arrD n fun y => y := by rw [rgD_tab, arr_tab]
def bodyD (k : Nat) : List Stmt → List Stmt
  | .If _ b _ _ :: _ => b.drop k
  | _ => []
def spPlain : DSp := fun ds Q _ => ∃ n : Nat, ds = [.strm, .int n] ∧ 1 ≤ n ∧ n ≤ 4000 ∧ ∀ d, (∀ k, Spd k d n) → Q d
def OkW (n : Nat) (d : D) : Prop := ∀ k, Spd k (.tup [d, .int (n : Nat)]) n
theorem inV_primes {n : Nat} (h : inV (V.int n) [V.int 5, V.int 7, V.int 11, V.int 13] = true) : n ∈ primes4 := by
  unfold inV at h
  simp [eqV] at h
  simp [primes4]
  omega
theorem ok_plain {g : Gx} [BI g] (h : Has g "_law_spec_plain" s__law_spec_plain) (g2 : FnG g "_law_pick" 2 spPick) : FnG g "_law_spec_plain" 3 spPlain := by
  refine fn_has h c__law_spec_plain b__law_spec_plain (fun ds Q E ⟨n, h, _⟩ => by rw [h]; rfl) fun ds Q E ⟨n, h, h1, h4, q⟩ => ?_
  subst h
  have nd := c__law_spec_plain.nd
  have tail : ∀ ws : List D, ws ≠ [] → ws.length ≤ 20 → (∀ d ∈ ws, OkW n d) → BL (Ct.def g n__law_spec_plain (defScope s__law_spec_plain) 2 E) ((defBody s__law_spec_plain).drop 2) [.val .strm, .val (.int n), .val (.lst ws)] { nx := fun _ => Q .non, rt := Q } := fun ws h0 hl hw => by
    have last : ∀ ws : List D, ws ≠ [] → ws.length ≤ 30 → (∀ d ∈ ws, OkW n d) → BL (Ct.def g n__law_spec_plain (defScope s__law_spec_plain) 2 E) ((defBody s__law_spec_plain).drop 3) [.val .strm, .val (.int n), .val (.lst ws)] { nx := fun _ => Q .non, rt := Q } := fun ws h0 hl hw => by
      refine bl_one (bs_ret (w_tup (wa_cons (w_call g2 (wa_cons (w_name 0 rfl (wa_cons (w_name 2 rfl (wa_nil ⟨_, ws, rfl, rfl, h0, by omega, fun d hd => wa_cons (w_name 1 rfl (wa_nil ⟨by simp, q _ (hw d hd)⟩))⟩)))))))))
    refine bl_cons (bs_if (wb_cmp d_in (w_name 1 rfl (w_tup (wa_cons (w_int (wa_cons (w_int (wa_cons (w_int (wa_cons (w_int (wa_nil ⟨by simp, _, _, _, rfl, rfl, rfl, _, rfl, ?_⟩)))))))))))))
    cases hp : inV (V.int n) [V.int 5, V.int 7, V.int 11, V.int 13] with
    | false => exact els (last ws h0 (by omega) hw)
    | true =>
      have hP := inV_primes hp
      refine iteT (bl_one (bs_set 2 nd (w_wo (wo_op d_addL (w_name 2 rfl (w_lst (wa_cons (w_str (wa_cons (w_str (wa_nil ⟨by simp, _, _, rfl, rfl, by simp <;> omega, ?_⟩)))))))))))
      refine last _ (by simp) (by simp <;> omega) fun d hd => ?_
      rcases List.mem_append.mp hd with hd | hd
      · exact hw d hd
      · simp at hd
        subst hd
        exact fun k => .affine hP
  have base : ∀ d ∈ ([.str "still", .str "ring", .str "all"] : List D), OkW n d := fun d hd => by
    simp at hd
    rcases hd with rfl | rfl | rfl
    · exact fun k => .still h1
    · exact fun k => .ring h1
    · exact fun k => .all h1
  refine bl_cons (bs_set 2 nd (w_lst (wa_cons (w_str (wa_cons (w_str (wa_cons (w_str (wa_nil ⟨by simp, ?_⟩)))))))))
  refine bl_cons (bs_if (wb_cmp d_ge (w_name 1 rfl (w_int ⟨_, _, rfl, rfl, _, rfl, ?_⟩))))
  by_cases h3 : (3 : Int) ≤ n
  · rw [decide_eq_true h3]
    refine iteT (bl_one (bs_set 2 nd (w_wo (wo_op d_addL (w_name 2 rfl (w_lst (wa_cons (w_str (wa_cons (w_str (wa_cons (w_str (wa_cons (w_str (wa_nil ⟨by simp, _, _, rfl, rfl, by simp, ?_⟩)))))))))))))))
    refine tail _ (by simp) (by simp) fun d hd => ?_
    rcases List.mem_append.mp hd with hd | hd
    · exact base d hd
    · simp at hd
      rcases hd with rfl | rfl | rfl | rfl
      · exact fun k => .mirror (by omega)
      · exact fun k => .even (by omega)
      · exact fun k => .all h1
      · exact fun k => .even (by omega)
  · rw [decide_eq_false h3]
    exact els (tail _ (by simp) (by simp) base)
def spSpec (k : Nat) : DSp := fun ds Q _ => ∃ n : Nat, ds = [.strm, .int n, .int (k : Nat)] ∧ 1 ≤ n ∧ n ≤ 2000 ∧ ∀ d, Spd k d n → Q d
theorem spec_step {g : Gx} [BI g] (h : Has g "_law_spec" s__law_spec) (g1 : FnG g "_law_next" 1 spNext) (g2 : FnG g "_law_pick" 2 spPick) (g3 : FnG g "_law_spec_plain" 3 spPlain) (k : Nat) (ih : ∀ j, k = j + 1 → FnG g "_law_spec" (j + 4) (spSpec j)) : FnG g "_law_spec" (k + 4) (spSpec k) := by
  refine fn_has h c__law_spec b__law_spec (fun ds Q E ⟨n, h, _⟩ => by rw [h]; rfl) fun ds Q E ⟨n, h, h1, h2, q⟩ => ?_
  subst h
  have nd := c__law_spec.nd
  have plain : ∀ N B C, BL (Ct.def g n__law_spec (defScope s__law_spec) (k + 3) E) (bodyD 0 (defBody s__law_spec)) [.val .strm, .val (.int n), .val (.int k), .emp, .emp, .emp, .emp, .emp] { nx := N, rt := Q, bk := B, ct := C } := fun N B C =>
    bl_one (bs_ret (w_call g3 (wa_cons (w_name 0 rfl (wa_cons (w_name 1 rfl (wa_nil ⟨n, rfl, h1, by omega, fun d hd => q d (hd k)⟩)))))))
  refine bl_cons (bs_if (wb_ww (ww_or (wb_cmp d_eq (w_name 2 rfl (w_int ⟨_, rfl, _, rfl, ?_⟩))))))
  cases k with
  | zero => exact iteTr rfl (iteT (plain _ _ _))
  | succ j =>
    have F := ih j rfl
    refine iteFa (decide_eq_false (by omega)) (ww_or (wb_cmp d_eq (w_name 1 rfl (w_int ⟨_, rfl, _, rfl, ?_⟩))))
    by_cases hn1 : (n : Int) = 1
    · rw [decide_eq_true hn1]
      exact iteT (iteT (plain _ _ _))
    · rw [decide_eq_false hn1]
      refine iteF (ww_or1 (wb_cmp d_eq (w_call g1 (wa_cons (w_name 0 rfl (wa_cons (w_int (wa_nil ⟨_, rfl, by omega, by omega, fun z hz0 hz1 => w_int ⟨_, rfl, _, rfl, ?_⟩⟩))))))))
      cases decide (z = 0) with
      | true => exact iteT (plain _ _ _)
      | false =>
        have ej : ((j + 1 : Nat) : Int) - 1 = (j : Nat) := by omega
        refine els (bl_cons (bs_filter 3 7 (fun d => decide ((n : Int) % d.toI = 0)) (fun d => d) nd (wi_rg2 (bi "range") (w_int (w_name 1 rfl ⟨_, _, rfl, rfl, ⟨by omega, by omega, by omega, by omega⟩, by rw [List.length_map, List.length_range] <;> omega, fun d hd => ?_, fun d hd _ => w_name 7 rfl rfl, ?_⟩)))))
        · obtain ⟨i, hi⟩ := List.getElem?_of_mem hd
          obtain ⟨hi2, rfl⟩ := rg_get hi
          exact wb_cmp d_eq (w_op d_mod (w_intC (w_name 1 rfl ⟨_, rfl, w_name 7 rfl ⟨_, _, rfl, rfl, by omega, w_int ⟨_, rfl, _, rfl, rfl⟩⟩⟩)))
        · generalize hc : (((List.range ((n : Int) - 2).toNat).map fun (i : Nat) => D.int (2 + (i : Nat))).filter fun d => decide ((n : Int) % d.toI = 0)).map (fun d => d) = cs
          refine bl_freeze 3 rfl ?_
          have hcs : ∀ d ∈ cs, ∃ m l : Nat, d = .int (m : Nat) ∧ n = m * l ∧ 2 ≤ m ∧ m < n := fun d hd => by
            rw [← hc, List.map_id'] at hd
            obtain ⟨hd1, hd2⟩ := List.mem_filter.mp hd
            obtain ⟨i, hi⟩ := List.getElem?_of_mem hd1
            obtain ⟨hi2, rfl⟩ := rg_get hi
            have e := of_decide_eq_true hd2
            have e2 : (n : Int) % ((i + 2 : Nat) : Int) = 0 := by
              rw [← e]
              show _ = (n : Int) % (2 + (i : Int))
              congr 1
              omega
            rw [nat_mod] at e2
            refine ⟨i + 2, n / (i + 2), ?_, ?_, by omega, by omega⟩
            · congr 1
              omega
            · have := Nat.div_add_mod n (i + 2)
              omega
          have hcl : cs.length ≤ 2000 := by
            rw [← hc, List.length_map]
            refine Nat.le_trans (List.length_filter_le _ _) ?_
            rw [List.length_map, List.length_range]
            omega
          refine bl_cons (bs_set 4 nd (w_call g1 (wa_cons (w_name 0 rfl (wa_cons (w_int (wa_nil ⟨_, rfl, by omega, by omega, fun kd hk0 hk1 => ?_⟩)))))))
          have beside : BL (Ct.def g n__law_spec (defScope s__law_spec) (j + 1 + 3) E) ((defBody s__law_spec).drop 5) [.val .strm, .val (.int n), .val (.int (j + 1 : Nat)), .val (.lst cs), .val (.int kd), .emp, .emp, .emp] { nx := fun _ => Q .non, rt := Q } := by
            refine bl_cons (bs_set 6 nd (w_op d_add (w_int (w_call g1 (wa_cons (w_name 0 rfl (wa_cons (w_op d_sub (w_name 1 rfl (w_int ⟨_, _, rfl, rfl, wa_nil ⟨_, rfl, by omega, by omega, fun a ha0 ha1 => ⟨_, _, rfl, rfl, ?_⟩⟩⟩))))))))))
            obtain ⟨a', rfl⟩ := Int.eq_ofNat_of_zero_le ha0
            have ea : (1 : Int) + (a' : Int) = ((a' + 1 : Nat) : Int) := by omega
            rw [ea]
            refine bl_one (bs_ret (w_tup (wa_cons (w_str (wa_cons (w_call F (hk := Nat.le_refl _) (wa_cons (w_name 0 rfl (wa_cons (w_name 6 rfl (wa_cons (w_op d_sub (w_name 2 rfl (w_int ⟨_, _, rfl, rfl, ?_⟩))))))))))))))
            rw [ej]
            refine wa_nil ⟨a' + 1, rfl, by omega, by omega, fun s hs => ?_⟩
            refine wa_cons (w_call F (hk := Nat.le_refl _) (wa_cons (w_name 0 rfl (wa_cons (w_op d_sub (w_name 1 rfl (w_name 6 rfl ⟨_, _, rfl, rfl, wa_cons (w_op d_sub (w_name 2 rfl (w_int ⟨_, _, rfl, rfl, ?_⟩)))⟩)))))))
            rw [ej, show (n : Int) - ((a' + 1 : Nat) : Int) = ((n - (a' + 1) : Nat) : Int) by omega]
            refine wa_nil ⟨n - (a' + 1), rfl, by omega, by omega, fun t ht => wa_nil ⟨by simp, q _ ?_⟩⟩
            have := Spd.beside hs ht
            rwa [show a' + 1 + (n - (a' + 1)) = n by omega] at this
          have boxes : BL (Ct.def g n__law_spec (defScope s__law_spec) (j + 1 + 3) E) ((defBody s__law_spec).drop 4) [.val .strm, .val (.int n), .val (.int (j + 1 : Nat)), .val (.lst cs), .val (.int kd), .emp, .emp, .emp] { nx := fun _ => Q .non, rt := Q } := by
            refine bl_cons (bs_if (wb_ww (ww_and (wb_cmp d_lt (w_name 4 rfl (w_int ⟨_, _, rfl, rfl, _, rfl, ?_⟩))))))
            cases decide (kd < 3) with
            | false => exact iteF (els beside)
            | true =>
              refine iteT (ww_and1 (wb_cmp d_gt (w_len (w_name 3 rfl ⟨_, rfl, w_int ⟨_, _, rfl, rfl, _, rfl, ?_⟩⟩))))
              by_cases hc0 : (0 : Int) < (cs.length : Int)
              · rw [decide_eq_true hc0]
                refine iteT (bl_cons (bs_set 5 nd (w_call g2 (wa_cons (w_name 0 rfl (wa_cons (w_name 3 rfl (wa_nil ⟨_, cs, rfl, rfl, List.length_pos_iff.mp (by omega), by omega, fun d hd => ?_⟩))))))))
                obtain ⟨m, l, rfl, hml, hm2, hmn⟩ := hcs d hd
                have hl1 : 1 ≤ l := by
                  rcases Nat.eq_zero_or_pos l with e | e
                  · rw [e, Nat.mul_zero] at hml; omega
                  · exact e
                have hl2 : 2 ≤ l := by
                  rcases Nat.lt_or_ge l 2 with e | e
                  · have : l = 1 := by omega
                    rw [this, Nat.mul_one] at hml
                    omega
                  · exact e
                have hln : l ≤ n := by rw [hml]; exact Nat.le_mul_of_pos_left l (by omega)
                refine bl_one (bs_ret (w_tup (wa_cons (w_str (wa_cons (w_call F (hk := Nat.le_refl _) (wa_cons (w_name 0 rfl (wa_cons (w_name 5 rfl (wa_cons (w_op d_sub (w_name 2 rfl (w_int ⟨_, _, rfl, rfl, ?_⟩))))))))))))))
                rw [ej]
                refine wa_nil ⟨m, rfl, by omega, by omega, fun s hs => ?_⟩
                refine wa_cons (w_call F (hk := Nat.le_refl _) (wa_cons (w_name 0 rfl (wa_cons (w_op d_fdiv (w_name 1 rfl (w_name 5 rfl ⟨_, _, rfl, rfl, ⟨by omega, by omega⟩, wa_cons (w_op d_sub (w_name 2 rfl (w_int ⟨_, _, rfl, rfl, ?_⟩)))⟩)))))))
                have eD : (n : Int) / (m : Int) = (l : Int) := by rw [nat_div, hml, Nat.mul_div_cancel_left l (by omega)]
                rw [ej, eD]
                refine wa_nil ⟨l, rfl, hl1, by omega, fun t ht => wa_nil ⟨by simp, q _ ?_⟩⟩
                have := Spd.boxes hs ht hm2 hl2
                rwa [← hml] at this
              · rw [decide_eq_false hc0]
                exact els beside
          refine bl_cons (bs_if (wb_ww (ww_and (wb_cmp d_eq (w_name 4 rfl (w_int ⟨_, rfl, _, rfl, ?_⟩))))))
          cases decide (kd = 0) with
          | false => exact iteF (els boxes)
          | true =>
            refine iteT (ww_and1 (wb_cmp d_eq (w_op d_mod (w_intC (w_name 1 rfl ⟨_, rfl, w_int ⟨_, _, rfl, rfl, by omega, w_int ⟨_, rfl, _, rfl, ?_⟩⟩⟩)))))
            by_cases h2n : (n : Int) % 2 = 0
            · rw [decide_eq_true h2n]
              refine iteT (bl_one (bs_ret (w_tup (wa_cons (w_str (wa_cons (w_call F (hk := Nat.le_refl _) (wa_cons (w_name 0 rfl (wa_cons (w_op d_fdiv (w_name 1 rfl (w_int ⟨_, _, rfl, rfl, ⟨by omega, by omega⟩, wa_cons (w_op d_sub (w_name 2 rfl (w_int ⟨_, _, rfl, rfl, ?_⟩)))⟩)))))))))))))
              rw [ej, show (n : Int) / 2 = ((n / 2 : Nat) : Int) by omega]
              refine wa_nil ⟨n / 2, rfl, by omega, by omega, fun s hs => wa_nil ⟨by simp, q _ ?_⟩⟩
              have := Spd.twice hs
              rwa [show 2 * (n / 2) = n by omega] at this
            · rw [decide_eq_false h2n]
              exact els boxes
theorem ok_spec {g : Gx} [BI g] (h : Has g "_law_spec" s__law_spec) (g1 : FnG g "_law_next" 1 spNext) (g2 : FnG g "_law_pick" 2 spPick) (g3 : FnG g "_law_spec_plain" 3 spPlain) : ∀ k : Nat, FnG g "_law_spec" (k + 4) (spSpec k)
  | 0 => spec_step h g1 g2 g3 0 fun j e => by omega
  | k + 1 => spec_step h g1 g2 g3 (k + 1) fun j e => by
    have : j = k := by omega
    subst this
    exact ok_spec h g1 g2 g3 j
theorem flat_ints : ∀ ns : List Int, flatL (ns.map D.int) = true
  | [] => by unfold flatL; rfl
  | n :: ns => by
    show flatL (D.int n :: ns.map D.int) = true
    unfold flatL
    rw [flat_ints ns, Bool.and_true]
    unfold D.flat
    rfl
theorem flat_arr (n : Nat) (f : Nat → Nat) : (arrD n f).flat = true := by
  unfold arrD D.flat
  exact flat_ints _
theorem ArrL.get {n : Nat} {ms : List D} (h : ArrL n ms) {j : Nat} (hj : j < ms.length) : ∃ f, PermOn n f ∧ ms[j]? = some (arrD n f) := by
  obtain ⟨f, hf, e⟩ := h _ (List.getElem_mem hj)
  exact ⟨f, hf, by rw [List.getElem?_eq_getElem hj, e]⟩
theorem ArrL.set {n : Nat} {ms : List D} (h : ArrL n ms) {f : Nat → Nat} (hf : PermOn n f) (j : Nat) : ArrL n (ms.set j (arrD n f)) := fun d hd => by
  rcases List.mem_or_eq_of_mem_set hd with h1 | h1
  · exact h d h1
  · exact ⟨f, hf, h1⟩
theorem ArrL.perm {n : Nat} {ms ns : List D} (h : ArrL n ms) (p : ns.Perm ms) : ArrL n ns := fun d hd => h d (p.mem_iff.mp hd)
theorem permOn_conj {n : Nat} {p m : Nat → Nat} (hp : PermOn n p) (hm : PermOn n m) : PermOn n fun y => m (p (backF n m y)) := permOn_comp (permOn_comp (permOn_back hm) hp) hm
def spMixed : DSp := fun ds Q _ => ∃ (n t lim : Nat) (ms : List D), ds = [.strm, .lst ms, .int t, .int lim] ∧ n ≤ 4000 ∧ t ≤ 4000 ∧ lim ≤ 4000 ∧ ms.length ≤ 4000 ∧ ArrL n ms ∧ ∀ rs, ArrL n rs → rs.length ≤ max ms.length lim → Q (.lst rs)
theorem ok_mixed {g : Gx} [BI g] (h : Has g "_law_mixed" s__law_mixed) (g1 : FnG g "_law_next" 1 spNext) (g2 : FnG g "_law_pick" 2 spPick) (gsh : FnG g "_law_shuffled" 2 spShuffled) (gm : FnG g "_law_mul" 1 spMul) (gi : FnG g "_law_inv" 1 spInv) (gs : FnG g "_law_stay" 1 spStay) : FnG g "_law_mixed" 3 spMixed := by
  refine fn_has h c__law_mixed b__law_mixed (fun ds Q E ⟨n, t, lim, ms, h, _⟩ => by rw [h]; rfl) fun ds Q E ⟨n, t, lim, ms, h, hn, ht, hlim, hml, hA, q⟩ => ?_
  subst h
  have nd := c__law_mixed.nd
  refine bl_cons (bs_setO 1 nd (wo_callT co_list (bi "list") (wa_cons (w_name 1 rfl (wa_nil ⟨_, ms, rfl, rfl, ?_⟩)))))
  refine bl_cons (bs_if (wb_cmp d_eq (w_lenO 1 rfl (w_int ⟨_, rfl, _, rfl, ?_⟩))))
  by_cases h0 : (ms.length : Int) = 0
  · rw [decide_eq_true h0]
    exact iteT (bl_freeze 1 rfl (bl_one (bs_ret (w_name 1 rfl (q ms hA (Nat.le_max_left _ _))))))
  rw [decide_eq_false h0]
  have hp : 0 < ms.length := by omega
  obtain ⟨f0, hf0, e0⟩ := hA.get hp
  refine els (bl_cons (bs_set 4 nd (w_call gs (wa_cons (w_len (w_ixO 1 rfl (w_int ⟨_, _, rfl, atI_nat (j := 0) e0, _, len_arr n f0, wa_nil ⟨_, rfl, by omega, by omega, ?_⟩⟩)))))))
  rw [rgD_arr]
  refine bl_cons (bs_for (wt_name 5 nd) (wi_rg1 (bi "range") (w_name 2 rfl ⟨_, rfl, by omega, by omega, ?_⟩)))
  refine ⟨fun _ Γ => ∃ rs a b c d, Γ = [.val .strm, .own rs, .val (.int t), .val (.int lim), .val (arrD n fun y => y), a, b, c, d] ∧ ArrL n rs ∧ rs.length = ms.length, ⟨ms, _, _, _, _, rfl, hA, rfl⟩, ?_, ?_⟩
  · rintro i0 d Γ' hd ⟨rs, a, b, c, e, rfl, hR, hL⟩
    have hb : ((rs.length : Nat) : Int) < 1073741824 := by omega
    refine bl_cons (bs_set 6 nd (w_call g1 (wa_cons (w_name 0 rfl (wa_cons (w_lenO 1 rfl (wa_nil ⟨_, rfl, by omega, hb, fun i hi0 hi1 => ?_⟩)))))))
    refine bl_cons (bs_set 7 nd (w_call g1 (wa_cons (w_name 0 rfl (wa_cons (w_lenO 1 rfl (wa_nil ⟨_, rfl, by omega, hb, fun j hj0 hj1 => ?_⟩)))))))
    refine bl_cons (bs_set 8 nd (w_call g1 (wa_cons (w_name 0 rfl (wa_cons (w_int (wa_nil ⟨_, rfl, by omega, by omega, fun k hk0 hk1 => ?_⟩)))))))
    obtain ⟨i, rfl⟩ := Int.eq_ofNat_of_zero_le hi0
    obtain ⟨j, rfl⟩ := Int.eq_ofNat_of_zero_le hj0
    have hi : i < rs.length := Int.ofNat_lt.mp hi1
    have hj : j < rs.length := Int.ofNat_lt.mp hj1
    obtain ⟨f, hf, ef⟩ := hR.get hi
    obtain ⟨f2, hf2, ef2⟩ := hR.get hj
    refine bl_one (bs_if (wb_cmp d_eq (w_name 8 rfl (w_int ⟨_, rfl, _, rfl, ?_⟩))))
    cases decide (k = 0) with
    | true =>
      refine iteT (bl_one (bs_setAt 1 rfl (w_call gi (wa_cons (w_ixO 1 rfl (w_name 6 rfl ⟨_, _, rfl, atI_nat ef, wa_nil ⟨n, f, rfl, hn, hf, w_name 6 rfl ⟨_, i, rfl, ixN_nat hi, ?_⟩⟩⟩))))))
      exact ⟨_, _, _, _, _, rfl, hR.set (permOn_back hf) i, by rw [List.length_set] <;> exact hL⟩
    | false =>
      refine iteF (bl_one (bs_if (wb_cmp d_ne (w_name 6 rfl (w_name 7 rfl ⟨_, rfl, _, rfl, ?_⟩)))))
      cases decide ((i : Int) = (j : Int)) with
      | true => exact els ⟨_, _, _, _, _, rfl, hR, hL⟩
      | false =>
        refine iteT (bl_one (bs_setAt 1 rfl (w_if (wb_cmp d_eq (w_name 8 rfl (w_int ⟨_, rfl, _, rfl, ?_⟩))))))
        cases decide (k = 1) with
        | true =>
          refine iteT (w_call gm (wa_cons (w_ixO 1 rfl (w_name 6 rfl ⟨_, _, rfl, atI_nat ef, wa_cons (w_ixO 1 rfl (w_name 7 rfl ⟨_, _, rfl, atI_nat ef2, wa_nil ⟨n, f, f2, rfl, hn, hf.1, w_name 6 rfl ⟨_, i, rfl, ixN_nat hi, ?_⟩⟩⟩))⟩))))
          exact ⟨_, _, _, _, _, rfl, hR.set (permOn_comp hf hf2) i, by rw [List.length_set] <;> exact hL⟩
        | false =>
          refine iteF (w_call gm (wa_cons (w_ixO 1 rfl (w_name 7 rfl ⟨_, _, rfl, atI_nat ef2, wa_cons (w_ixO 1 rfl (w_name 6 rfl ⟨_, _, rfl, atI_nat ef, wa_nil ⟨n, f2, f, rfl, hn, hf2.1, w_name 6 rfl ⟨_, i, rfl, ixN_nat hi, ?_⟩⟩⟩))⟩))))
          exact ⟨_, _, _, _, _, rfl, hR.set (permOn_comp hf2 hf) i, by rw [List.length_set] <;> exact hL⟩
  · rintro Γ' ⟨rs, a, b, c, e, rfl, hR, hL⟩
    refine bl_cons (bs_for (wt_name 5 nd) (wi_rg1 (bi "range") (w_call g1 (wa_cons (w_name 0 rfl (wa_cons (w_int (wa_nil ⟨_, rfl, by omega, by omega, fun z hz0 hz1 => ⟨_, rfl, by omega, by omega, ?_⟩⟩))))))))
    refine ⟨fun _ Γ => ∃ rs a b c d, Γ = [.val .strm, .own rs, .val (.int t), .val (.int lim), .val (arrD n fun y => y), a, b, c, d] ∧ ArrL n rs ∧ 0 < rs.length ∧ rs.length ≤ max ms.length lim, ⟨rs, _, _, _, _, rfl, hR, by omega, by omega⟩, ?_, ?_⟩
    · rintro i0 d Γ' hd ⟨rs, a, b, c, e, rfl, hR, hL0, hL⟩
      refine bl_one (bs_if (wb_cmp d_lt (w_lenO 1 rfl (w_name 3 rfl ⟨_, _, rfl, rfl, _, rfl, ?_⟩))))
      by_cases hlt : (rs.length : Int) < (lim : Int)
      · rw [decide_eq_true hlt]
        cases rs with
        | nil => exact absurd hL0 (Nat.lt_irrefl 0)
        | cons r0 rest =>
          obtain ⟨f, hf, er⟩ := hR r0 List.mem_cons_self
          subst er
          have hpick : ∀ {Q : D → Prop}, (∀ f, PermOn n f → Q (arrD n f)) → ∀ d ∈ arrD n f :: rest, Q d := fun hq d hd => by
            obtain ⟨f, hf, rfl⟩ := hR d hd
            exact hq f hf
          have hlen : (arrD n f :: rest).length ≤ 4000 := by
            have : (arrD n f :: rest).length < lim := Int.ofNat_lt.mp hlt
            omega
          refine iteT (bl_one (bs_append 1 (wm_of (w_loan (xs := (arrI n f).map D.int) (ds := rest) 1 rfl (w_call g2 (wa_cons (w_name 0 rfl (wa_cons (w_lst (wa_cons (w_name 4 rfl (wa_cons (w_ix i_lst (w_name 1 rfl (w_int ⟨_, _, _, rfl, rfl, ix0, wa_cons (w_call gi (wa_cons (w_ix i_lst (w_name 1 rfl (w_int ⟨_, _, _, rfl, rfl, ix0, wa_nil ⟨n, f, rfl, hn, hf, ?_⟩⟩))))) ⟩)))))))))))))))
          refine wa_cons (w_call gm (wa_cons (w_call g2 (wa_cons (w_name 0 rfl (wa_cons (w_name 1 rfl (wa_nil ⟨_, arrD n f :: rest, rfl, rfl, by simp, hlen, hpick fun p1 hp1 => ?_⟩))))))))
          refine wa_cons (w_call g2 (wa_cons (w_name 0 rfl (wa_cons (w_name 1 rfl (wa_nil ⟨_, arrD n f :: rest, rfl, rfl, by simp, hlen, hpick fun p2 hp2 => ?_⟩))))))
          refine wa_nil ⟨n, p1, p2, rfl, hn, hp1.1, wa_nil ⟨by simp, ?_⟩⟩
          refine wa_nil ⟨_, _, rfl, rfl, by simp, by simp, fun d hd => ?_⟩
          have hd2 : isA n d := by
            simp only [List.mem_cons, List.not_mem_nil, or_false] at hd
            rcases hd with rfl | rfl | rfl | rfl
            · exact ⟨_, permOn_id n, rfl⟩
            · exact ⟨_, hf, rfl⟩
            · exact ⟨_, permOn_back hf, rfl⟩
            · exact ⟨_, permOn_comp hp1 hp2, rfl⟩
          obtain ⟨fd, hfd, rfl⟩ := hd2
          refine ⟨flat_arr n fd, _, rfl, by omega, _, _, _, _, _, rfl, ArrL.app hR (ArrL.cons hfd (ArrL.nil n)), by simp, ?_⟩
          have : (arrD n f :: rest).length < lim := Int.ofNat_lt.mp hlt
          rw [List.length_append]
          show (arrD n f :: rest).length + 1 ≤ _
          omega
      · rw [decide_eq_false hlt]
        exact els ⟨_, _, _, _, _, rfl, hR, hL0, hL⟩
    · rintro Γ' ⟨rs, a, b, c, e, rfl, hR, hL0, hL⟩
      refine bl_freeze 1 rfl (bl_one (bs_ret (w_call gsh (wa_cons (w_name 0 rfl (wa_cons (w_name 1 rfl (wa_nil ⟨_, rs, rfl, rfl, by omega, fun ys hp => q ys (hR.perm hp) (by rw [hp.length_eq] <;> exact hL)⟩))))))))
def spPlanted (k : Nat) : DSp := fun ds Q _ => ∃ n : Nat, ds = [.strm, .int n, .int (k : Nat)] ∧ 1 ≤ n ∧ n * 2 ^ k ≤ 2000 ∧ ∀ ms s f, ArrL n ms → ms.length ≤ max (mvB k n) 28 → Spd k s n → PermOn n f → Q (.tup [.dct [.inr "places", .inr "moves"] [.int n, .lst ms], s, arrD n f])
theorem ok_planted {g : Gx} [BI g] (k : Nat) (h : Has g "_law_planted" s__law_planted) (g1 : FnG g "_law_next" 1 spNext) (gsp : FnG g "_law_spec" (k + 4) (spSpec k)) (ga : FnG g "_law_any_arr" 3 spAnyArr) (gmv : FnG g "_law_spec_moves" (k + 2) (spMoves k)) (gmx : FnG g "_law_mixed" 3 spMixed) (gc : FnG g "_law_conj" 1 spConj) : FnG g "_law_planted" (k + 5) (spPlanted k) := by
  refine fn_has h c__law_planted b__law_planted (fun ds Q E ⟨n, h, _⟩ => by rw [h]; rfl) fun ds Q E ⟨n, h, h1, hn, q⟩ => ?_
  subst h
  have nd := c__law_planted.nd
  have hn2 := bd_self hn
  refine bl_cons (bs_set 3 nd (w_call gsp (hk := Nat.le_refl _) (wa_cons (w_name 0 rfl (wa_cons (w_name 1 rfl (wa_cons (w_name 2 rfl (wa_nil ⟨n, rfl, h1, hn2, fun s hs => ?_⟩)))))))))
  refine bl_cons (bs_set 4 nd (w_call ga (wa_cons (w_name 0 rfl (wa_cons (w_name 1 rfl (wa_nil ⟨_, rfl, by omega, by omega, fun ns hp => ?_⟩)))))))
  obtain ⟨f, hf, e⟩ := arr_of_perm hp
  rw [e]
  refine bl_cons (bs_set 5 nd (w_call gmx (wa_cons (w_name 0 rfl (wa_cons (w_call gmv (hk := by show k + 2 ≤ k + 4; omega) (wa_cons (w_name 3 rfl (wa_nil ⟨s, n, rfl, hs, hn, fun ms hA hL hV => ?_⟩))))))))) 
  refine wa_cons (w_call g1 (wa_cons (w_name 0 rfl (wa_cons (w_int (wa_nil ⟨_, rfl, by omega, by omega, fun t ht0 ht1 => ?_⟩))))))
  obtain ⟨t', rfl⟩ := Int.eq_ofNat_of_zero_le ht0
  refine wa_cons (w_int (wa_nil ⟨n, t', 28, ms, rfl, by omega, by omega, by omega, by omega, hA, fun rs hR hRL => ?_⟩))
  refine bl_one (bs_ret (w_tup (wa_cons (w_dict2 (w_name 1 rfl (w_map 6 (fun _ e => isA n e) nd (wi_lst (w_name 5 rfl ⟨rs, rfl, by omega, fun d hd => ?_, fun out ho => wa_cons (w_name 3 rfl (wa_cons (w_name 4 rfl (wa_nil ⟨by simp, q out s f (ArrL.of ho) (by rw [← ho.length] <;> omega) hs hf⟩))))⟩))))))))
  obtain ⟨f2, hf2, rfl⟩ := hR d hd
  exact w_call gc (wa_cons (w_name 6 rfl (wa_cons (w_name 4 rfl (wa_nil ⟨n, f2, f, rfl, by omega, hf2.1, hf, _, permOn_conj hf2 hf, rfl⟩)))))
end K3
set_option Elab.async false
set_option linter.all false
set_option pp.maxSteps 700
set_option maxRecDepth 100000
set_option maxHeartbeats 4000000
namespace K3
open PySem PySem.Spec PyProof.Rows L2 Evl WL
/-! ### any room -/
def swF (a b y : Nat) : Nat := if y = b then a else if y = a then b else y
theorem permOn_swF {n a b : Nat} (ha : a < n) (hb : b < n) : PermOn n (swF a b) := by
  refine ⟨fun i hi => ?_, fun i j hi hj e => ?_⟩
  · unfold swF
    split
    · exact ha
    · split <;> omega
  · unfold swF at e
    split at e <;> split at e <;> (try split at e) <;> (try split at e) <;> omega
def roomD (n : Nat) (ms : List D) : D := .dct [.inr "places", .inr "moves"] [.int n, .lst ms]
def spAnyRoom : DSp := fun ds Q _ => ∃ n lim tame : Nat, ds = [.strm, .int n, .int lim, .int tame] ∧ 1 ≤ n ∧ n ≤ 4000 ∧ lim ≤ 4000 ∧ tame ≤ 4000 ∧ ∀ ms, ArrL n ms → ms.length ≤ lim → Q (roomD n ms)
theorem ok_any_room {g : Gx} [BI g] (h : Has g "_law_any_room" s__law_any_room) (g1 : FnG g "_law_next" 1 spNext) (ga : FnG g "_law_any_arr" 3 spAnyArr) (gs : FnG g "_law_stay" 1 spStay) (gm : FnG g "_law_mul" 1 spMul) : FnG g "_law_any_room" 4 spAnyRoom := by
  refine fn_has h c__law_any_room b__law_any_room (fun ds Q E ⟨n, l, t, h, _⟩ => by rw [h]; rfl) fun ds Q E ⟨n, lim, tame, h, h1, hn, hl, ht, q⟩ => ?_
  subst h
  have nd := c__law_any_room.nd
  refine bl_cons (bs_setO 4 nd (wo_lst (wa_nil ⟨by decide, ?_⟩)))
  refine bl_cons (bs_for (wt_name 5 nd) (wi_rg1 (bi "range") (w_call g1 (wa_cons (w_name 0 rfl (wa_cons (w_op d_add (w_name 2 rfl (w_int ⟨_, _, rfl, rfl, wa_nil ⟨_, rfl, by omega, by omega, fun z hz0 hz1 => ⟨_, rfl, by omega, by omega, ?_⟩⟩⟩)))))))))
  refine ⟨fun i Γ => ∃ ms a b c d e f, Γ = [.val .strm, .val (.int n), .val (.int lim), .val (.int tame), .own ms, a, b, c, d, e, f] ∧ ArrL n ms ∧ ms.length = i, ⟨[], _, _, _, _, _, _, rfl, ArrL.nil n, rfl⟩, ?_, ?_⟩
  · rintro i d Γ' hd ⟨ms, a, b, c, d', e, f, rfl, hA, hL⟩
    obtain ⟨hi, rfl⟩ := rg_get hd
    refine bl_one (bs_if (wb_cmp d_gt (w_name 3 rfl (w_int ⟨_, _, rfl, rfl, _, rfl, ?_⟩))))
    by_cases h0 : (0 : Int) < (tame : Int)
    · rw [decide_eq_true h0]
      refine iteT (bl_cons (bs_set 6 nd (w_call gs (wa_cons (w_name 1 rfl (wa_nil ⟨_, rfl, by omega, by omega, ?_⟩))))))
      rw [rgD_arr]
      refine bl_cons (bs_for (wt_name 7 nd) (wi_rg1 (bi "range") (w_op d_add (w_int (w_call g1 (wa_cons (w_name 0 rfl (wa_cons (w_name 3 rfl (wa_nil ⟨_, rfl, h0, by omega, fun r hr0 hr1 => ⟨_, _, rfl, rfl, _, rfl, by omega, by omega, ?_⟩⟩))))))))))
      refine ⟨fun _ Γ => ∃ f a b c d, Γ = [.val .strm, .val (.int n), .val (.int lim), .val (.int tame), .own ms, .val (.int (0 + (i : Nat))), .val (arrD n f), a, b, c, d] ∧ PermOn n f, ⟨_, _, _, _, _, rfl, permOn_id n⟩, ?_, ?_⟩
      · rintro j d2 Γ2 hd2 ⟨f, a2, b2, c2, e2, rfl, hf⟩
        refine bl_cons (bs_set 8 nd (w_call g1 (wa_cons (w_name 0 rfl (wa_cons (w_name 1 rfl (wa_nil ⟨_, rfl, by omega, by omega, fun x hx0 hx1 => ?_⟩)))))))
        refine bl_cons (bs_set 9 nd (w_call g1 (wa_cons (w_name 0 rfl (wa_cons (w_name 1 rfl (wa_nil ⟨_, rfl, by omega, by omega, fun y hy0 hy1 => ?_⟩)))))))
        obtain ⟨x, rfl⟩ := Int.eq_ofNat_of_zero_le hx0
        obtain ⟨y, rfl⟩ := Int.eq_ofNat_of_zero_le hy0
        have hx : x < n := Int.ofNat_lt.mp hx1
        have hy : y < n := Int.ofNat_lt.mp hy1
        refine bl_cons (bs_setO 10 nd (wo_listRg (bi "list") (bi "range") (w_name 1 rfl ⟨_, rfl, by omega, by omega, ?_⟩)))
        rw [rgD_tab]
        refine bl_cons (bs_setAt 10 rfl (w_name 9 rfl (w_name 8 rfl ⟨_, x, rfl, tab_ix hx, ?_⟩)))
        have e1 : (tab n fun z => D.int ((z : Nat) : Int)).set x (.int (y : Int)) = tab n fun z => .int ((if z = x then y else z : Nat) : Int) := tab_set (by rw [if_pos rfl]) fun z hz hne => by rw [if_neg hne]
        have e2 : (tab n fun z => D.int ((if z = x then y else z : Nat) : Int)).set y (.int (x : Int)) = tab n fun z => .int ((swF x y z : Nat) : Int) := tab_set (by unfold swF; rw [if_pos rfl]) fun z hz hne => by unfold swF; rw [if_neg hne]
        refine bl_cons (bs_setAt 10 rfl (w_name 8 rfl (w_name 9 rfl ⟨_, y, rfl, ?_, ?_⟩)))
        · rw [List.length_set]
          exact tab_ix hy
        · rw [e1, e2]
          refine bl_freeze 10 rfl (bl_one (bs_set 6 nd (w_call gm (wa_cons (w_name 6 rfl (wa_cons (w_tuple (w_name 10 rfl ⟨_, rfl, wa_nil ⟨n, f, swF x y, congrArg (fun z => [arrD n f, z]) (arr_tab n (swF x y)).symm, by omega, hf.1, ?_⟩⟩))))))))
          exact ⟨_, _, _, _, _, rfl, permOn_comp hf (permOn_swF hx hy)⟩
      · rintro Γ2 ⟨f, a2, b2, c2, e2, rfl, hf⟩
        refine bl_one (bs_append 4 (wm_of (w_name 6 rfl ⟨_, rfl, by omega, ?_⟩)))
        exact ⟨_, _, _, _, _, _, _, rfl, ArrL.app hA (ArrL.cons hf (ArrL.nil n)), by rw [List.length_append, hL]; rfl⟩
    · rw [decide_eq_false h0]
      refine iteF (bl_one (bs_append 4 (wm_of (w_call ga (wa_cons (w_name 0 rfl (wa_cons (w_name 1 rfl (wa_nil ⟨_, rfl, by omega, by omega, fun ns hp => ⟨_, rfl, by omega, ?_⟩⟩))))))))) 
      obtain ⟨f, hf, e⟩ := arr_of_perm hp
      rw [e]
      exact ⟨_, _, _, _, _, _, _, rfl, ArrL.app hA (ArrL.cons hf (ArrL.nil n)), by rw [List.length_append, hL]; rfl⟩
  · rintro Γ' ⟨ms, a, b, c, d', e, f, rfl, hA, hL⟩
    rw [List.length_map, List.length_range] at hL
    exact bl_freeze 4 rfl (bl_one (bs_ret (w_dict2 (w_name 1 rfl (w_name 4 rfl (q ms hA (by omega)))))))
/-! ### lines, as the law reads them -/
theorem ok_lis_line {g : Gx} [BI g] (h : Has g "_law_is_line" s__law_is_line) (g2 : FnG g "_law_number" 1 spNumber) : FnG g "_law_is_line" 2 spIsLine := by
  refine fn_has h c__law_is_line b__law_is_line (fun ds Q E ⟨x, i, m, h, _⟩ => by rw [h]; rfl) fun ds Q E ⟨x, i, m, h, hok, q⟩ => ?_
  subst h
  refine bl_cons (bs_if (wb_ww (ww_or (wb_not (wb_val (w_isi .tuple (w_name 0 rfl ⟨_, isA_tuple hok, _, rfl, ?_⟩)))))))
  cases x with
  | tup xs =>
    obtain ⟨hl, hokL⟩ := ok_tup hok
    refine iteF (ww_or (wb_cmp d_eq (w_len (w_name 0 rfl ⟨_, rfl, w_int ⟨_, rfl, _, rfl, ?_⟩⟩))))
    cases xs with
    | nil => exact iteT (iteT (bl_one (bs_ret (w_bl q))))
    | cons y r =>
      have e0 : decide (((y :: r).length : Int) = 0) = false := decide_eq_false (by simp; omega)
      rw [e0]
      have yok : y.ok = true := okL_mem hokL List.mem_cons_self
      have at0 : atI (y :: r) 0 = some y := at_zero y r
      refine iteF (ww_or1 (wb_not (wb_val (w_isi .str (w_ix i_tup (w_name 0 rfl (w_int ⟨_, _, y, rfl, rfl, at0, _, isA_str yok, _, rfl, ?_⟩)))))))
      cases y with
      | str s =>
        have q' : Q (.bl (if s = "stay" then decide (r.length = 0) else if s = "move" then decide (r.length = 1) && r.all (fun j => inside j 0 (m - 1)) else if s = "back" then decide (r.length = 1) && r.all (fun j => inside j 0 (i - 1))
          else decide (s = "then") && (decide (r.length = 2) && r.all (fun j => inside j 0 (i - 1))))) := q
        refine els (bl_cons (bs_if (wb_cmp d_eq (w_ix i_tup (w_name 0 rfl (w_int ⟨_, _, _, rfl, rfl, at0, w_str ⟨_, rfl, _, rfl, ?_⟩⟩))))))
        have lenR : ∀ n : Nat, decide (((.str s :: r : List D).length : Int) = ((n : Nat) + 1 : Nat)) = decide (r.length = n) := fun n => decide_eq_decide.mpr (by rw [List.length_cons]; omega)
        by_cases h1 : s = "stay"
        · rw [if_pos h1] at q'
          rw [decide_eq_true h1]
          refine iteT (bl_one (bs_ret (w_cmp d_eq (w_len (w_name 0 rfl ⟨_, rfl, w_int ⟨_, rfl, ?_⟩⟩)))))
          have := lenR 0
          rw [show ((0 + 1 : Nat) : Int) = 1 from rfl] at this
          rw [this]
          exact q'
        · rw [if_neg h1] at q'
          rw [decide_eq_false h1]
          refine els (bl_cons (bs_if (wb_cmp d_eq (w_ix i_tup (w_name 0 rfl (w_int ⟨_, _, _, rfl, rfl, at0, w_str ⟨_, rfl, _, rfl, ?_⟩⟩))))))
          by_cases h2 : s = "move"
          · rw [if_pos h2] at q'
            rw [decide_eq_true h2]
            refine iteT (bl_one (bs_ret (w_and (w_cmp d_eq (w_len (w_name 0 rfl ⟨_, rfl, w_int ⟨_, rfl, _, rfl, ?_⟩⟩))))))
            have := lenR 1
            rw [show ((1 + 1 : Nat) : Int) = 2 from rfl] at this
            rw [this]
            by_cases hr : r.length = 1
            · obtain ⟨z, rfl⟩ := List.length_eq_one_iff.mp hr
              rw [decide_eq_true hr] at q' ⊢
              have zok : z.ok = true := okL_mem hokL (List.mem_cons_of_mem _ List.mem_cons_self)
              refine iteT (w_one (w_call g2 (wa_cons (w_ix i_tup (w_name 0 rfl (w_int ⟨_, _, z, rfl, rfl, rfl, wa_cons (w_int (wa_cons (w_op d_sub (w_name 2 rfl (w_int ⟨_, _, rfl, rfl, wa_nil ⟨_, _, _, rfl, zok, ?_⟩⟩)))))⟩))))))
              have q2 : Q (.bl (true && (inside z 0 (m - 1) && true))) := q'
              rw [Bool.and_true, Bool.true_and] at q2
              exact q2
            · rw [decide_eq_false hr] at q' ⊢
              exact iteF q'
          · rw [if_neg h2] at q'
            rw [decide_eq_false h2]
            refine els (bl_cons (bs_if (wb_cmp d_eq (w_ix i_tup (w_name 0 rfl (w_int ⟨_, _, _, rfl, rfl, at0, w_str ⟨_, rfl, _, rfl, ?_⟩⟩))))))
            by_cases h3 : s = "back"
            · rw [if_pos h3] at q'
              rw [decide_eq_true h3]
              refine iteT (bl_one (bs_ret (w_and (w_cmp d_eq (w_len (w_name 0 rfl ⟨_, rfl, w_int ⟨_, rfl, _, rfl, ?_⟩⟩))))))
              have := lenR 1
              rw [show ((1 + 1 : Nat) : Int) = 2 from rfl] at this
              rw [this]
              by_cases hr : r.length = 1
              · obtain ⟨z, rfl⟩ := List.length_eq_one_iff.mp hr
                rw [decide_eq_true hr] at q' ⊢
                have zok : z.ok = true := okL_mem hokL (List.mem_cons_of_mem _ List.mem_cons_self)
                refine iteT (w_one (w_call g2 (wa_cons (w_ix i_tup (w_name 0 rfl (w_int ⟨_, _, z, rfl, rfl, rfl, wa_cons (w_int (wa_cons (w_op d_sub (w_name 1 rfl (w_int ⟨_, _, rfl, rfl, wa_nil ⟨_, _, _, rfl, zok, ?_⟩⟩)))))⟩))))))
                have q2 : Q (.bl (true && (inside z 0 (i - 1) && true))) := q'
                rw [Bool.and_true, Bool.true_and] at q2
                exact q2
              · rw [decide_eq_false hr] at q' ⊢
                exact iteF q'
            · rw [if_neg h3] at q'
              rw [decide_eq_false h3]
              refine els (bl_one (bs_ret (w_and (w_cmp d_eq (w_ix i_tup (w_name 0 rfl (w_int ⟨_, _, _, rfl, rfl, at0, w_str ⟨_, rfl, _, rfl, ?_⟩⟩)))))))
              by_cases h4 : s = "then"
              · rw [decide_eq_true h4] at q' ⊢
                refine iteT (w_and (w_cmp d_eq (w_len (w_name 0 rfl ⟨_, rfl, w_int ⟨_, rfl, _, rfl, ?_⟩⟩))))
                have := lenR 2
                rw [show ((2 + 1 : Nat) : Int) = 3 from rfl] at this
                rw [this]
                by_cases hr : r.length = 2
                · rw [decide_eq_true hr] at q' ⊢
                  match r, hr, hokL, q' with
                  | [z, u], hr, hokL, q' =>
                    have zok : z.ok = true := okL_mem hokL (by simp)
                    have uok : u.ok = true := okL_mem hokL (by simp)
                    have q2 : Q (.bl (true && (true && (inside z 0 (i - 1) && (inside u 0 (i - 1) && true))))) := q'
                    rw [Bool.and_true, Bool.true_and, Bool.true_and] at q2
                    refine iteT (w_and (w_call g2 (wa_cons (w_ix i_tup (w_name 0 rfl (w_int ⟨_, _, z, rfl, rfl, rfl, wa_cons (w_int (wa_cons (w_op d_sub (w_name 1 rfl (w_int ⟨_, _, rfl, rfl, wa_nil ⟨_, _, _, rfl, zok, _, rfl, ?_⟩⟩)))))⟩))))))
                    cases hz : inside z 0 (i - 1) with
                    | true =>
                      rw [hz, Bool.true_and] at q2
                      exact iteT (w_one (w_call g2 (wa_cons (w_ix i_tup (w_name 0 rfl (w_int ⟨_, _, u, rfl, rfl, rfl, wa_cons (w_int (wa_cons (w_op d_sub (w_name 1 rfl (w_int ⟨_, _, rfl, rfl, wa_nil ⟨_, _, _, rfl, uok, q2⟩⟩)))))⟩))))))
                    | false =>
                      rw [hz] at q2
                      exact iteF q2
                · rw [decide_eq_false hr] at q' ⊢
                  exact iteF q'
              · rw [decide_eq_false h4] at q' ⊢
                exact iteF q'
      | _ => exact iteT (bl_one (bs_ret (w_bl q)))
  | _ => exact iteT (iteT (bl_one (bs_ret (w_bl q))))
theorem ok_bad_line {g : Gx} [BI g] (h : Has g "_law_bad_line" s__law_bad_line) (g3 : FnG g "_law_is_line" 2 spIsLine) : FnG g "_law_bad_line" 3 spWrongLine := by
  refine fn_has h c__law_bad_line b__law_bad_line (fun ds Q E ⟨x, i, m, h, _⟩ => by rw [h]; rfl) fun ds Q E ⟨x, m, b, h, hok, q⟩ => ?_
  subst h
  refine bl_cons (bs_if (wb_ww (ww_or (wb_not (wb_val (w_isi .list (w_name 0 rfl ⟨_, isA_list hok, _, rfl, ?_⟩)))))))
  cases x with
  | lst xs =>
    obtain ⟨hl, hokL⟩ := ok_lst hok
    refine iteF (ww_or (wb_cmp d_eq (w_len (w_name 0 rfl ⟨_, rfl, w_int ⟨_, rfl, _, rfl, ?_⟩⟩))))
    cases xs with
    | nil => exact iteT (iteT (bl_one (bs_ret (w_un d_neg (w_int ⟨1, rfl, q⟩)))))
    | cons y r =>
      have e0 : decide (((y :: r).length : Int) = 0) = false := decide_eq_false (by simp; omega)
      rw [e0]
      have q' : Q (if b < ((y :: r).length : Int) then .int (-1) else wrongFrom m 0 (y :: r)) := q
      refine iteF (ww_or1 (wb_cmp d_gt (w_len (w_name 0 rfl ⟨_, rfl, w_name 2 rfl ⟨_, _, rfl, rfl, _, rfl, ?_⟩⟩))))
      by_cases hb : b < ((y :: r).length : Int)
      · rw [decide_eq_true hb]
        rw [if_pos hb] at q'
        exact iteT (bl_one (bs_ret (w_un d_neg (w_int ⟨1, rfl, q'⟩))))
      · rw [decide_eq_false hb]
        rw [if_neg hb] at q'
        generalize hxs : (y :: r) = xs at *
        refine els (bl_cons (bs_for (wt_name 3 c__law_bad_line.nd) (wi_rg1 (bi "range") (w_len (w_name 0 rfl ⟨_, rfl, _, rfl, by omega, by omega, fun i Γ => (∃ a, Γ = [.val (.lst xs), .val (.int m), .val (.int b), a]) ∧ wrongFrom m 0 xs = wrongFrom m i (xs.drop i), ⟨⟨_, rfl⟩, rfl⟩, fun i d Γ' hd ⟨⟨a, hΓ⟩, hw⟩ => ?_, fun Γ' ⟨⟨a, hΓ⟩, hw⟩ => ?_⟩)))))
        · subst hΓ
          obtain ⟨hi, rfl⟩ := rg_get hd
          rw [Int.toNat_natCast] at hi
          rw [Int.zero_add]
          obtain ⟨d, hd⟩ : ∃ d, xs[i]? = some d := ⟨_, List.getElem?_eq_getElem hi⟩
          have edrop : xs.drop i = d :: xs.drop (i + 1) := by
            rw [List.drop_eq_getElem_cons hi]
            rw [List.getElem?_eq_getElem hi] at hd
            rw [Option.some.inj hd]
          have dok : d.ok = true := okL_getD hokL i hd
          refine bl_one (bs_if (wb_not (wb_val (w_call g3 (wa_cons (w_ix i_lst (w_name 0 rfl (w_name 3 rfl ⟨_, _, d, rfl, rfl, atI_nat hd, wa_cons (w_name 3 rfl (wa_cons (w_name 1 rfl (wa_nil ⟨d, _, _, rfl, dok, _, rfl, ?_⟩))))⟩))))))))
          rw [edrop] at hw
          have hw' : wrongFrom m 0 xs = if isLine d i m = true then wrongFrom m (i + 1) (xs.drop (i + 1)) else .int (i : Nat) := hw
          cases hL : isLine d i m with
          | true =>
            rw [hL] at hw'
            exact els ⟨⟨_, rfl⟩, hw'⟩
          | false =>
            rw [hL] at hw'
            rw [hw'] at q'
            exact iteT (bl_one (bs_ret (w_name 3 rfl q')))
        · subst hΓ
          rw [List.length_map, List.length_range, Int.toNat_natCast, List.drop_length] at hw
          rw [hw] at q'
          exact bl_one (bs_ret (w_non q'))
  | _ => exact iteT (iteT (bl_one (bs_ret (w_un d_neg (w_int ⟨1, rfl, q⟩)))))
end K3
set_option Elab.async false
set_option linter.all false
set_option pp.maxSteps 700
set_option maxRecDepth 100000
set_option maxHeartbeats 4000000
namespace K3
open PySem PySem.Spec PyProof.Rows L2 Evl WL
/-! ### what lines make, how long their rows are -/
def fsD (n : Nat) (fs : List (Nat → Nat)) : List D := fs.map (arrD n)
def nsD (s : List Nat) : List D := s.map fun k => D.int (k : Nat)
def lsD (ls : List Ln) : List D := ls.map Ln.d
theorem ArrL.funs {n : Nat} : ∀ {ms : List D}, ArrL n ms → ∃ fs, ms = fsD n fs ∧ Perms n fs
  | [], _ => ⟨[], rfl, fun f hf => nomatch hf⟩
  | m :: ms, h => by
    obtain ⟨f, hf, rfl⟩ := h m List.mem_cons_self
    obtain ⟨fs, rfl, hp⟩ := ArrL.funs (ms := ms) fun d hd => h d (List.mem_cons_of_mem _ hd)
    refine ⟨f :: fs, rfl, fun k hk => ?_⟩
    rcases List.mem_cons.mp hk with rfl | hk
    · exact hf
    · exact hp k hk
theorem fsD_at {n : Nat} {fs : List (Nat → Nat)} {a : Nat} (h : a < fs.length) : atI (fsD n fs) (a : Int) = some (arrD n (fs.getD a fun y => y)) := by
  refine atI_nat ?_
  unfold fsD
  rw [List.getElem?_map, List.getElem?_eq_getElem h, List.getD_eq_getElem?_getD, List.getElem?_eq_getElem h]
  rfl
theorem nsD_at {s : List Nat} {a : Nat} (h : a < s.length) : atI (nsD s) (a : Int) = some (.int (s.getD a 0 : Nat)) := by
  refine atI_nat ?_
  unfold nsD
  rw [List.getElem?_map, List.getElem?_eq_getElem h, List.getD_eq_getElem?_getD, List.getElem?_eq_getElem h]
  rfl
theorem lsD_get {ls : List Ln} {i : Nat} {d : D} (h : (lsD ls)[i]? = some d) : ∃ l, ls[i]? = some l ∧ d = l.d := by
  unfold lsD at h
  rw [List.getElem?_map] at h
  cases e : ls[i]? with
  | none => rw [e] at h; cases h
  | some l =>
    rw [e] at h
    cases h
    exact ⟨l, rfl, rfl⟩
theorem run_lt {α : Type} {f : List α → Ln → α} {ls : List Ln} {i a : Nat} {l : Ln} (hl : ls[i]? = some l) (ha : a < i) : a < (runL f (ls.take i)).length := by
  have := (List.getElem?_eq_some_iff.mp hl).1
  rw [runL_len, List.length_take]
  omega
theorem run_le {α : Type} {f : List α → Ln → α} {ls : List Ln} {i : Nat} {l : Ln} (hl : ls[i]? = some l) : (runL f (ls.take i)).length = i := by
  have := (List.getElem?_eq_some_iff.mp hl).1
  rw [runL_len, List.length_take]
  omega
theorem run_next {α : Type} {f : List α → Ln → α} {ls : List Ln} {i : Nat} {l : Ln} (hl : ls[i]? = some l) : runL f (ls.take (i + 1)) = runL f (ls.take i) ++ [f (runL f (ls.take i)) l] := by
  rw [take_get hl, runL_snoc]
def spMadeLines : DSp := fun ds Q _ => ∃ (n : Nat) (fs : List (Nat → Nat)) (ls : List Ln), ds = [.int n, .lst (fsD n fs), .lst (lsD ls)] ∧ n ≤ 4000 ∧ Perms n fs ∧ Right fs.length ls ∧ ls.length ≤ 4000 ∧ Q (.lst (fsD n (runL (mkF n fs) ls)))
theorem ok_made_lines {g : Gx} [BI g] (h : Has g "made_lines" s_made_lines) (gs : FnG g "stay" 1 spStay) (gm : FnG g "mul" 1 spMul) (gi : FnG g "inv" 1 spInv) : FnG g "made_lines" 2 spMadeLines := by
  refine fn_has h c_made_lines b_made_lines (fun ds Q E ⟨n, r, l, h, _⟩ => by rw [h]; rfl) fun ds Q E ⟨n, fs, ls, h, hn, hp, hr, hl, q⟩ => ?_
  subst h
  have nd := c_made_lines.nd
  refine bl_cons (bs_setO 3 nd (wo_lst (wa_nil ⟨by decide, ?_⟩)))
  refine bl_cons (bs_for (wt_name 4 nd) (wi_lst (w_name 2 rfl ⟨_, rfl, fun i Γ => ∃ a, Γ = [.val (.int n), .val (.lst (fsD n fs)), .val (.lst (lsD ls)), .own (fsD n (runL (mkF n fs) (ls.take i))), a], ⟨_, rfl⟩, ?_, ?_⟩)))
  · rintro i d Γ' hd ⟨a, rfl⟩
    obtain ⟨l, hL, rfl⟩ := lsD_get hd
    have ok := hr i l hL
    have hle := run_le (f := mkF n fs) hL
    have hi := (List.getElem?_eq_some_iff.mp hL).1
    have sz : (fsD n (runL (mkF n fs) (ls.take i))).length < 100000 := by
      unfold fsD
      rw [List.length_map, hle]
      omega
    have nx : ∀ F : Nat → Nat, mkF n fs (runL (mkF n fs) (ls.take i)) l = F → ∃ a, [Sl.val (.int n), .val (.lst (fsD n fs)), .val (.lst (lsD ls)), .own (fsD n (runL (mkF n fs) (ls.take i)) ++ [arrD n F]), .val l.d] = [Sl.val (.int n), .val (.lst (fsD n fs)), .val (.lst (lsD ls)), .own (fsD n (runL (mkF n fs) (ls.take (i + 1)))), a] := fun F hF => by
      refine ⟨.val l.d, ?_⟩
      rw [run_next hL, hF]
      unfold fsD
      rw [List.map_append]
      rfl
    have pm := mkL_perms hp (ls.take i)
    cases l with
    | stay =>
      refine bl_one (bs_if (wb_cmp d_eq (w_ix i_tup (w_name 4 rfl (w_int ⟨_, _, _, rfl, rfl, ix0, w_str ⟨_, rfl, _, rfl, ?_⟩⟩)))))
      refine iteTr (by decide +kernel) (bl_one (bs_append 3 (wm_of (w_call gs (wa_cons (w_name 0 rfl (wa_nil ⟨_, rfl, by omega, by omega, _, rfl, sz, ?_⟩)))))))
      rw [rgD_arr]
      exact nx _ rfl
    | mv j =>
      refine bl_one (bs_if (wb_cmp d_eq (w_ix i_tup (w_name 4 rfl (w_int ⟨_, _, _, rfl, rfl, ix0, w_str ⟨_, rfl, _, rfl, ?_⟩⟩)))))
      refine iteFa (by decide +kernel) (bl_one (bs_if (wb_cmp d_eq (w_ix i_tup (w_name 4 rfl (w_int ⟨_, _, _, rfl, rfl, ix0, w_str ⟨_, rfl, _, rfl, ?_⟩⟩))))))
      exact iteTr (by decide +kernel) (bl_one (bs_append 3 (wm_of (w_ix i_lst (w_name 1 rfl (w_ix i_tup (w_name 4 rfl (w_int ⟨_, _, _, rfl, rfl, ix1, _, _, _, rfl, rfl, fsD_at ok, _, rfl, sz, nx _ rfl⟩))))))))
    | th b c =>
      refine bl_one (bs_if (wb_cmp d_eq (w_ix i_tup (w_name 4 rfl (w_int ⟨_, _, _, rfl, rfl, ix0, w_str ⟨_, rfl, _, rfl, ?_⟩⟩)))))
      refine iteFa (by decide +kernel) (bl_one (bs_if (wb_cmp d_eq (w_ix i_tup (w_name 4 rfl (w_int ⟨_, _, _, rfl, rfl, ix0, w_str ⟨_, rfl, _, rfl, ?_⟩⟩))))))
      refine iteFa (by decide +kernel) (bl_one (bs_if (wb_cmp d_eq (w_ix i_tup (w_name 4 rfl (w_int ⟨_, _, _, rfl, rfl, ix0, w_str ⟨_, rfl, _, rfl, ?_⟩⟩))))))
      refine iteTr (by decide +kernel) (bl_one (bs_append 3 (wm_of (w_call gm (wa_cons (w_ixO 3 rfl (w_ix i_tup (w_name 4 rfl (w_int ⟨_, _, _, rfl, rfl, ix1, _, _, rfl, fsD_at (run_lt hL ok.1), ?_⟩)))))))))
      refine wa_cons (w_ixO 3 rfl (w_ix i_tup (w_name 4 rfl (w_int ⟨_, _, _, rfl, rfl, ix2, _, _, rfl, fsD_at (run_lt hL ok.2), ?_⟩))))
      exact wa_nil ⟨n, _, _, rfl, hn, (pm.getD b).1, _, rfl, sz, nx _ rfl⟩
    | bk b =>
      refine bl_one (bs_if (wb_cmp d_eq (w_ix i_tup (w_name 4 rfl (w_int ⟨_, _, _, rfl, rfl, ix0, w_str ⟨_, rfl, _, rfl, ?_⟩⟩)))))
      refine iteFa (by decide +kernel) (bl_one (bs_if (wb_cmp d_eq (w_ix i_tup (w_name 4 rfl (w_int ⟨_, _, _, rfl, rfl, ix0, w_str ⟨_, rfl, _, rfl, ?_⟩⟩))))))
      refine iteFa (by decide +kernel) (bl_one (bs_if (wb_cmp d_eq (w_ix i_tup (w_name 4 rfl (w_int ⟨_, _, _, rfl, rfl, ix0, w_str ⟨_, rfl, _, rfl, ?_⟩⟩))))))
      refine iteFa (by decide +kernel) (bl_one (bs_append 3 (wm_of (w_call gi (wa_cons (w_ixO 3 rfl (w_ix i_tup (w_name 4 rfl (w_int ⟨_, _, _, rfl, rfl, ix1, _, _, rfl, fsD_at (run_lt hL ok), ?_⟩)))))))))
      exact wa_nil ⟨n, _, rfl, hn, pm.getD b, _, rfl, sz, nx _ rfl⟩
  · rintro Γ' ⟨a, rfl⟩
    have e : ls.take (lsD ls).length = ls := by
      unfold lsD
      rw [List.length_map, List.take_length]
    rw [e]
    exact bl_freeze 3 rfl (bl_one (bs_ret (w_name 3 rfl q)))
theorem ok_law_made {g : Gx} [BI g] (h : Has g "_law_made" s__law_made) (gs : FnG g "_law_stay" 1 spStay) (gm : FnG g "_law_mul" 1 spMul) (gi : FnG g "_law_inv" 1 spInv) : FnG g "_law_made" 2 spMadeLines := by
  refine fn_has h c__law_made b__law_made (fun ds Q E ⟨n, r, l, h, _⟩ => by rw [h]; rfl) fun ds Q E ⟨n, fs, ls, h, hn, hp, hr, hl, q⟩ => ?_
  subst h
  have nd := c__law_made.nd
  refine bl_cons (bs_setO 3 nd (wo_lst (wa_nil ⟨by decide, ?_⟩)))
  refine bl_cons (bs_for (wt_name 4 nd) (wi_lst (w_name 2 rfl ⟨_, rfl, fun i Γ => ∃ a, Γ = [.val (.int n), .val (.lst (fsD n fs)), .val (.lst (lsD ls)), .own (fsD n (runL (mkF n fs) (ls.take i))), a], ⟨_, rfl⟩, ?_, ?_⟩)))
  · rintro i d Γ' hd ⟨a, rfl⟩
    obtain ⟨l, hL, rfl⟩ := lsD_get hd
    have ok := hr i l hL
    have hle := run_le (f := mkF n fs) hL
    have hi := (List.getElem?_eq_some_iff.mp hL).1
    have sz : (fsD n (runL (mkF n fs) (ls.take i))).length < 100000 := by
      unfold fsD
      rw [List.length_map, hle]
      omega
    have nx : ∀ F : Nat → Nat, mkF n fs (runL (mkF n fs) (ls.take i)) l = F → ∃ a, [Sl.val (.int n), .val (.lst (fsD n fs)), .val (.lst (lsD ls)), .own (fsD n (runL (mkF n fs) (ls.take i)) ++ [arrD n F]), .val l.d] = [Sl.val (.int n), .val (.lst (fsD n fs)), .val (.lst (lsD ls)), .own (fsD n (runL (mkF n fs) (ls.take (i + 1)))), a] := fun F hF => by
      refine ⟨.val l.d, ?_⟩
      rw [run_next hL, hF]
      unfold fsD
      rw [List.map_append]
      rfl
    have pm := mkL_perms hp (ls.take i)
    cases l with
    | stay =>
      refine bl_one (bs_if (wb_cmp d_eq (w_ix i_tup (w_name 4 rfl (w_int ⟨_, _, _, rfl, rfl, ix0, w_str ⟨_, rfl, _, rfl, ?_⟩⟩)))))
      refine iteTr (by decide +kernel) (bl_one (bs_append 3 (wm_of (w_call gs (wa_cons (w_name 0 rfl (wa_nil ⟨_, rfl, by omega, by omega, _, rfl, sz, ?_⟩)))))))
      rw [rgD_arr]
      exact nx _ rfl
    | mv j =>
      refine bl_one (bs_if (wb_cmp d_eq (w_ix i_tup (w_name 4 rfl (w_int ⟨_, _, _, rfl, rfl, ix0, w_str ⟨_, rfl, _, rfl, ?_⟩⟩)))))
      refine iteFa (by decide +kernel) (bl_one (bs_if (wb_cmp d_eq (w_ix i_tup (w_name 4 rfl (w_int ⟨_, _, _, rfl, rfl, ix0, w_str ⟨_, rfl, _, rfl, ?_⟩⟩))))))
      exact iteTr (by decide +kernel) (bl_one (bs_append 3 (wm_of (w_ix i_lst (w_name 1 rfl (w_ix i_tup (w_name 4 rfl (w_int ⟨_, _, _, rfl, rfl, ix1, _, _, _, rfl, rfl, fsD_at ok, _, rfl, sz, nx _ rfl⟩))))))))
    | th b c =>
      refine bl_one (bs_if (wb_cmp d_eq (w_ix i_tup (w_name 4 rfl (w_int ⟨_, _, _, rfl, rfl, ix0, w_str ⟨_, rfl, _, rfl, ?_⟩⟩)))))
      refine iteFa (by decide +kernel) (bl_one (bs_if (wb_cmp d_eq (w_ix i_tup (w_name 4 rfl (w_int ⟨_, _, _, rfl, rfl, ix0, w_str ⟨_, rfl, _, rfl, ?_⟩⟩))))))
      refine iteFa (by decide +kernel) (bl_one (bs_if (wb_cmp d_eq (w_ix i_tup (w_name 4 rfl (w_int ⟨_, _, _, rfl, rfl, ix0, w_str ⟨_, rfl, _, rfl, ?_⟩⟩))))))
      refine iteTr (by decide +kernel) (bl_one (bs_append 3 (wm_of (w_call gm (wa_cons (w_ixO 3 rfl (w_ix i_tup (w_name 4 rfl (w_int ⟨_, _, _, rfl, rfl, ix1, _, _, rfl, fsD_at (run_lt hL ok.1), ?_⟩)))))))))
      refine wa_cons (w_ixO 3 rfl (w_ix i_tup (w_name 4 rfl (w_int ⟨_, _, _, rfl, rfl, ix2, _, _, rfl, fsD_at (run_lt hL ok.2), ?_⟩))))
      exact wa_nil ⟨n, _, _, rfl, hn, (pm.getD b).1, _, rfl, sz, nx _ rfl⟩
    | bk b =>
      refine bl_one (bs_if (wb_cmp d_eq (w_ix i_tup (w_name 4 rfl (w_int ⟨_, _, _, rfl, rfl, ix0, w_str ⟨_, rfl, _, rfl, ?_⟩⟩)))))
      refine iteFa (by decide +kernel) (bl_one (bs_if (wb_cmp d_eq (w_ix i_tup (w_name 4 rfl (w_int ⟨_, _, _, rfl, rfl, ix0, w_str ⟨_, rfl, _, rfl, ?_⟩⟩))))))
      refine iteFa (by decide +kernel) (bl_one (bs_if (wb_cmp d_eq (w_ix i_tup (w_name 4 rfl (w_int ⟨_, _, _, rfl, rfl, ix0, w_str ⟨_, rfl, _, rfl, ?_⟩⟩))))))
      refine iteFa (by decide +kernel) (bl_one (bs_append 3 (wm_of (w_call gi (wa_cons (w_ixO 3 rfl (w_ix i_tup (w_name 4 rfl (w_int ⟨_, _, _, rfl, rfl, ix1, _, _, rfl, fsD_at (run_lt hL ok), ?_⟩)))))))))
      exact wa_nil ⟨n, _, rfl, hn, pm.getD b, _, rfl, sz, nx _ rfl⟩
  · rintro Γ' ⟨a, rfl⟩
    have e : ls.take (lsD ls).length = ls := by
      unfold lsD
      rw [List.length_map, List.take_length]
    rw [e]
    exact bl_freeze 3 rfl (bl_one (bs_ret (w_name 3 rfl q)))
def spSteps : DSp := fun ds Q _ => ∃ (many : Nat) (ls : List Ln), ds = [.lst (lsD ls)] ∧ Right many ls ∧ ls.length ≤ 4000 ∧ Q (.lst (nsD (runL szF ls)))
theorem ok_steps_of {g : Gx} [BI g] (h : Has g "steps_of" s_steps_of) : FnG g "steps_of" 1 spSteps := by
  refine fn_has h c_steps_of b_steps_of (fun ds Q E ⟨n, l, h, _⟩ => by rw [h]; rfl) fun ds Q E ⟨many, ls, h, hr, hl, q⟩ => ?_
  subst h
  have nd := c_steps_of.nd
  refine bl_cons (bs_setO 1 nd (wo_lst (wa_nil ⟨by decide, ?_⟩)))
  refine bl_cons (bs_for (wt_name 2 nd) (wi_lst (w_name 0 rfl ⟨_, rfl, fun i Γ => ∃ a, Γ = [.val (.lst (lsD ls)), .own (nsD (runL szF (ls.take i))), a, .emp], ⟨_, rfl⟩, ?_, ?_⟩)))
  · rintro i d Γ' hd ⟨a, rfl⟩
    obtain ⟨l, hL, rfl⟩ := lsD_get hd
    have ok := hr i l hL
    have hle := run_le (f := szF) hL
    have hi := (List.getElem?_eq_some_iff.mp hL).1
    have sz : (nsD (runL szF (ls.take i))).length < 100000 := by
      unfold nsD
      rw [List.length_map, hle]
      omega
    have nx : ∀ k : Nat, szF (runL szF (ls.take i)) l = k → ∃ a, [Sl.val (.lst (lsD ls)), .own (nsD (runL szF (ls.take i)) ++ [.int (k : Nat)]), .val l.d, .emp] = [Sl.val (.lst (lsD ls)), .own (nsD (runL szF (ls.take (i + 1)))), a, .emp] := fun F hF => by
      refine ⟨.val l.d, ?_⟩
      rw [run_next hL, hF]
      unfold nsD
      rw [List.map_append]
      rfl
    cases l with
    | stay =>
      refine bl_one (bs_if (wb_cmp d_eq (w_ix i_tup (w_name 2 rfl (w_int ⟨_, _, _, rfl, rfl, ix0, w_str ⟨_, rfl, _, rfl, ?_⟩⟩)))))
      exact iteTr (by decide +kernel) (bl_one (bs_append 1 (wm_of (w_int ⟨_, rfl, sz, nx 0 rfl⟩))))
    | mv j =>
      refine bl_one (bs_if (wb_cmp d_eq (w_ix i_tup (w_name 2 rfl (w_int ⟨_, _, _, rfl, rfl, ix0, w_str ⟨_, rfl, _, rfl, ?_⟩⟩)))))
      refine iteFa (by decide +kernel) (bl_one (bs_if (wb_cmp d_eq (w_ix i_tup (w_name 2 rfl (w_int ⟨_, _, _, rfl, rfl, ix0, w_str ⟨_, rfl, _, rfl, ?_⟩⟩))))))
      exact iteTr (by decide +kernel) (bl_one (bs_append 1 (wm_of (w_int ⟨_, rfl, sz, nx 1 rfl⟩))))
    | th b c =>
      refine bl_one (bs_if (wb_cmp d_eq (w_ix i_tup (w_name 2 rfl (w_int ⟨_, _, _, rfl, rfl, ix0, w_str ⟨_, rfl, _, rfl, ?_⟩⟩)))))
      refine iteFa (by decide +kernel) (bl_one (bs_if (wb_cmp d_eq (w_ix i_tup (w_name 2 rfl (w_int ⟨_, _, _, rfl, rfl, ix0, w_str ⟨_, rfl, _, rfl, ?_⟩⟩))))))
      refine iteFa (by decide +kernel) (bl_one (bs_append 1 (wm_of (w_sum (w_map 3 (fun d e => e = .int ((runL szF (ls.take i)).getD d.toI.toNat 0 : Nat)) nd (wi_tup (w_cutT (w_name 2 rfl ⟨_, rfl, wp_some (w_int ⟨1, rfl, wp_none ?_⟩)⟩))))))))
      refine ⟨[.int (b : Nat), .int (c : Nat)], rfl, by simp, fun d hd => ?_, fun out ho => ?_⟩
      · simp only [List.mem_cons, List.not_mem_nil, or_false] at hd
        rcases hd with rfl | rfl
        · exact w_ixO 1 rfl (w_name 3 rfl ⟨_, _, rfl, nsD_at (run_lt hL ok.1), rfl⟩)
        · exact w_ixO 1 rfl (w_name 3 rfl ⟨_, _, rfl, nsD_at (run_lt hL ok.2), rfl⟩)
      · have e := All2.eq_map ho
        refine ⟨[((runL szF (ls.take i)).getD b 0 : Nat), ((runL szF (ls.take i)).getD c 0 : Nat)], by rw [e] <;> rfl, _, rfl, sz, ?_⟩
        have := nx _ rfl
        have e2 : ([(((runL szF (ls.take i)).getD b 0 : Nat) : Int), (((runL szF (ls.take i)).getD c 0 : Nat) : Int)]).sum = ((szF (runL szF (ls.take i)) (.th b c) : Nat) : Int) := by
          show _ = (((runL szF (ls.take i)).getD b 0 + (runL szF (ls.take i)).getD c 0 : Nat) : Int)
          rw [List.sum_cons, List.sum_cons, List.sum_nil]
          omega
        rw [e2]
        exact this
    | bk b =>
      refine bl_one (bs_if (wb_cmp d_eq (w_ix i_tup (w_name 2 rfl (w_int ⟨_, _, _, rfl, rfl, ix0, w_str ⟨_, rfl, _, rfl, ?_⟩⟩)))))
      refine iteFa (by decide +kernel) (bl_one (bs_if (wb_cmp d_eq (w_ix i_tup (w_name 2 rfl (w_int ⟨_, _, _, rfl, rfl, ix0, w_str ⟨_, rfl, _, rfl, ?_⟩⟩))))))
      refine iteFa (by decide +kernel) (bl_one (bs_append 1 (wm_of (w_sum (w_map 3 (fun d e => e = .int ((runL szF (ls.take i)).getD d.toI.toNat 0 : Nat)) nd (wi_tup (w_cutT (w_name 2 rfl ⟨_, rfl, wp_some (w_int ⟨1, rfl, wp_none ?_⟩)⟩))))))))
      refine ⟨[.int (b : Nat)], rfl, by simp, fun d hd => ?_, fun out ho => ?_⟩
      · simp only [List.mem_cons, List.not_mem_nil, or_false] at hd
        subst hd
        exact w_ixO 1 rfl (w_name 3 rfl ⟨_, _, rfl, nsD_at (run_lt hL ok), rfl⟩)
      · have e := All2.eq_map ho
        refine ⟨[((runL szF (ls.take i)).getD b 0 : Nat)], by rw [e] <;> rfl, _, rfl, sz, ?_⟩
        have := nx _ rfl
        have e2 : ([(((runL szF (ls.take i)).getD b 0 : Nat) : Int)]).sum = ((szF (runL szF (ls.take i)) (.bk b) : Nat) : Int) := by
          rw [List.sum_cons, List.sum_nil]
          exact Int.add_zero _
        rw [e2]
        exact this
  · rintro Γ' ⟨a, rfl⟩
    have e : ls.take (lsD ls).length = ls := by
      unfold lsD
      rw [List.length_map, List.take_length]
    rw [e]
    exact bl_freeze 1 rfl (bl_one (bs_ret (w_name 1 rfl q)))
theorem ok_lengths {g : Gx} [BI g] (h : Has g "_law_lengths" s__law_lengths) : FnG g "_law_lengths" 1 spSteps := by
  refine fn_has h c__law_lengths b__law_lengths (fun ds Q E ⟨n, l, h, _⟩ => by rw [h]; rfl) fun ds Q E ⟨many, ls, h, hr, hl, q⟩ => ?_
  subst h
  have nd := c__law_lengths.nd
  refine bl_cons (bs_setO 1 nd (wo_lst (wa_nil ⟨by decide, ?_⟩)))
  refine bl_cons (bs_for (wt_name 2 nd) (wi_lst (w_name 0 rfl ⟨_, rfl, fun i Γ => ∃ a, Γ = [.val (.lst (lsD ls)), .own (nsD (runL szF (ls.take i))), a], ⟨_, rfl⟩, ?_, ?_⟩)))
  · rintro i d Γ' hd ⟨a, rfl⟩
    obtain ⟨l, hL, rfl⟩ := lsD_get hd
    have ok := hr i l hL
    have hle := run_le (f := szF) hL
    have hi := (List.getElem?_eq_some_iff.mp hL).1
    have sz : (nsD (runL szF (ls.take i))).length < 100000 := by
      unfold nsD
      rw [List.length_map, hle]
      omega
    have nx : ∀ k : Nat, szF (runL szF (ls.take i)) l = k → ∃ a, [Sl.val (.lst (lsD ls)), .own (nsD (runL szF (ls.take i)) ++ [.int (k : Nat)]), .val l.d] = [Sl.val (.lst (lsD ls)), .own (nsD (runL szF (ls.take (i + 1)))), a] := fun F hF => by
      refine ⟨.val l.d, ?_⟩
      rw [run_next hL, hF]
      unfold nsD
      rw [List.map_append]
      rfl
    cases l with
    | stay =>
      refine bl_one (bs_if (wb_cmp d_eq (w_ix i_tup (w_name 2 rfl (w_int ⟨_, _, _, rfl, rfl, ix0, w_str ⟨_, rfl, _, rfl, ?_⟩⟩)))))
      exact iteTr (by decide +kernel) (bl_one (bs_append 1 (wm_of (w_int ⟨_, rfl, sz, nx 0 rfl⟩))))
    | mv j =>
      refine bl_one (bs_if (wb_cmp d_eq (w_ix i_tup (w_name 2 rfl (w_int ⟨_, _, _, rfl, rfl, ix0, w_str ⟨_, rfl, _, rfl, ?_⟩⟩)))))
      refine iteFa (by decide +kernel) (bl_one (bs_if (wb_cmp d_eq (w_ix i_tup (w_name 2 rfl (w_int ⟨_, _, _, rfl, rfl, ix0, w_str ⟨_, rfl, _, rfl, ?_⟩⟩))))))
      exact iteTr (by decide +kernel) (bl_one (bs_append 1 (wm_of (w_int ⟨_, rfl, sz, nx 1 rfl⟩))))
    | th b c =>
      refine bl_one (bs_if (wb_cmp d_eq (w_ix i_tup (w_name 2 rfl (w_int ⟨_, _, _, rfl, rfl, ix0, w_str ⟨_, rfl, _, rfl, ?_⟩⟩)))))
      refine iteFa (by decide +kernel) (bl_one (bs_if (wb_cmp d_eq (w_ix i_tup (w_name 2 rfl (w_int ⟨_, _, _, rfl, rfl, ix0, w_str ⟨_, rfl, _, rfl, ?_⟩⟩))))))
      refine iteFa (by decide +kernel) (bl_one (bs_if (wb_cmp d_eq (w_ix i_tup (w_name 2 rfl (w_int ⟨_, _, _, rfl, rfl, ix0, w_str ⟨_, rfl, _, rfl, ?_⟩⟩))))))
      refine iteTr (by decide +kernel) (bl_one (bs_append 1 (wm_of (w_op d_add (w_ixO 1 rfl (w_ix i_tup (w_name 2 rfl (w_int ⟨_, _, _, rfl, rfl, ix1, _, _, rfl, nsD_at (run_lt hL ok.1), ?_⟩))))))))
      refine w_ixO 1 rfl (w_ix i_tup (w_name 2 rfl (w_int ⟨_, _, _, rfl, rfl, ix2, _, _, rfl, nsD_at (run_lt hL ok.2), _, _, rfl, rfl, _, rfl, sz, ?_⟩)))
      rw [← Int.natCast_add]
      exact nx _ rfl
    | bk b =>
      refine bl_one (bs_if (wb_cmp d_eq (w_ix i_tup (w_name 2 rfl (w_int ⟨_, _, _, rfl, rfl, ix0, w_str ⟨_, rfl, _, rfl, ?_⟩⟩)))))
      refine iteFa (by decide +kernel) (bl_one (bs_if (wb_cmp d_eq (w_ix i_tup (w_name 2 rfl (w_int ⟨_, _, _, rfl, rfl, ix0, w_str ⟨_, rfl, _, rfl, ?_⟩⟩))))))
      refine iteFa (by decide +kernel) (bl_one (bs_if (wb_cmp d_eq (w_ix i_tup (w_name 2 rfl (w_int ⟨_, _, _, rfl, rfl, ix0, w_str ⟨_, rfl, _, rfl, ?_⟩⟩))))))
      exact iteFa (by decide +kernel) (bl_one (bs_append 1 (wm_of (w_ixO 1 rfl (w_ix i_tup (w_name 2 rfl (w_int ⟨_, _, _, rfl, rfl, ix1, _, _, rfl, nsD_at (run_lt hL ok), _, rfl, sz, nx _ rfl⟩)))))))
  · rintro Γ' ⟨a, rfl⟩
    have e : ls.take (lsD ls).length = ls := by
      unfold lsD
      rw [List.length_map, List.take_length]
    rw [e]
    exact bl_freeze 1 rfl (bl_one (bs_ret (w_name 1 rfl q)))
end K3
set_option Elab.async false
set_option linter.all false
set_option pp.maxSteps 700
set_option maxRecDepth 100000
set_option maxHeartbeats 4000000
namespace K3
open PySem PySem.Spec PyProof.Rows L2 Evl WL
/-! ### which lines are used -/
def Ln.kids : Ln → List Nat
  | .th a b => [a, b]
  | .bk a => [a]
  | _ => []
theorem kid_lt {many i : Nat} {l : Ln} (h : l.okAt many i) {c : Nat} (hc : c ∈ Ln.kids l) : c < i := by
  cases l with
  | stay => cases hc
  | mv j => cases hc
  | th a b =>
    rcases List.mem_cons.mp hc with rfl | hc
    · exact h.1
    · rw [List.mem_singleton.mp hc]; exact h.2
  | bk a => rw [List.mem_singleton.mp hc]; exact h
theorem kid_sz {many : Nat} {ls : List Ln} (hr : Right many ls) {i : Nat} {l : Ln} (h : ls[i]? = some l) {c : Nat} (hc : c ∈ Ln.kids l) : szL ls c ≤ szL ls i := by
  rw [szL_eq hr h]
  cases l with
  | stay => cases hc
  | mv j => cases hc
  | th a b =>
    dsimp only
    rcases List.mem_cons.mp hc with rfl | hc
    · omega
    · rw [List.mem_singleton.mp hc]; omega
  | bk a => rw [List.mem_singleton.mp hc]; exact Nat.le_refl _
def useT (N : Nat) (U : Nat → Bool) : List D := tab N fun j => .bl (U j)
theorem useT_set {N : Nat} {U : Nat → Bool} (c : Nat) : (useT N U).set c (.bl true) = useT N fun j => U j || decide (j = c) :=
  tab_set (by simp) fun j hj hne => by simp [hne]
/-- what is known of the lines from k on -/
structure Used (ls : List Ln) (U : Nat → Bool) (k : Nat) : Prop where
  last : U (ls.length - 1) = true
  kids : ∀ (i : Nat) (l : Ln), k ≤ i → ls[i]? = some l → U i = true → ∀ c ∈ Ln.kids l, U c = true
  sz : ∀ j, j < ls.length → U j = true → szL ls j ≤ szL ls (ls.length - 1)
def spUsed : DSp := fun ds Q _ => ∃ (many : Nat) (ls : List Ln), ds = [.lst (lsD ls)] ∧ Right many ls ∧ ls ≠ [] ∧ ls.length ≤ 4000 ∧ ∀ U, Used ls U 0 → Q (.lst (useT ls.length U))
theorem lsD_len (ls : List Ln) : (lsD ls).length = ls.length := List.length_map ..
theorem len_lsD (ls : List Ln) : (D.lst (lsD ls)).len = some ls.length := congrArg some (lsD_len ls)
theorem lsD_at {ls : List Ln} {i : Nat} {l : Ln} (h : ls[i]? = some l) : atI (lsD ls) (i : Int) = some l.d := by
  refine atI_nat ?_
  unfold lsD
  rw [List.getElem?_map, h]
  rfl
theorem ix_last {N : Nat} (h : 0 < N) : ixN N (-1) = some (N - 1) := by
  unfold L2.ixN
  rw [if_neg (by omega), if_pos (by omega)]
  congr 1
  omega
theorem ok_used_lines {g : Gx} [BI g] (h : Has g "used_lines" s_used_lines) : FnG g "used_lines" 1 spUsed := by
  refine fn_has h c_used_lines b_used_lines (fun ds Q E ⟨n, l, h, _⟩ => by rw [h]; rfl) fun ds Q E ⟨many, ls, h, hr, h0, hl, q⟩ => ?_
  subst h
  have nd := c_used_lines.nd
  have hN := List.length_pos_iff.mpr h0
  refine bl_cons (bs_setO 1 nd (wo_op d_repL (w_lst (wa_cons (w_bl (wa_nil ⟨by decide, w_len (w_name 0 rfl ⟨_, len_lsD ls, _, _, rfl, rfl, by omega, by omega, by simp <;> omega, ?_⟩)⟩))))))
  rw [Int.toNat_natCast, tab_rep]
  refine bl_cons (bs_setAt 1 rfl (w_bl (w_un d_neg (w_int ⟨1, rfl, _, _, rfl, by rw [tab_len] <;> exact ix_last hN, ?_⟩))))
  have e1 : (tab ls.length fun _ => D.bl false).set (ls.length - 1) (.bl true) = useT ls.length fun j => decide (j = ls.length - 1) := tab_set (by simp) fun j hj hne => by simp [hne]
  rw [e1]
  refine bl_cons (bs_for (wt_name 2 nd) (wi_down (bi "range") (w_op d_sub (w_len (w_name 0 rfl ⟨_, len_lsD ls, w_int ⟨_, _, rfl, rfl, w_un d_neg (w_int ⟨1, rfl, w_un d_neg (w_int ⟨1, rfl, _, _, rfl, rfl, rfl, ⟨by omega, by omega, by omega, by omega⟩, ?_⟩)⟩)⟩⟩)))))
  refine ⟨fun i Γ => ∃ U a b, Γ = [.val (.lst (lsD ls)), .own (useT ls.length U), a, b] ∧ Used ls U (ls.length - i), ⟨_, _, _, rfl, ⟨by simp, fun i l hi hL _ => ?_, fun j hj hU => ?_⟩⟩, ?_, ?_⟩
  · have := (List.getElem?_eq_some_iff.mp hL).1
    omega
  · rw [of_decide_eq_true hU]
    exact Nat.le_refl _
  · rintro i d Γ' hd ⟨U, a, b, rfl, hU⟩
    obtain ⟨hi, rfl⟩ := dn_get hd
    have hi2 : i < ls.length := by omega
    have ea : (ls.length : Int) - 1 - (i : Nat) = ((ls.length - 1 - i : Nat) : Int) := by omega
    rw [ea]
    generalize hai : ls.length - 1 - i = ai at *
    have hlt : ai < ls.length := by omega
    obtain ⟨l, hL⟩ := lt_ex hlt
    have ok := hr ai l hL
    have skip : (∀ c ∈ Ln.kids l, U c = true) ∨ U ai = false → Used ls U (ls.length - (i + 1)) := fun hk => by
      constructor
      · exact hU.last
      · intro j m hj hM hUj
        by_cases e : j = ai
        · subst e
          rw [hL] at hM
          cases hM
          rcases hk with hk | hk
          · exact hk
          · rw [hk] at hUj; cases hUj
        · exact hU.kids j m (by omega) hM hUj
      · exact hU.sz
    have fin : U ai = true → Used ls (fun j => U j || decide (j ∈ Ln.kids l)) (ls.length - (i + 1)) := fun hu => by
      constructor
      · rw [hU.last, Bool.true_or]
      · intro j m hj hM hUj c hc
        by_cases e : j = ai
        · subst e
          rw [hL] at hM
          cases hM
          rw [decide_eq_true hc, Bool.or_true]
        · have hne : decide (j ∈ Ln.kids l) = false := decide_eq_false fun z => by
            have := kid_lt ok z
            omega
          rw [hne, Bool.or_false] at hUj
          rw [hU.kids j m (by omega) hM hUj c hc, Bool.true_or]
      · intro j hj hUj
        rcases Bool.or_eq_true_iff.mp hUj with h | h
        · exact hU.sz j hj h
        · exact Nat.le_trans (kid_sz hr hL (of_decide_eq_true h)) (hU.sz ai hlt hu)
    refine bl_one (bs_if (wb_ww (ww_and (wb_val (w_ixO 1 rfl (w_name 2 rfl ⟨_, _, rfl, tab_at hlt, _, rfl, ?_⟩))))))
    cases hu : U ai with
    | false => exact iteF (els ⟨U, _, _, rfl, skip (.inr hu)⟩)
    | true =>
      have fin := fin hu
      have step : ∀ (ks : List Nat) (k c : Nat), ks[k]? = some c → (useT ls.length fun j => U j || decide (j ∈ ks.take k)).set c (.bl true) = useT ls.length fun j => U j || decide (j ∈ ks.take (k + 1)) := fun ks k c hk => by
        rw [useT_set, take_get hk]
        congr 1
        funext j
        rw [Bool.or_assoc]
        congr 1
        rw [← Bool.decide_or]
        exact decide_eq_decide.mpr (by rw [List.mem_append, List.mem_singleton])
      have start : useT ls.length U = useT ls.length fun j => U j || decide (j ∈ (Ln.kids l).take 0) := by
        congr 1
        funext j
        simp
      have kint : ∀ {ks : List Nat} {k : Nat} {d : D}, (ks.map fun (c : Nat) => D.int (c : Nat))[k]? = some d → ∃ c : Nat, ks[k]? = some c ∧ d = .int (c : Nat) := fun {ks k d} hd => by
        rw [List.getElem?_map] at hd
        cases e : ks[k]? with
        | none => rw [e] at hd; cases hd
        | some c => rw [e] at hd; cases hd; exact ⟨c, rfl, rfl⟩
      cases l with
      | stay =>
        refine iteT (ww_and1 (wb_cmp d_in (w_ix i_tup (w_ix i_lst (w_name 0 rfl (w_name 2 rfl ⟨_, _, _, rfl, rfl, lsD_at hL, w_int ⟨_, _, _, rfl, rfl, ix0, w_tup (wa_cons (w_str (wa_cons (w_str (wa_nil ⟨by simp, _, _, _, rfl, rfl, rfl, _, rfl, ?_⟩)))))⟩⟩))))))
        exact elsF (by decide +kernel) ⟨U, _, _, rfl, skip (.inl fun c hc => nomatch hc)⟩
      | mv j =>
        refine iteT (ww_and1 (wb_cmp d_in (w_ix i_tup (w_ix i_lst (w_name 0 rfl (w_name 2 rfl ⟨_, _, _, rfl, rfl, lsD_at hL, w_int ⟨_, _, _, rfl, rfl, ix0, w_tup (wa_cons (w_str (wa_cons (w_str (wa_nil ⟨by simp, _, _, _, rfl, rfl, rfl, _, rfl, ?_⟩)))))⟩⟩))))))
        exact elsF (by decide +kernel) ⟨U, _, _, rfl, skip (.inl fun c hc => nomatch hc)⟩
      | th c1 c2 =>
        refine iteT (ww_and1 (wb_cmp d_in (w_ix i_tup (w_ix i_lst (w_name 0 rfl (w_name 2 rfl ⟨_, _, _, rfl, rfl, lsD_at hL, w_int ⟨_, _, _, rfl, rfl, ix0, w_tup (wa_cons (w_str (wa_cons (w_str (wa_nil ⟨by simp, _, _, _, rfl, rfl, rfl, _, rfl, ?_⟩)))))⟩⟩))))))
        refine iteTr (by decide +kernel) (bl_one (bs_for (wt_name 3 nd) (wi_tup (w_cutT (w_ix i_lst (w_name 0 rfl (w_name 2 rfl ⟨_, _, _, rfl, rfl, lsD_at hL, _, rfl, wp_some (w_int ⟨1, rfl, wp_none ?_⟩)⟩)))))))
        refine ⟨[c1, c2].map fun (c : Nat) => D.int (c : Nat), rfl, fun k Γ => ∃ x, Γ = [.val (.lst (lsD ls)), .own (useT ls.length fun j => U j || decide (j ∈ [c1, c2].take k)), .val (.int (ai : Nat)), x], ⟨b, ?_⟩, ?_, ?_⟩
        · rw [start]
          rfl
        · rintro k d2 Γ2 hd2 ⟨x, rfl⟩
          obtain ⟨c, hc, rfl⟩ := kint hd2
          have hcl := kid_lt ok (show c ∈ Ln.kids (.th c1 c2) from List.mem_of_getElem? hc)
          refine bl_one (bs_setAt 1 rfl (w_bl (w_name 3 rfl ⟨_, c, rfl, tab_ix (Nat.lt_trans hcl hlt), ?_⟩)))
          rw [step [c1, c2] k c hc]
          exact ⟨_, rfl⟩
        · rintro Γ2 ⟨x, rfl⟩
          exact ⟨_, _, _, rfl, fin⟩
      | bk c1 =>
        refine iteT (ww_and1 (wb_cmp d_in (w_ix i_tup (w_ix i_lst (w_name 0 rfl (w_name 2 rfl ⟨_, _, _, rfl, rfl, lsD_at hL, w_int ⟨_, _, _, rfl, rfl, ix0, w_tup (wa_cons (w_str (wa_cons (w_str (wa_nil ⟨by simp, _, _, _, rfl, rfl, rfl, _, rfl, ?_⟩)))))⟩⟩))))))
        refine iteTr (by decide +kernel) (bl_one (bs_for (wt_name 3 nd) (wi_tup (w_cutT (w_ix i_lst (w_name 0 rfl (w_name 2 rfl ⟨_, _, _, rfl, rfl, lsD_at hL, _, rfl, wp_some (w_int ⟨1, rfl, wp_none ?_⟩)⟩)))))))
        refine ⟨[c1].map fun (c : Nat) => D.int (c : Nat), rfl, fun k Γ => ∃ x, Γ = [.val (.lst (lsD ls)), .own (useT ls.length fun j => U j || decide (j ∈ [c1].take k)), .val (.int (ai : Nat)), x], ⟨b, ?_⟩, ?_, ?_⟩
        · rw [start]
          rfl
        · rintro k d2 Γ2 hd2 ⟨x, rfl⟩
          obtain ⟨c, hc, rfl⟩ := kint hd2
          have hcl := kid_lt ok (show c ∈ Ln.kids (.bk c1) from List.mem_of_getElem? hc)
          refine bl_one (bs_setAt 1 rfl (w_bl (w_name 3 rfl ⟨_, c, rfl, tab_ix (Nat.lt_trans hcl hlt), ?_⟩)))
          rw [step [c1] k c hc]
          exact ⟨_, rfl⟩
        · rintro Γ2 ⟨x, rfl⟩
          exact ⟨_, _, _, rfl, fin⟩
  · rintro Γ' ⟨U, a, b, rfl, hU⟩
    have e : ls.length - ((List.range ((ls.length : Int) - 1 - -1).toNat).map fun (i : Nat) => D.int ((ls.length : Int) - 1 - (i : Nat))).length = 0 := by
      rw [List.length_map, List.length_range]
      omega
    rw [e] at hU
    exact bl_freeze 1 rfl (bl_one (bs_ret (w_name 1 rfl (q U hU))))
/-! ### plain rows, as the program writes them -/
def codeI (x : Nat × Bool) : Int := if x.2 = true then 2 * (x.1 : Int) else 2 * (x.1 : Int) + 1
def cdL (r : List (Nat × Bool)) : List D := r.map fun x => .int (codeI x)
theorem code_flip (x : Nat × Bool) : codeI (flipS x) = if codeI x % 2 = 0 then codeI x + 1 else codeI x - 1 := by
  obtain ⟨i, b⟩ := x
  cases b with
  | true =>
    show 2 * (i : Int) + 1 = if (2 * (i : Int)) % 2 = 0 then 2 * (i : Int) + 1 else 2 * (i : Int) - 1
    rw [if_pos (by omega)]
  | false =>
    show 2 * (i : Int) = if (2 * (i : Int) + 1) % 2 = 0 then 2 * (i : Int) + 1 + 1 else 2 * (i : Int) + 1 - 1
    rw [if_neg (by omega)]
    omega
theorem cdL_inv {r : List (Nat × Bool)} {out : List D} (h : All2 (fun (d e : D) => e = .int (if d.toI % 2 = 0 then d.toI + 1 else d.toI - 1)) (cdL r).reverse out) : out = cdL (invR r) := by
  rw [All2.eq_map (f := fun d : D => D.int (if d.toI % 2 = 0 then d.toI + 1 else d.toI - 1)) h]
  unfold cdL invR
  rw [← List.map_reverse, List.map_map, List.map_reverse, List.map_reverse, List.map_map]
  congr 1
  refine List.map_congr_left fun x _ => ?_
  show D.int (if codeI x % 2 = 0 then codeI x + 1 else codeI x - 1) = D.int (codeI (flipS x))
  rw [code_flip]
def rowU (ls : List Ln) (U : Nat → Bool) (k : Nat) : D := .lst (if U k = true then cdL (rwL ls k) else [])
def rowsT (ls : List Ln) (U : Nat → Bool) (i : Nat) : List D := (List.range i).map (rowU ls U)
theorem rowsT_succ (ls : List Ln) (U : Nat → Bool) (i : Nat) : rowsT ls U (i + 1) = rowsT ls U i ++ [rowU ls U i] := by
  unfold rowsT
  rw [List.range_succ, List.map_append]
  rfl
theorem rowsT_at {ls : List Ln} {U : Nat → Bool} {i k : Nat} (h : k < i) : atI (rowsT ls U i) (k : Int) = some (rowU ls U k) := by
  refine atI_nat ?_
  unfold rowsT
  rw [List.getElem?_map, List.getElem?_range h]
  rfl
theorem rowsT_len (ls : List Ln) (U : Nat → Bool) (i : Nat) : (rowsT ls U i).length = i := by
  unfold rowsT
  rw [List.length_map, List.length_range]
def spSigns : DSp := fun ds Q _ => ∃ (many : Nat) (ls : List Ln), ds = [.lst (lsD ls)] ∧ Right many ls ∧ many ≤ 4000 ∧ ls ≠ [] ∧ ls.length ≤ 4000 ∧ szL ls (ls.length - 1) ≤ 4000 ∧ Q (.lst (cdL (rwL ls (ls.length - 1))))
theorem ok_signs_of {g : Gx} [BI g] (h : Has g "signs_of" s_signs_of) (gu : FnG g "used_lines" 1 spUsed) : FnG g "signs_of" 2 spSigns := by
  refine fn_has h c_signs_of b_signs_of (fun ds Q E ⟨n, l, h, _⟩ => by rw [h]; rfl) fun ds Q E ⟨many, ls, h, hr, hm, h0, hl, hz, q⟩ => ?_
  subst h
  have nd := c_signs_of.nd
  have hN := List.length_pos_iff.mpr h0
  refine bl_cons (bs_set 1 nd (w_call gu (wa_cons (w_name 0 rfl (wa_nil ⟨many, ls, rfl, hr, h0, hl, fun U hU => ?_⟩)))))
  refine bl_cons (bs_setO 2 nd (wo_lst (wa_nil ⟨by decide, ?_⟩)))
  have small : ∀ k, k < ls.length → U k = true → (cdL (rwL ls k)).length ≤ 4000 := fun k hk hUk => by
    unfold cdL
    rw [List.length_map, rwL_len hr hk]
    exact Nat.le_trans (hU.sz k hk hUk) hz
  refine bl_cons (bs_for (wt_tup2 3 4 nd) (wi_enum (w_name 0 rfl ⟨_, rfl, fun i Γ => ∃ a b, Γ = [.val (.lst (lsD ls)), .val (.lst (useT ls.length U)), .own (rowsT ls U i), a, b, .emp], ⟨_, _, rfl⟩, ?_, ?_⟩)))
  · rintro i d Γ' hd ⟨a, b, rfl⟩
    rw [List.getElem?_map] at hd
    by_cases hi : i < (lsD ls).length
    · rw [List.getElem?_range hi] at hd
      cases hd
      rw [lsD_len] at hi
      obtain ⟨l, hL⟩ := lt_ex hi
      have ok := hr i l hL
      have ed : (lsD ls).getD i D.non = l.d := by
        unfold lsD
        rw [List.getD_eq_getElem?_getD, List.getElem?_map, hL]
        rfl
      have hw := rwL_eq hr hL
      refine ⟨_, _, rfl, ?_⟩
      rw [ed]
      have sz : (rowsT ls U i).length < 100000 := by rw [rowsT_len]; omega
      have nx : ∀ r : List D, r = (if U i = true then cdL (rwL ls i) else []) → ∃ a b, [Sl.val (.lst (lsD ls)), .val (.lst (useT ls.length U)), .own (rowsT ls U i ++ [.lst r]), .val (.int (i : Nat)), .val l.d, .emp] = [Sl.val (.lst (lsD ls)), .val (.lst (useT ls.length U)), .own (rowsT ls U (i + 1)), a, b, .emp] := fun r e => by
        refine ⟨.val (.int (i : Nat)), .val l.d, ?_⟩
        rw [rowsT_succ]
        unfold rowU
        rw [e]
      refine bl_one (bs_if (wb_ww (ww_or (wb_not (wb_val (w_ix i_lst (w_name 1 rfl (w_name 3 rfl ⟨_, _, _, rfl, rfl, tab_at hi, _, rfl, ?_⟩))))))))
      cases hu : U i with
      | false =>
        rw [hu] at nx
        exact iteT (iteT (bl_one (bs_append 2 (wm_of (w_lst (wa_nil ⟨by decide, _, rfl, sz, nx [] rfl⟩))))))
      | true =>
        rw [hu] at nx
        have kidU := hU.kids i l (Nat.zero_le _) hL hu
        cases l with
        | stay =>
          refine iteF (ww_or1 (wb_cmp d_eq (w_ix i_tup (w_name 4 rfl (w_int ⟨_, _, _, rfl, rfl, ix0, w_str ⟨_, rfl, _, rfl, ?_⟩⟩)))))
          refine iteTr (by decide +kernel) (bl_one (bs_append 2 (wm_of (w_lst (wa_nil ⟨by decide, _, rfl, sz, nx [] ?_⟩)))))
          rw [if_pos rfl, hw]
          rfl
        | mv j =>
          refine iteF (ww_or1 (wb_cmp d_eq (w_ix i_tup (w_name 4 rfl (w_int ⟨_, _, _, rfl, rfl, ix0, w_str ⟨_, rfl, _, rfl, ?_⟩⟩)))))
          refine iteFa (by decide +kernel) (bl_one (bs_if (wb_cmp d_eq (w_ix i_tup (w_name 4 rfl (w_int ⟨_, _, _, rfl, rfl, ix0, w_str ⟨_, rfl, _, rfl, ?_⟩⟩))))))
          have okj : j < many := ok
          refine iteTr (by decide +kernel) (bl_one (bs_append 2 (wm_of (w_lst (wa_cons (w_op d_mul (w_int (w_ix i_tup (w_name 4 rfl (w_int ⟨_, _, _, rfl, rfl, ix1, _, _, rfl, rfl, .inl ⟨by omega, by omega⟩, wa_nil ⟨by simp, _, rfl, sz, nx _ ?_⟩⟩))))))))))
          rw [if_pos rfl, hw]
          rfl
        | th c1 c2 =>
          refine iteF (ww_or1 (wb_cmp d_eq (w_ix i_tup (w_name 4 rfl (w_int ⟨_, _, _, rfl, rfl, ix0, w_str ⟨_, rfl, _, rfl, ?_⟩⟩)))))
          refine iteFa (by decide +kernel) (bl_one (bs_if (wb_cmp d_eq (w_ix i_tup (w_name 4 rfl (w_int ⟨_, _, _, rfl, rfl, ix0, w_str ⟨_, rfl, _, rfl, ?_⟩⟩))))))
          refine iteFa (by decide +kernel) (bl_one (bs_if (wb_cmp d_eq (w_ix i_tup (w_name 4 rfl (w_int ⟨_, _, _, rfl, rfl, ix0, w_str ⟨_, rfl, _, rfl, ?_⟩⟩))))))
          have u1 := kidU c1 (by simp [Ln.kids])
          have u2 := kidU c2 (by simp [Ln.kids])
          have s1 := small c1 (Nat.lt_trans ok.1 hi) u1
          have s2 := small c2 (Nat.lt_trans ok.2 hi) u2
          have e1 : rowU ls U c1 = .lst (cdL (rwL ls c1)) := by unfold rowU; rw [if_pos u1]
          have e2 : rowU ls U c2 = .lst (cdL (rwL ls c2)) := by unfold rowU; rw [if_pos u2]
          have a1 := rowsT_at (ls := ls) (U := U) ok.1
          have a2 := rowsT_at (ls := ls) (U := U) ok.2
          rw [e1] at a1
          rw [e2] at a2
          refine iteTr (by decide +kernel) (bl_one (bs_append 2 (wm_of (w_wo (wo_op d_addL (w_ixO 2 rfl (w_ix i_tup (w_name 4 rfl (w_int ⟨_, _, _, rfl, rfl, ix1, _, _, rfl, a1, ?_⟩)))))))))
          refine w_ixO 2 rfl (w_ix i_tup (w_name 4 rfl (w_int ⟨_, _, _, rfl, rfl, ix2, _, _, rfl, a2, _, _, rfl, rfl, by omega, _, rfl, sz, nx _ ?_⟩)))
          rw [if_pos rfl, hw]
          unfold cdL
          exact (List.map_append ..).symm
        | bk c1 =>
          refine iteF (ww_or1 (wb_cmp d_eq (w_ix i_tup (w_name 4 rfl (w_int ⟨_, _, _, rfl, rfl, ix0, w_str ⟨_, rfl, _, rfl, ?_⟩⟩)))))
          refine iteFa (by decide +kernel) (bl_one (bs_if (wb_cmp d_eq (w_ix i_tup (w_name 4 rfl (w_int ⟨_, _, _, rfl, rfl, ix0, w_str ⟨_, rfl, _, rfl, ?_⟩⟩))))))
          refine iteFa (by decide +kernel) (bl_one (bs_if (wb_cmp d_eq (w_ix i_tup (w_name 4 rfl (w_int ⟨_, _, _, rfl, rfl, ix0, w_str ⟨_, rfl, _, rfl, ?_⟩⟩))))))
          have u1 := kidU c1 (by simp [Ln.kids])
          have s1 := small c1 (Nat.lt_trans ok hi) u1
          have e1 : rowU ls U c1 = .lst (cdL (rwL ls c1)) := by unfold rowU; rw [if_pos u1]
          have a1 := rowsT_at (ls := ls) (U := U) ok
          rw [e1] at a1
          refine iteFa (by decide +kernel) (bl_one (bs_append 2 (wm_of (w_map 5 (fun (d e : D) => e = .int (if d.toI % 2 = 0 then d.toI + 1 else d.toI - 1)) nd (wi_rev (w_ixO 2 rfl (w_ix i_tup (w_name 4 rfl (w_int ⟨_, _, _, rfl, rfl, ix1, _, _, rfl, a1, _, rfl, ?_⟩)))))))))
          refine ⟨by rw [List.length_reverse] <;> omega, fun d hd => ?_, fun out ho => ⟨_, rfl, sz, nx _ ?_⟩⟩
          · rw [List.mem_reverse] at hd
            obtain ⟨x, _, rfl⟩ := List.mem_map.mp hd
            exact w_op d_xor1 (w_name 5 rfl (w_int ⟨_, rfl, rfl, rfl⟩))
          · rw [cdL_inv ho, if_pos rfl, hw]
    · rw [List.getElem?_eq_none (by rw [List.length_range]; omega)] at hd
      cases hd
  · rintro Γ' ⟨a, b, rfl⟩
    rw [List.length_map, List.length_range, lsD_len]
    obtain ⟨k, hk⟩ : ∃ k, ls.length = k + 1 := ⟨ls.length - 1, by omega⟩
    refine bl_freeze 2 rfl (bl_one (bs_ret (w_ix i_lst (w_name 2 rfl (w_un d_neg (w_int ⟨1, rfl, _, _, _, rfl, rfl, ?_, q⟩))))))
    rw [hk, rowsT_succ, atI_last]
    unfold rowU
    have := hU.last
    rw [hk] at this
    rw [show k + 1 - 1 = k from rfl] at this ⊢
    rw [if_pos this]
end K3
set_option Elab.async false
set_option linter.all false
set_option pp.maxSteps 700
set_option maxRecDepth 100000
set_option maxHeartbeats 4000000
namespace K3
open PySem PySem.Spec PyProof.Rows L2 Evl WL
/-! ### rooms, right and wrong; the functions of a room and a way -/
def badRoom : D := .dct [.inr "places", .inr "moves"] [.int 0, .lst []]
def exBR : Exn := ⟨"BadRoom", [("key", .str "places")]⟩
def exBW (w : D) (many : Nat) : Exn := ⟨"BadWay", [("line", wrongLine w many 2500)]⟩
def exTM : Exn := ⟨"TooMany", [("word", .str "steps")]⟩
theorem ok_badRoom : badRoom.ok = true := by decide +kernel
theorem ok_ints (ns : List Int) : okL (ns.map D.int) = true := (ints_facts ns).1
structure Room (n : Nat) (fs : List (Nat → Nat)) : Prop where
  n1 : 1 ≤ n
  n2 : n ≤ 16
  len : fs.length ≤ 28
  ps : Perms n fs
theorem fsD_len (n : Nat) (fs : List (Nat → Nat)) : (fsD n fs).length = fs.length := List.length_map ..
theorem fsD_mem {n : Nat} {fs : List (Nat → Nat)} (hp : Perms n fs) {d : D} (h : d ∈ fsD n fs) : ∃ f, PermOn n f ∧ d = arrD n f := by
  obtain ⟨f, hf, rfl⟩ := List.mem_map.mp h
  exact ⟨f, hp f hf, rfl⟩
theorem okL_fsD {n : Nat} {fs : List (Nat → Nat)} (hn : n ≤ 4000) : okL (fsD n fs) = true := okL_of fun d hd => by
  obtain ⟨f, _, rfl⟩ := List.mem_map.mp hd
  exact ok_arr hn
theorem ok_roomD {n : Nat} {fs : List (Nat → Nat)} (r : Room n fs) : (roomD n (fsD n fs)).ok = true := by
  have h1 := r.n2
  have h2 := r.len
  refine mk_dct (by simp) rfl (by decide +kernel) ?_
  refine okL_of fun d hd => ?_
  rcases List.mem_cons.mp hd with rfl | hd
  · rfl
  · rw [List.mem_singleton.mp hd]
    exact mk_lst (by rw [fsD_len]; omega) (okL_fsD (by omega))
theorem isArr_of {n : Nat} {f : Nat → Nat} (h : PermOn n f) (h1 : 1 ≤ n) (h4 : n ≤ 4000) : isArr (arrD n f) (.int n) = true := by
  have := Arr.is (x := arrD n f) ⟨h1, h4, h, rfl⟩ (.int n)
  rw [this]
  exact decide_eq_true rfl
theorem room_right {n : Nat} {fs : List (Nat → Nat)} (r : Room n fs) : wrongK (roomD n (fsD n fs)) = .non := by
  have h1 := r.n1
  have h2 := r.n2
  have h3 := r.len
  show (if ([Sum.inr ("places" : Str), Sum.inr ("moves" : Str)] : List Key).length = 2 then (if inside (.int n) 1 16 = true then wrongMoves (.lst (fsD n fs)) (.int n) else .str "places") else .str "room") = .non
  rw [if_pos (show ([Sum.inr ("places" : Str), Sum.inr ("moves" : Str)] : List Key).length = 2 from rfl)]
  have e1 : inside (.int (n : Nat)) 1 16 = true := by
    show (decide ((1 : Int) ≤ (n : Nat)) && decide (((n : Nat) : Int) ≤ 16)) = true
    rw [decide_eq_true (by omega), decide_eq_true (by omega)]
    rfl
  rw [if_pos e1]
  show (if 28 < (fsD n fs).length then D.str "moves" else if (fsD n fs).all (fun p => isArr p (.int n)) = true then .non else .str "moves") = .non
  rw [if_neg (by rw [fsD_len]; omega), if_pos]
  refine List.all_eq_true.mpr fun d hd => ?_
  obtain ⟨f, hf, rfl⟩ := fsD_mem r.ps hd
  exact isArr_of hf h1 (by omega)
theorem isRoom_D (n : Nat) (ms : List D) : isRoom (roomD n ms) (.int n) ms := ⟨_, _, rfl, rfl, rfl⟩
theorem isRoom_uniq {n : Nat} {ms : List D} {x : D} {rows : List D} (h : isRoom (roomD n ms) x rows) : x = .int n ∧ rows = ms := by
  obtain ⟨ks, xs, e, h1, h2⟩ := h
  cases e
  have a : (some (D.int (n : Nat)) : Option D) = some x := h1
  have b : (some (D.lst ms) : Option D) = some (.lst rows) := h2
  cases a
  cases b
  exact ⟨rfl, rfl⟩
theorem bad_places : wrongK badRoom = .str "places" := by
  show (if ([Sum.inr ("places" : Str), Sum.inr ("moves" : Str)] : List Key).length = 2 then (if inside (.int 0) 1 16 = true then wrongMoves (.lst []) (.int 0) else .str "places") else .str "room") = _
  rw [if_pos (show ([Sum.inr ("places" : Str), Sum.inr ("moves" : Str)] : List Key).length = 2 from rfl), if_neg]
  decide
/-- the three functions that want a right way -/
def spRW (P : Nat → List (Nat → Nat) → List Ln → (D → Prop) → (Exn → Prop) → Prop) : DSp := fun ds Q E => ∃ x w, ds = [x, w] ∧ w.ok = true ∧ ((x = badRoom ∧ E exBR) ∨ ∃ n fs, x = roomD n (fsD n fs) ∧ Room n fs ∧
  ((wrongLine w fs.length 2500 ≠ .non ∧ E (exBW w fs.length)) ∨ ∃ ls, w = .lst (lsD ls) ∧ ls ≠ [] ∧ ls.length ≤ 2500 ∧ Right fs.length ls ∧ P n fs ls Q E))
def pMade (n : Nat) (fs : List (Nat → Nat)) (ls : List Ln) (Q : D → Prop) (E : Exn → Prop) : Prop := Q (arrD n (mkL n fs ls (ls.length - 1)))
def pLength (n : Nat) (fs : List (Nat → Nat)) (ls : List Ln) (Q : D → Prop) (E : Exn → Prop) : Prop := Q (.int (szL ls (ls.length - 1) : Nat))
def sgI (b : Bool) : Int := if b = true then 1 else -1
def pD (x : Nat × Bool) : D := .tup [.int (x.1 : Nat), .int (sgI x.2)]
def rowD (r : List (Nat × Bool)) : D := .lst (r.map pD)
def pPlain (n : Nat) (fs : List (Nat → Nat)) (ls : List Ln) (Q : D → Prop) (E : Exn → Prop) : Prop := if 1000 < szL ls (ls.length - 1) then E exTM else Q (rowD (rwL ls (ls.length - 1)))
theorem ne_of_str {s : Str} : D.str s ≠ .non := fun z => nomatch z
/-- a room and a way, looked at first -/
theorem heads {g : Gx} {N : List Str} {sc : Scope} {k : Nat} {st1 st2 : Stmt} {rest : List Stmt} {P : Nat → List (Nat → Nat) → List Ln → (D → Prop) → (Exn → Prop) → Prop} {Q : D → Prop} {E : Exn → Prop} {x w : D} {r : List Sl} (wok : w.ok = true)
    (hx : (x = badRoom ∧ E exBR) ∨ ∃ n fs, x = roomD n (fsD n fs) ∧ Room n fs ∧ ((wrongLine w fs.length 2500 ≠ .non ∧ E (exBW w fs.length)) ∨ ∃ ls, w = .lst (lsD ls) ∧ ls ≠ [] ∧ ls.length ≤ 2500 ∧ Right fs.length ls ∧ P n fs ls Q E))
    (h1 : ∀ {N' : Gm → Prop}, x.ok = true → roomOr x (N' (.val x :: .val w :: r)) E → BS (Ct.def g N sc k E) st1 (.val x :: .val w :: r) { nx := N', rt := Q })
    (h2 : ∀ {N' : Gm → Prop} {n fs}, x = roomD n (fsD n fs) → wayOr w (fsD n fs).length (N' (.val x :: .val w :: r)) E → BS (Ct.def g N sc k E) st2 (.val x :: .val w :: r) { nx := N', rt := Q })
    (h3 : ∀ {n fs ls}, x = roomD n (fsD n fs) → Room n fs → w = .lst (lsD ls) → ls ≠ [] → ls.length ≤ 2500 → Right fs.length ls → P n fs ls Q E → BL (Ct.def g N sc k E) rest (.val x :: .val w :: r) { nx := fun _ => Q .non, rt := Q }) : BL (Ct.def g N sc k E) (st1 :: st2 :: rest) (.val x :: .val w :: r) { nx := fun _ => Q .non, rt := Q } := by
  refine bl_cons ?_
  rcases hx with ⟨rfl, hE⟩ | ⟨n, fs, rfl, hR, hw⟩
  · refine h1 ok_badRoom ⟨fun e => ?_, fun _ => ?_⟩
    · rw [bad_places] at e
      exact absurd e ne_of_str
    · rw [bad_places]
      exact hE
  · refine h1 (ok_roomD hR) ⟨fun _ => ?_, fun e => absurd (room_right hR) e⟩
    refine bl_cons (h2 rfl ?_)
    have hl : ((fsD n fs).length : Int) = (fs.length : Int) := by rw [fsD_len]
    rcases hw with ⟨hne, hE⟩ | ⟨ls, hls, h0, hl4, hr, hP⟩
    · refine ⟨fun e => absurd (by rw [hl] at e; exact e) hne, fun _ => ?_⟩
      rw [hl]
      exact hE
    · refine ⟨fun _ => h3 rfl hR hls h0 hl4 hr hP, fun e => absurd ?_ e⟩
      rw [hls, hl]
      exact wrong_right h0 hl4 hr
theorem ok_made {g : Gx} [BI g] (h : Has g "made" s_made) (g5 : FnG g "check_room" 5 spCheckRoom) (g6 : FnG g "check_way" 6 spCheckWay) (g2 : FnG g "made_lines" 2 spMadeLines) : FnG g "made" 7 (spRW pMade) := by
  refine fn_has h c_made b_made (fun ds Q E ⟨x, w, h, _⟩ => by rw [h]; rfl) fun ds Q E ⟨x, w, h, wok, hx⟩ => ?_
  subst h
  refine heads (P := pMade) (N := n_made) (r := []) wok hx (fun xok hr => ?_) (fun {N' n fs} e hw => ?_) (fun {n fs ls} e hR ew h0 hl hr q => ?_)
  · exact bs_expr (w_call g5 (wa_cons (w_name 0 rfl (wa_nil ⟨_, rfl, xok, hr⟩))))
  · exact bs_expr (w_call g6 (wa_cons (w_name 0 rfl (wa_cons (w_name 1 rfl (wa_nil ⟨x, w, .int n, fsD n fs, rfl, wok, by rw [e]; exact isRoom_D n _, hw⟩))))))
  · have h1 := hR.n2
    subst e ew
    have hN := List.length_pos_iff.mpr h0
    refine bl_one (bs_ret (w_ix i_lst (w_call g2 (wa_cons (w_dget (w_name 0 rfl (w_str ⟨_, _, kPl, _, rfl, rfl, rfl, wa_cons (w_dget (w_name 0 rfl (w_str ⟨_, _, kMv, _, rfl, rfl, rfl, wa_cons (w_name 1 rfl (wa_nil ⟨n, fs, ls, rfl, by omega, hR.ps, hr, by omega, w_un d_neg (w_int ⟨1, rfl, _, _, _, rfl, rfl, ?_, q⟩)⟩))⟩)))⟩)))))))
    obtain ⟨ls', l, rfl⟩ := (List.eq_nil_or_concat ls).resolve_left h0
    rw [List.concat_eq_append] at *
    unfold fsD
    rw [runL_snoc, List.map_append, List.map_singleton, atI_last, List.length_append]
    have hg : (ls' ++ [l])[ls'.length]? = some l := by simp
    unfold mkL
    rw [show ls'.length + [l].length - 1 = ls'.length from rfl, valL_get _ _ hg]
    rw [show (ls' ++ [l]).take ls'.length = ls' by simp]
theorem sz_last {ls : List Ln} (h0 : ls ≠ []) : atI (nsD (runL szF ls)) (-1) = some (.int (szL ls (ls.length - 1) : Nat)) := by
  obtain ⟨ls', l, rfl⟩ := (List.eq_nil_or_concat ls).resolve_left h0
  rw [List.concat_eq_append] at *
  unfold nsD
  rw [runL_snoc, List.map_append, List.map_singleton, atI_last, List.length_append]
  have hg : (ls' ++ [l])[ls'.length]? = some l := by simp
  unfold szL
  rw [show ls'.length + [l].length - 1 = ls'.length from rfl, valL_get _ _ hg]
  rw [show (ls' ++ [l]).take ls'.length = ls' by simp]
theorem ok_length {g : Gx} [BI g] (h : Has g "length" s_length) (g5 : FnG g "check_room" 5 spCheckRoom) (g6 : FnG g "check_way" 6 spCheckWay) (g1 : FnG g "steps_of" 1 spSteps) : FnG g "length" 7 (spRW pLength) := by
  refine fn_has h c_length b_length (fun ds Q E ⟨x, w, h, _⟩ => by rw [h]; rfl) fun ds Q E ⟨x, w, h, wok, hx⟩ => ?_
  subst h
  refine heads (P := pLength) (N := n_length) (r := []) wok hx (fun xok hr => ?_) (fun {N' n fs} e hw => ?_) (fun {n fs ls} e hR ew h0 hl hr q => ?_)
  · exact bs_expr (w_call g5 (wa_cons (w_name 0 rfl (wa_nil ⟨_, rfl, xok, hr⟩))))
  · exact bs_expr (w_call g6 (wa_cons (w_name 0 rfl (wa_cons (w_name 1 rfl (wa_nil ⟨x, w, .int n, fsD n fs, rfl, wok, by rw [e]; exact isRoom_D n _, hw⟩))))))
  · subst e ew
    exact bl_one (bs_ret (w_ix i_lst (w_call g1 (wa_cons (w_name 1 rfl (wa_nil ⟨fs.length, ls, rfl, hr, by omega, w_un d_neg (w_int ⟨1, rfl, _, _, _, rfl, rfl, sz_last h0, q⟩)⟩))))))
theorem row_out {r : List (Nat × Bool)} {out : List D} (h : All2 (fun (d e : D) => e = .tup [.int (d.toI / 2), .int (if d.toI % 2 = 1 then -1 else 1)]) (cdL r) out) : out = r.map pD := by
  rw [All2.eq_map (f := fun d : D => D.tup [.int (d.toI / 2), .int (if d.toI % 2 = 1 then -1 else 1)]) h]
  unfold cdL
  rw [List.map_map]
  refine List.map_congr_left fun x _ => ?_
  obtain ⟨i, b⟩ := x
  cases b with
  | true =>
    show D.tup [.int (2 * (i : Int) / 2), .int (if (2 * (i : Int)) % 2 = 1 then -1 else 1)] = .tup [.int (i : Nat), .int 1]
    rw [if_neg (by omega), show 2 * (i : Int) / 2 = (i : Int) by omega]
  | false =>
    show D.tup [.int ((2 * (i : Int) + 1) / 2), .int (if (2 * (i : Int) + 1) % 2 = 1 then -1 else 1)] = .tup [.int (i : Nat), .int (-1)]
    rw [if_pos (by omega), show (2 * (i : Int) + 1) / 2 = (i : Int) by omega]
theorem ok_plain_ {g : Gx} [BI g] (h : Has g "plain" s_plain) (xt : XCls g "TooMany" "word") (ms : ConI g "MOST_STEPS" 1000) (g5 : FnG g "check_room" 5 spCheckRoom) (g6 : FnG g "check_way" 6 spCheckWay) (g1 : FnG g "steps_of" 1 spSteps) (g2 : FnG g "signs_of" 2 spSigns) : FnG g "plain" 7 (spRW pPlain) := by
  refine fn_has h c_plain b_plain (fun ds Q E ⟨x, w, h, _⟩ => by rw [h]; rfl) fun ds Q E ⟨x, w, h, wok, hx⟩ => ?_
  subst h
  have nd := c_plain.nd
  refine heads (P := pPlain) (N := n_plain) (r := [.emp]) wok hx (fun xok hr => ?_) (fun {N' n fs} e hw => ?_) (fun {n fs ls} e hR ew h0 hl hr q => ?_)
  · exact bs_expr (w_call g5 (wa_cons (w_name 0 rfl (wa_nil ⟨_, rfl, xok, hr⟩))))
  · exact bs_expr (w_call g6 (wa_cons (w_name 0 rfl (wa_cons (w_name 1 rfl (wa_nil ⟨x, w, .int n, fsD n fs, rfl, wok, by rw [e]; exact isRoom_D n _, hw⟩))))))
  · have h2 := hR.len
    subst e ew
    refine bl_cons (bs_if (wb_cmp d_gt (w_ix i_lst (w_call g1 (wa_cons (w_name 1 rfl (wa_nil ⟨fs.length, ls, rfl, hr, by omega, w_un d_neg (w_int ⟨1, rfl, _, _, _, rfl, rfl, sz_last h0, w_con ms ⟨_, _, rfl, rfl, _, rfl, ?_⟩⟩)⟩)))))))
    unfold pPlain at q
    by_cases hz : 1000 < szL ls (ls.length - 1)
    · rw [if_pos hz] at q
      exact iteTr (decide_eq_true (by omega)) (bl_one (bs_raise1 xt (w_str q)))
    · rw [if_neg hz] at q
      refine elsF (decide_eq_false (by omega)) (bl_one (bs_ret (w_map 2 (fun (d e : D) => e = .tup [.int (d.toI / 2), .int (if d.toI % 2 = 1 then -1 else 1)]) nd (wi_lst (w_call g2 (wa_cons (w_name 1 rfl (wa_nil ⟨fs.length, ls, rfl, hr, by omega, h0, by omega, by omega, _, rfl, ?_, fun d hd => ?_, fun out ho => ?_⟩)))))))) 
      · unfold cdL
        rw [List.length_map, rwL_len hr (by have := List.length_pos_iff.mpr h0; omega)]
        omega
      · obtain ⟨x, _, rfl⟩ := List.mem_map.mp hd
        refine w_tup (wa_cons (w_op d_fdiv (w_name 2 rfl (w_int ⟨_, _, rfl, rfl, ⟨by omega, by omega⟩, wa_cons (w_if (wb_cmp d_eq (w_op d_mod (w_name 2 rfl (w_int ⟨_, _, rfl, rfl, by omega, w_int ⟨_, rfl, _, rfl, ?_⟩⟩))))) ⟩))))
        by_cases hc : codeI x % 2 = 1
        · refine iteTr (decide_eq_true hc) (w_un d_neg (w_int ⟨1, rfl, wa_nil ⟨by simp, ?_⟩⟩))
          show _ = D.tup [.int (codeI x / 2), .int (if codeI x % 2 = 1 then -1 else 1)]
          rw [if_pos hc]
        · refine iteFa (decide_eq_false hc) (w_int (wa_nil ⟨by simp, ?_⟩))
          show _ = D.tup [.int (codeI x / 2), .int (if codeI x % 2 = 1 then -1 else 1)]
          rw [if_neg hc]
      · rw [row_out ho]
        exact q
end K3
set_option Elab.async false
set_option linter.all false
set_option pp.maxSteps 700
set_option maxRecDepth 100000
set_option maxHeartbeats 4000000
namespace K3
open PySem PySem.Spec PyProof.Rows L2 Evl WL
/-! ### plain rows, as the law writes them -/
theorem sgI_neg (b : Bool) : (0 : Int) - sgI b = sgI (!b) := by cases b <;> rfl
theorem exp_flip (ls : List Ln) (i : Nat) (b : Bool) : expS ls (i, !b) = invR (expS ls (i, b)) := by
  cases b with
  | true => rfl
  | false =>
    show rwL ls i = invR (invR (rwL ls i))
    rw [invR_inv]
def spLPlain : DSp := fun ds Q _ => ∃ (many : Nat) (ls : List Ln), ds = [.lst (lsD ls), .int 1000] ∧ Right many ls ∧ ls ≠ [] ∧ ls.length ≤ 2500 ∧ Q (if 1000 < szL ls (ls.length - 1) then .non else rowD (rwL ls (ls.length - 1)))
theorem ok_lplain {g : Gx} [BI g] (h : Has g "_law_plain" s__law_plain) (gl : FnG g "_law_lengths" 1 spSteps) : FnG g "_law_plain" 2 spLPlain := by
  refine fn_has h c__law_plain b__law_plain (fun ds Q E ⟨x, w, h, _⟩ => by rw [h]; rfl) fun ds Q E ⟨many, ls, h, hr, h0, hl, q⟩ => ?_
  subst h
  have nd := c__law_plain.nd
  have hN := List.length_pos_iff.mpr h0
  have hlast : ls.length - 1 < ls.length := by omega
  have szA : ∀ {i : Nat}, i < ls.length → atI (nsD (runL szF ls)) (i : Int) = some (.int (szL ls i : Nat)) := fun {i} hi => nsD_at (by rw [runL_len]; exact hi)
  refine bl_cons (bs_set 2 nd (w_call gl (wa_cons (w_name 0 rfl (wa_nil ⟨many, ls, rfl, hr, by omega, ?_⟩)))))
  have len2 : (D.lst (nsD (runL szF ls))).len = some ls.length := by
    show some (nsD (runL szF ls)).length = _
    unfold nsD
    rw [List.length_map, runL_len]
  refine bl_cons (bs_if (wb_cmp d_gt (w_ix i_lst (w_name 2 rfl (w_op d_sub (w_len (w_name 2 rfl ⟨_, len2, w_int ⟨_, _, rfl, rfl, ?_⟩⟩)))))))
  rw [show (ls.length : Int) - 1 = ((ls.length - 1 : Nat) : Int) by omega]
  refine ⟨_, _, _, rfl, rfl, szA hlast, w_name 1 rfl ⟨_, _, rfl, rfl, _, rfl, ?_⟩⟩
  by_cases hz : 1000 < szL ls (ls.length - 1)
  · rw [if_pos hz] at q
    exact iteTr (decide_eq_true (by omega)) (bl_one (bs_ret (w_non q)))
  rw [if_neg hz] at q
  refine elsF (decide_eq_false (by omega)) ?_
  refine bl_cons (bs_setO 3 nd (wo_lst (wa_nil ⟨by decide, ?_⟩)))
  refine bl_cons (bs_setO 4 nd (wo_lst (wa_cons (w_tup (wa_cons (w_op d_sub (w_len (w_name 0 rfl ⟨_, len_lsD ls, w_int ⟨_, _, rfl, rfl, wa_cons (w_int (wa_nil ⟨by simp, wa_nil ⟨by simp, ?_⟩⟩))⟩⟩))))))))
  rw [show (ls.length : Int) - 1 = ((ls.length - 1 : Nat) : Int) by omega]
  have c0 := costL_le hr hlast
  have c1 : costL ls (ls.length - 1) ≤ 5000000 := by
    have m1 : 2 * szL ls (ls.length - 1) * (ls.length - 1) ≤ 2000 * 2499 := Nat.mul_le_mul (by omega) (by omega)
    omega
  refine bl_cons (bs_for (wt_name 5 nd) (wi_rg1 (bi "range") (w_int ⟨_, rfl, by omega, by omega, ?_⟩)))
  refine ⟨fun i Γ => ∃ (out st : List (Nat × Bool)) (a b c d : Sl), Γ = [.val (.lst (lsD ls)), .val (.int 1000), .val (.lst (nsD (runL szF ls))), .own (out.map pD), .own (st.map pD), a, b, c, d] ∧ Low ls.length st ∧ out ++ pileR ls st = rwL ls (ls.length - 1) ∧ pileC ls st + i ≤ costL ls (ls.length - 1), ⟨[], [(ls.length - 1, true)], _, _, _, _, rfl, fun i x hx => ?_, ?_, ?_⟩, ?_, ?_⟩
  · cases i with
    | zero => cases hx; omega
    | succ i => simp at hx
  · show [] ++ (expS ls (ls.length - 1, true) ++ []) = _
    rw [List.nil_append, List.append_nil]
    rfl
  · show costL ls (ls.length - 1) + 0 + 0 ≤ _
    omega
  · rintro i d0 Γ' hd ⟨out, st, a, b, c, d, rfl, hlow, hrow, hcost⟩
    refine bl_cons (bs_if (wb_cmp d_eq (w_lenO 4 rfl (w_int ⟨_, rfl, _, rfl, ?_⟩))))
    by_cases hs : st = []
    · subst hs
      refine iteTr (by decide) (bl_one (bs_brk ?_))
      have e : out = rwL ls (ls.length - 1) := by
        rw [← hrow]
        exact (List.append_nil out).symm
      rw [e]
      exact bl_freeze 3 rfl (bl_one (bs_ret (w_name 3 rfl q)))
    · have hpos := List.length_pos_iff.mpr hs
      rw [List.length_map]
      refine elsF (decide_eq_false (by omega)) ?_
      obtain ⟨st', x, rfl⟩ : ∃ L' d, st = L' ++ [d] := snoc_of hs
      obtain ⟨z, sg⟩ := x
      have hm : (st' ++ [(z, sg)]).map pD = st'.map pD ++ [.tup [.int (z : Nat), .int (sgI sg)]] := by rw [List.map_append, List.map_singleton]; rfl
      rw [hm]
      have htop := hlow.top
      have hlow' := hlow.left
      have hzl : z < ls.length := by
        have : z + st'.length + 1 ≤ ls.length := htop
        omega
      obtain ⟨l, hL⟩ := lt_ex hzl
      have ok := hr z l hL
      have esz := szL_eq hr hL
      rw [pileR_snoc] at hrow
      rw [pileC_app] at hcost
      have ec : pileC ls [(z, sg)] = costL ls z := by
        unfold pileC
        exact Nat.add_zero _
      rw [ec] at hcost
      have hcp := costL_pos hr hzl
      refine bl_cons (bs_unpack (wt_tup2 6 7 nd) (wm_pop 4 rfl ⟨_, _, rfl, ?_⟩))
      refine bl_cons (bs_set 8 nd (w_ix i_lst (w_name 0 rfl (w_name 6 rfl ⟨_, _, _, rfl, rfl, lsD_at hL, ?_⟩))))
      refine bl_cons (bs_if (wb_cmp d_eq (w_ix i_lst (w_name 2 rfl (w_name 6 rfl ⟨_, _, _, rfl, rfl, szA hzl, w_int ⟨_, rfl, _, rfl, ?_⟩⟩)))))
      have outL : out.length ≤ 1000 := by
        have e := congrArg List.length hrow
        rw [List.length_append, rwL_len hr hlast] at e
        omega
      have stL := hlow'.len
      by_cases h00 : szL ls z = 0
      · refine iteTr (decide_eq_true (by omega)) (bl_one (bs_cont ⟨out, st', _, _, _, _, rfl, hlow', ?_, by omega⟩))
        have : expS ls (z, sg) = [] := by
          have : rwL ls z = [] := List.length_eq_zero_iff.mp (by rw [rwL_len hr hzl, h00])
          unfold expS
          rw [this]
          cases sg <;> rfl
        rw [this] at hrow
        exact hrow
      · refine elsF (decide_eq_false (by omega)) ?_
        have hw := rwL_eq hr hL
        cases l with
        | stay => exact absurd esz h00
        | mv j =>
          refine bl_one (bs_if (wb_cmp d_eq (w_ix i_tup (w_name 8 rfl (w_int ⟨_, _, _, rfl, rfl, ix0, w_str ⟨_, rfl, _, rfl, ?_⟩⟩)))))
          refine iteTr (by decide +kernel) (bl_one (bs_append 3 (wm_of (w_tup (wa_cons (w_ix i_tup (w_name 8 rfl (w_int ⟨_, _, _, rfl, rfl, ix1, wa_cons (w_name 7 rfl (wa_nil ⟨by simp, _, rfl, by rw [List.length_map] <;> omega, ?_⟩))⟩)))))))) 
          refine ⟨out ++ [(j, sg)], st', _, _, _, _, by rw [List.map_append] <;> rfl, hlow', ?_, by omega⟩
          have e3 : expS ls (z, sg) = [(j, sg)] := by
            unfold expS
            rw [hw]
            cases sg <;> rfl
          rw [← hrow, e3, List.append_assoc]
        | th b1 b2 =>
          refine bl_one (bs_if (wb_cmp d_eq (w_ix i_tup (w_name 8 rfl (w_int ⟨_, _, _, rfl, rfl, ix0, w_str ⟨_, rfl, _, rfl, ?_⟩⟩)))))
          refine iteFa (by decide +kernel) (bl_one (bs_if (wb_cmp d_eq (w_ix i_tup (w_name 8 rfl (w_int ⟨_, _, _, rfl, rfl, ix0, w_str ⟨_, rfl, _, rfl, ?_⟩⟩))))))
          refine iteFa (by decide +kernel) (bl_one (bs_extend 4 rfl (wo_if (wb_cmp d_gt (w_name 7 rfl (w_int ⟨_, _, rfl, rfl, _, rfl, ?_⟩))))))
          have ecz := costL_th hr hL h00
          have hz1 : z + st'.length + 1 ≤ ls.length := htop
          have o1 : b1 < z := ok.1
          have o2 : b2 < z := ok.2
          have fin : ∀ (u v : Nat), u < z → v < z → (expS ls (z, sg) = expS ls (v, sg) ++ expS ls (u, sg)) → costL ls u + costL ls v + 1 = costL ls z → ∃ (out' st2 : List (Nat × Bool)) (a b c d : Sl), [Sl.val (.lst (lsD ls)), .val (.int 1000), .val (.lst (nsD (runL szF ls))), .own (out.map pD), .own (st'.map pD ++ [pD (u, sg), pD (v, sg)]), .val d0, .val (.int (z : Nat)), .val (.int (sgI sg)), .val (Ln.th b1 b2).d] = [Sl.val (.lst (lsD ls)), .val (.int 1000), .val (.lst (nsD (runL szF ls))), .own (out'.map pD), .own (st2.map pD), a, b, c, d] ∧ Low ls.length st2 ∧ out' ++ pileR ls st2 = rwL ls (ls.length - 1) ∧ pileC ls st2 + (i + 1) ≤ costL ls (ls.length - 1) := fun u v hu hv he hc => by
            refine ⟨out, st' ++ [(u, sg)] ++ [(v, sg)], _, _, _, _, by rw [List.map_append, List.map_append, List.append_assoc] <;> rfl, ?_, ?_, ?_⟩
            · refine (hlow'.snoc (x := (u, sg)) (by show u + st'.length + 1 ≤ _; omega)).snoc ?_
              rw [List.length_append]
              show v + (st'.length + 1) + 1 ≤ _
              omega
            · rw [pileR_snoc, pileR_snoc, ← hrow, he, List.append_assoc]
            · rw [pileC_app, pileC_app]
              have e1 : pileC ls [(u, sg)] = costL ls u := Nat.add_zero _
              have e2 : pileC ls [(v, sg)] = costL ls v := Nat.add_zero _
              rw [e1, e2]
              omega
          cases sg with
          | true =>
            refine iteTr (by decide) (wo_lst (wa_cons (w_tup (wa_cons (w_ix i_tup (w_name 8 rfl (w_int ⟨_, _, _, rfl, rfl, ix2, wa_cons (w_name 7 rfl (wa_nil ⟨by simp, ?_⟩))⟩)))))))
            refine wa_cons (w_tup (wa_cons (w_ix i_tup (w_name 8 rfl (w_int ⟨_, _, _, rfl, rfl, ix1, wa_cons (w_name 7 rfl (wa_nil ⟨by simp, wa_nil ⟨by simp, by rw [List.length_map] <;> simp <;> omega, ?_⟩⟩))⟩)))))
            refine fin b2 b1 o2 o1 ?_ (by omega)
            show rwL ls z = rwL ls b1 ++ rwL ls b2
            rw [hw]
          | false =>
            refine iteFa (by decide) (wo_lst (wa_cons (w_tup (wa_cons (w_ix i_tup (w_name 8 rfl (w_int ⟨_, _, _, rfl, rfl, ix1, wa_cons (w_name 7 rfl (wa_nil ⟨by simp, ?_⟩))⟩)))))))
            refine wa_cons (w_tup (wa_cons (w_ix i_tup (w_name 8 rfl (w_int ⟨_, _, _, rfl, rfl, ix2, wa_cons (w_name 7 rfl (wa_nil ⟨by simp, wa_nil ⟨by simp, by rw [List.length_map] <;> simp <;> omega, ?_⟩⟩))⟩)))))
            refine fin b1 b2 o1 o2 ?_ (by omega)
            show invR (rwL ls z) = invR (rwL ls b2) ++ invR (rwL ls b1)
            rw [hw]
            exact invR_app _ _
        | bk b1 =>
          refine bl_one (bs_if (wb_cmp d_eq (w_ix i_tup (w_name 8 rfl (w_int ⟨_, _, _, rfl, rfl, ix0, w_str ⟨_, rfl, _, rfl, ?_⟩⟩)))))
          refine iteFa (by decide +kernel) (bl_one (bs_if (wb_cmp d_eq (w_ix i_tup (w_name 8 rfl (w_int ⟨_, _, _, rfl, rfl, ix0, w_str ⟨_, rfl, _, rfl, ?_⟩⟩))))))
          refine iteTr (by decide +kernel) (bl_one (bs_append 4 (wm_of (w_tup (wa_cons (w_ix i_tup (w_name 8 rfl (w_int ⟨_, _, _, rfl, rfl, ix1, wa_cons (w_op d_sub (w_int (w_name 7 rfl ⟨_, _, rfl, rfl, wa_nil ⟨by simp, _, rfl, by rw [List.length_map] <;> omega, ?_⟩⟩)))⟩))))))))
          rw [sgI_neg]
          have ecz := costL_bk hr hL h00
          have hz1 : z + st'.length + 1 ≤ ls.length := htop
          have o1 : b1 < z := ok
          refine ⟨out, st' ++ [(b1, !sg)], _, _, _, _, by rw [List.map_append] <;> rfl, hlow'.snoc (by show b1 + st'.length + 1 ≤ _; omega), ?_, ?_⟩
          · have e3 : expS ls (z, sg) = invR (expS ls (b1, sg)) := by
              unfold expS
              rw [hw]
              cases sg <;> rfl
            rw [pileR_snoc, ← hrow, exp_flip, e3]
          · rw [pileC_app]
            have e1 : pileC ls [(b1, !sg)] = costL ls b1 := Nat.add_zero _
            rw [e1]
            omega
  · rintro Γ' ⟨out, st, a, b, c, d, rfl, hlow, hrow, hcost⟩
    rw [List.length_map, List.length_range] at hcost
    have : ((6000000 : Int)).toNat = 6000000 := rfl
    omega
def spRowMade : DSp := fun ds Q _ => ∃ (n : Nat) (fs : List (Nat → Nat)) (r : List (Nat × Bool)), ds = [.int n, .lst (fsD n fs), rowD r] ∧ n ≤ 4000 ∧ Perms n fs ∧ (∀ x ∈ r, x.1 < fs.length) ∧ Q (arrD n (mkR n fs r))
theorem ok_row_made {g : Gx} [BI g] (h : Has g "_law_row_made" s__law_row_made) (gs : FnG g "_law_stay" 1 spStay) (gm : FnG g "_law_mul" 1 spMul) (gi : FnG g "_law_inv" 1 spInv) : FnG g "_law_row_made" 2 spRowMade := by
  refine fn_has h c__law_row_made b__law_row_made (fun ds Q E ⟨x, w, r, h, _⟩ => by rw [h]; rfl) fun ds Q E ⟨n, fs, r, h, hn, hp, hr, q⟩ => ?_
  subst h
  have nd := c__law_row_made.nd
  refine bl_cons (bs_set 3 nd (w_call gs (wa_cons (w_name 0 rfl (wa_nil ⟨_, rfl, by omega, by omega, ?_⟩)))))
  rw [rgD_arr]
  refine bl_cons (bs_for (wt_tup2 4 5 nd) (wi_lst (w_name 2 rfl ⟨_, rfl, fun i Γ => ∃ a b, Γ = [.val (.int n), .val (.lst (fsD n fs)), .val (rowD r), .val (arrD n (mkR n fs (r.take i))), a, b], ⟨_, _, rfl⟩, ?_, ?_⟩)))
  · rintro i d Γ' hd ⟨a, b, rfl⟩
    rw [List.getElem?_map] at hd
    cases hx : r[i]? with
    | none => rw [hx] at hd; cases hd
    | some x =>
      rw [hx] at hd
      cases hd
      obtain ⟨j, sg⟩ := x
      have hj : j < fs.length := hr _ (List.mem_of_getElem? hx)
      have hps := mkR_perm hp (r.take i)
      have hpj := hp.getD j
      have e : mkR n fs (r.take (i + 1)) = fun y => oneR n fs (j, sg) (mkR n fs (r.take i) y) := by rw [take_get hx, mkR_snoc]
      have nx : ∀ F : Nat → Nat, F = mkR n fs (r.take (i + 1)) → ∃ a b, [Sl.val (.int n), .val (.lst (fsD n fs)), .val (rowD r), .val (arrD n F), .val (.int (j : Nat)), .val (.int (sgI sg))] = [Sl.val (.int n), .val (.lst (fsD n fs)), .val (rowD r), .val (arrD n (mkR n fs (r.take (i + 1)))), a, b] := fun F hF => ⟨.val (.int (j : Nat)), .val (.int (sgI sg)), by rw [hF]⟩
      refine ⟨.int (j : Nat), .int (sgI sg), rfl, ?_⟩
      refine bl_one (bs_set 3 nd (w_call gm (wa_cons (w_name 3 rfl (wa_cons (w_if (wb_cmp d_gt (w_name 5 rfl (w_int ⟨_, _, rfl, rfl, _, rfl, ?_⟩)))))))))
      cases sg with
      | true => exact iteTr (by decide) (w_ix i_lst (w_name 1 rfl (w_name 4 rfl ⟨_, _, _, rfl, rfl, fsD_at hj, wa_nil ⟨n, _, _, rfl, hn, hps.1, nx _ e.symm⟩⟩)))
      | false => exact iteFa (by decide) (w_call gi (wa_cons (w_ix i_lst (w_name 1 rfl (w_name 4 rfl ⟨_, _, _, rfl, rfl, fsD_at hj, wa_nil ⟨n, _, rfl, hn, hpj, wa_nil ⟨n, _, _, rfl, hn, hps.1, nx _ e.symm⟩⟩⟩)))))
  · rintro Γ' ⟨a, b, rfl⟩
    rw [List.length_map, List.take_length]
    exact bl_one (bs_ret (w_name 3 rfl q))
end K3
set_option Elab.async false
set_option linter.all false
set_option pp.maxSteps 700
set_option maxRecDepth 100000
set_option maxHeartbeats 4000000
namespace K3
open PySem PySem.Spec PyProof.Rows L2 Evl WL
/-! ### ways drawn -/
def spWayG : DSp := fun ds Q _ => ∃ many lines : Nat, ds = [.strm, .int many, .int lines] ∧ many ≤ 4000 ∧ lines ≤ 4000 ∧ ∀ ls : List Ln, ls.length = lines → Right many ls → Q (.lst (lsD ls))
theorem lsD_snoc (ls : List Ln) (l : Ln) : lsD ls ++ [l.d] = lsD (ls ++ [l]) := by
  unfold lsD
  rw [List.map_append]
  rfl
theorem ok_way {g : Gx} [BI g] (h : Has g "_law_way" s__law_way) (g1 : FnG g "_law_next" 1 spNext) : FnG g "_law_way" 2 spWayG := by
  refine fn_has h c__law_way b__law_way (fun ds Q E ⟨x, w, h, _⟩ => by rw [h]; rfl) fun ds Q E ⟨many, lines, h, hm, hl, q⟩ => ?_
  subst h
  have nd := c__law_way.nd
  refine bl_cons (bs_setO 3 nd (wo_lst (wa_nil ⟨by decide, ?_⟩)))
  refine bl_cons (bs_for (wt_name 4 nd) (wi_rg1 (bi "range") (w_name 2 rfl ⟨_, rfl, by omega, by omega, ?_⟩)))
  refine ⟨fun i Γ => ∃ (ls : List Ln) (a b : Sl), Γ = [.val .strm, .val (.int many), .val (.int lines), .own (lsD ls), a, b] ∧ Right many ls ∧ ls.length = i, ⟨[], _, _, rfl, Right.nil many, rfl⟩, ?_, ?_⟩
  · rintro i d Γ' hd ⟨ls, a, b, rfl, hr, hL⟩
    obtain ⟨hi, rfl⟩ := rg_get hd
    rw [Int.toNat_natCast] at hi
    rw [Int.zero_add]
    have sz : (lsD ls).length < 100000 := by rw [lsD_len]; omega
    have fin : ∀ (l : Ln) (x y : Sl), l.okAt many i → ∃ (ls' : List Ln) (a b : Sl), [Sl.val .strm, .val (.int many), .val (.int lines), .own (lsD ls ++ [l.d]), x, y] = [.val .strm, .val (.int many), .val (.int lines), .own (lsD ls'), a, b] ∧ Right many ls' ∧ ls'.length = i + 1 := fun l x y hl => ⟨ls ++ [l], x, y, by rw [lsD_snoc], hr.snoc (by rw [hL]; exact hl), by rw [List.length_append, hL]; rfl⟩
    refine bl_cons (bs_set 5 nd (w_call g1 (wa_cons (w_name 0 rfl (wa_cons (w_int (wa_nil ⟨_, rfl, by omega, by omega, fun k hk0 hk1 => ?_⟩)))))))
    refine bl_one (bs_ifB (decide (k = 0) || (decide ((i : Int) = 0) && decide ((many : Int) = 0))) (wb_ww (ww_orB (wb_eqI (w_name 5 rfl (w_int ⟨rfl, rfl⟩))) fun _ => ww_or1 (wb_ww (ww_andB (wb_eqI (w_name 4 rfl (w_int ⟨rfl, rfl⟩))) fun _ => ww_and1 (wb_eqI (w_name 1 rfl (w_int ⟨rfl, rfl⟩))))))) (fun _ => ?_) (fun e1 => ?_))
    · exact bl_one (bs_append 3 (wm_of (w_tup (wa_cons (w_str (wa_nil ⟨by simp, _, rfl, sz, fin .stay _ _ trivial⟩))))))
    refine bl_one (bs_ifB (decide ((i : Int) = 0) || (decide (k < 3) && decide ((0 : Int) < many))) (wb_ww (ww_orB (wb_eqI (w_name 4 rfl (w_int ⟨rfl, rfl⟩))) fun _ => ww_or1 (wb_ww (ww_andB (wb_ltI (w_name 5 rfl (w_int ⟨rfl, rfl⟩))) fun _ => ww_and1 (wb_gtI (w_name 1 rfl (w_int ⟨rfl, rfl⟩))))))) (fun e2 => ?_) (fun e2 => ?_))
    · have hmp : 0 < many := by
        simp at e1 e2
        omega
      refine bl_one (bs_append 3 (wm_of (w_tup (wa_cons (w_str (wa_cons (w_call g1 (wa_cons (w_name 0 rfl (wa_cons (w_name 1 rfl (wa_nil ⟨_, rfl, by omega, by omega, fun r hr0 hr1 => wa_nil ⟨by simp, _, rfl, sz, ?_⟩⟩))))))))))))
      obtain ⟨r, rfl⟩ := Int.eq_ofNat_of_zero_le hr0
      exact fin (.mv r) _ _ (Int.ofNat_lt.mp hr1)
    · have hip : 0 < i := by
        simp at e2
        omega
      refine bl_one (bs_ifB (decide (k < 7)) (wb_ltI (w_name 5 rfl (w_int ⟨rfl, rfl⟩))) (fun _ => ?_) (fun _ => ?_))
      · refine bl_one (bs_append 3 (wm_of (w_tup (wa_cons (w_str (wa_cons (w_op d_sub (w_op d_sub (w_name 4 rfl (w_int ⟨_, _, rfl, rfl, w_call g1 (wa_cons (w_name 0 rfl (wa_cons (w_min (w_name 4 rfl (w_int ⟨_, _, rfl, rfl, ?_⟩))))))⟩))))))))))
        refine wa_nil ⟨_, rfl, by split <;> omega, by split <;> omega, fun r hr0 hr1 => ⟨_, _, rfl, rfl, ?_⟩⟩
        have hri : r < i := by split at hr1 <;> omega
        obtain ⟨r, rfl⟩ := Int.eq_ofNat_of_zero_le hr0
        refine wa_cons (w_call g1 (wa_cons (w_name 0 rfl (wa_cons (w_name 4 rfl (wa_nil ⟨_, rfl, by omega, by omega, fun s hs0 hs1 => wa_nil ⟨by simp, _, rfl, sz, ?_⟩⟩))))))
        obtain ⟨s, rfl⟩ := Int.eq_ofNat_of_zero_le hs0
        rw [show (i : Int) - 1 - (r : Int) = ((i - 1 - r : Nat) : Int) by omega]
        exact fin (.th (i - 1 - r) s) _ _ ⟨by omega, Int.ofNat_lt.mp hs1⟩
      · refine bl_one (bs_append 3 (wm_of (w_tup (wa_cons (w_str (wa_cons (w_call g1 (wa_cons (w_name 0 rfl (wa_cons (w_name 4 rfl (wa_nil ⟨_, rfl, by omega, by omega, fun r hr0 hr1 => wa_nil ⟨by simp, _, rfl, sz, ?_⟩⟩))))))))))))
        obtain ⟨r, rfl⟩ := Int.eq_ofNat_of_zero_le hr0
        exact fin (.bk r) _ _ (Int.ofNat_lt.mp hr1)
  · rintro Γ' ⟨ls, a, b, rfl, hr, hL⟩
    rw [List.length_map, List.length_range, Int.toNat_natCast] at hL
    exact bl_freeze 3 rfl (bl_one (bs_ret (w_name 3 rfl (q ls hL hr))))
def spDoubling : DSp := fun ds Q _ => ∃ many lines : Nat, ds = [.strm, .int many, .int lines] ∧ 1 ≤ many ∧ many ≤ 4000 ∧ 1 ≤ lines ∧ lines ≤ 4000 ∧ ∀ ls : List Ln, ls.length = lines → Right many ls → Q (.lst (lsD ls))
theorem ok_doubling {g : Gx} [BI g] (h : Has g "_law_doubling" s__law_doubling) (g1 : FnG g "_law_next" 1 spNext) : FnG g "_law_doubling" 2 spDoubling := by
  refine fn_has h c__law_doubling b__law_doubling (fun ds Q E ⟨x, w, h, _⟩ => by rw [h]; rfl) fun ds Q E ⟨many, lines, h, hm1, hm, hl1, hl, q⟩ => ?_
  subst h
  have nd := c__law_doubling.nd
  refine bl_cons (bs_setO 3 nd (wo_lst (wa_cons (w_tup (wa_cons (w_str (wa_cons (w_call g1 (wa_cons (w_name 0 rfl (wa_cons (w_name 1 rfl (wa_nil ⟨_, rfl, by omega, by omega, fun r hr0 hr1 => wa_nil ⟨by simp, wa_nil ⟨by simp, ?_⟩⟩⟩)))))))))))) )
  obtain ⟨r, rfl⟩ := Int.eq_ofNat_of_zero_le hr0
  refine bl_cons (bs_for (wt_name 4 nd) (wi_rg2 (bi "range") (w_int (w_name 2 rfl ⟨_, _, rfl, rfl, ⟨by omega, by omega, by omega, by omega⟩, ?_⟩))))
  refine ⟨fun i Γ => ∃ (ls : List Ln) (a b : Sl), Γ = [.val .strm, .val (.int many), .val (.int lines), .own (lsD ls), a, b] ∧ Right many ls ∧ ls.length = i + 1, ⟨[.mv r], _, _, rfl, (Right.nil many).snoc (l := .mv r) (Int.ofNat_lt.mp hr1), rfl⟩, ?_, ?_⟩
  · rintro i d Γ' hd ⟨ls, a, b, rfl, hr, hL⟩
    obtain ⟨hi, rfl⟩ := rg_get hd
    have sz : (lsD ls).length < 100000 := by rw [lsD_len]; omega
    have fin : ∀ (l : Ln) (x y : Sl), l.okAt many (i + 1) → ∃ (ls' : List Ln) (a b : Sl), [Sl.val .strm, .val (.int many), .val (.int lines), .own (lsD ls ++ [l.d]), x, y] = [.val .strm, .val (.int many), .val (.int lines), .own (lsD ls'), a, b] ∧ Right many ls' ∧ ls'.length = i + 1 + 1 := fun l x y hl => ⟨ls ++ [l], x, y, by rw [lsD_snoc], hr.snoc (by rw [hL]; exact hl), by rw [List.length_append, hL]; rfl⟩
    have e0 : (1 : Int) + (i : Nat) - 1 = ((i : Nat) : Int) := by omega
    refine bl_cons (bs_set 5 nd (w_call g1 (wa_cons (w_name 0 rfl (wa_cons (w_int (wa_nil ⟨_, rfl, by omega, by omega, fun k hk0 hk1 => ?_⟩)))))))
    refine bl_one (bs_ifB (decide (k = 0)) (wb_eqI (w_name 5 rfl (w_int ⟨rfl, rfl⟩))) (fun _ => ?_) (fun _ => ?_))
    · refine bl_one (bs_append 3 (wm_of (w_tup (wa_cons (w_str (wa_cons (w_op d_sub (w_name 4 rfl (w_int ⟨_, _, rfl, rfl, wa_nil ⟨by simp, _, rfl, sz, ?_⟩⟩)))))))))
      rw [e0]
      exact fin (.bk i) _ _ (Nat.lt_succ_self i)
    refine bl_one (bs_ifB (decide (k = 1)) (wb_eqI (w_name 5 rfl (w_int ⟨rfl, rfl⟩))) (fun _ => ?_) (fun _ => ?_))
    · refine bl_one (bs_append 3 (wm_of (w_tup (wa_cons (w_str (wa_cons (w_op d_sub (w_name 4 rfl (w_int ⟨_, _, rfl, rfl, ?_⟩)))))))))
      rw [e0]
      refine wa_cons (w_call g1 (wa_cons (w_name 0 rfl (wa_cons (w_name 4 rfl (wa_nil ⟨_, rfl, by omega, by omega, fun s hs0 hs1 => wa_nil ⟨by simp, _, rfl, sz, ?_⟩⟩))))))
      obtain ⟨s, rfl⟩ := Int.eq_ofNat_of_zero_le hs0
      exact fin (.th i s) _ _ ⟨Nat.lt_succ_self i, by omega⟩
    · refine bl_one (bs_append 3 (wm_of (w_tup (wa_cons (w_str (wa_cons (w_op d_sub (w_name 4 rfl (w_int ⟨_, _, rfl, rfl, wa_cons (w_op d_sub (w_name 4 rfl (w_int ⟨_, _, rfl, rfl, wa_nil ⟨by simp, _, rfl, sz, ?_⟩⟩)))⟩)))))))))
      rw [e0]
      exact fin (.th i i) _ _ ⟨Nat.lt_succ_self i, Nat.lt_succ_self i⟩
  · rintro Γ' ⟨ls, a, b, rfl, hr, hL⟩
    rw [List.length_map, List.length_range] at hL
    exact bl_freeze 3 rfl (bl_one (bs_ret (w_name 3 rfl (q ls (by omega) hr))))
def spWithSteps : DSp := fun ds Q _ => ∃ (many : Nat) (steps : Int), ds = [.strm, .int many, .int steps] ∧ 1 ≤ many ∧ many ≤ 4000 ∧ ∀ ls : List Ln, ls ≠ [] → ls.length ≤ 100 → Right many ls → Q (.lst (lsD ls))
def Ln.word : Ln → Str
  | .stay => "stay"
  | .mv _ => "move"
  | .th _ _ => "then"
  | .bk _ => "back"
def Ln.args : Ln → List D
  | .stay => []
  | .mv i => [.int i]
  | .th a b => [.int a, .int b]
  | .bk a => [.int a]
theorem Ln.d_eq (l : Ln) : l.d = .tup (.str (Ln.word l) :: Ln.args l) := by cases l <;> rfl
theorem ok_with_steps {g : Gx} [BI g] (h : Has g "_law_with_steps" s__law_with_steps) (g1 : FnG g "_law_next" 1 spNext) : FnG g "_law_with_steps" 2 spWithSteps := by
  refine fn_has h c__law_with_steps b__law_with_steps (fun ds Q E ⟨x, w, h, _⟩ => by rw [h]; rfl) fun ds Q E ⟨many, steps, h, hm1, hm, q⟩ => ?_
  subst h
  have nd := c__law_with_steps.nd
  refine bl_cons (bs_setO 3 nd (wo_lst (wa_cons (w_tup (wa_cons (w_str (wa_nil ⟨by simp, ?_⟩)))))))
  refine wa_cons (w_tup (wa_cons (w_str (wa_cons (w_call g1 (wa_cons (w_name 0 rfl (wa_cons (w_name 1 rfl (wa_nil ⟨_, rfl, by omega, by omega, fun r hr0 hr1 => wa_nil ⟨by simp, wa_nil ⟨by simp, ?_⟩⟩⟩))))))))) )
  obtain ⟨r, rfl⟩ := Int.eq_ofNat_of_zero_le hr0
  refine bl_cons (bs_set 4 nd (w_int ?_))
  refine bl_cons (bs_set 5 nd (w_int ?_))
  refine bl_cons (bs_set 6 nd (w_name 2 rfl ?_))
  have fin : ∀ Γ, (∃ (ls : List Ln) (db la : Nat) (lf : Int) (a b : Sl), Γ = [.val .strm, .val (.int many), .val (.int steps), .own (lsD ls), .val (.int (db : Nat)), .val (.int (la : Nat)), .val (.int lf), a, b] ∧ Right many ls ∧ db < ls.length ∧ la < ls.length ∧ ls.length ≤ 60) → BL (Ct.def g n__law_with_steps (defScope s__law_with_steps) 1 E) ((defBody s__law_with_steps).drop 5) Γ { nx := fun _ => Q .non, rt := Q } := by
    rintro Γ ⟨ls, db, la, lf, a, b, rfl, hr, hdb, hla, hL⟩
    have hpos : 0 < ls.length := by omega
    obtain ⟨l, hl⟩ := lt_ex (show ls.length - 1 < ls.length by omega)
    have done : BL (Ct.def g n__law_with_steps (defScope s__law_with_steps) 1 E) ((defBody s__law_with_steps).drop 6) [.val .strm, .val (.int many), .val (.int steps), .own (lsD ls), .val (.int (db : Nat)), .val (.int (la : Nat)), .val (.int lf), a, b] { nx := fun _ => Q .non, rt := Q } := bl_freeze 3 rfl (bl_one (bs_ret (w_name 3 rfl (q ls (fun z => by rw [z] at hpos; exact absurd hpos (Nat.lt_irrefl 0)) (by omega) hr))))
    refine bl_cons (bs_ifB (decide (Ln.word l = ("stay" : Str)) || !decide ((la : Int) = (ls.length : Int) - 1)) (wb_ww (ww_orB (wb_eqS (w_ix i_tup (w_ixO 3 rfl (w_op d_sub (w_lenO 3 rfl (w_int ⟨_, _, rfl, rfl, ?_⟩)))))) fun _ => ww_or1 (wb_neI (w_name 5 rfl (w_op d_sub (w_lenO 3 rfl (w_int ⟨_, _, rfl, rfl, rfl, by rw [lsD_len]⟩))))))) (fun _ => ?_) (fun _ => bl_nil done))
    · rw [lsD_len, show (ls.length : Int) - 1 = ((ls.length - 1 : Nat) : Int) by omega]
      exact ⟨_, _, rfl, lsD_at hl, w_int ⟨_, _, _, Ln.d_eq l, rfl, ix0, w_str ⟨rfl, rfl⟩⟩⟩
    · refine bl_one (bs_append 3 (wm_of (w_tup (wa_cons (w_str (wa_cons (w_int (wa_cons (w_name 5 rfl (wa_nil ⟨by simp, _, rfl, by rw [lsD_len] <;> omega, ?_⟩)))))))))) 
      have e : lsD ls ++ [D.tup [.str "then", .int (0 : Int), .int (la : Nat)]] = lsD (ls ++ [.th 0 la]) := lsD_snoc ls (.th 0 la)
      rw [e]
      exact bl_freeze 3 rfl (bl_one (bs_ret (w_name 3 rfl (q _ (by simp) (by rw [List.length_append]; show ls.length + 1 ≤ 100; omega) (hr.snoc ⟨hpos, hla⟩)))))
  refine bl_cons (bs_for (wt_name 7 nd) (wi_rg1 (bi "range") (w_int ⟨_, rfl, by omega, by omega, ?_⟩)))
  refine ⟨fun i Γ => ∃ (ls : List Ln) (db la : Nat) (lf : Int) (a b : Sl), Γ = [.val .strm, .val (.int many), .val (.int steps), .own (lsD ls), .val (.int (db : Nat)), .val (.int (la : Nat)), .val (.int lf), a, b] ∧ Right many ls ∧ db < ls.length ∧ la < ls.length ∧ ls.length ≤ 2 + 4 * i, ⟨[.stay, .mv r], 1, 0, steps, _, _, rfl, ((Right.nil many).snoc (l := .stay) trivial).snoc (l := .mv r) (Int.ofNat_lt.mp hr1), by show 1 < 2; omega, by show 0 < 2; omega, by show 2 ≤ 2 + 4 * 0; omega⟩, ?_, ?_⟩
  · rintro i d Γ' hd ⟨ls, db, la, lf, a, b, rfl, hr, hdb, hla, hL⟩
    obtain ⟨hi, rfl⟩ := rg_get hd
    have hi : i < 12 := hi
    have snoc2 : ∀ (ls : List Ln) (l : Ln) (ds : List D), l.d = .tup ds → lsD ls ++ [.tup ds] = lsD (ls ++ [l]) := fun ls l ds e => by rw [← e, lsD_snoc]
    have lenI : ∀ (ls : List Ln) (l : Ln), ((lsD (ls ++ [l])).length : Int) - 1 = (ls.length : Nat) := fun ls l => by
      rw [lsD_len, List.length_append]
      show ((ls.length + 1 : Nat) : Int) - 1 = _
      omega
    refine bl_cons (bs_imp (fun Γ => ∃ (ls : List Ln) (la : Nat) (a b : Sl), Γ = [.val .strm, .val (.int many), .val (.int steps), .own (lsD ls), .val (.int (db : Nat)), .val (.int (la : Nat)), .val (.int lf), a, b] ∧ Right many ls ∧ db < ls.length ∧ la < ls.length ∧ ls.length ≤ 4 + 4 * i) (bs_ifB (decide (lf % 2 = 1)) (wb_eqI (w_op d_mod (w_intC (w_name 6 rfl ⟨_, rfl, w_int ⟨_, _, rfl, rfl, by omega, w_int ⟨rfl, rfl⟩⟩⟩)))) (fun _ => ?_) (fun _ => bl_nil ⟨ls, la, _, _, rfl, hr, hdb, hla, by omega⟩)) ?_)
    · refine bl_cons (bs_set 8 nd (w_name 4 rfl ?_))
      refine bl_cons (bs_imp (fun Γ => ∃ (ls' : List Ln) (on : Nat), Γ = [.val .strm, .val (.int many), .val (.int steps), .own (lsD ls'), .val (.int (db : Nat)), .val (.int (la : Nat)), .val (.int lf), .val (.int (0 + (i : Nat))), .val (.int (on : Nat))] ∧ Right many ls' ∧ db < ls'.length ∧ la < ls'.length ∧ on < ls'.length ∧ ls'.length ≤ 3 + 4 * i) (bs_if (wb_cmp d_eq (w_call g1 (wa_cons (w_name 0 rfl (wa_cons (w_int (wa_nil ⟨_, rfl, by omega, by omega, fun z hz0 hz1 => w_int ⟨_, rfl, _, rfl, ?_⟩⟩)))))))) ?_)
      · cases decide (z = 0) with
        | true =>
          refine iteT (bl_cons (bs_append 3 (wm_of (w_tup (wa_cons (w_str (wa_cons (w_name 4 rfl (wa_nil ⟨by simp, _, rfl, by rw [lsD_len] <;> omega, ?_⟩)))))))))
          rw [snoc2 ls (.bk db) _ rfl]
          refine bl_one (bs_set 8 nd (w_op d_sub (w_lenO 3 rfl (w_int ⟨_, _, rfl, rfl, ?_⟩))))
          rw [lenI]
          have e : (ls ++ [Ln.bk db]).length = ls.length + 1 := List.length_append ..
          exact ⟨ls ++ [.bk db], ls.length, rfl, hr.snoc (l := .bk db) hdb, by omega, by omega, by omega, by omega⟩
        | false => exact els ⟨ls, db, rfl, hr, hdb, hla, hdb, by omega⟩
      · rintro Γ2 ⟨ls', on, rfl, hr', hdb', hla', hon, hL'⟩
        refine bl_cons (bs_append 3 (wm_of (w_if (wb_cmp d_eq (w_call g1 (wa_cons (w_name 0 rfl (wa_cons (w_int (wa_nil ⟨_, rfl, by omega, by omega, fun z hz0 hz1 => w_int ⟨_, rfl, _, rfl, ?_⟩⟩))))))))))
        have e : ∀ l : Ln, (ls' ++ [l]).length = ls'.length + 1 := fun l => List.length_append ..
        cases decide (z = 0) with
        | true =>
          refine iteT (w_tup (wa_cons (w_str (wa_cons (w_name 5 rfl (wa_cons (w_name 8 rfl (wa_nil ⟨by simp, _, rfl, by rw [lsD_len] <;> omega, ?_⟩))))))))
          rw [snoc2 ls' (.th la on) _ rfl]
          refine bl_one (bs_set 5 nd (w_op d_sub (w_lenO 3 rfl (w_int ⟨_, _, rfl, rfl, ?_⟩))))
          rw [lenI]
          have e := e (.th la on)
          exact ⟨ls' ++ [.th la on], ls'.length, _, _, rfl, hr'.snoc (l := .th la on) ⟨hla', hon⟩, by omega, by omega, by omega⟩
        | false =>
          refine iteF (w_tup (wa_cons (w_str (wa_cons (w_name 8 rfl (wa_cons (w_name 5 rfl (wa_nil ⟨by simp, _, rfl, by rw [lsD_len] <;> omega, ?_⟩))))))))
          rw [snoc2 ls' (.th on la) _ rfl]
          refine bl_one (bs_set 5 nd (w_op d_sub (w_lenO 3 rfl (w_int ⟨_, _, rfl, rfl, ?_⟩))))
          rw [lenI]
          have e := e (.th on la)
          exact ⟨ls' ++ [.th on la], ls'.length, _, _, rfl, hr'.snoc (l := .th on la) ⟨hon, hla'⟩, by omega, by omega, by omega⟩
    · rintro Γ2 ⟨ls', la', a2, b2, rfl, hr', hdb', hla', hL'⟩
      refine bl_cons (bs_set 6 nd (w_op d_fdiv (w_name 6 rfl (w_int ⟨_, _, rfl, rfl, ⟨by omega, by omega⟩, ?_⟩))))
      refine bl_cons (bs_ifB (decide (lf / 2 = 0)) (wb_eqI (w_name 6 rfl (w_int ⟨rfl, rfl⟩))) (fun _ => bl_one (bs_brk (fin _ ⟨ls', db, la', _, _, _, rfl, hr', hdb', hla', by omega⟩))) (fun _ => bl_nil ?_))
      refine bl_cons (bs_append 3 (wm_of (w_tup (wa_cons (w_str (wa_cons (w_call g1 (wa_cons (w_name 0 rfl (wa_cons (w_name 1 rfl (wa_nil ⟨_, rfl, by omega, by omega, fun r hr0 hr1 => wa_nil ⟨by simp, _, rfl, by rw [lsD_len] <;> omega, ?_⟩⟩))))))))))))
      obtain ⟨r, rfl⟩ := Int.eq_ofNat_of_zero_le hr0
      rw [snoc2 ls' (.mv r) _ rfl]
      have e1 : (ls' ++ [Ln.mv r]).length = ls'.length + 1 := List.length_append ..
      have hr2 : Right many (ls' ++ [Ln.mv r]) := hr'.snoc (Int.ofNat_lt.mp hr1)
      refine bl_cons (bs_append 3 (wm_of (w_tup (wa_cons (w_str (wa_cons (w_name 4 rfl (wa_cons (w_name 4 rfl (wa_nil ⟨by simp, _, rfl, by rw [lsD_len] <;> omega, ?_⟩)))))))))) 
      rw [snoc2 (ls' ++ [Ln.mv r]) (Ln.th db db) _ rfl]
      refine bl_one (bs_set 4 nd (w_op d_sub (w_lenO 3 rfl (w_int ⟨_, _, rfl, rfl, ?_⟩))))
      rw [lenI]
      have e2 : (ls' ++ [Ln.mv r] ++ [Ln.th db db]).length = (ls' ++ [Ln.mv r]).length + 1 := List.length_append ..
      exact ⟨ls' ++ [.mv r] ++ [.th db db], _, la', _, _, _, rfl, hr2.snoc (l := .th db db) ⟨by omega, by omega⟩, by omega, by omega, by omega⟩
  · rintro Γ' ⟨ls, db, la, lf, a, b, rfl, hr, hdb, hla, hL⟩
    rw [List.length_map, List.length_range] at hL
    have : ((12 : Int)).toNat = 12 := rfl
    exact fin _ ⟨ls, db, la, lf, _, _, rfl, hr, hdb, hla, by omega⟩
end K3
set_option Elab.async false
set_option linter.all false
set_option pp.maxSteps 700
set_option maxRecDepth 100000
set_option maxHeartbeats 4000000
namespace K3
open PySem PySem.Spec PyProof.Rows L2 Evl WL
/-! ### ways bent -/
def Small (d : D) : Prop := d.ok = true ∧ d.dep ≤ 2 ∧ d.wt ≤ 40
def Big (d : D) : Prop := d.ok = true ∧ d.dep ≤ 3 ∧ d.wt ≤ 30000
theorem small_tup {xs : List D} (h : okL xs = true) (hl : xs.length ≤ 4000) (hd : depL xs ≤ 1) (hw : wtL xs ≤ 39) : Small (.tup xs) := ⟨mk_tup hl h, by rw [dep_tup]; omega, by rw [wt_tup]; omega⟩
theorem small_lst {xs : List D} (h : okL xs = true) (hl : xs.length ≤ 4000) (hd : depL xs ≤ 1) (hw : wtL xs ≤ 39) : Small (.lst xs) := ⟨mk_lst hl h, by rw [dep_lst]; omega, by rw [wt_lst]; omega⟩
def spBentLine : DSp := fun ds Q _ => ∃ (xs : List D) (i many : Nat), ds = [.strm, .tup xs, .int i, .int many] ∧ okL xs = true ∧ xs.length ≤ 20 ∧ depL xs ≤ 1 ∧ wtL xs ≤ 30 ∧ ∀ d, Small d → Q d
theorem ok_bent_line {g : Gx} [BI g] (h : Has g "_law_bent_line" s__law_bent_line) (g1 : FnG g "_law_next" 1 spNext) (g2 : FnG g "_law_pick" 2 spPick) : FnG g "_law_bent_line" 3 spBentLine := by
  refine fn_has h c__law_bent_line b__law_bent_line (fun ds Q E ⟨xs, i, m, h, _⟩ => by rw [h]; rfl) fun ds Q E ⟨xs, i, many, h, hok, hl, hd, hw, q⟩ => ?_
  subst h
  have nd := c__law_bent_line.nd
  refine bl_cons (bs_set 4 nd (w_call g1 (wa_cons (w_name 0 rfl (wa_cons (w_int (wa_nil ⟨_, rfl, by omega, by omega, fun k hk0 hk1 => ?_⟩)))))))
  refine bl_cons (bs_ifB (decide (k < 4)) (wb_ltI (w_name 4 rfl (w_int ⟨rfl, rfl⟩))) (fun _ => ?_) (fun _ => bl_nil ?_))
  · refine bl_one (bs_ret (w_call g2 (wa_cons (w_name 0 rfl (wa_cons (w_lst ?_))))))
    refine wa_cons (w_tup (wa_cons (w_str (wa_cons (w_name 3 rfl (wa_nil ⟨by simp, ?_⟩))))))
    refine wa_cons (w_tup (wa_cons (w_str (wa_cons (w_un d_neg (w_int ⟨1, rfl, wa_nil ⟨by simp, ?_⟩⟩))))))
    refine wa_cons (w_tup (wa_cons (w_str (wa_cons (w_bl (wa_nil ⟨by simp, ?_⟩))))))
    refine wa_cons (w_tup (wa_cons (w_str (wa_cons (w_int (wa_nil ⟨by simp, ?_⟩))))))
    refine wa_cons (w_tup (wa_cons (w_str (wa_cons (w_non (wa_nil ⟨by simp, ?_⟩))))))
    refine wa_cons (w_tup (wa_cons (w_str (wa_cons (w_op d_add (w_name 3 rfl (w_int ⟨_, _, rfl, rfl, wa_nil ⟨by simp, ?_⟩⟩)))))))
    refine wa_cons (w_tup (wa_cons (w_str (wa_nil ⟨by simp, ?_⟩))))
    refine wa_cons (w_tup (wa_cons (w_str (wa_cons (w_int (wa_cons (w_int (wa_nil ⟨by simp, ?_⟩))))))))
    refine wa_nil ⟨by simp, wa_nil ⟨_, _, rfl, rfl, by simp, by simp, fun d hd => q d ?_⟩⟩
    simp only [List.mem_cons, List.not_mem_nil, or_false] at hd
    rcases hd with rfl | rfl | rfl | rfl | rfl | rfl | rfl | rfl <;> exact small_tup rfl (Nat.le_of_ble_eq_true rfl) (Nat.le_of_ble_eq_true rfl) (Nat.le_of_ble_eq_true rfl)
  refine bl_cons (bs_ifB (decide (k < 7)) (wb_ltI (w_name 4 rfl (w_int ⟨rfl, rfl⟩))) (fun _ => ?_) (fun _ => bl_nil ?_))
  · refine bl_one (bs_ret (w_call g2 (wa_cons (w_name 0 rfl (wa_cons (w_lst ?_))))))
    refine wa_cons (w_tup (wa_cons (w_str (wa_cons (w_name 2 rfl (wa_nil ⟨by simp, ?_⟩))))))
    refine wa_cons (w_tup (wa_cons (w_str (wa_cons (w_un d_neg (w_int ⟨1, rfl, wa_nil ⟨by simp, ?_⟩⟩))))))
    refine wa_cons (w_tup (wa_cons (w_str (wa_cons (w_name 2 rfl (wa_cons (w_int (wa_nil ⟨by simp, ?_⟩))))))))
    refine wa_cons (w_tup (wa_cons (w_str (wa_cons (w_int (wa_cons (w_name 2 rfl (wa_nil ⟨by simp, ?_⟩))))))))
    refine wa_cons (w_tup (wa_cons (w_str (wa_cons (w_int (wa_cons (w_un d_neg (w_int ⟨1, rfl, wa_nil ⟨by simp, ?_⟩⟩))))))))
    refine wa_cons (w_tup (wa_cons (w_str (wa_cons (w_bl (wa_nil ⟨by simp, ?_⟩))))))
    refine wa_cons (w_tup (wa_cons (w_str (wa_cons (w_int (wa_nil ⟨by simp, ?_⟩))))))
    refine wa_cons (w_tup (wa_cons (w_str (wa_cons (w_int (wa_cons (w_int (wa_nil ⟨by simp, ?_⟩))))))))
    refine wa_cons (w_tup (wa_cons (w_str (wa_cons (w_int (wa_cons (w_op d_add (w_name 2 rfl (w_int ⟨_, _, rfl, rfl, wa_nil ⟨by simp, ?_⟩⟩)))))))))
    refine wa_nil ⟨by simp, wa_nil ⟨_, _, rfl, rfl, by simp, by simp, fun d hd => q d ?_⟩⟩
    simp only [List.mem_cons, List.not_mem_nil, or_false] at hd
    rcases hd with rfl | rfl | rfl | rfl | rfl | rfl | rfl | rfl | rfl <;> exact small_tup rfl (Nat.le_of_ble_eq_true rfl) (Nat.le_of_ble_eq_true rfl) (Nat.le_of_ble_eq_true rfl)
  refine bl_one (bs_ret (w_call g2 (wa_cons (w_name 0 rfl (wa_cons (w_lst ?_))))))
  refine wa_cons (w_non ?_)
  refine wa_cons (w_tup (wa_nil ⟨by simp, ?_⟩))
  refine wa_cons (w_wo (wo_callT co_list (bi "list") (wa_cons (w_name 1 rfl (wa_nil ⟨_, xs, rfl, rfl, ?_⟩)))))
  refine wa_cons (w_tup (wa_cons (w_str (wa_cons (w_int (wa_nil ⟨by simp, ?_⟩))))))
  refine wa_cons (w_lst (wa_cons (w_str (wa_nil ⟨by simp, ?_⟩))))
  refine wa_cons (w_str ?_)
  refine wa_cons (w_tup (wa_cons (w_str (wa_nil ⟨by simp, ?_⟩))))
  refine wa_cons (w_tup (wa_cons (w_str (wa_nil ⟨by simp, ?_⟩))))
  refine wa_cons (w_tup (wa_cons (w_int (wa_cons (w_str (wa_nil ⟨by simp, ?_⟩))))))
  refine wa_cons (w_tup (wa_cons (w_str (wa_cons (w_int (wa_nil ⟨by simp, ?_⟩))))))
  refine wa_cons (w_tup (wa_cons (w_str (wa_cons (w_int (wa_nil ⟨by simp, ?_⟩))))))
  refine wa_cons (w_dict0 ?_)
  refine wa_nil ⟨by simp, wa_nil ⟨_, _, rfl, rfl, by simp, by simp, fun d hd => q d ?_⟩⟩
  simp only [List.mem_cons, List.not_mem_nil, or_false] at hd
  rcases hd with rfl | rfl | rfl | rfl | rfl | rfl | rfl | rfl | rfl | rfl | rfl | rfl
  · exact ⟨rfl, Nat.le_of_ble_eq_true rfl, Nat.le_of_ble_eq_true rfl⟩
  · exact small_tup rfl (Nat.le_of_ble_eq_true rfl) (Nat.le_of_ble_eq_true rfl) (Nat.le_of_ble_eq_true rfl)
  · exact small_lst hok (by omega) (by omega) (by omega)
  · exact small_tup rfl (Nat.le_of_ble_eq_true rfl) (Nat.le_of_ble_eq_true rfl) (Nat.le_of_ble_eq_true rfl)
  · exact small_lst rfl (Nat.le_of_ble_eq_true rfl) (Nat.le_of_ble_eq_true rfl) (Nat.le_of_ble_eq_true rfl)
  · exact ⟨rfl, Nat.le_of_ble_eq_true rfl, Nat.le_of_ble_eq_true rfl⟩
  · exact small_tup rfl (Nat.le_of_ble_eq_true rfl) (Nat.le_of_ble_eq_true rfl) (Nat.le_of_ble_eq_true rfl)
  · exact small_tup rfl (Nat.le_of_ble_eq_true rfl) (Nat.le_of_ble_eq_true rfl) (Nat.le_of_ble_eq_true rfl)
  · exact small_tup rfl (Nat.le_of_ble_eq_true rfl) (Nat.le_of_ble_eq_true rfl) (Nat.le_of_ble_eq_true rfl)
  · exact small_tup rfl (Nat.le_of_ble_eq_true rfl) (Nat.le_of_ble_eq_true rfl) (Nat.le_of_ble_eq_true rfl)
  · exact small_tup rfl (Nat.le_of_ble_eq_true rfl) (Nat.le_of_ble_eq_true rfl) (Nat.le_of_ble_eq_true rfl)
  · exact ⟨rfl, Nat.le_of_ble_eq_true rfl, Nat.le_of_ble_eq_true rfl⟩
theorem ln_facts (l : Ln) : l.d.ok = true ∧ l.d.dep ≤ 1 ∧ l.d.wt ≤ 8 := by
  cases l <;> exact ⟨rfl, Nat.le_of_ble_eq_true rfl, Nat.le_of_ble_eq_true rfl⟩
theorem ln_args (l : Ln) : okL (.str (Ln.word l) :: Ln.args l) = true ∧ (.str (Ln.word l) :: Ln.args l : List D).length ≤ 20 ∧ depL (.str (Ln.word l) :: Ln.args l) ≤ 1 ∧ wtL (.str (Ln.word l) :: Ln.args l) ≤ 30 := by
  cases l <;> exact ⟨rfl, Nat.le_of_ble_eq_true rfl, Nat.le_of_ble_eq_true rfl, Nat.le_of_ble_eq_true rfl⟩
theorem ls_facts (ls : List Ln) : okL (lsD ls) = true ∧ depL (lsD ls) ≤ 1 ∧ wtL (lsD ls) ≤ 8 * ls.length := by
  refine ⟨okL_of fun d hd => ?_, depL_le fun d hd => ?_, ?_⟩
  · obtain ⟨l, _, rfl⟩ := List.mem_map.mp hd
    exact (ln_facts l).1
  · obtain ⟨l, _, rfl⟩ := List.mem_map.mp hd
    exact (ln_facts l).2.1
  · have := wtL_le (k := 8) (xs := lsD ls) fun d hd => by
      obtain ⟨l, _, rfl⟩ := List.mem_map.mp hd
      exact (ln_facts l).2.2
    rwa [lsD_len] at this
theorem big_lst {xs : List D} (h : okL xs = true) (hl : xs.length ≤ 4000) (hd : depL xs ≤ 2) (hw : wtL xs ≤ 29999) : Big (.lst xs) := ⟨mk_lst hl h, by rw [dep_lst]; omega, by rw [wt_lst]; omega⟩
theorem okL_app {xs ys : List D} (h : okL xs = true) (k : okL ys = true) : okL (xs ++ ys) = true := okL_of fun d hd => by
  rcases List.mem_append.mp hd with e | e
  · exact okL_mem h e
  · exact okL_mem k e
theorem big_way {ls : List Ln} (h : ls.length ≤ 2501) : Big (.lst (lsD ls)) := by
  obtain ⟨a, b, c⟩ := ls_facts ls
  exact big_lst a (by rw [lsD_len]; omega) (by omega) (by omega)
def spBentWay : DSp := fun ds Q _ => ∃ (ls : List Ln) (many : Nat), ds = [.strm, .lst (lsD ls), .int many] ∧ ls ≠ [] ∧ ls.length ≤ 200 ∧ ∀ d, Big d → Q d
theorem rep_stay (k : Nat) : (List.replicate k [D.tup [.str "stay"]]).flatten = lsD (List.replicate k .stay) := by
  induction k with
  | zero => rfl
  | succ k ih =>
    rw [List.replicate_succ, List.flatten_cons, ih, List.replicate_succ]
    rfl
theorem lsD_app (ls ms : List Ln) : lsD ls ++ lsD ms = lsD (ls ++ ms) := (List.map_append ..).symm
theorem ok_bent_way {g : Gx} [BI g] (h : Has g "_law_bent_way" s__law_bent_way) (g1 : FnG g "_law_next" 1 spNext) (g2 : FnG g "_law_pick" 2 spPick) (g3 : FnG g "_law_bent_line" 3 spBentLine) : FnG g "_law_bent_way" 4 spBentWay := by
  refine fn_has h c__law_bent_way b__law_bent_way (fun ds Q E ⟨xs, m, h, _⟩ => by rw [h]; rfl) fun ds Q E ⟨ls, many, h, h0, hl, q⟩ => ?_
  subst h
  have nd := c__law_bent_way.nd
  have hN := List.length_pos_iff.mpr h0
  obtain ⟨f1, f2, f3⟩ := ls_facts ls
  refine bl_cons (bs_set 3 nd (w_call g1 (wa_cons (w_name 0 rfl (wa_cons (w_int (wa_nil ⟨_, rfl, by omega, by omega, fun k hk0 hk1 => ?_⟩)))))))
  refine bl_cons (bs_ifB (decide (k = 0)) (wb_eqI (w_name 3 rfl (w_int ⟨rfl, rfl⟩))) (fun _ => ?_) (fun _ => bl_nil ?_))
  · refine bl_one (bs_ret (w_call g2 (wa_cons (w_name 0 rfl (wa_cons (w_lst ?_))))))
    refine wa_cons (w_non ?_)
    refine wa_cons (w_tuple (w_name 1 rfl ⟨_, rfl, ?_⟩))
    refine wa_cons (w_lst (wa_nil ⟨by simp, ?_⟩))
    refine wa_cons (w_dict0 ?_)
    refine wa_cons (w_str ?_)
    refine wa_cons (w_lst (wa_cons (w_name 1 rfl (wa_nil ⟨by simp, ?_⟩))))
    refine wa_cons (w_wo (wo_op d_addL (w_name 1 rfl (w_wo (wo_op d_repL (w_lst (wa_cons (w_tup (wa_cons (w_str (wa_nil ⟨by simp, wa_nil ⟨by simp, ?_⟩⟩)))))))))))
    refine w_op d_sub (w_int (w_min (w_len (w_name 1 rfl ⟨_, len_lsD ls, w_int ⟨_, _, rfl, rfl, ?_⟩⟩))))
    rw [if_neg (by omega)]
    refine ⟨_, _, rfl, rfl, _, _, rfl, rfl, by omega, by omega, by simp; omega, ?_⟩
    rw [rep_stay]
    refine ⟨_, _, rfl, rfl, by rw [lsD_len, lsD_len, List.length_replicate]; omega, ?_⟩
    rw [lsD_app]
    refine wa_cons (w_wo (wo_op d_addL (w_name 1 rfl (w_wo (wo_op d_repL (w_lst (wa_cons (w_tup (wa_cons (w_str (wa_nil ⟨by simp, wa_nil ⟨by simp, ?_⟩⟩)))))))))))
    refine w_op d_sub (w_int (w_min (w_len (w_name 1 rfl ⟨_, len_lsD ls, w_int ⟨_, _, rfl, rfl, ?_⟩⟩))))
    rw [if_neg (by omega)]
    refine ⟨_, _, rfl, rfl, _, _, rfl, rfl, by omega, by omega, by simp; omega, ?_⟩
    rw [rep_stay]
    refine ⟨_, _, rfl, rfl, by rw [lsD_len, lsD_len, List.length_replicate]; omega, ?_⟩
    rw [lsD_app]
    refine wa_nil ⟨by simp, wa_nil ⟨_, _, rfl, rfl, by simp, by simp, fun d hd => q d ?_⟩⟩
    simp only [List.mem_cons, List.not_mem_nil, or_false] at hd
    rcases hd with rfl | rfl | rfl | rfl | rfl | rfl | rfl | rfl
    · exact ⟨rfl, Nat.le_of_ble_eq_true rfl, Nat.le_of_ble_eq_true rfl⟩
    · exact ⟨mk_tup (by rw [lsD_len]; omega) f1, by rw [dep_tup]; omega, by rw [wt_tup]; omega⟩
    · exact ⟨rfl, Nat.le_of_ble_eq_true rfl, Nat.le_of_ble_eq_true rfl⟩
    · exact ⟨rfl, Nat.le_of_ble_eq_true rfl, Nat.le_of_ble_eq_true rfl⟩
    · exact ⟨rfl, Nat.le_of_ble_eq_true rfl, Nat.le_of_ble_eq_true rfl⟩
    · have b := big_way (ls := ls) (by omega)
      refine big_lst (okL_of fun d hd => by rw [List.mem_singleton.mp hd]; exact b.1) (by simp) ?_ ?_
      · rw [depL_cons, depL_nil, dep_lst]
        omega
      · rw [wtL_cons, wtL_nil, wt_lst]
        omega
    · exact big_way (by rw [List.length_append, List.length_replicate]; omega)
    · exact big_way (by rw [List.length_append, List.length_replicate]; omega)
  refine bl_cons (bs_set 4 nd (w_call g1 (wa_cons (w_name 0 rfl (wa_cons (w_len (w_name 1 rfl ⟨_, len_lsD ls, wa_nil ⟨_, rfl, by omega, by omega, fun z hz0 hz1 => ?_⟩⟩))))))) 
  obtain ⟨z, rfl⟩ := Int.eq_ofNat_of_zero_le hz0
  have hz : z < ls.length := Int.ofNat_lt.mp hz1
  have hzl : z ≤ (lsD ls).length := by rw [lsD_len]; omega
  have hzl1 : z + 1 ≤ (lsD ls).length := by rw [lsD_len]; omega
  refine bl_cons (bs_ifB (decide (k = 1)) (wb_eqI (w_name 3 rfl (w_int ⟨rfl, rfl⟩))) (fun _ => ?_) (fun _ => bl_nil ?_))
  · refine bl_one (bs_ret (w_wo (wo_cutL (w_name 1 rfl ⟨_, rfl, wp_some (w_name 4 rfl ⟨_, rfl, wp_none ?_⟩)⟩))))
    rw [cut_from _ hzl]
    have e : (lsD ls).drop z = lsD (ls.drop z) := (List.map_drop ..).symm
    rw [e]
    exact q _ (big_way (by rw [List.length_drop]; omega))
  · obtain ⟨l, hL⟩ := lt_ex hz
    obtain ⟨a1, a2, a3, a4⟩ := ln_args l
    refine bl_one (bs_ret (w_wo (wo_op d_addL (w_wo (wo_op d_addL (w_wo (wo_cutL (w_name 1 rfl ⟨_, rfl, wp_none (wp_some (w_name 4 rfl ⟨_, rfl, ?_⟩))⟩))))))))
    rw [cut_to _ hzl]
    refine w_lst (wa_cons (w_call g3 (wa_cons (w_name 0 rfl (wa_cons (w_ix i_lst (w_name 1 rfl (w_name 4 rfl ⟨_, _, _, rfl, rfl, lsD_at hL, wa_cons (w_name 4 rfl (wa_cons (w_name 2 rfl (wa_nil ⟨_, z, many, by rw [Ln.d_eq] <;> rfl, a1, a2, a3, a4, fun d hd => wa_nil ⟨by simp, _, _, rfl, rfl, ?_, ?_⟩⟩))))⟩))))))))
    · rw [List.length_take, lsD_len]
      simp
      omega
    refine w_wo (wo_cutL (w_name 1 rfl ⟨_, rfl, wp_some (w_op d_add (w_name 4 rfl (w_int ⟨_, _, rfl, rfl, _, rfl, wp_none ?_⟩)))⟩))
    rw [show (z : Int) + 1 = ((z + 1 : Nat) : Int) by omega, cut_from _ hzl1]
    refine ⟨_, _, rfl, rfl, ?_, ?_⟩
    · rw [List.length_append, List.length_take, List.length_drop, lsD_len]
      simp
      omega
    · obtain ⟨d1, d2, d3⟩ := hd
      have sub1 : ((lsD ls).take z).Sublist (lsD ls) := List.take_sublist ..
      have sub2 : ((lsD ls).drop (z + 1)).Sublist (lsD ls) := List.drop_sublist ..
      refine q _ (big_lst (okL_of fun x hx => ?_) ?_ ?_ ?_)
      · rcases List.mem_append.mp hx with hx | hx
        · rcases List.mem_append.mp hx with hx | hx
          · exact okL_mem f1 (sub1.subset hx)
          · rw [List.mem_singleton.mp hx]; exact d1
        · exact okL_mem f1 (sub2.subset hx)
      · rw [List.length_append, List.length_append, List.length_take, List.length_drop, lsD_len]
        simp
        omega
      · refine depL_le fun x hx => ?_
        rcases List.mem_append.mp hx with hx | hx
        · rcases List.mem_append.mp hx with hx | hx
          · have := depL_mem (sub1.subset hx)
            omega
          · rw [List.mem_singleton.mp hx]; exact d2
        · have := depL_mem (sub2.subset hx)
          omega
      · rw [wtL_app, wtL_app, wtL_cons, wtL_nil]
        have := wtL_sub sub1
        have := wtL_sub sub2
        omega
/-! ### ways and rooms to begin with -/
def spBaseWay : DSp := fun ds Q _ => ∃ (many : Nat) (turn : Int), ds = [.strm, .int many, .int turn] ∧ many ≤ 4000 ∧ ∀ ls : List Ln, ls ≠ [] → ls.length ≤ 2500 → Right many ls → Q (.lst (lsD ls))
theorem ok_base_way {g : Gx} [BI g] (h : Has g "_law_base_way" s__law_base_way) (g1 : FnG g "_law_next" 1 spNext) (g2 : FnG g "_law_pick" 2 spPick) (gf : FnG g "_law_from" 2 spFrom) (gw : FnG g "_law_way" 2 spWayG) (gd : FnG g "_law_doubling" 2 spDoubling) (gs : FnG g "_law_with_steps" 2 spWithSteps) : FnG g "_law_base_way" 3 spBaseWay := by
  refine fn_has h c__law_base_way b__law_base_way (fun ds Q E ⟨xs, m, h, _⟩ => by rw [h]; rfl) fun ds Q E ⟨many, turn, h, hm, q⟩ => ?_
  subst h
  have nd := c__law_base_way.nd
  have ne : ∀ {ls : List Ln} {k : Nat}, ls.length = k + 1 → ls ≠ [] := fun {ls k} e z => by rw [z] at e; cases e
  refine bl_cons (bs_ifB (decide ((many : Int) = 0)) (wb_eqI (w_name 1 rfl (w_int ⟨rfl, rfl⟩))) (fun e0 => ?_) (fun e0 => bl_nil ?_))
  · have e0 : many = 0 := by have := of_decide_eq_true e0; omega
    subst e0
    refine bl_one (bs_ret (w_call gw (wa_cons (w_name 0 rfl (wa_cons (w_int (wa_cons (w_op d_add (w_int (w_call g1 (wa_cons (w_name 0 rfl (wa_cons (w_int (wa_nil ⟨_, rfl, by omega, by omega, fun z hz0 hz1 => ⟨_, _, rfl, rfl, ?_⟩⟩)))))))))))))))
    obtain ⟨z, rfl⟩ := Int.eq_ofNat_of_zero_le hz0
    exact wa_nil ⟨0, z + 1, by rw [show (1 : Int) + (z : Nat) = ((z + 1 : Nat) : Int) by omega]; rfl, by omega, by omega, fun ls hL hr => q ls (ne hL) (by omega) hr⟩
  have hm1 : 1 ≤ many := by have := of_decide_eq_false e0; omega
  refine bl_cons (bs_set 3 nd (w_call g1 (wa_cons (w_name 0 rfl (wa_cons (w_int (wa_nil ⟨_, rfl, by omega, by omega, fun k hk0 hk1 => ?_⟩)))))))
  refine bl_cons (bs_ifB (decide (k = 0) && decide (turn = 0)) (wb_ww (ww_andB (wb_eqI (w_name 3 rfl (w_int ⟨rfl, rfl⟩))) fun _ => ww_and1 (wb_eqI (w_name 2 rfl (w_int ⟨rfl, rfl⟩))))) (fun _ => ?_) (fun _ => bl_nil ?_))
  · refine bl_one (bs_ret (w_call gd (wa_cons (w_name 0 rfl (wa_cons (w_name 1 rfl (wa_cons (w_call g2 (wa_cons (w_name 0 rfl (wa_cons (w_tup (wa_cons (w_int (wa_cons (w_int (wa_cons (w_int (wa_nil ⟨by simp, wa_nil ⟨_, _, rfl, rfl, by simp, by simp, fun d hd => ?_⟩⟩))))))))))))))))) ))
    simp only [List.mem_cons, List.not_mem_nil, or_false] at hd
    rcases hd with rfl | rfl | rfl
    · exact wa_nil ⟨many, 2500, rfl, hm1, hm, by omega, by omega, fun ls hL hr => q ls (ne (k := 2499) hL) (by omega) hr⟩
    · exact wa_nil ⟨many, 2499, rfl, hm1, hm, by omega, by omega, fun ls hL hr => q ls (ne (k := 2498) hL) (by omega) hr⟩
    · exact wa_nil ⟨many, 700, rfl, hm1, hm, by omega, by omega, fun ls hL hr => q ls (ne (k := 699) hL) (by omega) hr⟩
  refine bl_cons (bs_ifB (decide (k < 4)) (wb_ltI (w_name 3 rfl (w_int ⟨rfl, rfl⟩))) (fun _ => ?_) (fun _ => bl_nil ?_))
  · exact bl_one (bs_ret (w_call gs (wa_cons (w_name 0 rfl (wa_cons (w_name 1 rfl (wa_cons (w_call gf (wa_cons (w_name 0 rfl (wa_cons (w_int (wa_cons (w_int (wa_nil ⟨_, _, rfl, by omega, by omega, fun z hz0 hz1 => wa_nil ⟨many, z, rfl, hm1, hm, fun ls h0 hL hr => q ls h0 (by omega) hr⟩⟩)))))))))))))))
  refine bl_cons (bs_ifB (decide (k = 4)) (wb_eqI (w_name 3 rfl (w_int ⟨rfl, rfl⟩))) (fun _ => ?_) (fun _ => bl_nil ?_))
  · refine bl_one (bs_ret (w_call gd (wa_cons (w_name 0 rfl (wa_cons (w_name 1 rfl (wa_cons (w_op d_add (w_int (w_call g1 (wa_cons (w_name 0 rfl (wa_cons (w_int (wa_nil ⟨_, rfl, by omega, by omega, fun z hz0 hz1 => ⟨_, _, rfl, rfl, ?_⟩⟩)))))))))))))))
    obtain ⟨z, rfl⟩ := Int.eq_ofNat_of_zero_le hz0
    exact wa_nil ⟨many, z + 1, by rw [show (1 : Int) + (z : Nat) = ((z + 1 : Nat) : Int) by omega] <;> rfl, hm1, hm, by omega, by omega, fun ls hL hr => q ls (ne hL) (by omega) hr⟩
  refine bl_cons (bs_ifB (decide (k = 5)) (wb_eqI (w_name 3 rfl (w_int ⟨rfl, rfl⟩))) (fun _ => ?_) (fun _ => bl_nil ?_))
  · exact bl_one (bs_ret (w_call gs (wa_cons (w_name 0 rfl (wa_cons (w_name 1 rfl (wa_cons (w_op d_add (w_int (w_call g1 (wa_cons (w_name 0 rfl (wa_cons (w_int (wa_nil ⟨_, rfl, by omega, by omega, fun z hz0 hz1 => ⟨_, _, rfl, rfl, wa_nil ⟨many, _, rfl, hm1, hm, fun ls h0 hL hr => q ls h0 (by omega) hr⟩⟩⟩)))))))))))))))
  · refine bl_one (bs_ret (w_call gw (wa_cons (w_name 0 rfl (wa_cons (w_name 1 rfl (wa_cons (w_op d_add (w_int (w_call g1 (wa_cons (w_name 0 rfl (wa_cons (w_int (wa_nil ⟨_, rfl, by omega, by omega, fun z hz0 hz1 => ⟨_, _, rfl, rfl, ?_⟩⟩)))))))))))))))
    obtain ⟨z, rfl⟩ := Int.eq_ofNat_of_zero_le hz0
    exact wa_nil ⟨many, z + 1, by rw [show (1 : Int) + (z : Nat) = ((z + 1 : Nat) : Int) by omega] <;> rfl, by omega, by omega, fun ls hL hr => q ls (ne hL) (by omega) hr⟩
def spRoom : DSp := fun ds Q _ => ds = [.strm] ∧ ∀ n fs, Room n fs → Q (roomD n (fsD n fs))
theorem ok_room {g : Gx} [BI g] (h : Has g "_law_room" s__law_room) (g1 : FnG g "_law_next" 1 spNext) (g2 : FnG g "_law_pick" 2 spPick) (gf : FnG g "_law_from" 2 spFrom) (gp : FnG g "_law_planted" 6 (spPlanted 1)) (ga : FnG g "_law_any_room" 4 spAnyRoom) : FnG g "_law_room" 7 spRoom := by
  refine fn_has h c__law_room b__law_room (fun ds Q E ⟨h, _⟩ => by rw [h]; rfl) fun ds Q E ⟨h, q⟩ => ?_
  subst h
  have nd := c__law_room.nd
  refine bl_cons (bs_set 1 nd (w_call g2 (wa_cons (w_name 0 rfl (wa_cons (w_tup (wa_cons (w_int (wa_cons (w_int (wa_cons (w_call gf (wa_cons (w_name 0 rfl (wa_cons (w_int (wa_cons (w_int (wa_nil ⟨_, _, rfl, by omega, by omega, fun a ha0 ha1 => ?_⟩)))))))))))))))))))
  refine wa_cons (w_call gf (wa_cons (w_name 0 rfl (wa_cons (w_int (wa_cons (w_int (wa_nil ⟨_, _, rfl, by omega, by omega, fun b hb0 hb1 => wa_nil ⟨by simp, wa_nil ⟨_, _, rfl, rfl, by simp, by simp, fun d hd => ?_⟩⟩⟩)))))))) 
  obtain ⟨n, rfl, hn1, hn2⟩ : ∃ n : Nat, d = .int (n : Nat) ∧ 1 ≤ n ∧ n ≤ 16 := by
    simp only [List.mem_cons, List.not_mem_nil, or_false] at hd
    rcases hd with rfl | rfl | rfl | rfl
    · exact ⟨1, rfl, by omega, by omega⟩
    · exact ⟨2, rfl, by omega, by omega⟩
    · exact ⟨a.toNat, by rw [Int.toNat_of_nonneg (by omega)], by omega, by omega⟩
    · exact ⟨b.toNat, by rw [Int.toNat_of_nonneg (by omega)], by omega, by omega⟩
  refine bl_cons (bs_if (wb_cmp d_eq (w_call g1 (wa_cons (w_name 0 rfl (wa_cons (w_int (wa_nil ⟨_, rfl, by omega, by omega, fun z hz0 hz1 => w_int ⟨_, rfl, _, rfl, ?_⟩⟩))))))))
  cases decide (z = 0) with
  | true =>
    refine iteT (bl_one (bs_ret (w_ix i_tup (w_call gp (wa_cons (w_name 0 rfl (wa_cons (w_name 1 rfl (wa_cons (w_int (wa_nil ⟨n, rfl, hn1, by omega, fun ms s f hA hL hS hf => w_int ⟨_, _, _, rfl, rfl, ix0, ?_⟩⟩)))))))))))
    obtain ⟨fs, rfl, hp⟩ := hA.funs
    have e : mvB 1 n = n := rfl
    rw [e, fsD_len] at hL
    exact q n fs ⟨hn1, hn2, by omega, hp⟩
  | false =>
    refine els (bl_one (bs_ret (w_call ga (wa_cons (w_name 0 rfl (wa_cons (w_name 1 rfl (wa_cons (w_call g2 (wa_cons (w_name 0 rfl (wa_cons (w_tup (wa_cons (w_int (wa_cons (w_int (wa_cons (w_int (wa_nil ⟨by simp, wa_nil ⟨_, _, rfl, rfl, by simp, by simp, fun d hd => ?_⟩⟩))))))))))))))))))))
    have key : ∀ lim : Nat, d = .int (lim : Nat) → lim ≤ 28 → WA (Ct.def g n__law_room (defScope s__law_room) 6 E) [.Constant (.int 0) 0 ⟨0, 0, 0, 0⟩] [.val .strm, .val (.int n)] (fun _ => True) → True := fun _ _ _ _ => trivial
    obtain ⟨lim, rfl, hlim⟩ : ∃ lim : Nat, d = .int (lim : Nat) ∧ lim ≤ 28 := by
      simp only [List.mem_cons, List.not_mem_nil, or_false] at hd
      rcases hd with rfl | rfl | rfl
      · exact ⟨1, rfl, by omega⟩
      · exact ⟨3, rfl, by omega⟩
      · exact ⟨28, rfl, by omega⟩
    refine wa_cons (w_int (wa_nil ⟨n, lim, 0, rfl, hn1, by omega, by omega, by omega, fun ms hA hL => ?_⟩))
    obtain ⟨fs, rfl, hp⟩ := hA.funs
    rw [fsD_len] at hL
    exact q n fs ⟨hn1, hn2, by omega, hp⟩
end K3
set_option Elab.async false
set_option linter.all false
set_option pp.maxSteps 700
set_option maxRecDepth 100000
set_option maxHeartbeats 4000000
namespace K3
open PySem PySem.Spec PyProof.Rows L2 Evl WL
/-! ### what is asked, what is due -/
def raisedD (nm : Str) (v : D) : D := .lst [.str "raised", .str nm, .tup [v]]
def toldD (d : D) : D := .lst [.str "told", d]
def wd : Nat → Str
  | 0 => "is"
  | 1 => "made"
  | 2 => "length"
  | _ => "plain"
def isN (d : D) : Bool := match d with
  | .non => true
  | _ => false
inductive Ans (n : Nat) (fs : List (Nat → Nat)) : Nat → D → D → Prop
  | is {w : D} : Ans n fs 0 w (toldD (.bl (isN (wrongLine w fs.length 2500))))
  | bad {k : Nat} {w : D} (hk : 1 ≤ k) (h : wrongLine w fs.length 2500 ≠ .non) : Ans n fs k w (raisedD "BadWay" (wrongLine w fs.length 2500))
  | made {ls : List Ln} (h0 : ls ≠ []) (hl : ls.length ≤ 2500) (hr : Right fs.length ls) : Ans n fs 1 (.lst (lsD ls)) (toldD (arrD n (mkL n fs ls (ls.length - 1))))
  | len {ls : List Ln} (h0 : ls ≠ []) (hl : ls.length ≤ 2500) (hr : Right fs.length ls) : Ans n fs 2 (.lst (lsD ls)) (toldD (.int (szL ls (ls.length - 1) : Nat)))
  | plain {ls : List Ln} (h0 : ls ≠ []) (hl : ls.length ≤ 2500) (hr : Right fs.length ls) : Ans n fs 3 (.lst (lsD ls)) (if 1000 < szL ls (ls.length - 1) then raisedD "TooMany" (.str "steps") else toldD (rowD (rwL ls (ls.length - 1))))
def ansV (n : Nat) (fs : List (Nat → Nat)) (k : Nat) (ls : List Ln) : D := match k with
  | 1 => toldD (arrD n (mkL n fs ls (ls.length - 1)))
  | 2 => toldD (.int (szL ls (ls.length - 1) : Nat))
  | _ => if 1000 < szL ls (ls.length - 1) then raisedD "TooMany" (.str "steps") else toldD (rowD (rwL ls (ls.length - 1)))
def spAsk : DSp := fun ds Q _ => ∃ (k : Nat) (x w r : D), ds = [.str (wd k), x, w] ∧ k ≤ 3 ∧ w.ok = true ∧ ((x = badRoom ∧ r = raisedD "BadRoom" (.str "places")) ∨ ∃ n fs, x = roomD n (fsD n fs) ∧ Room n fs ∧ Ans n fs k w r) ∧ Q r
/-- the errors that are met -/
inductive Met : Str → Str → Prop
  | room : Met "BadRoom" "key"
  | way : Met "BadWay" "line"
  | many : Met "TooMany" "word"
theorem met_facts {nm f : Str} (h : Met nm f) : exFields nm = ([f] : List Str) ∧ nm ∈ exLeaf ∧ nm ∈ exNames := by
  cases h <;> exact ⟨by decide +kernel, by decide +kernel, by decide +kernel⟩
theorem wrongLine_ok {x : D} {m b : Int} : (wrongLine x m b).ok = true := by
  rcases wrongLine_kind x m b with e | ⟨j, e⟩ <;> rw [e] <;> rfl
theorem ok_ask {g : Gx} [BI g] [XW g] (h : Has g "_law_ask" s__law_ask) (gi : FnG g "is_way" 6 spIsWay) (gm : FnG g "made" 7 (spRW pMade)) (gl : FnG g "length" 7 (spRW pLength)) (gp : FnG g "plain" 7 (spRW pPlain)) (gn : FnX g "_law_named" 1 spNamed) (ga : FnX g "_law_attributes" 1 spAttr) : FnG g "_law_ask" 8 spAsk := by
  refine fn_has h c__law_ask b__law_ask (fun ds Q E ⟨w, x, y, r, h, _⟩ => by rw [h]; rfl) fun ds Q E ⟨k, x, w, r, h, hk, hw, hA, q⟩ => ?_
  subst h
  have nd := c__law_ask.nd
  obtain ⟨CR, hCR, _⟩ := XW.cls (g := g) "RoomError" (by decide +kernel)
  refine bl_cons (bs_tryAs exCt 4 nd hCR (fun nm b C hb hC => ?_) ?_)
  · unfold exCt at hb
    split at hb
    · rename_i hm
      cases hb
      have e := exm_of (g := g) hm (by decide +kernel) hC hCR
      have e2 : exSub nm "RoomError" = true := by unfold exSub; rw [decide_eq_true (rfl : ("RoomError" : Str) = "RoomError"), Bool.or_true]
      rw [e2] at e
      exact e
    · cases hb
  · have her : ∀ (nm f : Str) (v : D), Met nm f → Q (raisedD nm v) → ∀ Γ', Γ' = [Sl.val (.str (wd k)), .val x, .val w, .emp, .emp, .emp] → ∃ b, exCt nm = some b ∧ if b = true then ∀ a, BL ((Ct.def g n__law_ask (defScope s__law_ask) 7 E).hot a ⟨nm, [(f, v)]⟩) (match (match defBody s__law_ask with | .Try _ hs _ _ _ :: _ => hs | _ => []) with | .ExceptHandler _ _ b _ :: _ => b | _ => []) ((hushed Γ').set 4 (.val (.raw (.ref a)))) { nx := fun Γ'' => BL (Ct.def g n__law_ask (defScope s__law_ask) 7 E) ((defBody s__law_ask).drop 1) (Γ''.set 4 .emp) { nx := fun _ => Q .non, rt := Q }, rt := Q, bk := fun _ => False, ct := fun _ => False } else ∀ Γ₀ : Gm, E ⟨nm, [(f, v)]⟩ := fun nm f v hnm hq Γ' hΓ => by
      subst hΓ
      obtain ⟨f1, f2, f3⟩ := met_facts hnm
      refine ⟨true, by unfold exCt; rw [if_pos f3], iteT fun a => ?_⟩
      refine bl_cons (bs_set 5 nd (w_callX gn rfl (wa_cons (w_name 4 rfl (wa_nil ⟨rfl, f2, ?_⟩)))))
      refine bl_one (bs_ret (w_lst (wa_cons (w_str (wa_cons (w_name 5 rfl (wa_cons (w_callX ga rfl (wa_cons (w_name 4 rfl (wa_cons (w_name 5 rfl (wa_nil ⟨rfl, f2, [v], ?_, wa_nil ⟨by simp, hq⟩⟩)))))))))))))
      show (exFields nm).map _ = _
      rw [f1]
      show [([(f, v)] : List (Str × D)).lookup f] = [some v]
      rw [lookup_self]
    have fin : ∀ (d : D) (a b : Sl), Q (toldD d) → BL (Ct.def g n__law_ask (defScope s__law_ask) 7 E) ((defBody s__law_ask).drop 1) [.val (.str (wd k)), .val x, .val w, .val d, a, b] { nx := fun _ => Q .non, rt := Q } := fun d a b hq => bl_one (bs_ret (w_lst (wa_cons (w_str (wa_cons (w_name 3 rfl (wa_nil ⟨by simp, hq⟩)))))))
    -- what the three functions want
    have want : ∀ (P : Nat → List (Nat → Nat) → List Ln → (D → Prop) → (Exn → Prop) → Prop) (Q' : D → Prop) (E' : Exn → Prop), 1 ≤ k → (∀ nm f v, Met nm f → Q (raisedD nm v) → E' ⟨nm, [(f, v)]⟩) → (∀ n fs ls, x = roomD n (fsD n fs) → w = .lst (lsD ls) → ls ≠ [] → ls.length ≤ 2500 → Right fs.length ls → r = ansV n fs k ls → P n fs ls Q' E') → spRW P [x, w] Q' E' := fun P Q' E' hk1 hE hP => by
      refine ⟨x, w, rfl, hw, ?_⟩
      rcases hA with ⟨rfl, rfl⟩ | ⟨n, fs, rfl, hR, hA⟩
      · exact .inl ⟨rfl, hE _ _ _ .room q⟩
      · refine .inr ⟨n, fs, rfl, hR, ?_⟩
        cases hA with
        | is => omega
        | bad _ hne => exact .inl ⟨hne, hE _ _ _ .way q⟩
        | made h0 hl hr => exact .inr ⟨_, rfl, h0, hl, hr, hP n fs _ rfl rfl h0 hl hr rfl⟩
        | len h0 hl hr => exact .inr ⟨_, rfl, h0, hl, hr, hP n fs _ rfl rfl h0 hl hr rfl⟩
        | plain h0 hl hr => exact .inr ⟨_, rfl, h0, hl, hr, hP n fs _ rfl rfl h0 hl hr rfl⟩
    rcases (show k = 0 ∨ k = 1 ∨ k = 2 ∨ k = 3 by omega) with rfl | rfl | rfl | rfl
    · refine bl_one (bs_if (wb_cmp d_eq (w_name 0 rfl (w_str ⟨_, rfl, _, rfl, ?_⟩))))
      refine iteFa (by decide +kernel) (bl_one (bs_if (wb_cmp d_eq (w_name 0 rfl (w_str ⟨_, rfl, _, rfl, ?_⟩)))))
      refine iteFa (by decide +kernel) (bl_one (bs_if (wb_cmp d_eq (w_name 0 rfl (w_str ⟨_, rfl, _, rfl, ?_⟩)))))
      refine iteFa (by decide +kernel) (bl_one (bs_set 3 nd (w_call gi (wa_cons (w_name 1 rfl (wa_cons (w_name 2 rfl (wa_nil ⟨x, w, rfl, ?_, hw, ?_, ?_⟩))))))))
      · rcases hA with ⟨rfl, _⟩ | ⟨n, fs, rfl, hR, _⟩
        · exact ok_badRoom
        · exact ok_roomD hR
      · rcases hA with ⟨rfl, rfl⟩ | ⟨n, fs, rfl, hR, _⟩
        · intro _
          rw [bad_places]
          exact her _ _ _ .room q _ rfl
        · exact fun z => absurd (room_right hR) z
      · rcases hA with ⟨rfl, rfl⟩ | ⟨n, fs, rfl, hR, hA⟩
        · intro e
          rw [bad_places] at e
          exact absurd e ne_of_str
        · intro _ m rows hm
          obtain ⟨_, rfl⟩ := isRoom_uniq hm
          cases hA with
          | is =>
            rw [show ((fsD n fs).length : Int) = (fs.length : Int) by rw [fsD_len]]
            exact fin _ _ _ q
          | bad hk _ => omega
    · refine bl_one (bs_if (wb_cmp d_eq (w_name 0 rfl (w_str ⟨_, rfl, _, rfl, ?_⟩))))
      refine iteTr (by decide +kernel) (bl_one (bs_set 3 nd (w_call gm (wa_cons (w_name 1 rfl (wa_cons (w_name 2 rfl (wa_nil (want _ _ _ (by omega) (fun nm f v hm hq => her nm f v hm hq _ rfl) fun n fs ls ex ew h0 hl hr er => ?_)))))))))
      rw [er] at q
      exact fin _ _ _ q
    · refine bl_one (bs_if (wb_cmp d_eq (w_name 0 rfl (w_str ⟨_, rfl, _, rfl, ?_⟩))))
      refine iteFa (by decide +kernel) (bl_one (bs_if (wb_cmp d_eq (w_name 0 rfl (w_str ⟨_, rfl, _, rfl, ?_⟩)))))
      refine iteTr (by decide +kernel) (bl_one (bs_set 3 nd (w_call gl (wa_cons (w_name 1 rfl (wa_cons (w_name 2 rfl (wa_nil (want _ _ _ (by omega) (fun nm f v hm hq => her nm f v hm hq _ rfl) fun n fs ls ex ew h0 hl hr er => ?_)))))))))
      rw [er] at q
      exact fin _ _ _ q
    · refine bl_one (bs_if (wb_cmp d_eq (w_name 0 rfl (w_str ⟨_, rfl, _, rfl, ?_⟩))))
      refine iteFa (by decide +kernel) (bl_one (bs_if (wb_cmp d_eq (w_name 0 rfl (w_str ⟨_, rfl, _, rfl, ?_⟩)))))
      refine iteFa (by decide +kernel) (bl_one (bs_if (wb_cmp d_eq (w_name 0 rfl (w_str ⟨_, rfl, _, rfl, ?_⟩)))))
      refine iteTr (by decide +kernel) (bl_one (bs_set 3 nd (w_call gp (wa_cons (w_name 1 rfl (wa_cons (w_name 2 rfl (wa_nil (want _ _ _ (by omega) (fun nm f v hm hq => her nm f v hm hq _ rfl) fun n fs ls ex ew h0 hl hr er => ?_)))))))))
      have er : r = if 1000 < szL ls (ls.length - 1) then raisedD "TooMany" (.str "steps") else toldD (rowD (rwL ls (ls.length - 1))) := er
      rw [er] at q
      unfold pPlain
      split
      · rename_i hz
        rw [if_pos hz] at q
        exact her _ _ _ .many q _ rfl
      · rename_i hz
        rw [if_neg hz] at q
        exact fin _ _ _ q
theorem ok_due {g : Gx} [BI g] (h : Has g "_law_due" s__law_due) (gm : FnG g "_law_made" 2 spMadeLines) (gl : FnG g "_law_lengths" 1 spSteps) (gp : FnG g "_law_plain" 2 spLPlain) : FnG g "_law_due" 3 (fun ds Q _ => ∃ (n : Nat) (fs : List (Nat → Nat)) (k : Nat) (w r : D), ds = [.str (wd k), roomD n (fsD n fs), w, wrongLine w fs.length 2500] ∧ k ≤ 3 ∧ w.ok = true ∧ Room n fs ∧ Ans n fs k w r ∧ Q r) := by
  refine fn_has h c__law_due b__law_due (fun ds Q E ⟨n, fs, k, w, r, h, _⟩ => by rw [h]; rfl) fun ds Q E ⟨n, fs, k, w, r, h, hk, hw, hR, hA, q⟩ => ?_
  subst h
  have nd := c__law_due.nd
  have hn2 := hR.n2
  have hlen := hR.len
  by_cases hk0 : k = 0
  · subst hk0
    refine bl_cons (bs_if (wb_cmp d_eq (w_name 0 rfl (w_str ⟨_, rfl, _, rfl, ?_⟩))))
    cases hA with
    | bad hk _ => omega
    | is =>
      refine iteTr (by decide +kernel) (bl_one (bs_ret (w_lst (wa_cons (w_str (wa_cons (w_cmp d_isN (w_name 3 rfl (w_non ⟨rfl, isN (wrongLine w fs.length 2500), ?_, wa_nil ⟨by simp, q⟩⟩)))))))))
      rcases wrongLine_kind w fs.length 2500 with e | ⟨j, e⟩ <;> rw [e] <;> rfl
  refine bl_cons (bs_if (wb_cmp d_eq (w_name 0 rfl (w_str ⟨_, rfl, _, rfl, ?_⟩))))
  have hw0 : decide (wd k = ("is" : Str)) = false := by
    rcases (show k = 1 ∨ k = 2 ∨ k = 3 by omega) with rfl | rfl | rfl <;> decide +kernel
  refine elsF hw0 ?_
  have right : ∀ {ls : List Ln}, ls ≠ [] → ls.length ≤ 2500 → Right fs.length ls → wrongLine (.lst (lsD ls)) fs.length 2500 = .non := fun h0 hl hr => wrong_right h0 hl hr
  cases hA with
  | is => exact absurd rfl hk0
  | bad _ hne =>
    rcases wrongLine_kind w fs.length 2500 with e | ⟨j, e⟩
    · exact absurd e hne
    · refine bl_cons (bs_if (wb_cmp d_notN (w_name 3 rfl (w_non ⟨rfl, false, by rw [e] <;> rfl, _, rfl, ?_⟩))))
      exact iteT (bl_one (bs_ret (w_lst (wa_cons (w_str (wa_cons (w_str (wa_cons (w_tup (wa_cons (w_name 3 rfl (wa_nil ⟨by simp, wa_nil ⟨by simp, q⟩⟩))))))))))))
  | @made ls h0 hl hr =>
    have hN := List.length_pos_iff.mpr h0
    refine bl_cons (bs_if (wb_cmp d_notN (w_name 3 rfl (w_non ⟨rfl, true, by rw [right h0 hl hr] <;> rfl, _, rfl, els ?_⟩))))
    refine bl_cons (bs_if (wb_cmp d_eq (w_name 0 rfl (w_str ⟨_, rfl, _, rfl, ?_⟩))))
    refine iteTr (by decide +kernel) ?_
    refine bl_cons (bs_set 4 nd (w_call gm (wa_cons (w_dget (w_name 1 rfl (w_str ⟨_, _, kPl, _, rfl, rfl, rfl, wa_cons (w_dget (w_name 1 rfl (w_str ⟨_, _, kMv, _, rfl, rfl, rfl, wa_cons (w_name 2 rfl (wa_nil ⟨n, fs, ls, rfl, by omega, hR.ps, hr, by omega, ?_⟩))⟩)))⟩))))))
    have el : (D.lst (fsD n (runL (mkF n fs) ls))).len = some ls.length := by
      show some (fsD n (runL (mkF n fs) ls)).length = _
      rw [fsD_len, runL_len]
    refine bl_one (bs_ret (w_lst (wa_cons (w_str (wa_cons (w_ix i_lst (w_name 4 rfl (w_op d_sub (w_len (w_name 4 rfl ⟨_, el, w_int ⟨_, _, rfl, rfl, ?_⟩⟩))))))))))
    rw [show (ls.length : Int) - 1 = ((ls.length - 1 : Nat) : Int) by omega]
    exact ⟨_, _, _, rfl, rfl, fsD_at (by rw [runL_len]; omega), wa_nil ⟨by simp, q⟩⟩
  | @len ls h0 hl hr =>
    have hN := List.length_pos_iff.mpr h0
    refine bl_cons (bs_if (wb_cmp d_notN (w_name 3 rfl (w_non ⟨rfl, true, by rw [right h0 hl hr] <;> rfl, _, rfl, els ?_⟩))))
    refine bl_cons (bs_if (wb_cmp d_eq (w_name 0 rfl (w_str ⟨_, rfl, _, rfl, ?_⟩))))
    refine elsF (by decide +kernel) ?_
    refine bl_cons (bs_if (wb_cmp d_eq (w_name 0 rfl (w_str ⟨_, rfl, _, rfl, ?_⟩))))
    refine iteTr (by decide +kernel) ?_
    refine bl_cons (bs_set 5 nd (w_call gl (wa_cons (w_name 2 rfl (wa_nil ⟨fs.length, ls, rfl, hr, by omega, ?_⟩)))))
    have el : (D.lst (nsD (runL szF ls))).len = some ls.length := by
      show some (nsD (runL szF ls)).length = _
      unfold nsD
      rw [List.length_map, runL_len]
    refine bl_one (bs_ret (w_lst (wa_cons (w_str (wa_cons (w_ix i_lst (w_name 5 rfl (w_op d_sub (w_len (w_name 5 rfl ⟨_, el, w_int ⟨_, _, rfl, rfl, ?_⟩⟩))))))))))
    rw [show (ls.length : Int) - 1 = ((ls.length - 1 : Nat) : Int) by omega]
    exact ⟨_, _, _, rfl, rfl, nsD_at (by rw [runL_len]; omega), wa_nil ⟨by simp, q⟩⟩
  | @plain ls h0 hl hr =>
    refine bl_cons (bs_if (wb_cmp d_notN (w_name 3 rfl (w_non ⟨rfl, true, by rw [right h0 hl hr] <;> rfl, _, rfl, els ?_⟩))))
    refine bl_cons (bs_if (wb_cmp d_eq (w_name 0 rfl (w_str ⟨_, rfl, _, rfl, ?_⟩))))
    refine elsF (by decide +kernel) ?_
    refine bl_cons (bs_if (wb_cmp d_eq (w_name 0 rfl (w_str ⟨_, rfl, _, rfl, ?_⟩))))
    refine elsF (by decide +kernel) ?_
    refine bl_cons (bs_set 6 nd (w_call gp (wa_cons (w_name 2 rfl (wa_cons (w_int (wa_nil ⟨fs.length, ls, rfl, hr, h0, hl, ?_⟩)))))))
    by_cases hz : 1000 < szL ls (ls.length - 1)
    · rw [if_pos hz] at q ⊢
      exact bl_one (bs_ret (w_if (wb_cmp d_isN (w_name 6 rfl (w_non ⟨rfl, true, rfl, _, rfl, iteT (w_lst (wa_cons (w_str (wa_cons (w_str (wa_cons (w_tup (wa_cons (w_str (wa_nil ⟨by simp, wa_nil ⟨by simp, q⟩⟩))))))))))⟩)))))
    · rw [if_neg hz] at q ⊢
      exact bl_one (bs_ret (w_if (wb_cmp d_isN (w_name 6 rfl (w_non ⟨rfl, false, rfl, _, rfl, iteF (w_lst (wa_cons (w_str (wa_cons (w_name 6 rfl (wa_nil ⟨by simp, q⟩))))))⟩)))))
/-! ### there is an answer, and it is light -/
theorem arr_wt (n : Nat) (f : Nat → Nat) : (arrD n f).wt = n + 1 := by
  unfold arrD
  rw [wt_tup, (ints_facts _).2.2, arrI_len]
theorem row_facts (r : List (Nat × Bool)) : okL (r.map pD) = true ∧ wtL (r.map pD) ≤ 3 * r.length := by
  refine ⟨okL_of fun d hd => ?_, ?_⟩
  · obtain ⟨x, _, rfl⟩ := List.mem_map.mp hd
    rfl
  · have := wtL_le (k := 3) (xs := r.map pD) fun d hd => by
      obtain ⟨x, _, rfl⟩ := List.mem_map.mp hd
      exact Nat.le_of_ble_eq_true rfl
    rwa [List.length_map] at this
def Light (r : D) : Prop := r.ok = true ∧ r.wt ≤ 90000
theorem light_told {d : D} (h : d.ok = true) (hw : d.wt ≤ 80000) : Light (toldD d) := by
  refine ⟨mk_lst (by simp) (okL_of fun x hx => ?_), ?_⟩
  · simp only [List.mem_cons, List.not_mem_nil, or_false] at hx
    rcases hx with rfl | rfl
    · rfl
    · exact h
  · unfold toldD
    rw [wt_lst, wtL_cons, wtL_cons, wtL_nil]
    have : (D.str "told").wt = 5 := rfl
    omega
theorem light_raised {nm : Str} {v : D} (hn : nm.length ≤ 100) (h : v.ok = true) (hw : v.wt ≤ 1000) : Light (raisedD nm v) := by
  refine ⟨mk_lst (by simp) (okL_of fun x hx => ?_), ?_⟩
  · simp only [List.mem_cons, List.not_mem_nil, or_false] at hx
    rcases hx with rfl | rfl | rfl
    · rfl
    · exact decide_eq_true (by omega)
    · exact mk_tup (by simp) (okL_of fun y hy => by rw [List.mem_singleton.mp hy]; exact h)
  · unfold raisedD
    rw [wt_lst, wtL_cons, wtL_cons, wtL_cons, wtL_nil, wt_tup, wtL_cons, wtL_nil]
    have e1 : (D.str "raised").wt = 7 := rfl
    have e2 : (D.str nm).wt = nm.length + 1 := rfl
    omega
theorem wrongLine_wt {x : D} {m b : Int} : (wrongLine x m b).wt ≤ 1000 := by
  rcases wrongLine_kind x m b with e | ⟨j, e⟩ <;> rw [e] <;> exact Nat.le_of_ble_eq_true rfl
theorem ans_ex {n : Nat} {fs : List (Nat → Nat)} (hR : Room n fs) {k : Nat} (hk : k ≤ 3) (w : D) : ∃ r, Ans n fs k w r ∧ Light r := by
  have hn2 := hR.n2
  by_cases hk0 : k = 0
  · subst hk0
    exact ⟨_, .is, light_told rfl (Nat.le_of_ble_eq_true rfl)⟩
  by_cases hw : wrongLine w fs.length 2500 = .non
  · obtain ⟨ls, rfl, h0, hl, hr⟩ := right_of (most := 2500) hw
    rcases (show k = 1 ∨ k = 2 ∨ k = 3 by omega) with rfl | rfl | rfl
    · exact ⟨_, .made h0 hl hr, light_told (ok_arr (by omega)) (by rw [arr_wt]; omega)⟩
    · exact ⟨_, .len h0 hl hr, light_told rfl (Nat.le_of_ble_eq_true rfl)⟩
    · refine ⟨_, .plain h0 hl hr, ?_⟩
      split
      · exact light_raised (Nat.le_of_ble_eq_true rfl) rfl (Nat.le_of_ble_eq_true rfl)
      · rename_i hz
        obtain ⟨a, b⟩ := row_facts (rwL ls (ls.length - 1))
        have hl2 : (rwL ls (ls.length - 1)).length ≤ 1000 := by
          rw [rwL_len hr (by have := List.length_pos_iff.mpr h0; omega)]
          omega
        refine light_told (mk_lst (by rw [List.length_map]; omega) a) ?_
        unfold rowD
        rw [wt_lst]
        omega
  · exact ⟨_, .bad (by omega) hw, light_raised (Nat.le_of_ble_eq_true rfl) wrongLine_ok wrongLine_wt⟩
end K3
set_option Elab.async false
set_option linter.all false
set_option pp.maxSteps 700
set_option maxRecDepth 100000
set_option maxHeartbeats 4000000
namespace K3
open PySem PySem.Spec PyProof.Rows L2 Evl WL
theorem cut_upto (xs : List D) (n : Nat) : WL.cutD xs none (some (n : Int)) = xs.take n := by
  unfold WL.cutD
  rw [HT.sIx_none, HT.sIx_nat, List.drop_zero, Nat.sub_zero]
  rcases Nat.le_total n xs.length with h | h
  · rw [Nat.min_eq_left h]
  · rw [Nat.min_eq_right h, List.take_of_length_le (Nat.le_refl _), List.take_of_length_le h]
abbrev spDue : DSp := fun ds Q _ => ∃ (n : Nat) (fs : List (Nat → Nat)) (k : Nat) (w r : D), ds = [.str (wd k), roomD n (fsD n fs), w, wrongLine w fs.length 2500] ∧ k ≤ 3 ∧ w.ok = true ∧ Room n fs ∧ Ans n fs k w r ∧ Q r
def IsWord (d : D) : Prop := ∃ k, k ≤ 3 ∧ d = .str (wd k)
def words4 : List D := [.str "is", .str "made", .str "length", .str "plain"]
theorem words_is {d : D} (h : d ∈ words4) : IsWord d := by
  simp only [words4, List.mem_cons, List.not_mem_nil, or_false] at h
  rcases h with rfl | rfl | rfl | rfl
  · exact ⟨0, by omega, rfl⟩
  · exact ⟨1, by omega, rfl⟩
  · exact ⟨2, by omega, rfl⟩
  · exact ⟨3, by omega, rfl⟩
theorem room_facts {n : Nat} {fs : List (Nat → Nat)} (hR : Room n fs) : (roomD n (fsD n fs)).ok = true ∧ (roomD n (fsD n fs)).dep ≤ 3 ∧ (roomD n (fsD n fs)).wt ≤ 90000 := by
  have h1 := hR.n2
  have h2 := hR.len
  refine ⟨ok_roomD hR, ?_, ?_⟩
  · show (D.dct _ _).dep ≤ 3
    rw [dep_dct, depL_cons, depL_cons, depL_nil, dep_lst]
    have : depL (fsD n fs) ≤ 1 := depL_le fun d hd => by
      obtain ⟨f, _, rfl⟩ := List.mem_map.mp hd
      unfold arrD
      rw [dep_tup, (ints_facts _).2.1]
      exact Nat.le_refl 1
    have e : (D.int (n : Nat)).dep = 0 := rfl
    omega
  · show (D.dct _ _).wt ≤ 90000
    rw [wt_dct, wtL_cons, wtL_cons, wtL_nil, wt_lst]
    have := wtL_le (k := 17) (xs := fsD n fs) fun d hd => by
      obtain ⟨f, _, rfl⟩ := List.mem_map.mp hd
      rw [arr_wt]
      omega
    rw [fsD_len] at this
    have e : (D.int (n : Nat)).wt = 1 := rfl
    omega
theorem law_body {g : Gx} [BI g] {k : Nat} {E : Exn → Prop} {Q : D → Prop} {s0 : Sl} (hk : k = 8) (g1 : FnG g "_law_next" 1 spNext) (g2 : FnG g "_law_pick" 2 spPick) (gr : FnG g "_law_room" 7 spRoom) (gb : FnG g "_law_base_way" 3 spBaseWay) (gw : FnG g "_law_bent_way" 4 spBentWay) (gy : FnG g "_law_way" 2 spWayG) (gx : FnG g "_law_bad_line" 3 spWrongLine) (gsh : FnG g "_law_shuffled" 2 spShuffled) (gc : FnG g "_law_copy" 4 (spCopy 3)) (gs : FnG g "_law_same" 1 spSame) (ga : FnG g "_law_ask" 8 spAsk) (gd : FnG g "_law_due" 3 spDue) (gp : FnG g "_law_plain" 2 spLPlain) (gm : FnG g "made" 7 (spRW pMade)) (gq : FnG g "_law_row_made" 2 spRowMade) (q : Q (.bl true)) :
    BL (Ct.def g n_law (defScope s_law) k E) ((defBody s_law).drop 1) [s0, .val .strm, .emp, .emp, .emp, .emp, .emp, .emp, .emp, .emp, .emp, .emp, .emp, .emp] { nx := fun _ => Q .non, rt := Q } := by
  subst hk
  have nd := c_law.nd
  refine bl_cons (bs_for (wt_name 2 nd) (wi_rg1 (bi "range") (w_int ⟨_, rfl, by decide, by decide, ?_⟩)))
  refine ⟨fun _ Γ => ∃ a b c d e f x y z u v w, Γ = [s0, .val .strm, a, b, c, d, e, f, x, y, z, u, v, w], ⟨_, _, _, _, _, _, _, _, _, _, _, _, rfl⟩, ?_, ?_⟩
  · rintro i0 d0 Γ' hd0 ⟨a, b, c, d, e, f, x, y, z, u, v, w, rfl⟩
    obtain ⟨hi0, rfl⟩ := rg_get hd0
    refine bl_cons (bs_set 3 nd (w_call gr (wa_cons (w_name 1 rfl (wa_nil ⟨rfl, fun n fs hR => ?_⟩)))))
    have hR2 := hR.len
    refine bl_cons (bs_set 4 nd (w_len (w_dget (w_name 3 rfl (w_str ⟨_, _, kMv, _, rfl, rfl, rfl, _, rfl, ?_⟩)))))
    rw [fsD_len]
    refine bl_cons (bs_set 5 nd (w_call gb (wa_cons (w_name 1 rfl (wa_cons (w_name 4 rfl (wa_cons (w_name 2 rfl (wa_nil ⟨fs.length, _, rfl, by omega, fun ls h0 hl hr => ?_⟩)))))))))
    have hN := List.length_pos_iff.mpr h0
    refine bl_cons (bs_setO 6 nd (wo_lst (wa_cons (w_name 5 rfl ?_))))
    refine wa_cons (w_call gw (wa_cons (w_name 1 rfl (wa_cons (w_wo (wo_cutL (w_name 5 rfl ⟨_, rfl, wp_none (wp_some (w_int ⟨100, rfl, ?_⟩))⟩)))))))
    obtain ⟨ls1, e1, hls1, hls1l⟩ : ∃ ls1, WL.cutD (lsD ls) none (some 100) = lsD ls1 ∧ ls1 ≠ [] ∧ ls1.length ≤ 200 := by
      refine ⟨ls.take 100, ?_, ?_, by rw [List.length_take]; omega⟩
      · exact (cut_upto (lsD ls) 100).trans (List.map_take ..).symm
      · intro z
        have := congrArg List.length z
        rw [List.length_take, List.length_nil] at this
        omega
    rw [e1]
    refine wa_cons (w_name 4 rfl (wa_nil ⟨ls1, fs.length, rfl, hls1, hls1l, fun b1 hb1 => ?_⟩))
    refine wa_cons (w_call gw (wa_cons (w_name 1 rfl (wa_cons (w_call gy (wa_cons (w_name 1 rfl (wa_cons (w_name 4 rfl (wa_cons (w_op d_add (w_int (w_call g1 (wa_cons (w_name 1 rfl (wa_cons (w_int (wa_nil ⟨_, rfl, by omega, by omega, fun r1 r1a r1b => ⟨_, _, rfl, rfl, ?_⟩⟩))))))))))))))))) )
    obtain ⟨r1, rfl⟩ := Int.eq_ofNat_of_zero_le r1a
    refine wa_nil ⟨fs.length, r1 + 1, by rw [show (1 : Int) + (r1 : Nat) = ((r1 + 1 : Nat) : Int) by omega] <;> rfl, by omega, by omega, fun ls2 hl2 hr2 => ?_⟩
    refine wa_cons (w_name 4 rfl (wa_nil ⟨ls2, fs.length, rfl, (fun z => by rw [z] at hl2; cases hl2), by omega, fun b2 hb2 => wa_nil ⟨by simp, ?_⟩⟩))
    refine bl_cons (bs_append 6 (wm_of (w_call gy (wa_cons (w_name 1 rfl (wa_cons (w_op d_add (w_name 4 rfl (w_int ⟨_, _, rfl, rfl, wa_cons (w_op d_add (w_int (w_call g1 (wa_cons (w_name 1 rfl (wa_cons (w_int (wa_nil ⟨_, rfl, by omega, by omega, fun r3 r3a r3b => ⟨_, _, rfl, rfl, ?_⟩⟩))))))))⟩)))))))) )
    obtain ⟨r3, rfl⟩ := Int.eq_ofNat_of_zero_le r3a
    refine wa_nil ⟨fs.length + 1, r3 + 1, by rw [show (1 : Int) + (r3 : Nat) = ((r3 + 1 : Nat) : Int) by omega] <;> rfl, by omega, by omega, fun ls3 hl3 hr3 => ⟨_, rfl, by simp, ?_⟩⟩
    refine bl_freeze 6 rfl ?_
    generalize hws : ([.lst (lsD ls), b1, b2] ++ [.lst (lsD ls3)] : List D) = ws
    have hBig : ∀ d ∈ ws, Big d := fun d hd => by
      rw [← hws] at hd
      simp only [List.cons_append, List.nil_append, List.mem_cons, List.not_mem_nil, or_false] at hd
      rcases hd with rfl | rfl | rfl | rfl
      · exact big_way (by omega)
      · exact hb1
      · exact hb2
      · exact big_way (by omega)
    obtain ⟨rok, rdep, rwt⟩ := room_facts hR
    refine bl_cons (bs_for (wt_name 7 nd) (wi_lst (w_name 6 rfl ⟨ws, rfl, fun _ Γ => ∃ f x y z u v w, Γ = [s0, .val .strm, .val (.int (0 + (i0 : Nat))), .val (roomD n (fsD n fs)), .val (.int (fs.length : Nat)), .val (.lst (lsD ls)), .val (.lst ws), f, x, y, z, u, v, w], ⟨_, _, _, _, _, _, _, rfl⟩, ?_, ?_⟩)))
    · rintro i1 d1 Γ1 hd1 ⟨f, x, y, z, u, v, w, rfl⟩
      obtain ⟨dok, ddep, dwt⟩ := hBig d1 (List.mem_of_getElem? hd1)
      refine bl_cons (bs_set 8 nd (w_call gx (wa_cons (w_name 7 rfl (wa_cons (w_name 4 rfl (wa_cons (w_int (wa_nil ⟨d1, _, _, rfl, dok, ?_⟩)))))))))
      refine bl_cons (bs_set 9 nd (w_call gsh (wa_cons (w_name 1 rfl (wa_cons (w_lst (wa_cons (w_str (wa_cons (w_str (wa_cons (w_str (wa_cons (w_str (wa_nil ⟨by simp, wa_nil ⟨_, words4, rfl, rfl, by simp [words4], fun ys hys => ?_⟩⟩)))))))))))))))
      have hysw : ∀ d ∈ ys, IsWord d := fun d hd => words_is (hys.mem_iff.mp hd)
      have rest : ∀ (zs : List D), (∀ d ∈ zs, IsWord d) → ∀ (N : Gm → Prop), (∀ Γ, (∃ f x y z u v w, Γ = [s0, .val .strm, .val (.int (0 + (i0 : Nat))), .val (roomD n (fsD n fs)), .val (.int (fs.length : Nat)), .val (.lst (lsD ls)), .val (.lst ws), f, x, y, z, u, v, w]) → N Γ) → ∀ B C, BS (Ct.def g n_law (defScope s_law) 8 E) (match (defBody s_law).getD 1 (.Pass ⟨0, 0, 0, 0⟩) with | .For _ _ bb _ _ => (match bb.getD 5 (.Pass ⟨0, 0, 0, 0⟩) with | .For _ _ b2 _ _ => b2.getD 3 (.Pass ⟨0, 0, 0, 0⟩) | _ => .Pass ⟨0, 0, 0, 0⟩) | _ => .Pass ⟨0, 0, 0, 0⟩) [s0, .val .strm, .val (.int (0 + (i0 : Nat))), .val (roomD n (fsD n fs)), .val (.int (fs.length : Nat)), .val (.lst (lsD ls)), .val (.lst ws), .val d1, .val (wrongLine d1 fs.length 2500), .val (.lst zs), z, u, v, w] { nx := N, rt := Q, bk := B, ct := C } := fun zs hzs N hN B C => by
        refine bs_for (wt_name 10 nd) (wi_lst (w_name 9 rfl ⟨zs, rfl, fun _ Γ => ∃ z u v w, Γ = [s0, .val .strm, .val (.int (0 + (i0 : Nat))), .val (roomD n (fsD n fs)), .val (.int (fs.length : Nat)), .val (.lst (lsD ls)), .val (.lst ws), .val d1, .val (wrongLine d1 fs.length 2500), .val (.lst zs), z, u, v, w], ⟨_, _, _, _, rfl⟩, ?_, ?_⟩))
        · rintro i2 d2 Γ2 hd2 ⟨z, u, v, w, rfl⟩
          obtain ⟨kk, hkk, rfl⟩ := hzs d2 (List.mem_of_getElem? hd2)
          refine bl_cons (bs_set 11 nd (w_call gc (wa_cons (w_name 7 rfl (wa_nil ⟨d1, rfl, dok, ddep, ?_⟩)))))
          refine bl_cons (bs_set 12 nd (w_call gc (wa_cons (w_name 3 rfl (wa_nil ⟨_, rfl, rok, rdep, ?_⟩)))))
          obtain ⟨r, hA, hrok, hrwt⟩ := ans_ex hR hkk d1
          refine bl_one (bs_if (wb_ww (ww_or (wb_not (wb_val (w_call gs (wa_cons (w_call ga (wa_cons (w_name 10 rfl (wa_cons (w_name 12 rfl (wa_cons (w_name 11 rfl (wa_nil ⟨kk, _, d1, r, rfl, hkk, dok, .inr ⟨n, fs, rfl, hR, hA⟩, ?_⟩)))))))))))))))
          refine wa_cons (w_call gd (wa_cons (w_name 10 rfl (wa_cons (w_name 3 rfl (wa_cons (w_name 7 rfl (wa_cons (w_name 8 rfl (wa_nil ⟨n, fs, kk, d1, r, rfl, hkk, dok, hR, hA, wa_nil ⟨r, rfl, hrok, hrwt, _, rfl, ?_⟩⟩))))))))))
          refine iteF (ww_or (wb_not (wb_val (w_call gs (wa_cons (w_name 11 rfl (wa_cons (w_name 7 rfl (wa_nil ⟨d1, rfl, dok, by omega, _, rfl, ?_⟩)))))))))
          refine iteF (ww_or1 (wb_not (wb_val (w_call gs (wa_cons (w_name 12 rfl (wa_cons (w_name 3 rfl (wa_nil ⟨_, rfl, rok, rwt, _, rfl, ?_⟩)))))))))
          exact els ⟨_, _, _, _, rfl⟩
        · rintro Γ2 ⟨z, u, v, w, rfl⟩
          exact hN _ ⟨_, _, _, _, _, _, _, rfl⟩
      refine bl_cons (bs_if (wb_ww (ww_and (wb_val (w_isi .list (w_name 7 rfl ⟨_, isA_list dok, _, rfl, ?_⟩))))))
      cases hL : d1.isL with
      | false => exact iteF (els (bl_one (rest ys hysw _ (fun Γ h => h) _ _)))
      | true =>
        obtain ⟨xs, rfl⟩ : ∃ xs, d1 = .lst xs := by
          cases d1 <;> first | (cases hL; done) | exact ⟨_, rfl⟩
        refine iteT (ww_and1 (wb_cmp d_gt (w_len (w_name 7 rfl ⟨_, rfl, w_int ⟨_, _, rfl, rfl, _, rfl, ?_⟩⟩))))
        cases decide ((200 : Int) < (xs.length : Int)) with
        | false => exact els (bl_one (rest ys hysw _ (fun Γ h => h) _ _))
        | true =>
          refine iteT (bl_one (bs_set 9 nd (w_wo (wo_cutL (w_name 9 rfl ⟨_, rfl, wp_none (wp_some (w_int ⟨2, rfl, ?_⟩))⟩)))))
          exact bl_one (rest _ (fun d hd => hysw d ((cut_sub ys none (some 2)).subset hd)) _ (fun Γ h => h) _ _)
    · rintro Γ1 ⟨f, x, y, z, u, v, w, rfl⟩
      refine bl_cons (bs_set 13 nd (w_call gp (wa_cons (w_name 5 rfl (wa_cons (w_int (wa_nil ⟨fs.length, ls, rfl, hr, h0, hl, ?_⟩)))))))
      have after : ∀ w, BL (Ct.def g n_law (defScope s_law) 8 E) (match (defBody s_law).getD 1 (.Pass ⟨0, 0, 0, 0⟩) with | .For _ _ bb _ _ => bb.drop 8 | _ => []) [s0, .val .strm, .val (.int (0 + (i0 : Nat))), .val (roomD n (fsD n fs)), .val (.int (fs.length : Nat)), .val (.lst (lsD ls)), .val (.lst ws), f, x, y, z, u, v, w] { nx := fun Γ => ∃ a b c d e f x y z u v w, Γ = [s0, .val .strm, a, b, c, d, e, f, x, y, z, u, v, w], ct := fun Γ => ∃ a b c d e f x y z u v w, Γ = [s0, .val .strm, a, b, c, d, e, f, x, y, z, u, v, w], bk := fun Γ' => BL (Ct.def g n_law (defScope s_law) 8 E) ((defBody s_law).drop 2) Γ' { nx := fun _ => Q .non, rt := Q }, rt := Q } := fun w => by
        refine bl_cons (bs_set 10 nd (w_call g2 (wa_cons (w_name 1 rfl (wa_cons (w_tup (wa_cons (w_str (wa_cons (w_str (wa_cons (w_str (wa_cons (w_str (wa_nil ⟨by simp, wa_nil ⟨_, words4, rfl, rfl, by simp [words4], by simp [words4], fun dw hdw => ?_⟩⟩)))))))))))))))
        obtain ⟨kk, hkk, rfl⟩ := words_is hdw
        refine bl_one (bs_if (wb_not (wb_val (w_call gs (wa_cons (w_call ga (wa_cons (w_name 10 rfl (wa_cons (w_dict2 (w_int (w_lst (wa_nil ⟨by simp, wa_cons (w_non (wa_nil ⟨kk, badRoom, .non, _, rfl, hkk, rfl, .inl ⟨rfl, rfl⟩, ?_⟩))⟩)))))))))))))
        refine wa_cons (w_lst (wa_cons (w_str (wa_cons (w_str (wa_cons (w_tup (wa_cons (w_str (wa_nil ⟨by simp, wa_nil ⟨by simp, wa_nil ⟨raisedD "BadRoom" (.str "places"), rfl, rfl, Nat.le_of_ble_eq_true rfl, _, rfl, ?_⟩⟩⟩))))))))))
        exact els ⟨_, _, _, _, _, _, _, _, _, _, _, _, rfl⟩
      by_cases hz : 1000 < szL ls (ls.length - 1)
      · rw [if_pos hz]
        refine bl_cons (bs_if (wb_ww (ww_and (wb_cmp d_notN (w_name 13 rfl (w_non ⟨rfl, true, rfl, _, rfl, ?_⟩))))))
        exact iteF (els (after _))
      · rw [if_neg hz]
        have em : mkR n fs (rwL ls (ls.length - 1)) = mkR n fs (rwL ls (ls.length - 1)) := rfl
        have eq : arrD n (mkL n fs ls (ls.length - 1)) = arrD n (mkR n fs (rwL ls (ls.length - 1))) := arrD_congr (made_row hR.ps hr (by omega))
        have hn2 := hR.n2
        refine bl_cons (bs_if (wb_ww (ww_and (wb_cmp d_notN (w_name 13 rfl (w_non ⟨rfl, false, rfl, _, rfl, ?_⟩))))))
        refine iteT (ww_and1 (wb_not (wb_val (w_call gs (wa_cons (w_call gm (wa_cons (w_name 3 rfl (wa_cons (w_name 5 rfl (wa_nil ⟨_, _, rfl, (big_way (by omega)).1, .inr ⟨n, fs, rfl, hR, .inr ⟨ls, rfl, h0, hl, hr, ?_⟩⟩⟩)))))))))))
        show WA _ _ _ _
        rw [eq]
        refine wa_cons (w_call gq (wa_cons (w_dget (w_name 3 rfl (w_str ⟨_, _, kPl, _, rfl, rfl, rfl, wa_cons (w_dget (w_name 3 rfl (w_str ⟨_, _, kMv, _, rfl, rfl, rfl, wa_cons (w_name 13 rfl (wa_nil ⟨n, fs, _, rfl, by omega, hR.ps, rwL_mem hr (by omega), ?_⟩))⟩)))⟩)))))
        exact wa_nil ⟨_, rfl, ok_arr (by omega), by rw [arr_wt]; omega, _, rfl, els (after _)⟩
  · rintro Γ' ⟨a, b, c, d, e, f, x, y, z, u, v, w, rfl⟩
    exact bl_one (bs_ret (w_bl q))
end K3
set_option Elab.async false
set_option linter.all false
set_option maxRecDepth 100000
set_option maxHeartbeats 4000000
namespace K3
open PySem PySem.Spec PyProof.Rows L2 Evl WL
/-! ### the law -/
theorem emp_at {s : Sl} {i k : Nat} (h : (List.replicate k Sl.emp)[i]? = some s) : s = .emp := by
  obtain ⟨hi, e⟩ := List.getElem?_eq_some_iff.mp h
  rw [List.getElem_replicate] at e
  exact e.symm
def spLaw (K : PySem.W.Frag) : Sp := fun vs H Q _ => ∃ (p : Addr) (ns : List Int), vs = [.ref p] ∧ SqL K H p (ns.map V.int) ∧ ns.length ≤ 63 ∧ ∀ H', Q (.bl true) H'
theorem ok_law {g : Gx} [BI g] {f fS : Addr} {fd fdS : FuncData} (F : FunD g.K "law" "law" (defArgs s_law) (defBody s_law) (defScope s_law) [] [] f fd) (FS : FunD g.K "_law_stream" "_law_stream" (defArgs s__law_stream) (defBody s__law_stream) (defScope s__law_stream) [] [] fS fdS) (hS : g.mg "_law_stream" = some (.ref fS))
    (B : BL (Ct.def g n_law (defScope s_law) 8 fun _ => False) ((defBody s_law).drop 1) (.emp :: .val .strm :: List.replicate 12 .emp) { nx := fun _ => (fun d => d = D.bl true) .non, rt := fun d => d = D.bl true }) :
    FnOk g.P g.w g.K g.mg g.base (L2.CX g.P g.w) 9 f fd ["script"] (spLaw g.K) := by
  refine F.ok c_law (fun vs H Q E ⟨p, xs, e, _⟩ => by rw [e]; rfl) fun cdv A outer s H vs Q E hr ⟨p, ns, e, hs, hlen, q⟩ => ?_
  subst e
  have GS : FnOk g.P g.w g.K g.mg g.base (L2.CX g.P g.w) 1 fS fdS ["script"] (spStream g.K) := ok_stream FS (bi (c := Ct.def g [] (defScope s_law) 0 fun _ => False) "list")
  have bS : Binds g.K fdS ["script"] [] := FS.bindsN b__law_stream
  refine ⟨_, pss_cons (ps_set (i := 1) c_law.nd rfl (Or.inl rfl) (pe_callSD (E := fun _ _ _ _ => False) GS (hr.mono (by omega)) rfl hS FS.kp bS .nil (fun σ => passAt takes0 σ) (pa_cons (pe_var (i := 0) rfl (Or.inl rfl) (by decide) (by decide)) pa_nil rfl))) pss_js, ?_⟩
  refine ⟨.ref p, rfl, p, ns.map V.int, rfl, hs, fun a st ha hst => ?_⟩
  have hne : st ≠ a := fun z => by rw [z, upd_same] at hst; cases hst
  let G : Hp := fun b => if b = a then some (.lst (ns.map V.int)) else none
  let H2 : Hp := upd (upd H a (.lst (ns.map V.int))) st (.lst [.ref a, .int 0, .int 0])
  have ga_ : G a = some (.lst (ns.map V.int)) := if_pos rfl
  have gn : ∀ b, b ≠ a → G b = none := fun b hb => if_neg hb
  have sub : Sub (some st) G H2 := by
    refine ⟨fun b o h => ?_, fun s' e => ?_⟩
    · by_cases hb : b = a
      · subst hb
        rw [ga_] at h
        cases h
        show upd (upd H _ _) st _ _ = _
        rw [upd_ne (Ne.symm hne), upd_same]
      · rw [gn b hb] at h
        cases h
    · cases e
      exact gn _ hne
  have sok : SOk (some st) G H2 := fun s' e => by
    cases e
    exact ⟨a, 0, 0, ns, upd_same, ga_, by omega, hlen⟩
  refine B _ ⟨8, fun _ _ => False, true, none, rfl, fun _ => ⟨rfl, hr, passes_of rfl, fun _ => ⟨rfl, rfl⟩⟩, L2H.roomH_of hr⟩ (some st) G H2 _ G H2 ⟨⟨sub, sok, rfl, fun i sl hsl => ?_, fun i j s1 s2 b h1 h2 o1 o2 _ _ => ?_, Good.refl, sok, sub⟩, ⟨⟨fun cls d _ H => E cls d H, takes_of rfl rfl rfl rfl, fun z Γ σ G' H' cls d hz => hz.elim⟩, fun a x z => nomatch z⟩⟩ _ ⟨?_, ?_, ?_, ?_⟩
  · match i, hsl with
    | 0, hsl => cases hsl; trivial
    | 1, hsl => cases hsl; exact ⟨.ref st, rfl, .strm rfl⟩
    | i + 2, hsl =>
      have e : sl = .emp := emp_at hsl
      subst e
      trivial
  · match i, h1 with
    | 0, h1 => cases h1; cases o1
    | 1, h1 => cases h1; cases o1
    | i + 2, h1 =>
      have e : s1 = .emp := emp_at h1
      subst e
      cases o1
  · exact fun Γ' σ' G' H' z _ _ => by cases z
  · exact fun v d G' H' z _ _ rv => by
      cases z
      cases rv
      exact q H'
  · exact fun _ _ _ _ z => z.elim
  · exact fun _ _ _ _ z => z.elim
end K3
set_option Elab.async false
set_option linter.all false
set_option maxRecDepth 100000
set_option maxHeartbeats 0
namespace K3
open PySem PySem.Spec PyProof.Rows L2 Evl WL He
section
variable {g : Gx} {h : Heap} (X : g.K.In h) (G : h.Ns mainGlobals g.mg) (c : SaysD fa fn g.K)
include X G c
theorem has_of {x : Str} {st : Stmt} (i : Nat) (hf : fn[i]? = some (dd x st [])) (ha : fa[i]? = some (.glo x)) : Has g x st := by
  obtain ⟨fd, F⟩ := c.def_ i hf
  exact ⟨_, fd, F, glo_ok X G (c.fact i ha)⟩
theorem bi_of : BI g := by
  refine ⟨fun x hx => ?_⟩
  obtain ⟨i, hi, e⟩ := List.mem_iff_getElem.mp (List.mem_append_right fa0_ (List.mem_map_of_mem (f := Fa.free) hx))
  have e2 : fa[i]? = some (.free x) := (List.getElem?_eq_getElem hi).trans (congrArg some e)
  exact free_ok X G (c.fact i e2)
theorem h_is_int : Has g "is_int" s_is_int := has_of X G c 0 rfl rfl
theorem h_is_between : Has g "is_between" s_is_between := has_of X G c 1 rfl rfl
theorem h_is_arrangement : Has g "is_arrangement" s_is_arrangement := has_of X G c 2 rfl rfl
theorem h_stay : Has g "stay" s_stay := has_of X G c 3 rfl rfl
theorem h_mul : Has g "mul" s_mul := has_of X G c 4 rfl rfl
theorem h_inv : Has g "inv" s_inv := has_of X G c 5 rfl rfl
theorem h_wrong_key : Has g "wrong_key" s_wrong_key := has_of X G c 6 rfl rfl
theorem h_check_room : Has g "check_room" s_check_room := has_of X G c 7 rfl rfl
theorem h_is_line : Has g "is_line" s_is_line := has_of X G c 8 rfl rfl
theorem h_wrong_line : Has g "wrong_line" s_wrong_line := has_of X G c 9 rfl rfl
theorem h_is_lines : Has g "is_lines" s_is_lines [.int 2500] := by
  obtain ⟨fd, F⟩ := c.def_ 10 (d := dd "is_lines" s_is_lines [.int 2500]) rfl
  exact ⟨_, fd, F, glo_ok X G (c.fact 10 (f := .glo "is_lines") rfl)⟩
theorem h_check_lines : Has g "check_lines" s_check_lines := has_of X G c 11 rfl rfl
theorem h_check_way : Has g "check_way" s_check_way := has_of X G c 12 rfl rfl
theorem h_made_lines : Has g "made_lines" s_made_lines := has_of X G c 13 rfl rfl
theorem h_steps_of : Has g "steps_of" s_steps_of := has_of X G c 14 rfl rfl
theorem h_used_lines : Has g "used_lines" s_used_lines := has_of X G c 15 rfl rfl
theorem h_signs_of : Has g "signs_of" s_signs_of := has_of X G c 16 rfl rfl
theorem h_is_way : Has g "is_way" s_is_way := has_of X G c 17 rfl rfl
theorem h_made : Has g "made" s_made := has_of X G c 18 rfl rfl
theorem h_length : Has g "length" s_length := has_of X G c 19 rfl rfl
theorem h_plain : Has g "plain" s_plain := has_of X G c 20 rfl rfl
theorem h__law_stream : Has g "_law_stream" s__law_stream := has_of X G c 21 rfl rfl
theorem h__law_next : Has g "_law_next" s__law_next := has_of X G c 22 rfl rfl
theorem h__law_pick : Has g "_law_pick" s__law_pick := has_of X G c 23 rfl rfl
theorem h__law_from : Has g "_law_from" s__law_from := has_of X G c 24 rfl rfl
theorem h__law_shuffled : Has g "_law_shuffled" s__law_shuffled := has_of X G c 25 rfl rfl
theorem h__law_number : Has g "_law_number" s__law_number := has_of X G c 26 rfl rfl
theorem h__law_same : Has g "_law_same" s__law_same := has_of X G c 27 rfl rfl
theorem h__law_copy : Has g "_law_copy" s__law_copy := has_of X G c 28 rfl rfl
theorem h__law_named : Has g "_law_named" s__law_named := has_of X G c 29 rfl rfl
theorem h__law_attributes : Has g "_law_attributes" s__law_attributes := has_of X G c 30 rfl rfl
theorem h__law_stay : Has g "_law_stay" s__law_stay := has_of X G c 31 rfl rfl
theorem h__law_mul : Has g "_law_mul" s__law_mul := has_of X G c 32 rfl rfl
theorem h__law_inv : Has g "_law_inv" s__law_inv := has_of X G c 33 rfl rfl
theorem h__law_conj : Has g "_law_conj" s__law_conj := has_of X G c 34 rfl rfl
theorem h__law_any_arr : Has g "_law_any_arr" s__law_any_arr := has_of X G c 35 rfl rfl
theorem h__law_spec_places : Has g "_law_spec_places" s__law_spec_places := has_of X G c 36 rfl rfl
theorem h__law_within : Has g "_law_within" s__law_within := has_of X G c 37 rfl rfl
theorem h__law_over : Has g "_law_over" s__law_over := has_of X G c 38 rfl rfl
theorem h__law_spec_moves : Has g "_law_spec_moves" s__law_spec_moves := has_of X G c 39 rfl rfl
theorem h__law_turn : Has g "_law_turn" s__law_turn := has_of X G c 40 rfl rfl
theorem h__law_spec_plain : Has g "_law_spec_plain" s__law_spec_plain := has_of X G c 41 rfl rfl
theorem h__law_spec : Has g "_law_spec" s__law_spec := has_of X G c 42 rfl rfl
theorem h__law_mixed : Has g "_law_mixed" s__law_mixed := has_of X G c 43 rfl rfl
theorem h__law_planted : Has g "_law_planted" s__law_planted := has_of X G c 44 rfl rfl
theorem h__law_any_room : Has g "_law_any_room" s__law_any_room := has_of X G c 45 rfl rfl
theorem h__law_is_line : Has g "_law_is_line" s__law_is_line := has_of X G c 46 rfl rfl
theorem h__law_bad_line : Has g "_law_bad_line" s__law_bad_line := has_of X G c 47 rfl rfl
theorem h__law_made : Has g "_law_made" s__law_made := has_of X G c 48 rfl rfl
theorem h__law_lengths : Has g "_law_lengths" s__law_lengths := has_of X G c 49 rfl rfl
theorem h__law_plain : Has g "_law_plain" s__law_plain := has_of X G c 50 rfl rfl
theorem h__law_row_made : Has g "_law_row_made" s__law_row_made := has_of X G c 51 rfl rfl
theorem h__law_way : Has g "_law_way" s__law_way := has_of X G c 52 rfl rfl
theorem h__law_doubling : Has g "_law_doubling" s__law_doubling := has_of X G c 53 rfl rfl
theorem h__law_with_steps : Has g "_law_with_steps" s__law_with_steps := has_of X G c 54 rfl rfl
theorem h__law_bent_line : Has g "_law_bent_line" s__law_bent_line := has_of X G c 55 rfl rfl
theorem h__law_bent_way : Has g "_law_bent_way" s__law_bent_way := has_of X G c 56 rfl rfl
theorem h__law_base_way : Has g "_law_base_way" s__law_base_way := has_of X G c 57 rfl rfl
theorem h__law_ask : Has g "_law_ask" s__law_ask := has_of X G c 58 rfl rfl
theorem h__law_due : Has g "_law_due" s__law_due := has_of X G c 59 rfl rfl
theorem h__law_room : Has g "_law_room" s__law_room := has_of X G c 60 rfl rfl
theorem h_law : Has g "law" s_law := has_of X G c 61 rfl rfl
theorem k_MOST_PLACES : ConI g "MOST_PLACES" 16 := int_ok X G (c.fact 62 (f := .int "MOST_PLACES" 16) rfl)
theorem k_MOST_MOVES : ConI g "MOST_MOVES" 28 := int_ok X G (c.fact 63 (f := .int "MOST_MOVES" 28) rfl)
theorem k_MOST_LINES : ConI g "MOST_LINES" 2500 := int_ok X G (c.fact 64 (f := .int "MOST_LINES" 2500) rfl)
theorem k_MOST_STEPS : ConI g "MOST_STEPS" 1000 := int_ok X G (c.fact 65 (f := .int "MOST_STEPS" 1000) rfl)
theorem x_BadRoom (b1 : gloB g.K "BadRoom" = true) (b2 : oexB g.K (ga g.K "BadRoom") = true) : XCls g "BadRoom" "key" := by
  obtain ⟨fd, F⟩ := c.def_ 62 (d := di "BadRoom" "BadRoom.__init__" (top 2)) rfl
  exact xcls_of X G b1 b2 (c.fact 66 (f := .meth "BadRoom" "__init__") rfl) (c.fact 67 (f := .noat "BadRoom" "key") rfl) F ⟨rfl, rfl, rfl, by decide +kernel, rfl, by decide +kernel, by decide +kernel⟩ (Or.inl rfl) (Or.inl rfl) (by decide) (by decide) fun _ _ _ _ _ _ us hl => match us, hl with | [_, _], _ => rfl
theorem x_BadWay (b1 : gloB g.K "BadWay" = true) (b2 : oexB g.K (ga g.K "BadWay") = true) : XCls g "BadWay" "line" := by
  obtain ⟨fd, F⟩ := c.def_ 63 (d := di "BadWay" "BadWay.__init__" (top 4)) rfl
  exact xcls_of X G b1 b2 (c.fact 68 (f := .meth "BadWay" "__init__") rfl) (c.fact 69 (f := .noat "BadWay" "line") rfl) F ⟨rfl, rfl, rfl, by decide +kernel, rfl, by decide +kernel, by decide +kernel⟩ (Or.inl rfl) (Or.inl rfl) (by decide) (by decide) fun _ _ _ _ _ _ us hl => match us, hl with | [_, _], _ => rfl
theorem x_TooMany (b1 : gloB g.K "TooMany" = true) (b2 : oexB g.K (ga g.K "TooMany") = true) : XCls g "TooMany" "word" := by
  obtain ⟨fd, F⟩ := c.def_ 64 (d := di "TooMany" "TooMany.__init__" (top 15)) rfl
  exact xcls_of X G b1 b2 (c.fact 70 (f := .meth "TooMany" "__init__") rfl) (c.fact 71 (f := .noat "TooMany" "word") rfl) F ⟨rfl, rfl, rfl, by decide +kernel, rfl, by decide +kernel, by decide +kernel⟩ (Or.inl rfl) (Or.inl rfl) (by decide) (by decide) fun _ _ _ _ _ _ us hl => match us, hl with | [_, _], _ => rfl
end
end K3
set_option Elab.async false
set_option linter.all false
set_option maxRecDepth 100000
set_option maxHeartbeats 0
namespace K3
open PySem PySem.Spec PyProof.Rows L2 Evl WL He
theorem glo_of {K : PySem.W.Frag} (h : xwB K = true) {x : Str} (hx : x ∈ exNames) : gloB K x = true := (ba (List.all_eq_true.mp (ba h).1 x hx)).1
theorem all_ok {g : Gx} {h : Heap} (X : g.K.In h) (G : h.Ns mainGlobals g.mg) (c : SaysD fa fn g.K) (cx : ex g.K = true) {f : Addr} {fd : FuncData} (F : FunD g.K "law" "law" (defArgs s_law) (defBody s_law) (defScope s_law) [] [] f fd) : FnOk g.P g.w g.K g.mg g.base (L2.CX g.P g.w) 9 f fd ["script"] (spLaw g.K) := by
  have hb : BI g := bi_of X G c
  obtain ⟨cx1, cxT⟩ := ba cx
  obtain ⟨cx1, cxW⟩ := ba cx1
  obtain ⟨cx1, cxR⟩ := ba cx1
  have hx : XW g := xw_of X G cx1
  have xr := x_BadRoom X G c (glo_of cx1 (by decide +kernel)) cxR
  have xw := x_BadWay X G c (glo_of cx1 (by decide +kernel)) cxW
  have xt := x_TooMany X G c (glo_of cx1 (by decide +kernel)) cxT
  have p1 := ok_is_int (h_is_int X G c)
  have p2 := ok_is_between (h_is_between X G c) p1
  have p3 := ok_is_arrangement (h_is_arrangement X G c) p2
  have ps := ok_stay (h_stay X G c)
  have pm := ok_mul (h_mul X G c)
  have pi := ok_inv (h_inv X G c)
  have p4 := ok_wrong_key (h_wrong_key X G c) (k_MOST_PLACES X G c) (k_MOST_MOVES X G c) p2 p3
  have p5 := ok_check_room (h_check_room X G c) xr p4
  have l3 := ok_is_line (h_is_line X G c) p2
  have l4 := ok_wrong_line (h_wrong_line X G c) l3
  have l5 := ok_is_lines (h_is_lines X G c) l4
  have c5 := ok_check_lines (h_check_lines X G c) xw (k_MOST_LINES X G c) l4
  have c6 := ok_check_way (h_check_way X G c) c5
  have m2 := ok_made_lines (h_made_lines X G c) ps pm pi
  have s1 := ok_steps_of (h_steps_of X G c)
  have u1 := ok_used_lines (h_used_lines X G c)
  have s2 := ok_signs_of (h_signs_of X G c) u1
  have f1 := ok_is_way (h_is_way X G c) p5 l5
  have f2 := ok_made (h_made X G c) p5 c6 m2
  have f3 := ok_length (h_length X G c) p5 c6 s1
  have f4 := ok_plain_ (h_plain X G c) xt (k_MOST_STEPS X G c) p5 c6 s1 s2
  have n1 := ok_next (h__law_next X G c)
  have n2 := ok_pick (h__law_pick X G c) n1
  have n3 := ok_from (h__law_from X G c) n1
  have n4 := ok_shuffled (h__law_shuffled X G c) n1
  have n5 := ok_number (h__law_number X G c)
  have n7 := ok_lawStay (h__law_stay X G c)
  have n9 := ok_any_arr (h__law_any_arr X G c) n4
  have n16 := ok_copy (h__law_copy X G c) 3
  have n17 := ok_same (h__law_same X G c)
  have n18 := ok_named (h__law_named X G c)
  have n19 := ok_attr (h__law_attributes X G c)
  have a1 := ok_lmul (h__law_mul X G c)
  have a2 := ok_linv (h__law_inv X G c)
  have a3 := ok_conj (h__law_conj X G c)
  have t1 := ok_places (h__law_spec_places X G c)
  have t2 := ok_within (h__law_within X G c)
  have t3 := ok_over (h__law_over X G c)
  have t4 := ok_turn (h__law_turn X G c)
  have t5 := ok_moves (h__law_spec_moves X G c) t1 t2 t3 t4
  have t7 := ok_plain (h__law_spec_plain X G c) n2
  have t8 := ok_spec (h__law_spec X G c) n1 n2 t7
  have t9 := ok_mixed (h__law_mixed X G c) n1 n2 n4 a1 a2 n7
  have tp := ok_planted 1 (h__law_planted X G c) n1 (t8 1) n9 (t5 1) t9 a3
  have ta := ok_any_room (h__law_any_room X G c) n1 n9 n7 a1
  have w1 := ok_lis_line (h__law_is_line X G c) n5
  have w2 := ok_bad_line (h__law_bad_line X G c) w1
  have w3 := ok_law_made (h__law_made X G c) n7 a1 a2
  have w4 := ok_lengths (h__law_lengths X G c)
  have w5 := ok_lplain (h__law_plain X G c) w4
  have w6 := ok_row_made (h__law_row_made X G c) n7 a1 a2
  have w7 := ok_way (h__law_way X G c) n1
  have w8 := ok_doubling (h__law_doubling X G c) n1
  have w9 := ok_with_steps (h__law_with_steps X G c) n1
  have v1 := ok_bent_line (h__law_bent_line X G c) n1 n2
  have v2 := ok_bent_way (h__law_bent_way X G c) n1 n2 v1
  have v3 := ok_base_way (h__law_base_way X G c) n1 n2 n3 w7 w8 w9
  have v4 := ok_room (h__law_room X G c) n1 n2 n3 tp ta
  have v5 := ok_ask (h__law_ask X G c) f1 f2 f3 f4 n18 n19
  have v6 := ok_due (h__law_due X G c) w3 w4 w5
  obtain ⟨fS, fdS, FS, hS⟩ := (h__law_stream X G c).ex
  exact ok_law F FS hS (law_body (Q := fun d => d = D.bl true) rfl n1 n2 v4 v3 v2 w7 w2 n4 n16 n17 v5 v6 w5 f2 w6 rfl)

theorem facts {P : Program} {w : World} {K : PySem.W.Frag} {h : Heap} {mg : Str → Option Value} {f : Addr} (X : K.In h) (G : h.Ns mainGlobals mg) (hfa : mg ("law" : Str) = some (.ref f)) (c : SaysD fa fn K) (cx : ex K = true) :
    ∃ fd : FuncData, (∀ (s : Shared) (v : Value), BindsTo s fd ⟨[v], []⟩ [("script", v)]) ∧ ∀ base : Heap, K.In base → base.Ns mainGlobals mg → FnOk P w K mg base (L2.CX P w) 9 f fd ["script"] (spLaw K) := by
  obtain ⟨f', fd, F, hm⟩ := (h_law (g := ⟨P, w, K, mg, h⟩) X G c).ex
  have e := hfa.symm.trans hm
  cases e
  have b := FunD.bindsA (ps := ["script"]) F fun _ _ _ _ _ _ us hl => match us, hl with | [_], _ => rfl
  exact ⟨fd, fun s v => b s [v] rfl, fun base _ _ => all_ok (g := ⟨P, w, K, mg, base⟩) X G c cx F⟩
theorem cx_0 {P : Program} {w : World} {K : PySem.W.Frag} {mg : Str → Option Value} {base : Heap} {k : Nat} {f : Addr} {fd : FuncData} {ps : List Str} (F : FnOk P w K mg base (L2.CX P w) k f fd ps (spLaw K)) : FnOk P w K mg base CX0 k f fd ps (spLaw K) := by
  refine ⟨fun vs H Q E h => F.len vs H Q E h, fun A outer s H args us vs Q E hr e0 hb hv hsp => ?_⟩
  refine codeAny_mono (F.run A outer s H args us vs Q (fun _ _ _ => False) hr e0 hb hv hsp) fun r s' hq => ?_
  cases r with
  | ok fl => cases fl <;> exact hq
  | error e =>
    obtain ⟨_, _, _, _, _, _, _, _, _, _, _, _, z⟩ : L2.CX P w outer H s (fun _ _ _ => False) e s' := hq
    exact z
end K3
open PySem PySem.W PySem.Calls PyProof.Rows
theorem PySem.Challenge.cw_turnedback_k03_whole_ways_holds : PySem.Challenge.rw_turnedback_k03_whole_ways.Holds := by
  w_on; o_law
  refine HandSHeadRun.head_any (r := K3.R) (q := K3.qv) (H := K3.hk) (ob := K3.ob) (M := 8000) (loose := K3.names) (d := HandSHeadRun.topDef K3.R.prog 88) (kwd := []) K3.ob_eq (by kernel_rfl) (fun s => by kernel_rfl) K3.run (by kernel_rfl) (by kernel_rfl) (by kernel_rfl) (by rfl) (by first | assumption | decide +kernel) (by decide +kernel) ⟨rfl, rfl, rfl, rfl, rfl, by decide +kernel⟩ ?hw ?hc
  case hw => w_witness2
  case hc =>
    refine L2.walk_ofE (l := PySem.Challenge.rw_turnedback_k03_whole_ways) (n := 63) (k := 9) (x := "script") (CX := L2.CX0) rfl (by decide) (by kernel_rfl) ⟨rfl, by decide, by decide⟩ ?F (fun _ _ _ _ z => z)
    intro w mg fa h Y G hmg0
    obtain ⟨K, KX, c, cx⟩ := Y
    have hmg : mg ("law" : PySem.Str) = some (.ref fa) := by
      have e : (HandSHeadRun.topDef K3.R.prog 88).name = ("law" : PySem.Str) := by kernel_rfl
      rw [← e]
      exact hmg0
    obtain ⟨fd, hb, hF⟩ := K3.facts (P := (PySem.Challenge.rw_turnedback_k03_whole_ways).prog) (w := w) KX G hmg c cx
    exact ⟨K, fd, K3.spLaw K, KX, hb, fun H a ns hl _ hS => ⟨a, ns, rfl, hS, hl, fun _ => rfl⟩, fun base h1 h2 => K3.cx_0 (hF base h1 h2)⟩
