import PyProof.Rows.All
import Wide.All
import OpenK.AllK
import HandS.Codes
import PySem.Challenge.RW_wagerroom_k73_whole_suppositions_in_turn
import HandS.Walk
import HandS.Head0
import HandS.Head1
import HandS.Head2
import HandS.HeadEnd
import HandS.HeadHook1
import HandS.HeadHook2
import HandS.HeadHook3
import HandS.Ends
import KE.KStateDown
import Wide.FinOn
import HandS.ForMost
import HandS.More
import HandS.Star
import HandS.Wide
import HandS.Conv
import HandS.IsInst
import HandS.Zip
import HandS.Evl
import HandS.TupAny
import HandS.Style
import HandS.Property
import KE.GoesEnum
import KE.GoesMore
import KE.GoesZip
import KE.KIndexWalk
import KE.DataMinMax
import KE.KRevSl
import KE.KWithOwn
import PyProof.ReprRoads
import HandS.Defaults
import HandS.Words
import PyProof.ReprLen
set_option Elab.async false
set_option linter.all false
set_option maxRecDepth 100000
set_option maxHeartbeats 4000000
namespace Zy
open PySem PySem.Spec PyProof.Rows
open C8 (fnBody fnArgs fnScope clsBody)
def stT (i : Nat) : Stmt := PySem.Challenge.pw_wagerroom_k73_whole_suppositions_in_turn.main.body.getD i (.Pass ⟨0, 0, 0, 0⟩)
def stM (i j : Nat) : Stmt := (clsBody (stT i)).getD j (.Pass ⟨0, 0, 0, 0⟩)
end Zy
set_option Elab.async false
set_option linter.all false
set_option maxRecDepth 100000
set_option maxHeartbeats 0
namespace Zh
open PySem PySem.Spec PyProof.Rows L2
open C8 (fnBody fnArgs fnScope clsBody)
open He (frG asD ga ma eqO eqO_ok ba Dv FnW dflB dflB_ok kwdB kwdB_ok dicW keysIn relB relB_ok)
open Zy (stT stM)
/-! ### where things stand -/
def pAt (K : PySem.W.Frag) (C f : Str) : Addr := match PySem.W.findIn K (.ref (ga K C)) f with
  | some (some (.ref p)) => p
  | _ => 0
def gAt (K : PySem.W.Frag) (C f : Str) : Addr := match PySem.W.recIn K (pAt K C f) "property" with
  | some (.ref g :: _) => g
  | _ => 0
def sAt (K : PySem.W.Frag) (C f : Str) : Addr := match PySem.W.recIn K (pAt K C f) "property" with
  | some (_ :: .ref g :: _) => g
  | _ => 0
/-! ### defs -/
structure DefZ where
  path : PySem.W.Frag → Addr
  name : Str
  qual : Str
  st : Stmt
def fnA (K : PySem.W.Frag) (a : Addr) : FnW := match K.lookup a with
  | some ⟨_, _, .func fd, _⟩ => some (fd.name, fd.qualname, fd.params, fd.body, fd.scope, fd.globals, fd.closure, fd.builtins)
  | _ => none
def DefZ.val (d : DefZ) : FnW := some (d.name, d.qual, fnArgs d.st, .stmts (fnBody d.st), fnScope d.st, mainGlobals, [], builtinsNs)
def okA (K : PySem.W.Frag) (a : Addr) (q : Str) : Bool := PySem.W.keepIn K (.ref a) && (match K.lookup a with
  | some ⟨_, _, .func fd, _⟩ => PySem.W.codeIn K fd.code q && (dflB K fd.defaults [] && kwdB K fd.kwdefaults [])
  | _ => false)
def gD (i : Nat) (x : Str) : DefZ := ⟨fun K => ga K x, x, x, stT i⟩
def mD (i j : Nat) (C m q : Str) : DefZ := ⟨fun K => ma K (ga K C) m, m, q, stM i j⟩
def pD (i j : Nat) (C m q : Str) : DefZ := ⟨fun K => gAt K C m, m, q, stM i j⟩
def sD (i j : Nat) (C m q : Str) : DefZ := ⟨fun K => sAt K C m, m, q, stM i j⟩
def fnG : List DefZ := [gD 16 "is_integer", gD 17 "greatest_divisor", gD 18 "is_valid_fraction", gD 19 "is_positive", gD 20 "reduced", gD 21 "plus", gD 23 "times", gD 24 "over", gD 25 "added", gD 26 "shares", gD 29 "is_valid_labels", gD 30 "is_valid_event", gD 31 "check_labels", gD 32 "grouped", gD 33 "relabelled", gD 34 "check_partitions", gD 35 "joined", gD 37 "are_odds", gD 41 "region_cases", gD 42 "present_parts", gD 43 "steps_from", gD 44 "spread", gD 45 "backwards", gD 46 "contradiction", gD 47 "source", gD 77 "_law_cell", gD 78 "_law_source", gD 79 "_law_draw", gD 80 "_law_choose", gD 81 "_law_is_equal"] ++ [gD 82 "_law_divisor", gD 83 "_law_fraction", gD 84 "_law_add", gD 85 "_law_over", gD 86 "_law_sum", gD 87 "_law_labels", gD 88 "_law_canonical", gD 89 "_law_odds", gD 90 "_law_weights", gD 91 "_law_ring", gD 92 "_law_rows", gD 93 "_law_room", gD 94 "_law_answers", gD 95 "_law_kept", gD 96 "_law_follows", gD 97 "law"]
def fnM : List DefZ := [mD 39 7 "Observer" "assign_odds" "Observer.assign_odds", mD 39 1 "Observer" "__init__" "Observer.__init__", pD 39 3 "Observer" "labels" "Observer.labels", pD 39 5 "Observer" "odds" "Observer.odds", mD 74 0 "Presence" "__init__" "Presence.__init__", mD 74 1 "Presence" "__enter__" "Presence.__enter__", mD 74 2 "Presence" "__exit__" "Presence.__exit__", mD 75 1 "Room" "__init__" "Room.__init__", pD 75 4 "Room" "observers" "Room.observers", pD 75 5 "Room" "cases" "Room.cases", sD 75 6 "Room" "cases" "Room.cases", mD 75 7 "Room" "assign_cases" "Room.assign_cases", mD 75 10 "Room" "check_group" "Room.check_group", mD 75 9 "Room" "present_odds" "Room.present_odds", pD 75 8 "Room" "regions" "Room.regions", mD 75 14 "Room" "answer" "Room.answer", mD 75 13 "Room" "supposed" "Room.supposed"]
def fns : List DefZ := fnG ++ fnM
/-! ### facts -/
def fa : List He.Fa := [.free "len", .free "abs", .free "isinstance", .free "int", .free "bool", .free "tuple", .free "str", .free "list", .free "range", .free "enumerate", .free "zip", .free "all", .free "sum", .free "max", .free "min", .free "repr",
  .int "MOST_CASES" 12, .glo "Observer", .glo "Presence", .glo "Room", .glo "QUESTIONS", .cls "Observer", .cls "Presence", .cls "Room", .mkr "Observer", .mkr "Presence", .mkr "Room",
  .noat "Observer" "own_labels", .noat "Observer" "own_parts", .noat "Observer" "own_odds", .noat "Presence" "kept", .noat "Presence" "before", .noat "Room" "watchers", .noat "Room" "size", .noat "Room" "presence",
  .meth "Observer" "assign_odds", .meth "Presence" "__enter__", .meth "Presence" "__exit__", .meth "Room" "assign_cases", .meth "Room" "check_group", .meth "Room" "present_odds", .meth "Room" "supposed", .meth "Room" "answer"]
def fg : List He.Fa := fnG.map fun d => .glo d.name
def insB (K : PySem.W.Frag) (x : Str) : Bool := eqO (PySem.W.findIn K (.ref (ga K x)) "__class__") (some (some (.builtin "object.__class__"))) && (eqO (PySem.W.specialIn K (.builtin "object.__class__") "__get__") (some (some (.builtin "getset_descriptor.__get__"))) &&
  (decide (PySem.W.takesIn K (.builtin "object.__class__") = some true) && decide (PySem.W.mroIn K (ga K x) (.type "object") = some true)))
def propB (K : PySem.W.Frag) (C f : Str) : Bool := eqO (PySem.W.findIn K (.ref (ga K C)) f) (some (some (.ref (pAt K C f)))) && (eqO (PySem.W.specialIn K (.ref (pAt K C f)) "__get__") (some (some (.builtin "property.__get__"))) && (decide (PySem.W.takesIn K (.ref (pAt K C f)) = some true) &&
  (match PySem.W.recIn K (pAt K C f) "property" with
    | some (.ref g :: _) => decide (g = gAt K C f)
    | _ => false)))
def setB (K : PySem.W.Frag) (C f : Str) : Bool := eqO (PySem.W.takerIn K (ga K C) f) (some (some (.ref (pAt K C f)))) && (decide (PySem.W.typeIn K (.ref (pAt K C f)) = some (.type "property")) && (match PySem.W.recIn K (pAt K C f) "property" with
    | some (_ :: .ref g :: _) => decide (g = sAt K C f)
    | _ => false))
def bmB (K : PySem.W.Frag) (C m : Str) : Bool := eqO (PySem.W.specialIn K (.ref (ma K (ga K C) m)) "__get__") (some (some (.builtin "function.__get__"))) && (decide (PySem.W.takesIn K (.ref (ma K (ga K C) m)) = some false) && PySem.W.fnIn K (ma K (ga K C) m))
def neB (K : PySem.W.Frag) : Bool := !decide (ga K "Observer" = ga K "Presence") && (!decide (ga K "Presence" = ga K "Room") && !decide (ga K "Observer" = ga K "Room"))
def props : List (Str × Str) := [("Observer", "labels"), ("Observer", "odds"), ("Room", "observers"), ("Room", "cases"), ("Room", "regions")]
def qk : List Str := ["cases", "regions", "present_odds", "source", "wager"]
def qv : List (Str × Dv) := [("cases", .int 0), ("regions", .int 0), ("present_odds", .int 1)]
def allB (K : PySem.W.Frag) : Bool := (fa.all fun f => f.ok K) && ((fg.all fun f => f.ok K) && ((fns.all fun d => okA K (d.path K) d.qual) && (insB K "Observer" && ((props.all fun p => propB K p.1 p.2) && (setB K "Room" "cases" && (bmB K "Room" "present_odds" && (neB K && (He.conB K "Room" "MOST_OBSERVERS" (.int 6) && He.valsB K (ga K "QUESTIONS") qv))))))))
abbrev AlZ : Type := Bool × List FnW × Option (List (Option (Str × Int)))
def obsZ (K : PySem.W.Frag) : AlZ := (allB K, fns.map fun d => fnA K (d.path K), dicW K (ga K "QUESTIONS"))
def valZ (w : World) : AlZ := (true, fns.map DefZ.val, some (keysIn w.params qk))
def refs1 (g : Addr → Option Obj) (as : List Addr) : List Addr := as.flatMap fun a => match g a with
  | some o => He.refsD o
  | none => []
def clsN : List Str := ["Observer", "Presence", "Room"]
def nsOf (o : Obj) : List Addr := match o.data with
  | .cls cd => [cd.ns]
  | _ => []
def ns1 (g : Addr → Option Obj) (as : List Addr) : List Addr := as.flatMap fun a => match g a with
  | some o => nsOf o
  | none => []
def asZ (g : Addr → Option Obj) : List Addr :=
  let K0 := frG g [mainGlobals]
  let fs := fnG.map fun d => ga K0 d.name
  let cl := clsN.map fun x => ga K0 x
  let cn := ns1 g cl
  let cv := refs1 g cn
  let pv := refs1 g cv
  [mainGlobals, ga K0 "QUESTIONS"] ++ (cl ++ (cn ++ (cv ++ (fs ++ (refs1 g fs ++ (pv ++ refs1 g pv))))))
def obsZG (n : Nat) (g : Addr → Option Obj) : AlZ := obsZ (frG g (asZ g))
def hookZ (n : Nat) : PySem.W.Hook where
  α := AlZ
  obs := fun s => obsZG n s.heap.get?
  val := fun w => valZ w
  says := fun w h => ∃ K : PySem.W.Frag, K.In h ∧ obsZ K = valZ w
  of := fun _ _ e => ⟨_, He.frG_in, e⟩
  keeps := fun _ _ _ ⟨K, hK, c⟩ k => ⟨K, PySem.W.Frag.In.keeps hK k, c⟩
theorem obsZG_eq {n : Nat} {g : Addr → Option Obj} {s : Shared} (h : ∀ a, g a = s.heap.get? a) : obsZG n g = (hookZ n).obs s := by
  have e : g = s.heap.get? := funext h
  rw [e] <;> rfl
abbrev R : PySem.W.OpenRow := PySem.W.OpenLaw.row PySem.Challenge.rw_wagerroom_k73_whole_suppositions_in_turn
abbrev qvw : Program := PySem.W.view R.prog [97]
def nm0 : List PySem.Str := ["_wall", "RoomError", "InvalidFractionError", "InvalidLabelsError", "MismatchError", "InvalidOddsError", "InvalidEventError", "InvalidAmountsError", "InvalidRoomError", "InvalidGroupError", "InvalidQuestionError", "EmptyEventError", "InvalidRegionError", "InvalidTextError", "is_integer", "greatest_divisor", "is_valid_fraction", "is_positive", "reduced", "plus", "minus", "times", "over", "added", "shares", "MOST_CASES", "is_valid_labels", "is_valid_event", "check_labels", "grouped"]
def nm1 : List PySem.Str := ["relabelled", "check_partitions", "joined", "are_odds", "are_amounts", "Observer", "region_cases", "present_parts", "steps_from", "spread", "backwards", "contradiction", "source", "DIGITS", "FIGURES", "figures", "number_of", "written", "is_number_text", "format_fraction", "parse_fraction", "ZERO", "ONE", "without_repeats", "node_at", "odds_at", "tree_from", "grown", "needs_of", "pay"]
def nm2 : List PySem.Str := ["walk_payments", "wager", "QUESTIONS", "read_entry", "read_line", "line_of", "Presence", "Room", "_law_cell", "_law_source", "_law_draw", "_law_choose", "_law_is_equal", "_law_divisor", "_law_fraction", "_law_add", "_law_over", "_law_sum", "_law_labels", "_law_canonical", "_law_odds", "_law_weights", "_law_ring", "_law_rows", "_law_room", "_law_answers", "_law_kept", "_law_follows"]
def names : List PySem.Str := nm0 ++ nm1 ++ nm2
abbrev hk : PySem.W.Hook := hookZ 6
def ob (s : PySem.W.SharedT) : AlZ := obsZG 6 (HandSHeadRun.getT s)
theorem ob_eq (s : PySem.W.SharedT) : ob s = hk.obs s.abs := obsZG_eq (HandSHeadRun.getT_eq s)
theorem run_f (w : World) : HandSHeadRun.RunEq R qvw hk ob 8000 names (w.withFollow "special-get-raises" false) := by
  intro os
  kernel_rfl
theorem run_t (w : World) : HandSHeadRun.RunEq R qvw hk ob 8000 names (w.withFollow "special-get-raises" true) := by
  intro os
  kernel_rfl
theorem run (w : World) : HandSHeadRun.RunEq R qvw hk ob 8000 names w := PySem.W.byRow2 "special-get-raises" (P := fun w => HandSHeadRun.RunEq R qvw hk ob 8000 names w) run_f run_t w
end Zh
set_option Elab.async false
set_option linter.all false
set_option maxRecDepth 100000
set_option maxHeartbeats 1000000
namespace Zy
/-! lists, plain -/
theorem get_map {α β : Type} {f : α → β} {xs : List α} {i : Nat} {d : β} (h : (xs.map f)[i]? = some d) : ∃ x, xs[i]? = some x ∧ f x = d := by
  rw [List.getElem?_map] at h
  exact Option.map_eq_some_iff.mp h
theorem take_snoc {α : Type} {xs : List α} {i : Nat} {x : α} (h : xs[i]? = some x) : xs.take (i + 1) = xs.take i ++ [x] := by
  rw [List.take_add_one, h]; rfl
theorem drop_head {α : Type} {xs : List α} {i : Nat} {x : α} (h : xs[i]? = some x) : xs.drop i = x :: xs.drop (i + 1) := by
  obtain ⟨hi, e⟩ := List.getElem?_eq_some_iff.mp h
  rw [List.drop_eq_getElem_cons hi, e]
theorem zset_self {α : Type} {xs : List α} {i : Nat} {x : α} (h : xs[i]? = some x) : xs.set i x = xs := by
  refine List.ext_getElem? fun j => ?_
  rw [List.getElem?_set]
  split
  · rename_i e
    subst e
    rw [h]
    simp [(List.getElem?_eq_some_iff.mp h).1]
  · rfl
theorem fm_map {α β : Type} {f : α → β} (xs : List α) : (List.range xs.length).filterMap (fun i => xs[i]?.map f) = xs.map f := by
  have h : ∀ n, n ≤ xs.length → (List.range n).filterMap (fun i => xs[i]?.map f) = (xs.take n).map f := by
    intro n
    induction n with
    | zero => intro _; simp
    | succ n ih =>
      intro hn
      rw [List.range_succ, List.filterMap_append, ih (by omega)]
      have e : xs[n]? = some (xs[n]'(by omega)) := List.getElem?_eq_getElem (by omega)
      rw [take_snoc e, List.map_append]
      simp [e]
  rw [h _ (Nat.le_refl _), List.take_length]
theorem fm_filter {α β : Type} {f : α → Option β} (xs : List α) : (List.range xs.length).filterMap (fun i => xs[i]?.bind f) = xs.filterMap f := by
  have h : ∀ n, n ≤ xs.length → (List.range n).filterMap (fun i => xs[i]?.bind f) = (xs.take n).filterMap f := by
    intro n
    induction n with
    | zero => intro _; simp
    | succ n ih =>
      intro hn
      rw [List.range_succ, List.filterMap_append, ih (by omega)]
      have e : xs[n]? = some (xs[n]'(by omega)) := List.getElem?_eq_getElem (by omega)
      rw [take_snoc e, List.filterMap_append, List.filterMap_cons, List.filterMap_cons]
      simp only [e, Option.bind_some, List.filterMap_nil]
  rw [h _ (Nat.le_refl _), List.take_length]
theorem fm_if {α β : Type} {p : α → Bool} {f : α → β} : ∀ xs : List α, xs.filterMap (fun x => if p x then some (f x) else none) = (xs.filter p).map f
  | [] => rfl
  | x :: r => by
    rw [List.filterMap_cons, List.filter_cons]
    cases h : p x with
    | true => simp [fm_if r]
    | false => simp [fm_if r]
/-! sums -/
def rsum (qs : List Rat) : Rat := qs.foldl (· + ·) 0
theorem rsum_snoc {qs : List Rat} {x : Rat} : rsum (qs ++ [x]) = rsum qs + x := by simp [rsum]
theorem rsum_take {qs : List Rat} {i : Nat} {x : Rat} (h : qs[i]? = some x) : rsum (qs.take (i + 1)) = rsum (qs.take i) + x := by rw [take_snoc h, rsum_snoc]
theorem foldl_add {qs : List Rat} : ∀ {a : Rat}, qs.foldl (· + ·) a = a + qs.foldl (· + ·) 0 := by
  induction qs with
  | nil => intro a; simp [Rat.add_zero]
  | cons x r ih =>
    intro a
    rw [List.foldl_cons, List.foldl_cons, ih, ih (a := 0 + x), Rat.zero_add, Rat.add_assoc]
theorem rsum_cons {qs : List Rat} {x : Rat} : rsum (x :: qs) = x + rsum qs := by
  unfold rsum
  rw [List.foldl_cons, foldl_add, Rat.zero_add]
theorem rsum_nil : rsum [] = 0 := rfl
theorem rsum_pos {qs : List Rat} (h : ∀ q ∈ qs, 0 < q) (n : qs ≠ []) : 0 < rsum qs := by
  induction qs with
  | nil => exact absurd rfl n
  | cons x r ih =>
    rw [rsum_cons]
    have hx := h x List.mem_cons_self
    by_cases hr : r = []
    · subst hr
      rw [rsum_nil, Rat.add_zero]; exact hx
    · have := ih (fun q hq => h q (List.mem_cons_of_mem _ hq)) hr
      grind
theorem rsum_mul {qs : List Rat} {c : Rat} : rsum (qs.map fun q => c * q) = c * rsum qs := by
  induction qs with
  | nil => simp [rsum_nil, Rat.mul_zero]
  | cons x r ih => rw [List.map_cons, rsum_cons, rsum_cons, ih, Rat.mul_add]
/-! labels -/
def rgs : Nat → List Nat → Prop
  | _, [] => True
  | u, x :: r => x ≤ u ∧ rgs (if x = u then u + 1 else u) r
def relS (p : List Nat × List Nat) (k : Nat) : List Nat × List Nat :=
  let s := if k ∈ p.1 then p.1 else p.1 ++ [k]
  (s, p.2 ++ [s.idxOf k])
def relF (ks : List Nat) : List Nat × List Nat := ks.foldl relS ([], [])
def relab (ks : List Nat) : List Nat := (relF ks).2
theorem relF_snoc {ks : List Nat} {k : Nat} : relF (ks ++ [k]) = relS (relF ks) k := by simp [relF]
theorem relF_len (ks : List Nat) : (relF ks).1.length ≤ ks.length ∧ (relF ks).2.length = ks.length := by
  have g : ∀ n, n ≤ ks.length → (relF (ks.take n)).1.length ≤ n ∧ (relF (ks.take n)).2.length = n := by
    intro n
    induction n with
    | zero => intro _; exact ⟨Nat.le_refl _, rfl⟩
    | succ n ih =>
      intro hn
      have e : ks[n]? = some (ks[n]'(by omega)) := List.getElem?_eq_getElem (by omega)
      rw [take_snoc e, relF_snoc]
      obtain ⟨h1, h2⟩ := ih (by omega)
      unfold relS
      refine ⟨?_, by simp [h2]⟩
      by_cases h : ks[n]'(by omega) ∈ (relF (ks.take n)).1
      · simp [h]; omega
      · simp [h]; omega
  have := g ks.length (Nat.le_refl _)
  rwa [List.take_length] at this
def maxN (ls : List Nat) : Nat := ls.foldl max 0
def groups (ls : List Nat) : List (List Nat) := (List.range (maxN ls + 1)).map fun k => (List.range ls.length).filter fun i => ls[i]? == some k
def mergeC (kept : Nat) (g : List Nat) (c : Nat) : List Nat := g.map fun x => if x = g.getD c 0 then kept else x
def mergeP (g : List Nat) (part : List Nat) : List Nat := part.foldl (mergeC (g.getD (part.headD 0) 0)) g
def mergeL (g : List Nat) (ls : List Nat) : List Nat := (groups ls).foldl mergeP g
def joinG (m : Nat) (rows : List (List Nat)) : List Nat := rows.foldl mergeL (List.range m)
theorem maxN_snoc {ls : List Nat} {x : Nat} : maxN (ls ++ [x]) = max (maxN ls) x := by simp [maxN]
theorem le_maxN {ls : List Nat} : ∀ x ∈ ls, x ≤ maxN ls := by
  have h : ∀ (ls : List Nat) (a : Nat), a ≤ ls.foldl max a ∧ ∀ x ∈ ls, x ≤ ls.foldl max a := by
    intro ls
    induction ls with
    | nil => intro a; exact ⟨Nat.le_refl _, fun x hx => by cases hx⟩
    | cons y r ih =>
      intro a
      rw [List.foldl_cons]
      obtain ⟨h1, h2⟩ := ih (max a y)
      refine ⟨by omega, fun x hx => ?_⟩
      rcases List.mem_cons.mp hx with rfl | hx
      · omega
      · exact h2 x hx
  exact (h ls 0).2
theorem maxN_le {ls : List Nat} {b : Nat} (h : ∀ x ∈ ls, x ≤ b) : maxN ls ≤ b := by
  have g : ∀ (ls : List Nat) (a : Nat), a ≤ b → (∀ x ∈ ls, x ≤ b) → ls.foldl max a ≤ b := by
    intro ls
    induction ls with
    | nil => intro a ha _; exact ha
    | cons y r ih =>
      intro a ha hb
      rw [List.foldl_cons]
      exact ih _ (by have := hb y List.mem_cons_self; omega) fun x hx => hb x (List.mem_cons_of_mem _ hx)
  exact g ls 0 (Nat.zero_le _) h
theorem mergeC_len {k : Nat} {g : List Nat} {c : Nat} : (mergeC k g c).length = g.length := by simp [mergeC]
theorem foldC_len {k : Nat} : ∀ {part g : List Nat}, (part.foldl (mergeC k) g).length = g.length
  | [], _ => rfl
  | c :: r, g => by rw [List.foldl_cons, foldC_len, mergeC_len]
theorem mergeP_len {g part : List Nat} : (mergeP g part).length = g.length := foldC_len
theorem foldP_len : ∀ {ps : List (List Nat)} {g : List Nat}, (ps.foldl mergeP g).length = g.length
  | [], _ => rfl
  | p :: r, g => by rw [List.foldl_cons, foldP_len, mergeP_len]
theorem mergeL_len {g ls : List Nat} : (mergeL g ls).length = g.length := foldP_len
theorem foldL_len : ∀ {rows : List (List Nat)} {g : List Nat}, (rows.foldl mergeL g).length = g.length
  | [], _ => rfl
  | p :: r, g => by rw [List.foldl_cons, foldL_len, mergeL_len]
theorem joinG_len {m : Nat} {rows : List (List Nat)} : (joinG m rows).length = m := by
  unfold joinG
  rw [foldL_len, List.length_range]
theorem rgs_app : ∀ {u : Nat} {a b : List Nat}, rgs u (a ++ b) → rgs u a
  | _, [], _, _ => trivial
  | u, x :: r, b, h => ⟨h.1, rgs_app h.2⟩
/-- every label from u up to the greatest stands -/
theorem rgs_all : ∀ {u : Nat} {ls : List Nat}, rgs u ls → ∀ k, u ≤ k → (∃ x ∈ ls, k ≤ x) → k ∈ ls
  | _, [], _, _, _, ⟨x, hx, _⟩ => by cases hx
  | u, y :: r, h, k, hk, ⟨x, hx, hkx⟩ => by
    obtain ⟨h1, h2⟩ := h
    by_cases e : k = y
    · subst e; exact List.mem_cons_self
    · rcases List.mem_cons.mp hx with rfl | hx
      · omega
      · refine List.mem_cons_of_mem _ (rgs_all h2 k ?_ ⟨x, hx, hkx⟩)
        split
        · omega
        · exact hk
theorem rgs_lt : ∀ {u : Nat} {ls : List Nat}, rgs u ls → ∀ x ∈ ls, x < u + ls.length
  | _, [], _, _, hx => by cases hx
  | u, y :: r, h, x, hx => by
    obtain ⟨h1, h2⟩ := h
    rw [List.length_cons]
    rcases List.mem_cons.mp hx with rfl | hx
    · omega
    · have := rgs_lt h2 x hx
      split at this <;> omega
def rgsU : Nat → List Nat → Nat
  | u, [] => u
  | u, x :: r => rgsU (if x = u then u + 1 else u) r
theorem rgs_snoc : ∀ {u : Nat} {ls : List Nat} {x : Nat}, rgs u ls → x ≤ rgsU u ls → rgs u (ls ++ [x])
  | _, [], _, _, hx => ⟨hx, trivial⟩
  | u, y :: r, _, h, hx => ⟨h.1, rgs_snoc h.2 hx⟩
theorem rgsU_snoc : ∀ {u : Nat} {ls : List Nat} {x : Nat}, rgsU u (ls ++ [x]) = if x = rgsU u ls then rgsU u ls + 1 else rgsU u ls
  | _, [], _ => rfl
  | u, y :: r, x => rgsU_snoc (u := if y = u then u + 1 else u) (ls := r)
theorem rgsU_max : ∀ {u : Nat} {ls : List Nat}, rgs (u + 1) ls → rgsU (u + 1) ls = max u (maxN ls) + 1
  | u, [], _ => by simp [rgsU, maxN]
  | u, x :: r, h => by
    obtain ⟨h1, h2⟩ := h
    have em : maxN (x :: r) = max x (maxN r) := by
      unfold maxN
      rw [List.foldl_cons, Nat.zero_max]
      have g : ∀ (l : List Nat) (a : Nat), l.foldl max a = max a (l.foldl max 0) := by
        intro l
        induction l with
        | nil => intro a; simp
        | cons y t ih => intro a; rw [List.foldl_cons, List.foldl_cons, ih, ih (max 0 y)]; omega
      exact g r x
    unfold rgsU
    by_cases e : x = u + 1
    · subst e
      rw [if_pos rfl] at h2 ⊢
      rw [rgsU_max h2, em]
      omega
    · rw [if_neg e] at h2 ⊢
      rw [rgsU_max h2, em]
      omega
theorem rgs0_max {ls : List Nat} (h : rgs 0 ls) (n : ls ≠ []) : rgsU 0 ls = maxN ls + 1 := by
  cases ls with
  | nil => exact absurd rfl n
  | cons x r =>
    obtain ⟨h1, h2⟩ := h
    have hx : x = 0 := by omega
    subst hx
    have h2' : rgs (0 + 1) r := by simpa using h2
    have := rgsU_max h2'
    unfold rgsU
    rw [if_pos rfl, this]
    have em : maxN (0 :: r) = maxN r := by unfold maxN; rw [List.foldl_cons]; rfl
    rw [em]; omega
theorem relab_rgs (ks : List Nat) : rgs 0 (relab ks) ∧ rgsU 0 (relab ks) = (relF ks).1.length := by
  have g : ∀ n, n ≤ ks.length → rgs 0 (relF (ks.take n)).2 ∧ rgsU 0 (relF (ks.take n)).2 = (relF (ks.take n)).1.length := by
    intro n
    induction n with
    | zero => intro _; exact ⟨trivial, rfl⟩
    | succ n ih =>
      intro hn
      have e : ks[n]? = some (ks[n]'(by omega)) := List.getElem?_eq_getElem (by omega)
      rw [take_snoc e, relF_snoc]
      generalize ks[n]'(by omega) = k
      obtain ⟨h1, h2⟩ := ih (by omega)
      unfold relS
      by_cases h : k ∈ (relF (ks.take n)).1
      · simp only [h, if_true]
        have hi := List.idxOf_lt_length_iff.mpr h
        refine ⟨rgs_snoc h1 (by omega), ?_⟩
        rw [rgsU_snoc, if_neg (by omega), h2]
      · simp only [h, if_false]
        have hi : (List.idxOf k ((relF (ks.take n)).1 ++ [k])) = (relF (ks.take n)).1.length := by
          rw [List.idxOf_append, if_neg h]
          simp
        rw [hi]
        refine ⟨rgs_snoc h1 (by omega), ?_⟩
        rw [rgsU_snoc, if_pos h2.symm, h2, List.length_append]
        rfl
  have := g ks.length (Nat.le_refl _)
  rwa [List.take_length] at this
theorem relab_len (ks : List Nat) : (relab ks).length = ks.length := (relF_len ks).2
theorem relab_lt (ks : List Nat) : ∀ x ∈ relab ks, x < ks.length := fun x hx => by
  have := rgs_lt (relab_rgs ks).1 x hx
  rw [relab_len] at this
  omega
/-- the parts of labels -/
theorem groups_len {ls : List Nat} : (groups ls).length = maxN ls + 1 := by simp [groups]
theorem groups_get {ls : List Nat} {k : Nat} {p : List Nat} (h : (groups ls)[k]? = some p) : k ≤ maxN ls ∧ p = (List.range ls.length).filter fun i => ls[i]? == some k := by
  unfold groups at h
  obtain ⟨x, hx, e⟩ := get_map h
  have hl := (List.getElem?_eq_some_iff.mp hx).1
  rw [List.length_range] at hl
  rw [List.getElem?_range hl] at hx
  have := Option.some.inj hx
  subst this
  exact ⟨by omega, e.symm⟩
theorem mem_group {ls : List Nat} {k i : Nat} : i ∈ ((List.range ls.length).filter fun i => ls[i]? == some k) ↔ ls[i]? = some k := by
  rw [List.mem_filter, List.mem_range]
  constructor
  · rintro ⟨_, h⟩; simpa using h
  · intro h; exact ⟨(List.getElem?_eq_some_iff.mp h).1, by simpa using h⟩
theorem groups_ne {ls : List Nat} (h : rgs 0 ls) (n : ls ≠ []) : ∀ p ∈ groups ls, p ≠ [] := by
  intro p hp
  obtain ⟨k, hk⟩ := List.getElem?_of_mem hp
  obtain ⟨hle, rfl⟩ := groups_get hk
  have hmax : ∃ x ∈ ls, maxN ls ≤ x := by
    have g : ∀ (ls : List Nat) (a : Nat), ls.foldl max a = a ∨ ls.foldl max a ∈ ls := by
      intro ls
      induction ls with
      | nil => intro a; exact .inl rfl
      | cons y r ih =>
        intro a
        rw [List.foldl_cons]
        rcases ih (max a y) with e | e
        · rcases Nat.le_total a y with l | l
          · right; rw [e, Nat.max_eq_right l]; exact List.mem_cons_self
          · left; rw [e, Nat.max_eq_left l]
        · exact .inr (List.mem_cons_of_mem _ e)
    rcases g ls 0 with e | e
    · cases ls with
      | nil => exact absurd rfl n
      | cons y r => exact ⟨y, List.mem_cons_self, by show (y :: r).foldl max 0 ≤ y; rw [e]; exact Nat.zero_le _⟩
    · exact ⟨_, e, Nat.le_refl _⟩
  obtain ⟨x, hx, hm⟩ := hmax
  have hin := rgs_all h k (Nat.zero_le _) ⟨x, hx, by omega⟩
  obtain ⟨i, hi⟩ := List.getElem?_of_mem hin
  exact List.ne_nil_of_mem (mem_group.mpr hi)
end Zy
set_option Elab.async false
set_option linter.all false
set_option maxRecDepth 100000
set_option maxHeartbeats 4000000
/-! A symbolic layer over HandS: data, memory cells, judgements. -/
namespace Zy
open PySem L2

inductive Dt where
  | non | bl (b : Bool) | int (i : Int) | str (x : Str) | adr (a : Addr) | scr (ns : List Int) | tup (b : Bool) (ds : List Dt)

/-- a list that never changes: frozen, or the module's own -/
def SqF (K : PySem.W.Frag) (H : Hp) (a : Addr) (xs : List V) : Prop :=
  (∃ o, H a = some (.frz o (.lst xs))) ∨
    ∃ (o : Obj) (its : Array Value) (n : Nat), K.lookup a = some o ∧ o.cls = .type "list" ∧ o.dict = none ∧ o.data = .seq its n ∧ its.size ≤ sizeLine ∧ Vals xs its.toList
theorem SqF.l {K : PySem.W.Frag} {H : Hp} {a : Addr} {xs : List V} (h : SqF K H a xs) : SqL K H a xs := by
  rcases h with ⟨o, h⟩ | h
  · exact .inl (.inr ⟨o, h⟩)
  · exact .inr h

mutual
inductive TV (K : PySem.W.Frag) (H : Hp) : V → Dt → Prop
  | non : TV K H .non .non
  | bl (b : Bool) : TV K H (.bl b) (.bl b)
  | int (i : Int) : TV K H (.int i) (.int i)
  | str (x : Str) : TV K H (.str x) (.str x)
  | adr (a : Addr) : TV K H (.ref a) (.adr a)
  | scr {a : Addr} {ns : List Int} : SqF K H a (ns.map V.int) → TV K H (.ref a) (.scr ns)
  | tup {a : Addr} {b : Bool} {vs : List V} {ds : List Dt} : SqT K H a vs → (b = true → ∃ o : Obj, H a = some (.frz o (.tup vs)) ∧ o.dict = none) → TVs K H vs ds → TV K H (.ref a) (.tup b ds)
inductive TVs (K : PySem.W.Frag) (H : Hp) : List V → List Dt → Prop
  | nil : TVs K H [] []
  | cons {v : V} {vs : List V} {d : Dt} {ds : List Dt} : TV K H v d → TVs K H vs ds → TVs K H (v :: vs) (d :: ds)
end

/-- what never changes stays -/
def Tu (H H' : Hp) : Prop := ∀ a, (∀ xs, H a = some (.tup xs) → H' a = some (.tup xs)) ∧ ∀ o u, H a = some (.frz o u) → H' a = some (.frz o u)
theorem _root_.Evl.Ex.tu {H H' : Hp} (e : Evl.Ex H H') : Tu H H' := fun a => ⟨fun _ h => e a _ h, fun _ _ h => e a _ h⟩
theorem _root_.Evl.Ex.none {H H' : Hp} (e : Evl.Ex H H') {p : Addr} (h : H' p = none) : H p = none := by
  cases q : H p with
  | none => rfl
  | some o => rw [e p o q] at h; cases h
theorem Tu.refl (H : Hp) : Tu H H := (Evl.Ex.refl H).tu
theorem Tu.trans {H H1 H2 : Hp} (a : Tu H H1) (b : Tu H1 H2) : Tu H H2 := fun x => ⟨fun xs h => (b x).1 xs ((a x).1 xs h), fun o u h => (b x).2 o u ((a x).2 o u h)⟩
theorem Tu.new {H : Hp} {p : Addr} {o : HO} (h : H p = none) : Tu H (upd H p o) := (Evl.Ex.new h).tu
/-- what may change -/
def Mb : HO → Bool
  | .tup _ => false
  | .frz _ _ => false
  | _ => true
theorem Tu.write {H : Hp} {p : Addr} {o u : HO} (h : H p = some o) (m : Mb o = true) : Tu H (upd H p u) := fun a => by
  by_cases e : a = p
  · subst e
    refine ⟨fun xs q => ?_, fun ob x q => ?_⟩
    · rw [h] at q; cases q; cases m
    · rw [h] at q; cases q; cases m
  · rw [upd_ne e]
    exact ⟨fun _ q => q, fun _ _ q => q⟩

section
variable {K : PySem.W.Frag} {H H' : Hp}
theorem sqT_tu (e : Tu H H') {a : Addr} {xs : List V} (h : SqT K H a xs) : SqT K H' a xs := by
  rcases h with (h | ⟨o, h⟩) | h
  · exact .inl (.inl ((e a).1 _ h))
  · exact .inl (.inr ⟨o, (e a).2 _ _ h⟩)
  · exact .inr h
theorem sqF_tu (e : Tu H H') {a : Addr} {xs : List V} (h : SqF K H a xs) : SqF K H' a xs := by
  rcases h with ⟨o, h⟩ | h
  · exact .inl ⟨o, (e a).2 _ _ h⟩
  · exact .inr h
mutual
theorem TV.mono (e : Tu H H') : ∀ {v : V} {d : Dt}, TV K H v d → TV K H' v d
  | _, _, .non => .non
  | _, _, .bl b => .bl b
  | _, _, .int i => .int i
  | _, _, .str x => .str x
  | _, _, .adr a => .adr a
  | _, _, .scr h => .scr (sqF_tu e h)
  | _, _, .tup h hb hs => .tup (sqT_tu e h) (fun z => let ⟨o, q, d⟩ := hb z; ⟨o, (e _).2 _ _ q, d⟩) (TVs.mono e hs)
theorem TVs.mono (e : Tu H H') : ∀ {vs : List V} {ds : List Dt}, TVs K H vs ds → TVs K H' vs ds
  | _, _, .nil => .nil
  | _, _, .cons h hs => .cons (TV.mono e h) (TVs.mono e hs)
end
theorem TVs.length : ∀ {vs : List V} {ds : List Dt}, TVs K H vs ds → vs.length = ds.length
  | _, _, .nil => rfl
  | _, _, .cons _ hs => congrArg (· + 1) hs.length
theorem TVs.get : ∀ {vs : List V} {ds : List Dt} {i : Nat} {d : Dt}, TVs K H vs ds → ds[i]? = some d → ∃ v, vs[i]? = some v ∧ TV K H v d
  | _, _, _, _, .nil, e => by simp at e
  | _, _, 0, _, .cons r _, e => by simp at e; subst e; exact ⟨_, rfl, r⟩
  | _, _, i + 1, d, .cons _ t, e => by
    obtain ⟨u, h1, h2⟩ := TVs.get (i := i) (d := d) t (by simpa using e)
    exact ⟨u, by simpa using h1, h2⟩
theorem TVs.getV : ∀ {vs : List V} {ds : List Dt} {i : Nat} {v : V}, TVs K H vs ds → vs[i]? = some v → ∃ d, ds[i]? = some d ∧ TV K H v d
  | _, _, _, _, .nil, e => by simp at e
  | _, _, 0, _, .cons r _, e => by simp at e; subst e; exact ⟨_, rfl, r⟩
  | _, _, i + 1, d, .cons _ t, e => by
    obtain ⟨u, h1, h2⟩ := TVs.getV (i := i) (v := d) t (by simpa using e)
    exact ⟨u, by simpa using h1, h2⟩
theorem TVs.append : ∀ {vs ws : List V} {ds es : List Dt}, TVs K H vs ds → TVs K H ws es → TVs K H (vs ++ ws) (ds ++ es)
  | _, _, _, _, .nil, h => h
  | _, _, _, _, .cons r t, h => .cons r (TVs.append t h)
theorem TVs.set {v : V} {d : Dt} (r : TV K H v d) : ∀ {vs : List V} {ds : List Dt} (i : Nat), TVs K H vs ds → TVs K H (vs.set i v) (ds.set i d)
  | _, _, _, .nil => .nil
  | _, _, 0, .cons _ t => .cons r t
  | _, _, i + 1, .cons q t => .cons q (TVs.set r i t)
theorem TVs.eraseIdx : ∀ {vs : List V} {ds : List Dt} (i : Nat), TVs K H vs ds → TVs K H (vs.eraseIdx i) (ds.eraseIdx i)
  | _, _, _, .nil => .nil
  | _, _, 0, .cons _ t => t
  | _, _, i + 1, .cons q t => .cons q (TVs.eraseIdx i t)
theorem TVs.take : ∀ {vs : List V} {ds : List Dt} (i : Nat), TVs K H vs ds → TVs K H (vs.take i) (ds.take i)
  | _, _, 0, _ => .nil
  | _, _, _ + 1, .nil => .nil
  | _, _, i + 1, .cons q t => .cons q (TVs.take i t)
theorem TVs.drop : ∀ {vs : List V} {ds : List Dt} (i : Nat), TVs K H vs ds → TVs K H (vs.drop i) (ds.drop i)
  | _, _, 0, r => r
  | _, _, _ + 1, .nil => .nil
  | _, _, i + 1, .cons _ t => TVs.drop i t
theorem TVs.reverse : ∀ {vs : List V} {ds : List Dt}, TVs K H vs ds → TVs K H vs.reverse ds.reverse
  | _, _, .nil => .nil
  | _, _, .cons q t => by
    rw [List.reverse_cons, List.reverse_cons]
    exact (TVs.reverse t).append (.cons q .nil)
theorem TVs.ints : ∀ {vs : List V} {ns : List Int}, TVs K H vs (ns.map Dt.int) → vs = ns.map V.int
  | _, [], .nil => rfl
  | _, n :: ns, .cons h t => by
    cases h
    rw [TVs.ints t]
    rfl
theorem TVs.of_ints : ∀ {ns : List Int}, TVs K H (ns.map V.int) (ns.map Dt.int)
  | [] => .nil
  | _ :: _ => .cons (.int _) TVs.of_ints
theorem TVs.bls : ∀ {vs : List V} {ns : List Bool}, TVs K H vs (ns.map Dt.bl) → vs = ns.map V.bl
  | _, [], .nil => rfl
  | _, n :: ns, .cons h t => by
    cases h
    rw [TVs.bls t]
    rfl
end

/-- a plain tuple, just laid -/
theorem TV.new {K : PySem.W.Frag} {H : Hp} {p : Addr} {o : Obj} {vs : List V} {ds : List Dt} (hp : H p = none) (ho : o.dict = none) (h : TVs K H vs ds) : TV K (upd H p (.frz o (.tup vs))) (.ref p) (.tup true ds) :=
  .tup (.inl (.inr ⟨o, upd_same⟩)) (fun _ => ⟨o, upd_same, ho⟩) (h.mono (Tu.new hp))
/-- a tuple, just laid -/
theorem TV.newF {K : PySem.W.Frag} {H : Hp} {p : Addr} {vs : List V} {ds : List Dt} (hp : H p = none) (h : TVs K H vs ds) : TV K (upd H p (.tup vs)) (.ref p) (.tup false ds) :=
  .tup (SqT.of upd_same) (fun z => Bool.noConfusion z) (h.mono (Tu.new hp))

/-! ### memory -/
inductive MO where
  | lst (ds : List Dt)
  | dct (kvs : List (Int × Dt))
  | ins (C : Addr) (fs : List (Str × Dt))
  | sup
  | prs (C : Addr) (kept : Dt)
section
variable (K : PySem.W.Frag) (H : Hp)
def KVo (p : Key × V) (q : Int × Dt) : Prop := p.1 = Sum.inl q.1 ∧ TV K H p.2 q.2
def FVo (p : Str × V) (q : Str × Dt) : Prop := p.1 = q.1 ∧ TV K H p.2 q.2
def OH (a : Addr) : MO → Prop
  | .lst ds => ∃ vs, H a = some (.lst vs) ∧ TVs K H vs ds
  | .dct kvs => ∃ vs, H a = some (.dK vs) ∧ Paired (KVo K H) vs kvs
  | .ins C fs => ∃ dx vs, H a = some (.ins C dx vs) ∧ Paired (FVo K H) vs fs
  | .sup => ∃ x y z : Int, H a = some (.lst [.int x, .int y, .int z]) ∧ 0 ≤ x ∧ 0 ≤ y ∧ y < 2147483648
  | .prs C d => ∃ dx e b, H a = some (.ins C dx [("kept", e), ("before", b)]) ∧ TV K H e d
end
structure Cell where
  a : Addr
  w : Bool
  o : MO
abbrev Mem := List Cell
abbrev Dl := List (Option Dt)

section
variable {K : PySem.W.Frag} {B H H' : Hp} {M M' : Mem} {a p : Addr} {o o' : MO}
theorem paired_mono {α β : Type} {F G : α → β → Prop} : ∀ {l₁ : List α} {l₂ : List β}, Paired F l₁ l₂ → (∀ a b, F a b → G a b) → Paired G l₁ l₂
  | _, _, .nil, _ => .nil
  | _, _, .cons r t, f => .cons (f _ _ r) (paired_mono t f)
theorem OH.some (h : OH K H a o) : ∃ u, H a = some u ∧ Mb u = true := by
  cases o with
  | lst ds => obtain ⟨vs, h, _⟩ := h; exact ⟨_, h, rfl⟩
  | dct kvs => obtain ⟨vs, h, _⟩ := h; exact ⟨_, h, rfl⟩
  | ins C fs => obtain ⟨dx, vs, h, _⟩ := h; exact ⟨_, h, rfl⟩
  | sup => obtain ⟨x, y, z, h, _⟩ := h; exact ⟨_, h, rfl⟩
  | prs C d => obtain ⟨dx, e, b, h, _⟩ := h; exact ⟨_, h, rfl⟩
theorem OH.keep (e : H' a = H a) (t : Tu H H') (h : OH K H a o) : OH K H' a o := by
  cases o with
  | lst ds => obtain ⟨vs, h, r⟩ := h; exact ⟨vs, e.trans h, r.mono t⟩
  | dct kvs => obtain ⟨vs, h, r⟩ := h; exact ⟨vs, e.trans h, paired_mono r fun _ _ q => ⟨q.1, q.2.mono t⟩⟩
  | ins C fs => obtain ⟨dx, vs, h, r⟩ := h; exact ⟨dx, vs, e.trans h, paired_mono r fun _ _ q => ⟨q.1, q.2.mono t⟩⟩
  | sup => obtain ⟨x, y, z, h, r⟩ := h; exact ⟨x, y, z, e.trans h, r⟩
  | prs C d => obtain ⟨dx, u, b, h, r⟩ := h; exact ⟨dx, u, b, e.trans h, r.mono t⟩

structure MS (K : PySem.W.Frag) (B H : Hp) (M : Mem) : Prop where
  ex : Evl.Ex B H
  own : ∀ c ∈ M, c.w = true → B c.a = none
  at_ : ∀ c ∈ M, OH K H c.a c.o
  nd : (M.map Cell.a).Nodup

theorem MS.fresh (h : MS K B H M) (hp : H p = none) : ∀ c ∈ M, c.a ≠ p := fun c hc e => by
  obtain ⟨u, hu, _⟩ := (h.at_ c hc).some
  rw [e, hp] at hu; cases hu
theorem MS.base (h : MS K B H M) (hp : H p = none) : B p = none := h.ex.none hp
/-- the heap grows, all cells stay -/
theorem MS.grow (h : MS K B H M) (e : Evl.Ex H H') : MS K B H' M where
  ex := h.ex.trans e
  own := h.own
  at_ := fun c hc => by
    obtain ⟨u, hu, _⟩ := (h.at_ c hc).some
    exact (h.at_ c hc).keep (by rw [hu]; exact e _ _ hu) e.tu
  nd := h.nd
theorem MS.tup (h : MS K B H M) (hp : H p = none) {u : HO} : MS K B (upd H p u) M := h.grow (Evl.Ex.new hp)
/-- a new cell -/
theorem MS.new {u : HO} (h : MS K B H M) (hp : H p = none) (ho : OH K (upd H p u) p o) : MS K B (upd H p u) (⟨p, true, o⟩ :: M) := by
  have g := h.grow (Evl.Ex.new (o := u) hp)
  refine ⟨g.ex, fun c hc w => ?_, fun c hc => ?_, ?_⟩
  · rcases List.mem_cons.mp hc with rfl | hc
    · exact h.base hp
    · exact g.own c hc w
  · rcases List.mem_cons.mp hc with rfl | hc
    · exact ho
    · exact g.at_ c hc
  · rw [List.map_cons, List.nodup_cons]
    refine ⟨fun hm => ?_, g.nd⟩
    obtain ⟨c, hc, e⟩ := List.mem_map.mp hm
    exact h.fresh hp c hc e
theorem map_set_a {k : Nat} {c : Cell} (hk : M[k]? = some c) {o' : MO} {w : Bool} : (M.set k ⟨c.a, w, o'⟩).map Cell.a = M.map Cell.a := by
  rw [List.map_set]
  refine List.ext_getElem? fun i => ?_
  rw [List.getElem?_set]
  split
  · rename_i e
    subst e
    rw [List.getElem?_map, hk]
    have := (List.getElem?_eq_some_iff.mp hk).1
    simp [this]
  · simp
theorem nodup_at {k j : Nat} {c c' : Cell} (nd : (M.map Cell.a).Nodup) (h : M[k]? = some c) (h' : M[j]? = some c') (e : c.a = c'.a) : k = j := by
  have e1 : (M.map Cell.a)[k]? = some c.a := by rw [List.getElem?_map, h]; rfl
  have e2 : (M.map Cell.a)[j]? = some c.a := by rw [List.getElem?_map, h', e]; rfl
  exact nodup_ix' nd e1 e2
where
  nodup_ix' {α : Type} {N : List α} (hN : N.Nodup) {i j : Nat} {x : α} (a : N[i]? = some x) (b : N[j]? = some x) : i = j := by
    obtain ⟨h1, e1⟩ := List.getElem?_eq_some_iff.mp a
    obtain ⟨h2, e2⟩ := List.getElem?_eq_some_iff.mp b
    exact (List.getElem_inj hN).mp (e1.trans e2.symm)
/-- one owned cell changes -/
theorem MS.change {k : Nat} (h : MS K B H M) (hk : M[k]? = some ⟨p, true, o⟩) (ks : ∀ b u, b ≠ p → H b = some u → H' b = some u) (t : Tu H H') (ho : OH K H' p o') : MS K B H' (M.set k ⟨p, true, o'⟩) := by
  have hm : (⟨p, true, o⟩ : Cell) ∈ M := List.mem_of_getElem? hk
  have bp : B p = none := h.own _ hm rfl
  refine ⟨fun b u e => ?_, fun c hc w => ?_, fun c hc => ?_, ?_⟩
  · have e1 := h.ex b u e
    refine ks b u (fun z => ?_) e1
    rw [z, bp] at e; cases e
  · rcases List.mem_or_eq_of_mem_set hc with hc | rfl
    · exact h.own c hc w
    · exact bp
  · obtain ⟨j, hj⟩ := List.getElem?_of_mem hc
    rw [List.getElem?_set] at hj
    split at hj
    · split at hj
      · have := Option.some.inj hj
        subst this
        exact ho
      · cases hj
    · rename_i ne
      have hne : c.a ≠ p := fun e => ne (nodup_at h.nd hk hj e.symm)
      obtain ⟨u, hu, _⟩ := (h.at_ c (List.mem_of_getElem? hj)).some
      exact (h.at_ c (List.mem_of_getElem? hj)).keep (by rw [hu]; exact ks _ _ hne hu) t
  · rw [map_set_a hk]
    exact h.nd
theorem MS.write {k : Nat} {u : HO} (h : MS K B H M) (hk : M[k]? = some ⟨p, true, o⟩) (ho : OH K (upd H p u) p o') : MS K B (upd H p u) (M.set k ⟨p, true, o'⟩) := by
  obtain ⟨x, hx, mb⟩ := (h.at_ _ (List.mem_of_getElem? hk)).some
  exact h.change hk (fun b z ne e => by rw [upd_ne ne]; exact e) (Tu.write hx mb) ho
theorem MS.tuW {k : Nat} {u : HO} (h : MS K B H M) (hk : M[k]? = some ⟨p, true, o⟩) : Tu H (upd H p u) := by
  obtain ⟨x, hx, mb⟩ := (h.at_ _ (List.mem_of_getElem? hk)).some
  exact Tu.write hx mb
theorem MS.sub (h : MS K B H M) (s : M'.Sublist M) : MS K B H M' :=
  ⟨h.ex, fun c hc => h.own c (s.subset hc), fun c hc => h.at_ c (s.subset hc), (s.map Cell.a).nodup h.nd⟩

/-! ### slots -/
def RS (K : PySem.W.Frag) (H : Hp) (σ : L2.St) (δ : Dl) : Prop := σ.length = δ.length ∧ ∀ (i : Nat) (d : Dt), δ[i]? = some (some d) → ∃ v : V, σ[i]? = some (some v) ∧ TV K H v d
theorem RS.mono {σ : L2.St} {δ : Dl} (h : RS K H σ δ) (t : Tu H H') : RS K H' σ δ := ⟨h.1, fun i d e => by
  obtain ⟨v, h1, h2⟩ := h.2 i d e
  exact ⟨v, h1, h2.mono t⟩⟩
theorem RS.set {σ : L2.St} {δ : Dl} {i : Nat} {v : V} {d : Dt} (h : RS K H σ δ) (r : TV K H v d) : RS K H (σ.set i (some v)) (δ.set i (some d)) := by
  refine ⟨by rw [List.length_set, List.length_set]; exact h.1, fun j e hj => ?_⟩
  rw [List.getElem?_set] at hj
  rw [List.getElem?_set]
  by_cases ij : i = j
  · subst ij
    rw [if_pos rfl] at hj ⊢
    by_cases l : i < δ.length
    · rw [if_pos l] at hj
      rw [if_pos (by rw [h.1]; exact l)]
      have := Option.some.inj (Option.some.inj hj)
      subst this
      exact ⟨v, rfl, r⟩
    · rw [if_neg l] at hj; cases hj
  · rw [if_neg ij] at hj ⊢
    exact h.2 j e hj
/-- the first knows less -/
def LeD : Dl → Dl → Prop
  | [], [] => True
  | none :: a, _ :: b => LeD a b
  | some x :: a, y :: b => y = some x ∧ LeD a b
  | _, _ => False
theorem LeD.len : ∀ {a b : Dl}, LeD a b → a.length = b.length
  | [], [], _ => rfl
  | none :: a, _ :: b, h => congrArg (· + 1) (LeD.len (a := a) (b := b) h)
  | some x :: a, y :: b, h => congrArg (· + 1) (LeD.len (a := a) (b := b) h.2)
  | [], _ :: _, h => h.elim
  | none :: _, [], h => h.elim
  | some _ :: _, [], h => h.elim
theorem LeD.get : ∀ {a b : Dl} {i : Nat} {d : Dt}, LeD a b → a[i]? = some (some d) → b[i]? = some (some d)
  | [], [], i, d, _, e => by simp at e
  | none :: a, _ :: b, 0, d, h, e => by simp at e
  | none :: a, _ :: b, i + 1, d, h, e => by
    have := LeD.get (a := a) (b := b) (i := i) h (by simpa using e)
    simpa using this
  | some x :: a, y :: b, 0, d, h, e => by
    simp at e
    subst e
    simp [h.1]
  | some x :: a, y :: b, i + 1, d, h, e => by
    have := LeD.get (a := a) (b := b) (i := i) h.2 (by simpa using e)
    simpa using this
  | [], _ :: _, _, _, h, _ => h.elim
  | none :: _, [], _, _, h, _ => h.elim
  | some _ :: _, [], _, _, h, _ => h.elim
theorem LeD.refl : ∀ a : Dl, LeD a a
  | [] => trivial
  | none :: a => LeD.refl a
  | some _ :: a => ⟨rfl, LeD.refl a⟩
theorem RS.weak {σ : L2.St} {δ δ' : Dl} (h : RS K H σ δ) (l : LeD δ' δ) : RS K H σ δ' := ⟨by rw [l.len]; exact h.1, fun i d e => h.2 i d (l.get e)⟩
/-- weaker: fewer slots, fewer cells -/
def Wk (P : Dl → Mem → Prop) (δ : Dl) (M : Mem) : Prop := ∃ δ' M', LeD δ' δ ∧ M'.Sublist M ∧ P δ' M'
def WkM (P : Mem → Prop) (M : Mem) : Prop := ∃ M', M'.Sublist M ∧ P M'
theorem Wk.of {P : Dl → Mem → Prop} {δ : Dl} {M : Mem} (h : P δ M) : Wk P δ M := ⟨δ, M, LeD.refl δ, List.Sublist.refl M, h⟩
theorem WkM.of {P : Mem → Prop} {M : Mem} (h : P M) : WkM P M := ⟨M, List.Sublist.refl M, h⟩
/-- comprehension slots are emptied -/
def wipeD (δ : Dl) (vs : List Nat) : Dl := vs.foldl (fun d i => d.set i none) δ
end
end Zy
set_option Elab.async false
set_option linter.all false
set_option maxRecDepth 100000
set_option maxHeartbeats 4000000
namespace Zy
open PySem L2

section
variable (K : PySem.W.Frag) (B : Hp)
/-- what an expression evaluates to -/
def Ev (te : TE) (δ : Dl) (M : Mem) (Q : Dt → Mem → Prop) : Prop :=
  ∀ (σ : L2.St) (H : Hp), MS K B H M → RS K H σ δ → ∀ R : VK, (∀ (v : V) (H' : Hp) (d : Dt) (M' : Mem), Tu H H' → TV K H' v d → MS K B H' M' → Q d M' → R v H') → te σ H R
def EvT (tt : TT) (δ : Dl) (M : Mem) (Q : Bool → Mem → Prop) : Prop :=
  ∀ (σ : L2.St) (H : Hp), MS K B H M → RS K H σ δ → ∀ R : Bool → Hp → Prop, (∀ (b : Bool) (H' : Hp) (M' : Mem), Tu H H' → MS K B H' M' → Q b M' → R b H') → tt σ H R
def EvA (ta : TA) (δ : Dl) (M : Mem) (Q : List Dt → Mem → Prop) : Prop :=
  ∀ (σ : L2.St) (H : Hp), MS K B H M → RS K H σ δ → ∀ R : List V → Hp → Prop, (∀ (vs : List V) (H' : Hp) (ds : List Dt) (M' : Mem), Tu H H' → TVs K H' vs ds → MS K B H' M' → Q ds M' → R vs H') → ta σ H R
def EvO (to : TO) (δ : Dl) (M : Mem) (Q : Option Int → Mem → Prop) : Prop :=
  ∀ (σ : L2.St) (H : Hp), MS K B H M → RS K H σ δ → ∀ R : Option Int → Hp → Prop, (∀ (o : Option Int) (H' : Hp) (M' : Mem), Tu H H' → MS K B H' M' → Q o M' → R o H') → to σ H R
/-- a target stores d; own: the slots it may write -/
def EG (own : List Nat) (g : TG) (d : Dt) (δ : Dl) (M : Mem) (Q : Dl → Mem → Prop) : Prop :=
  ∀ (v : V) (σ : L2.St) (H : Hp), MS K B H M → RS K H σ δ → TV K H v d → ∀ R : L2.St → Hp → Prop,
    (∀ (σ' : L2.St) (H' : Hp) (δ' : Dl) (M' : Mem), Tu H H' → MS K B H' M' → RS K H' σ' δ' → (∀ vs : List Nat, (∀ i ∈ own, i ∈ vs) → wipe σ' vs = wipe σ vs) → Q δ' M' → R σ' H') → g v σ H R
def EGs (own : List Nat) (g : TGs) (ds : List Dt) (δ : Dl) (M : Mem) (Q : Dl → Mem → Prop) : Prop :=
  ∀ (vs : List V) (σ : L2.St) (H : Hp), MS K B H M → RS K H σ δ → TVs K H vs ds → ∀ R : L2.St → Hp → Prop,
    (∀ (σ' : L2.St) (H' : Hp) (δ' : Dl) (M' : Mem), Tu H H' → MS K B H' M' → RS K H' σ' δ' → (∀ ws : List Nat, (∀ i ∈ own, i ∈ ws) → wipe σ' ws = wipe σ ws) → Q δ' M' → R σ' H') → g vs σ H R
/-- a statement: what follows (N), what it returns (Rt) -/
def SS (ts : TS) (δ : Dl) (M : Mem) (N : Dl → Mem → Prop) (Rt : Dt → Mem → Prop) : Prop :=
  ∀ (σ : L2.St) (H : Hp), MS K B H M → RS K H σ δ → ∀ D : Ends, (∀ (σ' : L2.St) (H' : Hp) (δ' : Dl) (M' : Mem), Tu H H' → MS K B H' M' → RS K H' σ' δ' → N δ' M' → D.nx σ' H') →
    (∀ (v : V) (H' : Hp) (d : Dt) (M' : Mem), Tu H H' → TV K H' v d → MS K B H' M' → Rt d M' → D.rt v H') → ts D σ H
/-- operations by values -/
def Op2 (r : R2) (d1 d2 : Dt) (M : Mem) (Q : Dt → Mem → Prop) : Prop :=
  ∀ (v1 v2 : V) (H : Hp), TV K H v1 d1 → TV K H v2 d2 → MS K B H M → ∀ R : VK, (∀ (v : V) (H' : Hp) (d : Dt) (M' : Mem), Tu H H' → TV K H' v d → MS K B H' M' → Q d M' → R v H') → r v1 v2 H R
def Op1 (r : V → Hp → VK → Prop) (d1 : Dt) (M : Mem) (Q : Dt → Mem → Prop) : Prop :=
  ∀ (v1 : V) (H : Hp), TV K H v1 d1 → MS K B H M → ∀ R : VK, (∀ (v : V) (H' : Hp) (d : Dt) (M' : Mem), Tu H H' → TV K H' v d → MS K B H' M' → Q d M' → R v H') → r v1 H R
def OpC (r : List V → Hp → VK → Prop) (ds : List Dt) (M : Mem) (Q : Dt → Mem → Prop) : Prop :=
  ∀ (vs : List V) (H : Hp), TVs K H vs ds → MS K B H M → ∀ R : VK, (∀ (v : V) (H' : Hp) (d : Dt) (M' : Mem), Tu H H' → TV K H' v d → MS K B H' M' → Q d M' → R v H') → r vs H R
def OpM (r : V → List V → Hp → VK → Prop) (d : Dt) (ds : List Dt) (M : Mem) (Q : Dt → Mem → Prop) : Prop :=
  ∀ (v : V) (vs : List V) (H : Hp), TV K H v d → TVs K H vs ds → MS K B H M → ∀ R : VK, (∀ (v : V) (H' : Hp) (d : Dt) (M' : Mem), Tu H H' → TV K H' v d → MS K B H' M' → Q d M' → R v H') → r v vs H R
def OpS (r : V → Option Int → Option Int → Hp → VK → Prop) (d : Dt) (lo hi : Option Int) (M : Mem) (Q : Dt → Mem → Prop) : Prop :=
  ∀ (v : V) (H : Hp), TV K H v d → MS K B H M → ∀ R : VK, (∀ (v : V) (H' : Hp) (d : Dt) (M' : Mem), Tu H H' → TV K H' v d → MS K B H' M' → Q d M' → R v H') → r v lo hi H R
end

section
variable {K : PySem.W.Frag} {B : Hp} {te ta tb tc : TE} {tt tt' uu : TT} {t tr : TA} {δ : Dl} {M : Mem} {Q : Dt → Mem → Prop} {QT : Bool → Mem → Prop} {QA : List Dt → Mem → Prop} {QO : Option Int → Mem → Prop}
  {N N' : Dl → Mem → Prop} {Rt : Dt → Mem → Prop} {ts us : TS} {g : TG} {gs : TGs} {r r' : R2}

/-! ### names, constants, operations -/
theorem ev_var {i : Nat} {d : Dt} (h : δ[i]? = some (some d)) (q : Q d M) : Ev K B (tVar i) δ M Q := fun σ H m s R k => by
  obtain ⟨v, hv, tv⟩ := s.2 i d h
  exact ⟨v, hv, k v H d M (Tu.refl H) tv m q⟩
theorem ev_int {i : Int} (q : Q (.int i) M) : Ev K B (tC (.int i)) δ M Q := fun σ H m s R k => k _ H _ M (Tu.refl H) (.int i) m q
theorem ev_bl {b : Bool} (q : Q (.bl b) M) : Ev K B (tC (.bl b)) δ M Q := fun σ H m s R k => k _ H _ M (Tu.refl H) (.bl b) m q
theorem ev_non (q : Q .non M) : Ev K B (tC .non) δ M Q := fun σ H m s R k => k _ H _ M (Tu.refl H) .non m q
theorem ev_str {x : Str} (q : Q (.str x) M) : Ev K B (tC (.str x)) δ M Q := fun σ H m s R k => k _ H _ M (Tu.refl H) (.str x) m q
theorem ev_adr {a : Addr} (q : Q (.adr a) M) : Ev K B (tC (.ref a)) δ M Q := fun σ H m s R k => k _ H _ M (Tu.refl H) (.adr a) m q
theorem ev_op (h : Ev K B ta δ M fun d1 M1 => Ev K B tb δ M1 fun d2 M2 => Op2 K B r d1 d2 M2 Q) : Ev K B (tOp r ta tb) δ M Q := fun σ H m s R k =>
  h σ H m s _ fun x H1 d1 M1 t1 v1 m1 h1 => h1 σ H1 m1 (s.mono t1) _ fun y H2 d2 M2 t2 v2 m2 h2 =>
    h2 x y H2 (v1.mono t2) v2 m2 R fun v H' d M' t3 => k v H' d M' ((t1.trans t2).trans t3)
theorem ev_un {r : V → Hp → VK → Prop} (h : Ev K B ta δ M fun d1 M1 => Op1 K B r d1 M1 Q) : Ev K B (tUn r ta) δ M Q := fun σ H m s R k =>
  h σ H m s _ fun x H1 d1 M1 t1 v1 m1 h1 => h1 x H1 v1 m1 R fun v H' d M' t3 => k v H' d M' (t1.trans t3)
theorem o_I0 {f : Int → Int → Int} {i j : Int} (q : Q (.int (f i j)) M) : Op2 K B (rI0 fun i j => .int (f i j)) (.int i) (.int j) M Q := fun v1 v2 H h1 h2 m R k => by
  cases h1; cases h2
  exact ⟨i, j, rfl, rfl, k _ H _ M (Tu.refl H) (.int _) m q⟩
theorem o_I {C : Int → Int → Prop} {f : Int → Int → Int} {i j : Int} (c : C i j) (q : Q (.int (f i j)) M) : Op2 K B (rI C fun i j => .int (f i j)) (.int i) (.int j) M Q := fun v1 v2 H h1 h2 m R k => by
  cases h1; cases h2
  exact ⟨i, j, rfl, rfl, c, k _ H _ M (Tu.refl H) (.int _) m q⟩
theorem o_B0 {f : Int → Int → Bool} {i j : Int} (q : Q (.bl (f i j)) M) : Op2 K B (rI0 fun i j => .bl (f i j)) (.int i) (.int j) M Q := fun v1 v2 H h1 h2 m R k => by
  cases h1; cases h2
  exact ⟨i, j, rfl, rfl, k _ H _ M (Tu.refl H) (.bl _) m q⟩
theorem o_neg {f : Int → Int} {i : Int} (q : Q (.int (f i)) M) : Op1 K B (rU fun i => .int (f i)) (.int i) M Q := fun v1 H h1 m R k => by
  cases h1
  exact ⟨i, rfl, k _ H _ M (Tu.refl H) (.int _) m q⟩
theorem dec_i {i j : Int} : decide (V.int i = V.int j) = decide (i = j) := by
  by_cases h : i = j
  · subst h; simp
  · rw [decide_eq_false h, decide_eq_false (fun z => h (V.int.inj z))]
theorem dec_s {i j : Str} : decide (V.str i = V.str j) = decide (i = j) := by
  by_cases h : i = j
  · subst h; simp
  · rw [decide_eq_false h, decide_eq_false (fun z => h (V.str.inj z))]
theorem o_eqI {i j : Int} (q : Q (.bl (decide (i = j))) M) : Op2 K B rEq (.int i) (.int j) M Q := fun v1 v2 H h1 h2 m R k => by
  cases h1; cases h2
  exact ⟨rfl, k _ H _ M (Tu.refl H) (.bl _) m (by rw [dec_i]; exact q)⟩
theorem o_neI {i j : Int} (q : Q (.bl (!decide (i = j))) M) : Op2 K B rNe (.int i) (.int j) M Q := fun v1 v2 H h1 h2 m R k => by
  cases h1; cases h2
  exact ⟨rfl, k _ H _ M (Tu.refl H) (.bl _) m (by rw [dec_i]; exact q)⟩
theorem o_eqS {i j : Str} (q : Q (.bl (decide (i = j))) M) : Op2 K B rEq (.str i) (.str j) M Q := fun v1 v2 H h1 h2 m R k => by
  cases h1; cases h2
  exact ⟨rfl, k _ H _ M (Tu.refl H) (.bl _) m (by rw [dec_s]; exact q)⟩
theorem o_neS {i j : Str} (q : Q (.bl (!decide (i = j))) M) : Op2 K B rNe (.str i) (.str j) M Q := fun v1 v2 H h1 h2 m R k => by
  cases h1; cases h2
  exact ⟨rfl, k _ H _ M (Tu.refl H) (.bl _) m (by rw [dec_s]; exact q)⟩

/-! ### places -/
theorem atI_len {α β : Type} {xs : List α} {ys : List β} (e : xs.length = ys.length) {i : Int} {y : β} (h : atI ys i = some y) : ∃ j : Nat, ys[j]? = some y ∧ ∀ x : α, xs[j]? = some x → atI xs i = some x := by
  unfold atI at h
  cases q : ixN ys.length i with
  | none => rw [q] at h; cases h
  | some j =>
    rw [q] at h
    refine ⟨j, h, fun x hx => ?_⟩
    unfold atI
    rw [e, q]
    exact hx
theorem TVs.at_ {H : Hp} {vs : List V} {ds : List Dt} {i : Int} {d : Dt} (h : TVs K H vs ds) (e : atI ds i = some d) : ∃ v, atI vs i = some v ∧ TV K H v d := by
  obtain ⟨j, hj, hx⟩ := atI_len h.length e
  obtain ⟨v, hv, tv⟩ := h.get hj
  exact ⟨v, hx v hv, tv⟩
theorem o_ixT {b : Bool} {ds : List Dt} {i : Int} {d : Dt} (e : atI ds i = some d) (q : Q d M) : Op2 K B (rIxT K) (.tup b ds) (.int i) M Q := fun v1 v2 H h1 h2 m R k => by
  cases h2
  cases h1 with
  | tup h hb hs =>
    obtain ⟨v, hv, tv⟩ := hs.at_ e
    exact ⟨_, _, i, v, rfl, rfl, h, hv, k v H d M (Tu.refl H) tv m q⟩
theorem o_ixL {a : Addr} {w : Bool} {ds : List Dt} {i : Int} {d : Dt} (c : (⟨a, w, .lst ds⟩ : Cell) ∈ M) (e : atI ds i = some d) (q : Q d M) : Op2 K B (rIxL K) (.adr a) (.int i) M Q := fun v1 v2 H h1 h2 m R k => by
  cases h1; cases h2
  obtain ⟨vs, hl, hs⟩ := m.at_ _ c
  obtain ⟨v, hv, tv⟩ := hs.at_ e
  exact ⟨a, vs, i, v, rfl, rfl, SqL.of hl, hv, k v H d M (Tu.refl H) tv m q⟩
theorem o_ixS {ns : List Int} {i j : Int} (e : atI ns i = some j) (q : Q (.int j) M) : Op2 K B (rIxL K) (.scr ns) (.int i) M Q := fun v1 v2 H h1 h2 m R k => by
  cases h2
  cases h1 with
  | scr h =>
    refine ⟨_, _, i, .int j, rfl, rfl, h.l, ?_, k _ H _ M (Tu.refl H) (.int j) m q⟩
    obtain ⟨p, hp, hx⟩ := atI_len (xs := ns.map V.int) (ys := ns) (by rw [List.length_map]) e
    exact hx _ (by rw [List.getElem?_map, hp]; rfl)

/-! ### in -/
theorem inV_ints {n : Int} : ∀ ns : List Int, inV (.int n) (ns.map V.int) = decide (n ∈ ns)
  | [] => by simp [inV]
  | m :: ns => by
    have ih := inV_ints (n := n) ns
    unfold inV at ih ⊢
    rw [List.map_cons, List.any_cons, ih]
    show ((m == n) || decide (n ∈ ns)) = _
    by_cases h : n = m
    · subst h; simp
    · have h2 : ¬ m = n := fun z => h z.symm
      simp [h, h2]
theorem flat_ints (ns : List Int) : (ns.map V.int).all flatV = true := by
  rw [List.all_map]
  exact List.all_eq_true.mpr fun _ _ => rfl
theorem o_inT {b : Bool} {ns : List Int} {n : Int} (q : Q (.bl (decide (n ∈ ns))) M) : Op2 K B (rIn K false) (.int n) (.tup b (ns.map .int)) M Q := fun v1 v2 H h1 h2 m R k => by
  cases h1
  cases h2 with
  | tup h hb hs =>
    have e := hs.ints
    subst e
    refine ⟨_, _, rfl, .inr h, rfl, flat_ints ns, k _ H _ M (Tu.refl H) (.bl _) m ?_⟩
    show Q (.bl (if false = true then !inV (.int n) (ns.map V.int) else inV (.int n) (ns.map V.int))) M
    rw [if_neg Bool.false_ne_true, inV_ints]
    exact q
theorem o_ninT {b : Bool} {ns : List Int} {n : Int} (q : Q (.bl (!decide (n ∈ ns))) M) : Op2 K B (rIn K true) (.int n) (.tup b (ns.map .int)) M Q := fun v1 v2 H h1 h2 m R k => by
  cases h1
  cases h2 with
  | tup h hb hs =>
    have e := hs.ints
    subst e
    refine ⟨_, _, rfl, .inr h, rfl, flat_ints ns, k _ H _ M (Tu.refl H) (.bl _) m ?_⟩
    show Q (.bl (if true = true then !inV (.int n) (ns.map V.int) else inV (.int n) (ns.map V.int))) M
    rw [if_pos rfl, inV_ints]
    exact q
theorem o_inL {a : Addr} {w : Bool} {ns : List Int} {n : Int} (c : (⟨a, w, .lst (ns.map .int)⟩ : Cell) ∈ M) (q : Q (.bl (decide (n ∈ ns))) M) : Op2 K B (rIn K false) (.int n) (.adr a) M Q := fun v1 v2 H h1 h2 m R k => by
  cases h1; cases h2
  obtain ⟨vs, hl, hs⟩ := m.at_ _ c
  have e := hs.ints
  subst e
  refine ⟨a, _, rfl, .inl (SqL.of hl), rfl, flat_ints ns, k _ H _ M (Tu.refl H) (.bl _) m ?_⟩
  show Q (.bl (if false = true then !inV (.int n) (ns.map V.int) else inV (.int n) (ns.map V.int))) M
  rw [if_neg Bool.false_ne_true, inV_ints]
  exact q
theorem o_ninL {a : Addr} {w : Bool} {ns : List Int} {n : Int} (c : (⟨a, w, .lst (ns.map .int)⟩ : Cell) ∈ M) (q : Q (.bl (!decide (n ∈ ns))) M) : Op2 K B (rIn K true) (.int n) (.adr a) M Q := fun v1 v2 H h1 h2 m R k => by
  cases h1; cases h2
  obtain ⟨vs, hl, hs⟩ := m.at_ _ c
  have e := hs.ints
  subst e
  refine ⟨a, _, rfl, .inl (SqL.of hl), rfl, flat_ints ns, k _ H _ M (Tu.refl H) (.bl _) m ?_⟩
  show Q (.bl (if true = true then !inV (.int n) (ns.map V.int) else inV (.int n) (ns.map V.int))) M
  rw [if_pos rfl, inV_ints]
  exact q

/-! ### tests -/
theorem et_test (h : Ev K B te δ M fun d M' => ∃ b, d = .bl b ∧ QT b M') : EvT K B (tTest te) δ M QT := fun σ H m s R k =>
  h σ H m s _ fun v H' d M' t tv m' ⟨b, e, q⟩ => by
    subst e
    cases tv
    exact ⟨b, rfl, k b H' M' t m' q⟩
theorem et_B (h : Ev K B te δ M fun d M' => ∃ b, d = .bl b ∧ QT b M') : EvT K B (tB te) δ M QT := fun σ H m s R k =>
  h σ H m s _ fun v H' d M' t tv m' ⟨b, e, q⟩ => by
    subst e
    cases tv
    exact ⟨b, rfl, k b H' M' t m' q⟩
theorem et_and (h : EvT K B tt δ M fun b M' => (b = true → EvT K B uu δ M' QT) ∧ (b = false → QT false M')) : EvT K B (tAnd tt uu) δ M QT := fun σ H m s R k =>
  h σ H m s _ fun b H' M' t m' q => by
    cases b with
    | true =>
      show uu σ H' R
      exact q.1 rfl σ H' m' (s.mono t) R fun b2 H2 M2 t2 => k b2 H2 M2 (t.trans t2)
    | false =>
      show R false H'
      exact k false H' M' t m' (q.2 rfl)
theorem et_or (h : EvT K B tt δ M fun b M' => (b = true → QT true M') ∧ (b = false → EvT K B uu δ M' QT)) : EvT K B (tOr tt uu) δ M QT := fun σ H m s R k =>
  h σ H m s _ fun b H' M' t m' q => by
    cases b with
    | true =>
      show R true H'
      exact k true H' M' t m' (q.1 rfl)
    | false =>
      show uu σ H' R
      exact q.2 rfl σ H' m' (s.mono t) R fun b2 H2 M2 t2 => k b2 H2 M2 (t.trans t2)
theorem et_not (h : EvT K B tt δ M fun b M' => QT (!b) M') : EvT K B (tNot tt) δ M QT := fun σ H m s R k =>
  h σ H m s _ fun b H' M' t m' q => k (!b) H' M' t m' q
theorem et_yes (q : QT true M) : EvT K B tYes δ M QT := fun σ H m s R k => k true H M (Tu.refl H) m q
theorem ev_chain (h : Ev K B ta δ M fun d1 M1 => Ev K B tb δ M1 fun d2 M2 => Op2 K B r d1 d2 M2 fun d M3 => ∃ b, d = .bl b ∧ (b = true → Ev K B tc δ M3 fun d3 M4 => Op2 K B r' d2 d3 M4 Q) ∧ (b = false → Q (.bl false) M3)) :
    Ev K B (tChain r r' ta tb tc) δ M Q := fun σ H m s R k =>
  h σ H m s _ fun x H1 d1 M1 t1 v1 m1 h1 => h1 σ H1 m1 (s.mono t1) _ fun y H2 d2 M2 t2 v2 m2 h2 =>
    h2 x y H2 (v1.mono t2) v2 m2 _ fun v H3 d M3 t3 tv m3 ⟨b, e, q1, q2⟩ => by
      subst e
      cases tv
      refine ⟨b, rfl, ?_⟩
      cases b with
      | true =>
        show tc σ H3 _
        exact q1 rfl σ H3 m3 (((s.mono t1).mono t2).mono t3) _ fun z H4 d3 M4 t4 v4 m4 h4 =>
          h4 y z H4 ((v2.mono t3).mono t4) v4 m4 R fun v H' d M' t5 => k v H' d M' ((((t1.trans t2).trans t3).trans t4).trans t5)
      | false =>
        show R (.bl false) H3
        exact k _ H3 _ M3 ((t1.trans t2).trans t3) (.bl false) m3 (q2 rfl)
theorem ev_and (h : Ev K B ta δ M fun d1 M1 => ∃ b, d1 = .bl b ∧ (b = true → Ev K B tb δ M1 Q) ∧ (b = false → Q (.bl false) M1)) : Ev K B (tAndV ta tb) δ M Q := fun σ H m s R k =>
  h σ H m s _ fun x H1 d1 M1 t1 v1 m1 ⟨b, e, q1, q2⟩ => by
    subst e
    cases v1
    refine ⟨b, rfl, ?_⟩
    cases b with
    | true =>
      show tb σ H1 R
      exact q1 rfl σ H1 m1 (s.mono t1) R fun v H' d M' t5 => k v H' d M' (t1.trans t5)
    | false =>
      show R (.bl false) H1
      exact k _ H1 _ M1 t1 (.bl false) m1 (q2 rfl)
theorem ev_or (h : Ev K B ta δ M fun d1 M1 => ∃ b, d1 = .bl b ∧ (b = true → Q (.bl true) M1) ∧ (b = false → Ev K B tb δ M1 Q)) : Ev K B (tOrV ta tb) δ M Q := fun σ H m s R k =>
  h σ H m s _ fun x H1 d1 M1 t1 v1 m1 ⟨b, e, q1, q2⟩ => by
    subst e
    cases v1
    refine ⟨b, rfl, ?_⟩
    cases b with
    | false =>
      show tb σ H1 R
      exact q2 rfl σ H1 m1 (s.mono t1) R fun v H' d M' t5 => k v H' d M' (t1.trans t5)
    | true =>
      show R (.bl true) H1
      exact k _ H1 _ M1 t1 (.bl true) m1 (q1 rfl)
theorem ev_not (h : Ev K B ta δ M fun d1 M1 => ∃ b, d1 = .bl b ∧ Q (.bl (!b)) M1) : Ev K B (tNotV ta) δ M Q := fun σ H m s R k =>
  h σ H m s _ fun x H1 d1 M1 t1 v1 m1 ⟨b, e, q⟩ => by
    subst e
    cases v1
    exact ⟨b, rfl, k _ H1 _ M1 t1 (.bl _) m1 q⟩
theorem ev_if (h : EvT K B tt δ M fun b M' => (b = true → Ev K B ta δ M' Q) ∧ (b = false → Ev K B tb δ M' Q)) : Ev K B (tIf tt ta tb) δ M Q := fun σ H m s R k =>
  h σ H m s _ fun b H1 M1 t1 m1 q => by
    cases b with
    | true =>
      show ta σ H1 R
      exact q.1 rfl σ H1 m1 (s.mono t1) R fun v H' d M' t5 => k v H' d M' (t1.trans t5)
    | false =>
      show tb σ H1 R
      exact q.2 rfl σ H1 m1 (s.mono t1) R fun v H' d M' t5 => k v H' d M' (t1.trans t5)

/-! ### arguments, displays -/
theorem ea_nil (q : QA [] M) : EvA K B tNil δ M QA := fun σ H m s R k => k [] H [] M (Tu.refl H) .nil m q
theorem ea_cons (h : Ev K B te δ M fun d M1 => EvA K B tr δ M1 fun ds M2 => QA (d :: ds) M2) : EvA K B (tCons te tr) δ M QA := fun σ H m s R k =>
  h σ H m s _ fun x H1 d M1 t1 v1 m1 h1 => h1 σ H1 m1 (s.mono t1) _ fun xs H2 ds M2 t2 v2 m2 q => k (x :: xs) H2 (d :: ds) M2 (t1.trans t2) (.cons (v1.mono t2) v2) m2 q
theorem len_line {n : Nat} (h : n ≤ 1000000) : n ≤ sizeLine := Nat.le_trans h (by decide)
theorem lt_line {n : Nat} (h : n < 1000000) : n < sizeLine := Nat.lt_of_lt_of_le h (by decide)
def tTupF (t : TA) : TE := fun σ H Q => t σ H fun xs H1 => xs.length ≤ sizeLine ∧ ∀ (p : Addr) (o : Obj), o.dict = none → H1 p = none → Q (.ref p) (upd H1 p (.frz o (.tup xs)))
theorem ev_tup (h : EvA K B t δ M fun ds M' => ds.length ≤ 1000000 ∧ Q (.tup true ds) M') : Ev K B (tTupF t) δ M Q := fun σ H m s R k =>
  h σ H m s _ fun vs H1 ds M1 t1 v1 m1 ⟨l, q⟩ => ⟨by rw [v1.length]; exact len_line l, fun p o ho hp => k _ _ _ M1 (t1.trans (Tu.new hp)) (.new hp ho v1) (m1.tup hp) q⟩
theorem ev_lst (h : EvA K B t δ M fun ds M' => ds.length ≤ 1000000 ∧ ∀ p, Q (.adr p) (⟨p, true, .lst ds⟩ :: M')) : Ev K B (tLst t) δ M Q := fun σ H m s R k =>
  h σ H m s _ fun vs H1 ds M1 t1 v1 m1 ⟨l, q⟩ => ⟨by rw [v1.length]; exact len_line l, fun p hp => k _ _ _ _ (t1.trans (Tu.new hp)) (.adr p) (m1.new (o := .lst ds) hp ⟨vs, upd_same, v1.mono (Tu.new hp)⟩) (q p)⟩
theorem ev_dict (q : ∀ p, Q (.adr p) (⟨p, true, .dct []⟩ :: M)) : Ev K B tDNewK δ M Q := fun σ H m s R k => fun p hp => k _ _ _ _ (Tu.new hp) (.adr p) (m.new (o := .dct []) hp ⟨[], upd_same, .nil⟩) (q p)
theorem ev_cb {r : List V → Hp → VK → Prop} (h : EvA K B t δ M fun ds M' => OpC K B r ds M' Q) : Ev K B (tCB r t) δ M Q := fun σ H m s R k =>
  h σ H m s _ fun vs H1 ds M1 t1 v1 m1 h1 => h1 vs H1 v1 m1 R fun v H' d M' t3 => k v H' d M' (t1.trans t3)
/-- len -/
theorem o_lenT {b : Bool} {ds : List Dt} (q : Q (.int ds.length) M) : OpC K B (fun xs H Q => ∃ p ys, xs = [.ref p] ∧ (SqL K H p ys ∨ SqT K H p ys) ∧ Q (.int ys.length) H) [.tup b ds] M Q := fun vs H h m R k => by
  cases h with
  | cons h1 h2 =>
    cases h2
    cases h1 with
    | tup h hb hs => exact ⟨_, _, rfl, .inr h, by rw [hs.length]; exact k _ H _ M (Tu.refl H) (.int _) m q⟩
theorem o_lenL {a : Addr} {w : Bool} {ds : List Dt} (c : (⟨a, w, .lst ds⟩ : Cell) ∈ M) (q : Q (.int ds.length) M) : OpC K B (fun xs H Q => ∃ p ys, xs = [.ref p] ∧ (SqL K H p ys ∨ SqT K H p ys) ∧ Q (.int ys.length) H) [.adr a] M Q := fun vs H h m R k => by
  cases h with
  | cons h1 h2 =>
    cases h2
    cases h1
    obtain ⟨vs, hl, hs⟩ := m.at_ _ c
    exact ⟨_, _, rfl, .inl (SqL.of hl), by rw [hs.length]; exact k _ H _ M (Tu.refl H) (.int _) m q⟩
theorem o_lenS {ns : List Int} (q : Q (.int ns.length) M) : OpC K B (fun xs H Q => ∃ p ys, xs = [.ref p] ∧ (SqL K H p ys ∨ SqT K H p ys) ∧ Q (.int ys.length) H) [.scr ns] M Q := fun vs H h m R k => by
  cases h with
  | cons h1 h2 =>
    cases h2
    cases h1 with
    | scr h => exact ⟨_, _, rfl, .inl h.l, by rw [List.length_map]; exact k _ H _ M (Tu.refl H) (.int _) m q⟩
theorem o_abs {i : Int} (q : Q (.int (if i < 0 then -i else i)) M) : OpC K B (fun xs H Q => ∃ i, xs = [.int i] ∧ Q (.int (if i < 0 then -i else i)) H) [.int i] M Q := fun vs H h m R k => by
  cases h with
  | cons h1 h2 =>
    cases h2
    cases h1
    exact ⟨i, rfl, k _ H _ M (Tu.refl H) (.int _) m q⟩
theorem o_max2 {i j : Int} (q : Q (.int (if j > i then j else i)) M) : OpC K B (fun xs H Q => ∃ i j, xs = [.int i, .int j] ∧ Q (.int (if j > i then j else i)) H) [.int i, .int j] M Q := fun vs H h m R k => by
  cases h with
  | cons h1 h2 =>
    cases h2 with
    | cons h2 h3 =>
      cases h3
      cases h1
      cases h2
      exact ⟨i, j, rfl, k _ H _ M (Tu.refl H) (.int _) m q⟩
theorem o_min2 {i j : Int} (q : Q (.int (if j < i then j else i)) M) : OpC K B (fun xs H Q => ∃ i j, xs = [.int i, .int j] ∧ Q (.int (if j < i then j else i)) H) [.int i, .int j] M Q := fun vs H h m R k => by
  cases h with
  | cons h1 h2 =>
    cases h2 with
    | cons h2 h3 =>
      cases h3
      cases h1
      cases h2
      exact ⟨i, j, rfl, k _ H _ M (Tu.refl H) (.int _) m q⟩
theorem o_sumL {a : Addr} {w : Bool} {ns : List Int} (c : (⟨a, w, .lst (ns.map .int)⟩ : Cell) ∈ M) (q : Q (.int ns.sum) M) : OpC K B (rSum K) [.adr a] M Q := fun vs H h m R k => by
  cases h with
  | cons h1 h2 =>
    cases h2
    cases h1
    obtain ⟨vs, hl, hs⟩ := m.at_ _ c
    have e := hs.ints
    subst e
    exact ⟨a, ns, rfl, SqL.of hl, k _ H _ M (Tu.refl H) (.int _) m q⟩
theorem o_maxL {a : Addr} {w : Bool} {ns : List Int} (c : (⟨a, w, .lst (ns.map .int)⟩ : Cell) ∈ M) (l : 0 < ns.length) (q : ∀ x, x ∈ ns → (∀ y, y ∈ ns → y ≤ x) → Q (.int x) M) : OpC K B (rMax K) [.adr a] M Q := fun vs H h m R k => by
  cases h with
  | cons h1 h2 =>
    cases h2
    cases h1
    obtain ⟨vs, hl, hs⟩ := m.at_ _ c
    have e := hs.ints
    subst e
    exact ⟨a, ns, rfl, SqL.of hl, l, fun x h1 h2 => k _ H _ M (Tu.refl H) (.int _) m (q x h1 h2)⟩
theorem o_allL {a : Addr} {w : Bool} {bs : List Bool} (c : (⟨a, w, .lst (bs.map .bl)⟩ : Cell) ∈ M) (q : Q (.bl (bs.all id)) M) : OpC K B (rAll K) [.adr a] M Q := fun vs H h m R k => by
  cases h with
  | cons h1 h2 =>
    cases h2
    cases h1
    obtain ⟨vs, hl, hs⟩ := m.at_ _ c
    have e := hs.bls
    subst e
    exact ⟨a, bs, rfl, SqL.of hl, k _ H _ M (Tu.refl H) (.bl _) m q⟩
/-- tuple(a list) -/
def rTupF (K : PySem.W.Frag) : List V → Hp → VK → Prop := fun xs H Q => ∃ p ys, xs = [.ref p] ∧ SqL K H p ys ∧ ∀ (l : Addr) (o : Obj), o.dict = none → H l = none → Q (.ref l) (upd H l (.frz o (.tup ys)))
theorem o_tupL {a : Addr} {w : Bool} {ds : List Dt} (c : (⟨a, w, .lst ds⟩ : Cell) ∈ M) (q : Q (.tup true ds) M) : OpC K B (rTupF K) [.adr a] M Q := fun vs H h m R k => by
  cases h with
  | cons h1 h2 =>
    cases h2
    cases h1
    obtain ⟨vs, hl, hs⟩ := m.at_ _ c
    exact ⟨a, vs, rfl, SqL.of hl, fun p o ho hp => k _ _ _ _ (Tu.new hp) (.new hp ho hs) (m.tup hp) q⟩
/-- isinstance of built-in types -/
theorem ev_ty {n : String} : True := trivial

/-! ### statements -/
theorem ss_next (q : N δ M) : SS K B tNext δ M N Rt := fun σ H m s D k1 k2 => k1 σ H δ M (Tu.refl H) m s q
theorem ss_seq (h : SS K B ts δ M (fun δ' M' => SS K B us δ' M' N Rt) Rt) : SS K B (tSeq ts us) δ M N Rt := fun σ H m s D k1 k2 =>
  h σ H m s { D with nx := us D } (fun σ' H' δ' M' t m' s' h' => h' σ' H' m' s' D (fun σ2 H2 δ2 M2 t2 => k1 σ2 H2 δ2 M2 (t.trans t2)) fun v H2 d M2 t2 => k2 v H2 d M2 (t.trans t2)) k2
theorem ss_set {i : Nat} (h : Ev K B te δ M fun d M' => N (δ.set i (some d)) M') : SS K B (tAsg te (gName i)) δ M N Rt := fun σ H m s D k1 k2 =>
  h σ H m s _ fun v H' d M' t tv m' q => k1 _ H' _ M' t m' ((s.mono t).set tv) q
theorem ss_asg {own : List Nat} (h : Ev K B te δ M fun d M' => EG K B own g d δ M' N) : SS K B (tAsg te g) δ M N Rt := fun σ H m s D k1 k2 =>
  h σ H m s _ fun v H' d M' t tv m' q => q v σ H' m' (s.mono t) tv _ fun σ2 H2 δ2 M2 t2 m2 s2 _ q2 => k1 σ2 H2 δ2 M2 (t.trans t2) m2 s2 q2
theorem ss_ret (h : Ev K B te δ M Rt) : SS K B (tRet te) δ M N Rt := fun σ H m s D k1 k2 => h σ H m s _ fun v H' d M' t tv m' q => k2 v H' d M' t tv m' q
theorem ss_drop (h : Ev K B te δ M fun _ M' => N δ M') : SS K B (tDrop te) δ M N Rt := fun σ H m s D k1 k2 => h σ H m s _ fun v H' d M' t tv m' q => k1 σ H' δ M' t m' (s.mono t) q
theorem ss_if (h : EvT K B tt δ M fun b M' => (b = true → SS K B ts δ M' N Rt) ∧ (b = false → SS K B us δ M' N Rt)) : SS K B (tIfS tt ts us) δ M N Rt := fun σ H m s D k1 k2 =>
  h σ H m s _ fun b H' M' t m' q => by
    cases b with
    | true =>
      show ts D σ H'
      exact q.1 rfl σ H' m' (s.mono t) D (fun σ2 H2 δ2 M2 t2 => k1 σ2 H2 δ2 M2 (t.trans t2)) fun v H2 d M2 t2 => k2 v H2 d M2 (t.trans t2)
    | false =>
      show us D σ H'
      exact q.2 rfl σ H' m' (s.mono t) D (fun σ2 H2 δ2 M2 t2 => k1 σ2 H2 δ2 M2 (t.trans t2)) fun v H2 d M2 t2 => k2 v H2 d M2 (t.trans t2)
theorem ss_aug {i : Nat} {f : Int → Int → Int} {n : Int} (h0 : δ[i]? = some (some (.int n))) (h : Ev K B te δ M fun d M' => ∃ k, d = .int k ∧ N (δ.set i (some (.int (f n k)))) M') : SS K B (tAug i te (ipI f)) δ M N Rt := fun σ H m s D k1 k2 => by
  obtain ⟨v, hv, tv⟩ := s.2 i _ h0
  cases tv
  refine ⟨_, hv, h σ H m s _ fun v H' d M' t tv m' ⟨k, e, q⟩ => ?_⟩
  subst e
  cases tv
  exact ⟨n, k, rfl, rfl, k1 _ H' _ M' t m' ((s.mono t).set (.int _)) q⟩
theorem ss_par {i j : Nat} (h : EvA K B t δ M fun ds M' => ∃ a b, ds = [a, b] ∧ N ((δ.set i (some a)).set j (some b)) M') : SS K B (tPar i j t) δ M N Rt := fun σ H m s D k1 k2 =>
  h σ H m s _ fun vs H' ds M' t tv m' ⟨a, b, e, q⟩ => by
    subst e
    cases tv with
    | cons x y =>
      cases y with
      | cons y z =>
        cases z
        exact ⟨_, _, rfl, k1 _ H' _ M' t m' (((s.mono t).set x).set y) q⟩
theorem ss_par3 {i j l : Nat} (h : EvA K B t δ M fun ds M' => ∃ a b c, ds = [a, b, c] ∧ N (((δ.set i (some a)).set j (some b)).set l (some c)) M') : SS K B (tPar3 i j l t) δ M N Rt := fun σ H m s D k1 k2 =>
  h σ H m s _ fun vs H' ds M' t tv m' ⟨a, b, c, e, q⟩ => by
    subst e
    cases tv with
    | cons x y =>
      cases y with
      | cons y z =>
        cases z with
        | cons z w =>
          cases w
          exact ⟨_, _, _, rfl, k1 _ H' _ M' t m' ((((s.mono t).set x).set y).set z) q⟩
theorem ss_never {P : Prop} (h : False) : SS K B ts δ M N Rt := h.elim
/-- while: the invariant by a measure -/
theorem ss_while (Iv : Nat → Dl → Mem → Prop) (n0 : Nat) (h0 : Iv n0 δ M)
    (hs : ∀ n δ' M', Iv n δ' M' → EvT K B tt δ' M' fun b M2 => (b = true → SS K B ts δ' M2 (Wk fun δ3 M3 => ∃ n', n' < n ∧ Iv n' δ3 M3) Rt) ∧ (b = false → N δ' M2)) : SS K B (tWhile tt ts) δ M N Rt := fun σ H m s D k1 k2 => by
  refine ⟨fun n σ' H' => ∃ δ' M', Tu H H' ∧ MS K B H' M' ∧ RS K H' σ' δ' ∧ Iv n δ' M', ⟨n0, δ, M, Tu.refl H, m, s, h0⟩, ?_⟩
  rintro n σ1 H1 ⟨δ1, M1, t1, m1, s1, i1⟩
  refine hs n δ1 M1 i1 σ1 H1 m1 s1 _ fun b H2 M2 t2 m2 q => ?_
  cases b with
  | true =>
    refine ⟨fun σ' H' => ∃ n', n' < n ∧ ∃ δ' M', Tu H H' ∧ MS K B H' M' ∧ RS K H' σ' δ' ∧ Iv n' δ' M', fun σ' H' z => z, ?_⟩
    refine q.1 rfl σ1 H2 m2 (s1.mono t2) _ (fun σ3 H3 δ3 M3 t3 m3 s3 ⟨δ4, M4, l4, u4, n', hn, i4⟩ => ?_) fun v H3 d M3 t3 => k2 v H3 d M3 ((t1.trans t2).trans t3)
    exact ⟨n', hn, δ4, M4, (t1.trans t2).trans t3, m3.sub u4, s3.weak l4, i4⟩
  | false => exact k1 σ1 H2 δ1 M2 (t1.trans t2) m2 (s1.mono t2) (q.2 rfl)

/-! ### targets -/
theorem wipe_set {σ : L2.St} {i : Nat} {x : Option V} : ∀ {vs : List Nat}, i ∈ vs → wipe (σ.set i x) vs = wipe σ vs
  | [], h => by cases h
  | v :: vs, h => by
    show (wipe (σ.set i x) vs).set v none = (wipe σ vs).set v none
    by_cases hv : i ∈ vs
    · rw [wipe_set hv]
    · have e : i = v := by
        rcases List.mem_cons.mp h with e | e
        · exact e
        · exact absurd e hv
      subst e
      have sw : ∀ (ws : List Nat) (τ : L2.St), wipe (τ.set i x) ws = (wipe τ ws).set i x ∨ i ∈ ws := by
        intro ws
        induction ws with
        | nil => intro τ; exact .inl rfl
        | cons w ws ih =>
          intro τ
          by_cases hw : i ∈ w :: ws
          · exact .inr hw
          · refine .inl ?_
            have n1 : i ≠ w := fun z => hw (by rw [z]; exact List.mem_cons_self)
            rcases ih τ with e | e
            · show (wipe (τ.set i x) ws).set w none = ((wipe τ ws).set w none).set i x
              rw [e, List.set_comm _ _ n1]
            · exact absurd (List.mem_cons_of_mem _ e) hw
      rcases sw vs σ with e | e
      · rw [e, List.set_set]
      · exact absurd e hv
theorem eg_name {i : Nat} {d : Dt} (q : N (δ.set i (some d)) M) : EG K B [i] (gName i) d δ M N := fun v σ H m s tv R k =>
  k _ H _ M (Tu.refl H) m (s.set tv) (fun vs hv => wipe_set (hv i (List.mem_singleton.mpr rfl))) q
theorem egs_nil (q : N δ M) : EGs K B [] gNil [] δ M N := fun vs σ H m s tv R k => by
  cases tv
  exact ⟨rfl, k σ H δ M (Tu.refl H) m s (fun _ _ => rfl) q⟩
theorem egs_cons {o1 o2 : List Nat} {d : Dt} {ds : List Dt} (h : EG K B o1 g d δ M fun δ' M' => EGs K B o2 gs ds δ' M' N) : EGs K B (o1 ++ o2) (gCons g gs) (d :: ds) δ M N := fun vs σ H m s tv R k => by
  cases tv with
  | cons v w =>
    refine ⟨_, _, rfl, h _ σ H m s v _ fun σ1 H1 δ1 M1 t1 m1 s1 w1 h1 => h1 _ σ1 H1 m1 s1 (w.mono t1) _ fun σ2 H2 δ2 M2 t2 m2 s2 w2 q => ?_⟩
    exact k σ2 H2 δ2 M2 (t1.trans t2) m2 s2 (fun ws hw => (w2 ws fun i hi => hw i (List.mem_append_right _ hi)).trans (w1 ws fun i hi => hw i (List.mem_append_left _ hi))) q
theorem eg_tup {own : List Nat} {n : Nat} {b : Bool} {ds : List Dt} (l : ds.length = n) (h : EGs K B own gs ds δ M N) : EG K B own (gTup K n gs) (.tup b ds) δ M N := fun v σ H m s tv R k => by
  cases tv with
  | tup ht hb hs => exact ⟨_, _, rfl, ht, by rw [hs.length]; exact l, h _ σ H m s hs R k⟩
/-- a[i] = d, a an owned list -/
theorem eg_subL {to ti : TE} {d : Dt} (h : Ev K B to δ M fun o M1 => Ev K B ti δ M1 fun i M2 => ∃ a n ds j p, o = .adr a ∧ i = .int n ∧ M2[p]? = some ⟨a, true, .lst ds⟩ ∧ ixN ds.length n = some j ∧ N δ (M2.set p ⟨a, true, .lst (ds.set j d)⟩)) :
    EG K B [] (gSub to ti rSetL) d δ M N := fun v σ H m s tv R k =>
  h σ H m s _ fun x H1 o M1 t1 v1 m1 h1 => h1 σ H1 m1 (s.mono t1) _ fun y H2 i M2 t2 v2 m2 ⟨a, n, ds, j, p, e1, e2, hp, hj, q⟩ => by
    subst e1
    subst e2
    cases v1
    cases v2
    obtain ⟨vs, hl, hs⟩ := m2.at_ _ (List.mem_of_getElem? hp)
    have tw := m2.tuW (u := .lst (vs.set j v)) hp
    refine ⟨a, vs, n, j, rfl, rfl, hl, by rw [hs.length]; exact hj, ?_⟩
    exact k σ _ δ _ ((t1.trans t2).trans tw) (m2.write (o' := .lst (ds.set j d)) hp ⟨_, upd_same, (TVs.set ((tv.mono t1).mono t2) j hs).mono tw⟩) (((s.mono t1).mono t2).mono tw) (fun _ _ => rfl) q
end
end Zy
set_option Elab.async false
set_option linter.all false
set_option maxRecDepth 100000
set_option maxHeartbeats 4000000
namespace Zy
open PySem L2

/-! ### what is walked -/
structure WalkD (K : PySem.W.Frag) (B : Hp) (J : It) (n : Nat) (f : Nat → Option Dt) (C : Mem → Prop) (H0 : Hp) : Prop where
  goes : ∀ (i : Nat) (H : Hp) (M : Mem), i < n → Tu H0 H → MS K B H M → C M → J.go i H
  stops : ∀ (H : Hp) (M : Mem), Tu H0 H → MS K B H M → C M → J.stop n H
  yields : ∀ (i : Nat) (H : Hp) (x : V) (H' : Hp) (M : Mem), i < n → Tu H0 H → MS K B H M → C M → J.yld i H x H' → ∃ d, f i = some d ∧ TV K H' x d ∧ Evl.Ex H H'
def EvI (K : PySem.W.Frag) (B : Hp) (wi : TI) (δ : Dl) (M : Mem) (Q : Nat → (Nat → Option Dt) → (Mem → Prop) → Mem → Prop) : Prop :=
  ∀ (σ : L2.St) (H : Hp), MS K B H M → RS K H σ δ → ∀ R : It → Hp → Prop,
    (∀ (J : It) (H' : Hp) (n : Nat) (f : Nat → Option Dt) (C : Mem → Prop) (M' : Mem), Tu H H' → MS K B H' M' → C M' → WalkD K B J n f C H' → Q n f C M' → R J H') → wi σ H R

theorem wipe_get {i : Nat} : ∀ {vs : List Nat} {σ : L2.St}, (wipe σ vs)[i]? = if i ∈ vs then (if i < σ.length then some none else none) else σ[i]?
  | [], σ => by simp [wipe]
  | v :: vs, σ => by
    show ((wipe σ vs).set v none)[i]? = _
    rw [List.getElem?_set, wipe_length, wipe_get (vs := vs)]
    by_cases h : v = i
    · subst h
      simp
    · have h2 : ¬ i = v := fun z => h z.symm
      simp [h, h2]
theorem wipe_idem {σ : L2.St} {vs : List Nat} : wipe (wipe σ vs) vs = wipe σ vs := by
  refine List.ext_getElem? fun i => ?_
  rw [wipe_get, wipe_get, wipe_length]
  by_cases h : i ∈ vs
  · simp [h]
  · simp [h]
theorem RS.unset {K : PySem.W.Frag} {H : Hp} {σ : L2.St} {δ : Dl} (h : RS K H σ δ) (v : Nat) : RS K H (σ.set v none) (δ.set v none) := by
  refine ⟨by rw [List.length_set, List.length_set]; exact h.1, fun j e hj => ?_⟩
  rw [List.getElem?_set] at hj
  rw [List.getElem?_set]
  by_cases ij : v = j
  · subst ij
    rw [if_pos rfl] at hj
    split at hj
    · cases hj
    · cases hj
  · rw [if_neg ij] at hj ⊢
    exact h.2 j e hj
theorem RS.set_none {K : PySem.W.Frag} {H : Hp} {σ : L2.St} {δ : Dl} (h : RS K H σ δ) : ∀ vs : List Nat, RS K H (wipe σ vs) (wipeD δ vs.reverse)
  | [] => h
  | v :: vs => by
    have ih := RS.set_none h vs
    show RS K H ((wipe σ vs).set v none) (wipeD δ (v :: vs).reverse)
    rw [List.reverse_cons]
    unfold wipeD at ih ⊢
    rw [List.foldl_append]
    exact ih.unset v
/-- comprehension slots are emptied -/
def wipeL (δ : Dl) : List Nat → Dl
  | [] => δ
  | v :: vs => (wipeL δ vs).set v none
theorem RS.wipe {K : PySem.W.Frag} {H : Hp} {σ : L2.St} {δ : Dl} (h : RS K H σ δ) : ∀ vs : List Nat, RS K H (wipe σ vs) (wipeL δ vs)
  | [] => h
  | v :: vs => (RS.wipe h vs).unset v

section
variable {K : PySem.W.Frag} {B : Hp} {te tl ta tb : TE} {tt : TT} {t : TA} {wi : TI} {δ : Dl} {M : Mem} {Q : Dt → Mem → Prop} {QI : Nat → (Nat → Option Dt) → (Mem → Prop) → Mem → Prop}
  {N : Dl → Mem → Prop} {Rt : Dt → Mem → Prop} {ts : TS} {g : TG}

theorem ss_for {own : List Nat} (h : EvI K B wi δ M fun n f C M1 => ∃ Iv : Nat → Dl → Mem → Prop, (∀ i δ' M', i ≤ n → Iv i δ' M' → C M') ∧ Iv 0 δ M1 ∧
      (∀ i d δ' M', i < n → f i = some d → Iv i δ' M' → EG K B own g d δ' M' fun δ2 M2 => SS K B ts δ2 M2 (Wk (Iv (i + 1))) Rt) ∧ ∀ δ' M', Iv n δ' M' → N δ' M') :
    SS K B (tFor wi g ts) δ M N Rt := fun σ H m s D k1 k2 => by
  refine h σ H m s _ fun J H1 n f C M1 t1 m1 c1 w ⟨Iv, hC, h0, hs, hd⟩ => ?_
  refine ⟨fun i k σ' H' => k = n - i ∧ i ≤ n ∧ ∃ δ' M', Tu H1 H' ∧ MS K B H' M' ∧ RS K H' σ' δ' ∧ Iv i δ' M', ⟨n, by simp, Nat.zero_le _, δ, M1, Tu.refl H1, m1, s.mono t1, h0⟩, ?_⟩
  rintro i k σ2 H2 ⟨rfl, hi, δ2, M2, t2, m2, s2, i2⟩
  have c2 := hC i δ2 M2 hi i2
  by_cases hlt : i < n
  · refine .inr ⟨w.goes i H2 M2 hlt t2 m2 c2, fun σ' H' => ∃ δ' M', Tu H1 H' ∧ MS K B H' M' ∧ RS K H' σ' δ' ∧ Iv (i + 1) δ' M', fun σ' H' z => ⟨n - (i + 1), by omega, rfl, hlt, z⟩, fun x H3 y => ?_⟩
    obtain ⟨d, fd, tv, e3⟩ := w.yields i H2 x H3 M2 hlt t2 m2 c2 y
    refine hs i d δ2 M2 hlt fd i2 x σ2 H3 (m2.grow e3) (s2.mono e3.tu) tv _ fun σ4 H4 δ4 M4 t4 m4 s4 _ q => ?_
    refine q σ4 H4 m4 s4 _ (fun σ5 H5 δ5 M5 t5 m5 s5 ⟨δ6, M6, l6, u6, i6⟩ => ?_) fun v H5 d' M5 t5 tv' m5 r5 => ?_
    · exact ⟨δ6, M6, ((t2.trans e3.tu).trans t4).trans t5, m5.sub u6, s5.weak l6, i6⟩
    · exact k2 v H5 d' M5 ((((t1.trans t2).trans e3.tu).trans t4).trans t5) tv' m5 r5
  · have e : i = n := by omega
    subst e
    exact .inl ⟨w.stops H2 M2 t2 m2 c2, k1 σ2 H2 δ2 M2 (t1.trans t2) m2 s2 (hd δ2 M2 i2)⟩

/-- a comprehension: Iv by the turn, the items so far, the cells (their addresses stay) -/
theorem ev_lc {own vs : List Nat} (hv : ∀ i ∈ own, i ∈ vs) (h : EvI K B wi δ M fun n f C M1 => ∃ Iv : Nat → List Dt → Mem → Prop, n ≤ 100000 ∧ (∀ i acc M', Iv i acc M' → M'.map Cell.a = M1.map Cell.a ∧ C M') ∧ Iv 0 [] M1 ∧
      (∀ B' i d acc M', i < n → f i = some d → acc.length ≤ i → Iv i acc M' → EG K B' own g d (wipeL δ vs) M' fun δ2 M2 => EvT K B' tt δ2 M2 fun b M3 =>
        (b = true → Ev K B' te δ2 M3 fun y M4 => WkM (Iv (i + 1) (acc ++ [y])) M4) ∧ (b = false → WkM (Iv (i + 1) acc) M3)) ∧ ∀ p acc M', acc.length ≤ n → Iv n acc M' → Q (.adr p) (⟨p, true, .lst acc⟩ :: M')) :
    Ev K B (tLc wi g tt te vs) δ M Q := fun σ H m s R k => by
  refine h σ H m s _ fun J H1 n f C M1 t1 m1 c1 w ⟨Iv, hn, hC, h0, hs, hd⟩ => ?_
  intro D hD
  have bD : B D = none := m1.base hD
  have neD : ∀ M' : Mem, M'.map Cell.a = M1.map Cell.a → ∀ c ∈ M', c.a ≠ D := fun M' e c hc z => by
    have : c.a ∈ M1.map Cell.a := by rw [← e]; exact List.mem_map_of_mem hc
    obtain ⟨c', hc', e'⟩ := List.mem_map.mp this
    exact m1.fresh hD c' hc' (e'.trans z)
  refine ⟨fun i k H' => k = n - i ∧ i ≤ n ∧ ∃ acc accV M', Tu H1 H' ∧ MS K B H' M' ∧ H' D = some (.lst accV) ∧ TVs K H' accV acc ∧ acc.length ≤ i ∧ Iv i acc M',
    ⟨n, by simp, Nat.zero_le _, [], [], M1, Tu.new hD, m1.grow (Evl.Ex.new hD), upd_same, .nil, Nat.le_refl _, h0⟩, ?_⟩
  rintro i k' H2 ⟨rfl, hi, acc, accV, M2, t2, m2, hD2, tv2, l2, i2⟩
  obtain ⟨ea, c2⟩ := hC i acc M2 i2
  by_cases hlt : i < n
  · refine .inr ⟨w.goes i H2 M2 hlt t2 m2 c2, fun H' => ∃ acc accV M', Tu H1 H' ∧ MS K B H' M' ∧ H' D = some (.lst accV) ∧ TVs K H' accV acc ∧ acc.length ≤ i + 1 ∧ Iv (i + 1) acc M', fun H' z => ⟨n - (i + 1), by omega, rfl, hlt, z⟩, fun x H3 y => ?_⟩
    obtain ⟨d, fd, tv, e3⟩ := w.yields i H2 x H3 M2 hlt t2 m2 c2 y
    have m3 := m2.grow e3
    have hD3 := e3 _ _ hD2
    -- the base with the list
    have mB : MS K (fun b => if b = D then some (.lst accV) else B b) H3 M2 := ⟨fun b o e => by
      by_cases hb : b = D
      · subst hb
        have e' : some (HO.lst accV) = some o := by simpa using e
        rw [← e']
        exact hD3
      · have e' : B b = some o := by simpa [hb] using e
        exact m3.ex b o e', fun c hc w' => by
        have := neD M2 ea c hc
        simp only [this, if_false]
        exact m3.own c hc w', m3.at_, m3.nd⟩
    have sW : RS K H3 (wipe σ vs) (wipeL δ vs) := (s.mono ((t1.trans t2).trans e3.tu)).wipe vs
    -- back to B
    have back : ∀ {H' : Hp} {M' : Mem} {vs' : List V}, MS K (fun b => if b = D then some (.lst accV) else B b) H' M' → M'.map Cell.a = M1.map Cell.a → MS K B (upd H' D (.lst vs')) M' := fun {H' M' vs'} m' e' => by
      have hD' : H' D = some (.lst accV) := m'.ex D _ (by simp)
      have tD : Tu H' (upd H' D (.lst vs')) := Tu.write hD' rfl
      refine ⟨fun b o e => ?_, fun c hc w' => ?_, fun c hc => ?_, m'.nd⟩
      · have hb : b ≠ D := fun z => by rw [z, bD] at e; cases e
        rw [upd_ne hb]
        exact m'.ex b o (by simp only [hb, if_false]; exact e)
      · have hb := neD M' e' c hc
        have := m'.own c hc w'
        simpa only [hb, if_false] using this
      · exact (m'.at_ c hc).keep (upd_ne (neD M' e' c hc)) tD
    have back0 : ∀ {H' : Hp} {M' : Mem}, MS K (fun b => if b = D then some (.lst accV) else B b) H' M' → M'.map Cell.a = M1.map Cell.a → MS K B H' M' := fun {H' M'} m' e' => by
      refine ⟨fun b o e => ?_, fun c hc w' => ?_, m'.at_, m'.nd⟩
      · have hb : b ≠ D := fun z => by rw [z, bD] at e; cases e
        exact m'.ex b o (by simp only [hb, if_false]; exact e)
      · have hb := neD M' e' c hc
        have := m'.own c hc w'
        simpa only [hb, if_false] using this
    refine hs _ i d acc M2 hlt fd l2 i2 x _ H3 mB sW tv _ fun σ4 H4 δ4 M4 t4 m4 s4 w4 q4 => ?_
    refine ⟨(w4 vs hv).trans wipe_idem, ?_⟩
    refine q4 σ4 H4 m4 s4 _ fun b H5 M5 t5 m5 q5 => ?_
    cases b with
    | true =>
      show te σ4 H5 _
      refine q5.1 rfl σ4 H5 m5 (s4.mono t5) _ fun y' H6 d6 M6 t6 tv6 m6 ⟨M7, u7, i7⟩ => ?_
      have hD6 : H6 D = some (.lst accV) := m6.ex D _ (by simp)
      have tD : Tu H6 (upd H6 D (.lst (accV ++ [y']))) := Tu.write hD6 rfl
      have tt6 : Tu H3 H6 := (t4.trans t5).trans t6
      refine ⟨accV, hD6, by rw [tv2.length]; exact lt_line (by omega), acc ++ [d6], accV ++ [y'], M7, (((t2.trans e3.tu).trans tt6).trans tD), ?_, upd_same, ?_, by rw [List.length_append]; show acc.length + 1 ≤ i + 1; omega, i7⟩
      · exact back (m6.sub u7) (hC _ _ _ i7).1
      · exact (((tv2.mono e3.tu).mono tt6).append (.cons tv6 .nil)).mono tD
    | false =>
      show ∃ acc accV M', _
      obtain ⟨M7, u7, i7⟩ := q5.2 rfl
      have hD5 : H5 D = some (.lst accV) := m5.ex D _ (by simp)
      have tt5 : Tu H3 H5 := t4.trans t5
      exact ⟨acc, accV, M7, ((t2.trans e3.tu).trans tt5), back0 (m5.sub u7) (hC _ _ _ i7).1, hD5, (tv2.mono e3.tu).mono tt5, by omega, i7⟩
  · have e : i = n := by omega
    subst e
    refine .inl ⟨w.stops H2 M2 t2 m2 c2, k _ H2 _ (⟨D, true, .lst acc⟩ :: M2) (t1.trans t2) (.adr D) ?_ (hd D acc M2 l2 i2)⟩
    refine ⟨m2.ex, fun c hc w' => ?_, fun c hc => ?_, ?_⟩
    · rcases List.mem_cons.mp hc with rfl | hc
      · exact bD
      · exact m2.own c hc w'
    · rcases List.mem_cons.mp hc with rfl | hc
      · exact ⟨accV, hD2, tv2⟩
      · exact m2.at_ c hc
    · rw [List.map_cons, List.nodup_cons]
      refine ⟨fun hm => ?_, m2.nd⟩
      obtain ⟨c, hc, e'⟩ := List.mem_map.mp hm
      exact neD M2 ea c hc e'
/-- the cells stay: the items by a function of the turn -/
theorem ev_lcP {own vs : List Nat} (hv : ∀ i ∈ own, i ∈ vs) (h : EvI K B wi δ M fun n f C M1 => ∃ F : Nat → Option Dt, n ≤ 100000 ∧
      (∀ B' i d, i < n → f i = some d → EG K B' own g d (wipeL δ vs) M1 fun δ2 M2 => EvT K B' tt δ2 M2 fun b M3 =>
        (b = true → Ev K B' te δ2 M3 fun y M4 => M1.Sublist M4 ∧ F i = some y) ∧ (b = false → M1.Sublist M3 ∧ F i = none)) ∧ ∀ p, Q (.adr p) (⟨p, true, .lst ((List.range n).filterMap F)⟩ :: M1)) :
    Ev K B (tLc wi g tt te vs) δ M Q := by
  refine ev_lc hv fun σ H m s R k => h σ H m s R fun J H' n f C M1 t m' c w ⟨F, hn, hs, hd⟩ => k J H' n f C M1 t m' c w ⟨fun i acc M' => M' = M1 ∧ acc = (List.range i).filterMap F, hn, ?_, ⟨rfl, rfl⟩, ?_, ?_⟩
  · rintro i acc M' ⟨rfl, _⟩
    exact ⟨rfl, c⟩
  · rintro B' i d acc M' hi fd _ ⟨rfl, rfl⟩ v σ2 H2 m2 s2 tv R2 k2
    refine hs B' i d hi fd v σ2 H2 m2 s2 tv R2 fun σ3 H3 δ3 M3 t3 m3 s3 w3 q => k2 σ3 H3 δ3 M3 t3 m3 s3 w3 ?_
    intro σ4 H4 m4 s4 R4 k4
    refine q σ4 H4 m4 s4 R4 fun b H5 M5 t5 m5 q5 => k4 b H5 M5 t5 m5 ⟨fun z => ?_, fun z => ?_⟩
    · intro σ6 H6 m6 s6 R6 k6
      refine q5.1 z σ6 H6 m6 s6 R6 fun v7 H7 d7 M7 t7 tv7 m7 ⟨sb, e⟩ => k6 v7 H7 d7 M7 t7 tv7 m7 ⟨_, sb, rfl, ?_⟩
      rw [List.range_succ, List.filterMap_append]
      simp [e]
    · obtain ⟨sb, e⟩ := q5.2 z
      refine ⟨_, sb, rfl, ?_⟩
      rw [List.range_succ, List.filterMap_append]
      simp [e]
  · rintro p acc M' _ ⟨rfl, rfl⟩
    exact hd p

/-! ### iterators -/
theorem walk_tupD {a : Addr} {vs : List V} {ds : List Dt} {H0 : Hp} (h : SqT K H0 a vs) (hs : TVs K H0 vs ds) : WalkD K B (Itt K a) ds.length (fun i => ds[i]?) (fun _ => True) H0 where
  goes := fun i H M hi t m _ => by
    have l := hs.length
    exact ⟨vs, vs[i]'(by omega), sqT_tu t h, by simp⟩
  stops := fun H M t m _ => ⟨vs, sqT_tu t h, by rw [hs.length]; exact Nat.le_refl _⟩
  yields := fun i H x H' M hi t m _ y => by
    obtain ⟨e, y⟩ := y
    subst e
    obtain ⟨d, hd, tv⟩ := (hs.mono t).getV (y vs (sqT_tu t h))
    exact ⟨d, hd, tv, Evl.Ex.refl _⟩
theorem ei_tup (h : Ev K B tl δ M fun d M1 => ∃ b ds, d = .tup b ds ∧ QI ds.length (fun i => ds[i]?) (fun _ => True) M1) : EvI K B (iTup K tl) δ M QI := fun σ H m s R k =>
  h σ H m s _ fun v H' d M' t tv m' ⟨b, ds, e, q⟩ => by
    subst e
    cases tv with
    | tup ht hb hs => exact ⟨_, rfl, ⟨_, ht⟩, k _ H' _ _ _ M' t m' trivial (walk_tupD ht hs) q⟩
theorem walk_lstD {a : Addr} {ds : List Dt} {H0 : Hp} : WalkD K B (Itl K a) ds.length (fun i => ds[i]?) (fun M => ∃ w, (⟨a, w, .lst ds⟩ : Cell) ∈ M) H0 where
  goes := fun i H M hi t m ⟨w, c⟩ => by
    obtain ⟨vs, hl, hs⟩ := m.at_ _ c
    have l := hs.length
    exact ⟨vs, vs[i]'(by omega), SqL.of hl, by simp⟩
  stops := fun H M t m ⟨w, c⟩ => by
    obtain ⟨vs, hl, hs⟩ := m.at_ _ c
    exact ⟨vs, SqL.of hl, by rw [hs.length]; exact Nat.le_refl _⟩
  yields := fun i H x H' M hi t m ⟨w, c⟩ y => by
    obtain ⟨vs, hl, hs⟩ := m.at_ _ c
    obtain ⟨e, y⟩ := y
    subst e
    obtain ⟨d, hd, tv⟩ := hs.getV (y vs (SqL.of hl))
    exact ⟨d, hd, tv, Evl.Ex.refl _⟩
theorem ei_list (h : Ev K B tl δ M fun d M1 => ∃ a w ds, d = .adr a ∧ (⟨a, w, .lst ds⟩ : Cell) ∈ M1 ∧ QI ds.length (fun i => ds[i]?) (fun M => ∃ w, (⟨a, w, .lst ds⟩ : Cell) ∈ M) M1) : EvI K B (iList K tl) δ M QI := fun σ H m s R k =>
  h σ H m s _ fun v H' d M' t tv m' ⟨a, w, ds, e, c, q⟩ => by
    subst e
    cases tv
    obtain ⟨vs, hl, hs⟩ := m'.at_ _ c
    exact ⟨_, rfl, ⟨_, SqL.of hl⟩, k _ H' _ _ _ M' t m' ⟨w, c⟩ walk_lstD q⟩
theorem walk_rngD {lo : Int} {n : Nat} {H0 : Hp} : WalkD K B (Itr lo n) n (fun i => some (.int (lo + (i : Nat)))) (fun _ => True) H0 where
  goes := fun i H M hi t m _ => hi
  stops := fun H M t m _ => Nat.le_refl _
  yields := fun i H x H' M hi t m _ y => by
    obtain ⟨e, y⟩ := y
    subst e y
    exact ⟨_, rfl, .int _, Evl.Ex.refl _⟩
theorem ei_rng (h : EvA K B t δ M fun ds M1 => ∃ n : Nat, ds = [.int n] ∧ n ≤ 100000 ∧ QI n (fun i => some (.int (i : Nat))) (fun _ => True) M1) : EvI K B (iRng1 t) δ M QI := fun σ H m s R k =>
  h σ H m s _ fun vs H' ds M' t tv m' ⟨n, e, l, q⟩ => by
    subst e
    cases tv with
    | cons x y =>
      cases y
      cases x
      refine ⟨n, rfl, by omega, by omega, k _ H' _ _ _ M' t m' trivial ?_ q⟩
      have w := walk_rngD (K := K) (B := B) (lo := 0) (n := n) (H0 := H')
      have e : (fun i : Nat => some (Dt.int (0 + (i : Nat)))) = fun i : Nat => some (Dt.int (i : Nat)) := by funext i; rw [Int.zero_add]
      rw [e] at w
      exact w

/-! ### calls of the program's defs -/
abbrev Spec := List Dt → Mem → (Dt → Mem → Prop) → Prop
def Pm (K : PySem.W.Frag) (F : Spec) : Sp := fun vs H Q _ => ∃ B ds M Q0, TVs K H vs ds ∧ MS K B H M ∧ F ds M Q0 ∧ ∀ d M' v H', Q0 d M' → Tu H H' → TV K H' v d → MS K B H' M' → Q v H'
def tCallR (sp : Sp) (t : TA) : TE := fun σ H Q => t σ H fun vs H1 => sp vs H1 Q E0
theorem pm_use {F : Spec} {vs : List V} {H : Hp} {ds : List Dt} {Q : Dt → Mem → Prop} {R : VK} {E : XK} (tv : TVs K H vs ds) (m : MS K B H M) (h : F ds M Q) (k : ∀ (v : V) (H' : Hp) (d : Dt) (M' : Mem), Tu H H' → TV K H' v d → MS K B H' M' → Q d M' → R v H') : Pm K F vs H R E :=
  ⟨B, ds, M, Q, tv, m, h, fun d M' v H' q t tv' m' => k v H' d M' t tv' m' q⟩
theorem ev_call {F : Spec} (h : EvA K B t δ M fun ds M1 => F ds M1 Q) : Ev K B (tCallR (Pm K F) t) δ M Q := fun σ H m s R k =>
  h σ H m s _ fun vs H1 ds M1 t1 tv m1 q => pm_use tv m1 q fun v H' d M' t2 => k v H' d M' (t1.trans t2)
theorem rs_start {H : Hp} {vs : List V} {ds : List Dt} {Nm : List Str} (tv : TVs K H vs ds) : RS K H (L2.start Nm vs) (ds.map some ++ List.replicate (Nm.length - ds.length) none) := by
  unfold L2.start
  rw [tv.length]
  refine ⟨by simp [tv.length], fun i d e => ?_⟩
  by_cases hi : i < ds.length
  · rw [List.getElem?_append_left (by simpa using hi)] at e
    rw [List.getElem?_append_left (by simp [tv.length, hi])]
    rw [List.getElem?_map] at e
    obtain ⟨d', hd, e'⟩ := Option.map_eq_some_iff.mp e
    cases e'
    obtain ⟨v, hv, tv'⟩ := tv.get hd
    exact ⟨v, by rw [List.getElem?_map, hv]; rfl, tv'⟩
  · rw [List.getElem?_append_right (by simp; omega)] at e
    rw [List.getElem?_replicate] at e
    split at e
    · cases e
    · cases e
theorem pm_run {F : Spec} {vs : List V} {H : Hp} {Qv : VK} {E : XK} {ts : TS} {Nm : List Str} (h : Pm K F vs H Qv E)
    (hb : ∀ (B : Hp) (ds : List Dt) (M : Mem) (Q0 : Dt → Mem → Prop), F ds M Q0 → SS K B ts (ds.map some ++ List.replicate (Nm.length - ds.length) none) M (fun _ M' => WkM (Q0 .non) M') (fun d M' => WkM (Q0 d) M')) :
    ts { nx := fun _ H' => Qv .non H', rt := Qv } (L2.start Nm vs) H := by
  obtain ⟨B, ds, M, Q0, tv, m, hF, k⟩ := h
  exact hb B ds M Q0 hF _ H m (rs_start tv) _ (fun σ' H' δ' M' t' m' s' ⟨M2, u, q⟩ => k .non M2 .non H' q t' .non (m'.sub u)) fun v H' d M' t' tv' m' ⟨M2, u, q⟩ => k d M2 v H' q t' tv' (m'.sub u)
theorem pm_len {F : Spec} {n : Nat} (h : ∀ ds M Q, F ds M Q → ds.length = n) : ∀ (vs : List V) (H : Hp) (Q : VK) (E : XK), Pm K F vs H Q E → vs.length = n := fun vs H Q E ⟨B, ds, M, Q0, tv, m, hF, k⟩ => by
  rw [tv.length]
  exact h ds M Q0 hF

/-! ### fields -/
theorem fv_some {H : Hp} {f : Str} {d : Dt} : ∀ {vs : List (Str × V)} {fs : List (Str × Dt)}, Paired (FVo K H) vs fs → fs.lookup f = some d → ∃ v, vs.lookup f = some v ∧ TV K H v d
  | _, _, .nil, e => by cases e
  | (a, v) :: vs, (b, x) :: fs, .cons r rr, e => by
    obtain ⟨e1, tv⟩ := r
    have e1' : a = b := e1
    subst e1'
    rw [List.lookup_cons] at e ⊢
    cases q : f == a with
    | true =>
      rw [q] at e
      have := Option.some.inj e
      subst this
      exact ⟨v, rfl, tv⟩
    | false =>
      rw [q] at e
      exact fv_some rr e
theorem fv_none {H : Hp} {f : Str} : ∀ {vs : List (Str × V)} {fs : List (Str × Dt)}, Paired (FVo K H) vs fs → fs.lookup f = none → vs.lookup f = none
  | _, _, .nil, e => rfl
  | (a, v) :: vs, (b, x) :: fs, .cons r rr, e => by
    obtain ⟨e1, tv⟩ := r
    have e1' : a = b := e1
    subst e1'
    rw [List.lookup_cons] at e ⊢
    cases q : f == a with
    | true =>
      rw [q] at e
      cases e
    | false =>
      rw [q] at e
      exact fv_none rr e
theorem paired_len {α β : Type} {F : α → β → Prop} : ∀ {l₁ : List α} {l₂ : List β}, Paired F l₁ l₂ → l₁.length = l₂.length
  | _, _, .nil => rfl
  | _, _, .cons _ t => congrArg (· + 1) (paired_len t)
def putD (f : Str) (v : Dt) : List (Str × Dt) → List (Str × Dt)
  | [] => [(f, v)]
  | (g, x) :: r => if g = f then (g, v) :: r else (g, x) :: putD f v r
theorem fv_put {H : Hp} {f : Str} {v : V} {d : Dt} (tv : TV K H v d) : ∀ {vs : List (Str × V)} {fs : List (Str × Dt)}, Paired (FVo K H) vs fs → Paired (FVo K H) (putF f v vs) (putD f d fs)
  | _, _, .nil => .cons ⟨rfl, tv⟩ .nil
  | (a, u) :: vs, (b, x) :: fs, .cons r rr => by
    obtain ⟨e1, tv'⟩ := r
    have e1' : a = b := e1
    subst e1'
    show Paired _ (if a = f then (a, v) :: vs else (a, u) :: putF f v vs) (if a = f then (a, d) :: fs else (a, x) :: putD f d fs)
    by_cases h : a = f
    · rw [if_pos h, if_pos h]
      exact .cons ⟨rfl, tv⟩ rr
    · rw [if_neg h, if_neg h]
      exact .cons ⟨rfl, tv'⟩ (fv_put tv rr)
theorem ev_fld {f : Str} (h : Ev K B te δ M fun d M1 => ∃ a w C fs x, d = .adr a ∧ (⟨a, w, .ins C fs⟩ : Cell) ∈ M1 ∧ Cls K C ∧ NoAttr K C f ∧ fs.lookup f = some x ∧ Q x M1) : Ev K B (tFld K te f) δ M Q := fun σ H m s R k =>
  h σ H m s _ fun v H' d M' t tv m' ⟨a, w, C, fs, x, e, c, hc, hn, hl, q⟩ => by
    subst e
    cases tv
    obtain ⟨dx, vs, hi, hp⟩ := m'.at_ _ c
    obtain ⟨u, hu, tu⟩ := fv_some hp hl
    exact ⟨a, C, dx, vs, u, rfl, hi, hc, hn, hu, k u H' x M' t tu m' q⟩
theorem ev_con {f : Str} {v : V} {u : Value} {x : Dt} (hx : ∀ H, TV K H v x) (h : Ev K B te δ M fun d M1 => ∃ a w C fs, d = .adr a ∧ (⟨a, w, .ins C fs⟩ : Cell) ∈ M1 ∧ Cls K C ∧ Con K C f v u ∧ fs.lookup f = none ∧ Q x M1) : Ev K B (tCon K te f) δ M Q := fun σ H m s R k =>
  h σ H m s _ fun z H' d M' t tv m' ⟨a, w, C, fs, e, c, hc, hn, hl, q⟩ => by
    subst e
    cases tv
    obtain ⟨dx, vs, hi, hp⟩ := m'.at_ _ c
    exact ⟨a, C, dx, vs, v, u, rfl, hi, hc, hn, fv_none hp hl, k v H' x M' t (hx H') m' q⟩
theorem ss_fld {f : Str} {tv : TE} (h : Ev K B tv δ M fun y M1 => Ev K B ta δ M1 fun d M2 => ∃ a C fs p, d = .adr a ∧ M2[p]? = some ⟨a, true, .ins C fs⟩ ∧ Cls K C ∧ NoAttr K C f ∧ fs.length < 1000 ∧ N δ (M2.set p ⟨a, true, .ins C (putD f y fs)⟩)) :
    SS K B (sFld K ta tv f) δ M N Rt := fun σ H m s D k1 k2 =>
  h σ H m s _ fun y H1 dy M1 t1 ty m1 h1 => h1 σ H1 m1 (s.mono t1) _ fun v H2 d M2 t2 tv m2 ⟨a, C, fs, p, e, hp, hc, hn, hl, q⟩ => by
    subst e
    cases tv
    obtain ⟨dx, vs, hi, hv⟩ := m2.at_ _ (List.mem_of_getElem? hp)
    have tw := m2.tuW (u := .ins C dx (putF f y vs)) hp
    refine ⟨a, C, dx, vs, rfl, hi, hc, hn, by rw [paired_len hv]; exact hl, k1 σ _ δ _ ((t1.trans t2).trans tw) (m2.write (o' := .ins C (putD f dy fs)) hp ?_) (((s.mono t1).mono t2).mono tw) q⟩
    exact ⟨dx, _, upd_same, paired_mono (fv_put (ty.mono t2) hv) fun _ _ z => ⟨z.1, z.2.mono tw⟩⟩

/-! ### methods, properties, instances made -/
def IsIns (M : Mem) (a C : Addr) (m : Str) : Prop := ∃ w fs, (⟨a, w, .ins C fs⟩ : Cell) ∈ M ∧ fs.lookup m = none
theorem ev_meth {C : Addr} {mt : Str} {F : Spec} (h : Ev K B te δ M fun d M1 => ∃ a, d = .adr a ∧ IsIns M1 a C mt ∧ EvA K B t δ M1 fun ds M2 => F (.adr a :: ds) M2 Q) : Ev K B (tMethR C mt (Pm K F) E0 te t) δ M Q := fun σ H m s R k =>
  h σ H m s _ fun v H1 d M1 t1 tv m1 ⟨a, e, ⟨w, fs, c, hl⟩, h1⟩ => by
    subst e
    cases tv
    obtain ⟨dx, vs, hi, hp⟩ := m1.at_ _ c
    refine ⟨a, dx, vs, rfl, hi, fv_none hp hl, h1 σ H1 m1 (s.mono t1) _ fun ws H2 ds M2 t2 tv2 m2 q => ?_⟩
    exact pm_use (.cons (.adr a) tv2) m2 q fun v H' d M' t3 => k v H' d M' ((t1.trans t2).trans t3)
theorem ev_prop {C : Addr} {F : Spec} (h : Ev K B te δ M fun d M1 => ∃ a, d = .adr a ∧ (∃ w fs, (⟨a, w, .ins C fs⟩ : Cell) ∈ M1) ∧ F [.adr a] M1 Q) : Ev K B (tProp C (Pm K F) [] E0 te) δ M Q := fun σ H m s R k =>
  h σ H m s _ fun v H1 d M1 t1 tv m1 ⟨a, e, ⟨w, fs, c⟩, h1⟩ => by
    subst e
    cases tv
    obtain ⟨dx, vs, hi, hp⟩ := m1.at_ _ c
    exact ⟨a, dx, vs, rfl, hi, pm_use (.cons (.adr a) .nil) m1 h1 fun v H' d M' t3 => k v H' d M' (t1.trans t3)⟩
theorem ev_make {C : Addr} {F : Spec} (h : EvA K B t δ M fun ds M1 => ∀ x, F (.adr x :: ds) (⟨x, true, .ins C []⟩ :: M1) fun d M2 => d = .non ∧ Q (.adr x) M2) : Ev K B (StX.tMakeR C (Pm K F) E0 t) δ M Q := fun σ H m s R k =>
  h σ H m s _ fun vs H1 ds M1 t1 tv m1 h1 => fun x dx hx hdx ne => by
    have e1 : Evl.Ex H1 (upd H1 dx (.own x)) := Evl.Ex.new hdx
    have hx' : (upd H1 dx (.own x)) x = none := by rw [upd_ne ne.symm]; exact hx
    have e2 : Evl.Ex (upd H1 dx (.own x)) (upd (upd H1 dx (.own x)) x (.ins C dx [])) := Evl.Ex.new hx'
    have m2 := (m1.grow e1).new (o := .ins C []) hx' (u := .ins C dx []) ⟨dx, [], upd_same, .nil⟩
    refine pm_use (.cons (.adr x) (tv.mono (e1.trans e2).tu)) m2 (h1 x) fun v H' d M' t3 tv3 m3 ⟨e, q⟩ => ?_
    subst e
    cases tv3
    exact ⟨rfl, k _ H' _ M' ((t1.trans (e1.trans e2).tu).trans t3) (.adr x) m3 q⟩

/-! ### methods of lists and tuples -/
def TyD (T : String) (d : Dt) (M : Mem) : Prop := match d with
  | .adr a => T = "list" ∧ ∃ w ds, (⟨a, w, .lst ds⟩ : Cell) ∈ M
  | _ => False
theorem ev_bm {T : String} {r : V → List V → Hp → VK → Prop} (h : Ev K B te δ M fun d M1 => TyD T d M1 ∧ EvA K B t δ M1 fun ds M2 => OpM K B r d ds M2 Q) : Ev K B (tBM K T r te t) δ M Q := fun σ H m s R k =>
  h σ H m s _ fun v H1 d M1 t1 tv m1 ⟨ty, h1⟩ => by
    refine ⟨?_, h1 σ H1 m1 (s.mono t1) _ fun ws H2 ds M2 t2 tv2 m2 q => q v ws H2 (tv.mono t2) tv2 m2 R fun v H' d M' t3 => k v H' d M' ((t1.trans t2).trans t3)⟩
    cases d with
    | adr a =>
      cases tv
      obtain ⟨rfl, w, ds, c⟩ := ty
      obtain ⟨vs, hl, hs⟩ := m1.at_ _ c
      exact .inl ⟨rfl, vs, SqL.of hl⟩
    | _ => exact ty.elim
theorem o_append {a : Addr} {p : Nat} {ds : List Dt} {d : Dt} (hp : M[p]? = some ⟨a, true, .lst ds⟩) (hl : ds.length < 1000000) (q : Q .non (M.set p ⟨a, true, .lst (ds ++ [d])⟩)) : OpM K B rAppend (.adr a) [d] M Q := fun v vs H tv tvs m R k => by
  cases tv
  cases tvs with
  | cons x y =>
    cases y
    obtain ⟨ws, hw, hs⟩ := m.at_ _ (List.mem_of_getElem? hp)
    rename_i u
    have tw := m.tuW (u := .lst (ws ++ [u])) hp
    exact ⟨a, ws, u, rfl, rfl, hw, by rw [hs.length]; exact lt_line hl, k _ _ _ _ tw .non (m.write (o' := .lst (ds ++ [d])) hp ⟨_, upd_same, (hs.append (.cons x .nil)).mono tw⟩) q⟩
theorem o_popAt {a : Addr} {p : Nat} {ds : List Dt} {d : Dt} (hp : M[p]? = some ⟨a, true, .lst (d :: ds)⟩) (q : Q d (M.set p ⟨a, true, .lst ds⟩)) : OpM K B rPopAt (.adr a) [.int 0] M Q := fun v vs H tv tvs m R k => by
  cases tv
  cases tvs with
  | cons x y =>
    cases y
    cases x
    obtain ⟨ws, hw, hs⟩ := m.at_ _ (List.mem_of_getElem? hp)
    cases hs with
    | cons h1 h2 =>
      rename_i u us
      have tw := m.tuW (u := .lst us) hp
      refine ⟨a, u :: us, 0, 0, u, rfl, rfl, hw, by decide, by decide, ?_, rfl, k _ _ _ _ tw (h1.mono tw) (m.write (o' := .lst ds) hp ⟨_, upd_same, h2.mono tw⟩) q⟩
      have e : ixN (u :: us).length 0 = some 0 := by
        unfold ixN
        rw [if_pos (by decide), if_pos (by show (0 : Int) < ((us.length + 1 : Nat) : Int); omega)]
        rfl
      exact (ixN_seq e).1
theorem eqV_int {i j : Int} : eqV (.int i) (.int j) = decide (i = j) := by
  show (i == j) = _
  by_cases h : i = j
  · subst h; simp
  · simp [h]
theorem o_indexL {a : Addr} {w : Bool} {ns : List Int} {n : Int} (c : (⟨a, w, .lst (ns.map .int)⟩ : Cell) ∈ M) (hn : n ∈ ns) (q : Q (.int (ns.idxOf n : Nat)) M) : OpM K B (rIndex K) (.adr a) [.int n] M Q := fun v vs H tv tvs m R k => by
  cases tv
  cases tvs with
  | cons x y =>
    cases y
    cases x
    obtain ⟨ws, hw, hs⟩ := m.at_ _ c
    have e := hs.ints
    subst e
    have hj := List.idxOf_lt_length_iff.mpr hn
    refine ⟨a, _, .int n, ns.idxOf n, .int n, rfl, rfl, SqL.of hw, rfl, flat_ints ns, ?_, by rw [eqV_int]; simp, fun j z hj' hz => ?_, k _ H _ M (Tu.refl H) (.int _) m q⟩
    · rw [List.getElem?_map, List.getElem?_eq_getElem hj, List.getElem_idxOf]
      rfl
    · rw [List.getElem?_map] at hz
      obtain ⟨u, hu, e⟩ := Option.map_eq_some_iff.mp hz
      subst e
      rw [eqV_int]
      refine decide_eq_false fun e => ?_
      subst e
      obtain ⟨h1, h2⟩ := List.getElem?_eq_some_iff.mp hu
      have := List.idxOf_le_of_getElem? hu
      omega
where
  List.idxOf_le_of_getElem? {ns : List Int} {j : Nat} {u : Int} (h : ns[j]? = some u) : ns.idxOf u ≤ j := by
    induction ns generalizing j with
    | nil => simp at h
    | cons x r ih =>
      rw [List.idxOf_cons]
      cases e : x == u with
      | true => simp
      | false =>
        cases j with
        | zero =>
          simp at h
          subst h
          simp at e
        | succ j =>
          have := ih (j := j) (by simpa using h)
          simp only [cond_false]
          omega

/-! ### slices, sums of tuples -/
theorem eo_none {QO : Option Int → Mem → Prop} (q : QO none M) : EvO K B tNoPart δ M QO := fun σ H m s R k => k none H M (Tu.refl H) m q
theorem eo_some {QO : Option Int → Mem → Prop} (h : Ev K B te δ M fun d M' => ∃ i, d = .int i ∧ QO (some i) M') : EvO K B (tPart te) δ M QO := fun σ H m s R k =>
  h σ H m s _ fun v H' d M' t tv m' ⟨i, e, q⟩ => by
    subst e
    cases tv
    exact ⟨i, rfl, k _ H' M' t m' q⟩
theorem ev_sl {r : V → Option Int → Option Int → Hp → VK → Prop} {tlo thi : TO} (h : Ev K B te δ M fun d M1 => EvO K B tlo δ M1 fun lo M2 => EvO K B thi δ M2 fun hi M3 => OpS K B r d lo hi M3 Q) : Ev K B (tSl r te tlo thi) δ M Q := fun σ H m s R k =>
  h σ H m s _ fun v H1 d M1 t1 tv m1 h1 => h1 σ H1 m1 (s.mono t1) _ fun lo H2 M2 t2 m2 h2 => h2 σ H2 m2 ((s.mono t1).mono t2) _ fun hi H3 M3 t3 m3 q =>
    q v H3 ((tv.mono t2).mono t3) m3 R fun v H' d M' t4 => k v H' d M' (((t1.trans t2).trans t3).trans t4)
theorem o_slT {b : Bool} {ds : List Dt} {n : Nat} (hn : n < ds.length) (q : Q (.tup false (ds.take n)) M) : OpS K B (rSlA K) (.tup b ds) none (some (n : Int)) M Q := fun v H tv m R k => by
  cases tv with
  | tup ht hb hs =>
    rename_i a vs
    refine ⟨a, vs, rfl, ht, fun z => ?_, fun _ p hp => ?_⟩
    · have := z.2
      rw [HT.sIx_nat, hs.length] at this
      omega
    · have e : cutV vs none (some (n : Int)) = List.take n vs := by
        unfold cutV
        rw [HT.sIx_nat, hs.length, Nat.min_eq_left (Nat.le_of_lt hn)]
        rfl
      rw [e]
      exact k _ _ _ M (Tu.new hp) (.newF hp (hs.take n)) (m.tup hp) q
theorem o_slL {a : Addr} {w : Bool} {ds : List Dt} {n : Nat} (c : (⟨a, w, .lst ds⟩ : Cell) ∈ M) (hn : n ≤ ds.length) (q : ∀ p, Q (.adr p) (⟨p, true, .lst (ds.take n)⟩ :: M)) : OpS K B (rSlL K) (.adr a) none (some (n : Int)) M Q := fun v H tv m R k => by
  cases tv
  obtain ⟨vs, hl, hs⟩ := m.at_ _ c
  refine ⟨a, vs, rfl, SqL.of hl, fun p hp => ?_⟩
  have e : cutV vs none (some (n : Int)) = List.take n vs := by
    unfold cutV
    rw [HT.sIx_nat, hs.length, Nat.min_eq_left hn]
    rfl
  rw [e]
  exact k _ _ _ _ (Tu.new hp) (.adr p) (m.new (o := .lst (ds.take n)) hp ⟨_, upd_same, (hs.take n).mono (Tu.new hp)⟩) (q p)
theorem o_catL {a b : Addr} {w w' : Bool} {ds es : List Dt} (c : (⟨a, w, .lst ds⟩ : Cell) ∈ M) (c' : (⟨b, w', .lst es⟩ : Cell) ∈ M) (hl : ds.length + es.length ≤ 1000000) (q : ∀ p, Q (.adr p) (⟨p, true, .lst (ds ++ es)⟩ :: M)) : Op2 K B rCat (.adr a) (.adr b) M Q := fun v1 v2 H h1 h2 m R k => by
  cases h1
  cases h2
  obtain ⟨vs, hv, hs⟩ := m.at_ _ c
  obtain ⟨ws, hw, hs'⟩ := m.at_ _ c'
  exact ⟨a, b, vs, ws, rfl, rfl, hv, hw, by rw [hs.length, hs'.length]; exact len_line hl, fun p hp => k _ _ _ _ (Tu.new hp) (.adr p) (m.new (o := .lst (ds ++ es)) hp ⟨_, upd_same, (hs.append hs').mono (Tu.new hp)⟩) (q p)⟩

/-! ### list(range(n)) -/
theorem rgV_nat (n : Nat) : rgV 0 n = (List.range n).map fun i => V.int (i : Nat) := by
  unfold rgV
  rw [show ((n : Int) - 0).toNat = n by omega]
  refine List.map_congr_left fun i _ => ?_
  rw [Int.zero_add]
theorem tvs_rg {H : Hp} (n : Nat) : TVs K H ((List.range n).map fun i => V.int (i : Nat)) ((List.range n).map fun i => Dt.int (i : Nat)) := by
  have h : ∀ l : List Nat, TVs K H (l.map fun i => V.int (i : Nat)) (l.map fun i => Dt.int (i : Nat)) := fun l => by
    induction l with
    | nil => exact .nil
    | cons x r ih => exact .cons (.int _) ih
  exact h _
theorem ev_listRg (h : Ev K B te δ M fun d M1 => ∃ n : Nat, d = .int n ∧ n ≤ 100000 ∧ ∀ p, Q (.adr p) (⟨p, true, .lst ((List.range n).map fun i => Dt.int (i : Nat))⟩ :: M1)) : Ev K B (tLstRg (tRg1 te)) δ M Q := fun σ H m s R k =>
  h σ H m s _ fun v H' d M' t tv m' ⟨n, e, l, q⟩ => by
    subst e
    cases tv
    refine ⟨n, rfl, .of_le (by decide) (by omega) (by decide) (by omega), fun p hp => ?_⟩
    rw [rgV_nat]
    exact k _ _ _ _ (t.trans (Tu.new hp)) (.adr p) (m'.new (o := .lst _) hp ⟨_, upd_same, tvs_rg n⟩) (q p)
theorem ev_tupRg (h : Ev K B te δ M fun d M1 => ∃ n : Nat, d = .int n ∧ n ≤ 100000 ∧ Q (.tup false ((List.range n).map fun i => Dt.int (i : Nat))) M1) : Ev K B (tTupRg (tRg1 te)) δ M Q := fun σ H m s R k =>
  h σ H m s _ fun v H' d M' t tv m' ⟨n, e, l, q⟩ => by
    subst e
    cases tv
    refine ⟨n, rfl, .of_le (by decide) (by omega) (by decide) (by omega), fun p hp => ?_⟩
    rw [rgV_nat]
    exact k _ _ _ _ (t.trans (Tu.new hp)) (.newF hp (tvs_rg n)) (m'.tup hp) q

/-! ### dicts with int keys -/
def valD (kvs : List (Int × Dt)) (n : Int) : Option Dt := (kvs.find? fun kv => decide (kv.1 = n)).map (·.2)
theorem kv_val {H : Hp} {n : Int} : ∀ {vs : List (Key × V)} {kvs : List (Int × Dt)}, Paired (KVo K H) vs kvs → (valD kvs n = none ∧ valV vs (Sum.inl n) = none) ∨ ∃ d v, valD kvs n = some d ∧ valV vs (Sum.inl n) = some v ∧ TV K H v d
  | _, _, .nil => .inl ⟨rfl, rfl⟩
  | (a, v) :: vs, (b, d) :: kvs, .cons r rr => by
    obtain ⟨e, tv⟩ := r
    have e' : a = Sum.inl b := e
    subst e'
    by_cases h : b = n
    · subst h
      exact .inr ⟨d, v, by simp [valD], valV_pos rfl, tv⟩
    · have h2 : ¬ ((Sum.inl b : Key), v).1 = Sum.inl n := fun z => h (Sum.inl.inj z)
      rw [valV_neg h2]
      have e3 : valD ((b, d) :: kvs) n = valD kvs n := by simp [valD, h]
      rw [e3]
      exact kv_val rr
theorem kv_put {H : Hp} {n : Int} {v : V} {d : Dt} {vs : List (Key × V)} {kvs : List (Int × Dt)} (h : Paired (KVo K H) vs kvs) (hn : valD kvs n = none) (tv : TV K H v d) : Paired (KVo K H) (putK vs (Sum.inl n) v) (kvs ++ [(n, d)]) := by
  have e : valV vs (Sum.inl n) = none := by
    rcases kv_val (n := n) h with ⟨_, e⟩ | ⟨d, v, e, _⟩
    · exact e
    · rw [hn] at e; cases e
  unfold putK
  rw [valV_any, e]
  rw [if_neg (by decide)]
  have app : ∀ {a : List (Key × V)} {b : List (Int × Dt)}, Paired (KVo K H) a b → Paired (KVo K H) (a ++ [(Sum.inl n, v)]) (b ++ [(n, d)]) := fun {a b} p => by
    induction p with
    | nil => exact .cons ⟨rfl, tv⟩ .nil
    | cons r _ ih => exact .cons r ih
  exact app h
theorem ev_dnin {QB : Bool → Mem → Prop} (h : Ev K B ta δ M fun y M1 => Ev K B te δ M1 fun d M2 => ∃ n a w kvs, y = .int n ∧ d = .adr a ∧ (⟨a, w, .dct kvs⟩ : Cell) ∈ M2 ∧ Q (.bl (valD kvs n).isNone) M2) : Ev K B (tDNotIn ta te) δ M Q := fun σ H m s R k =>
  h σ H m s _ fun u H1 y M1 t1 tu m1 h1 => h1 σ H1 m1 (s.mono t1) _ fun v H2 d M2 t2 tv m2 ⟨n, a, w, kvs, e1, e2, c, q⟩ => by
    subst e1
    subst e2
    cases tu
    cases tv
    obtain ⟨vs, hd, hp⟩ := m2.at_ _ c
    refine ⟨a, valV vs (Sum.inl n), rfl, DGet.k (k := Sum.inl n) hd, ?_⟩
    have e : (!(valV vs (Sum.inl n)).isSome) = (valD kvs n).isNone := by
      rcases kv_val (n := n) hp with ⟨e1, e2⟩ | ⟨d, v, e1, e2, _⟩
      · rw [e1, e2]; rfl
      · rw [e1, e2]; rfl
    rw [e]
    exact k _ H2 _ M2 (t1.trans t2) (.bl _) m2 q
theorem ev_dget (h : Ev K B te δ M fun d M1 => Ev K B ta δ M1 fun y M2 => ∃ n a w kvs x, y = .int n ∧ d = .adr a ∧ (⟨a, w, .dct kvs⟩ : Cell) ∈ M2 ∧ valD kvs n = some x ∧ Q x M2) : Ev K B (tDGet te ta) δ M Q := fun σ H m s R k =>
  h σ H m s _ fun u H1 d M1 t1 tu m1 h1 => h1 σ H1 m1 (s.mono t1) _ fun v H2 y M2 t2 tv m2 ⟨n, a, w, kvs, x, e1, e2, c, hx, q⟩ => by
    subst e1
    subst e2
    cases tu
    cases tv
    obtain ⟨vs, hd, hp⟩ := m2.at_ _ c
    rcases kv_val (n := n) hp with ⟨e1, _⟩ | ⟨d, v, e1, e2, tx⟩
    · rw [hx] at e1; cases e1
    · rw [hx] at e1
      cases e1
      refine ⟨a, v, rfl, ?_, k v H2 x M2 (t1.trans t2) tx m2 q⟩
      rw [← e2]
      exact DGet.k (k := Sum.inl n) hd
theorem ss_dput {tv : TE} (h : Ev K B tv δ M fun x M1 => Ev K B te δ M1 fun d M2 => Ev K B ta δ M2 fun y M3 => ∃ n a kvs p, y = .int n ∧ d = .adr a ∧ M3[p]? = some ⟨a, true, .dct kvs⟩ ∧ kvs.length < 1000 ∧ valD kvs n = none ∧ N δ (M3.set p ⟨a, true, .dct (kvs ++ [(n, x)])⟩)) :
    SS K B (sDPut te ta tv) δ M N Rt := fun σ H m s D k1 k2 =>
  h σ H m s _ fun x H1 dx M1 t1 tx m1 h1 => h1 σ H1 m1 (s.mono t1) _ fun u H2 d M2 t2 tu m2 h2 => h2 σ H2 m2 ((s.mono t1).mono t2) _ fun v H3 y M3 t3 tv m3 ⟨n, a, kvs, p, e1, e2, hp, hl, hn, q⟩ => by
    subst e1
    subst e2
    cases tu
    cases tv
    obtain ⟨vs, hd, hv⟩ := m3.at_ _ (List.mem_of_getElem? hp)
    have tw := m3.tuW (u := .dK (putK vs (Sum.inl n) x)) hp
    refine ⟨a, _, rfl, DPut.k (k := Sum.inl n) hd (by rw [paired_len hv]; exact lt_line (by omega)), k1 σ _ δ _ (((t1.trans t2).trans t3).trans tw) (m3.write (o' := .dct (kvs ++ [(n, dx)])) hp ?_) ((((s.mono t1).mono t2).mono t3).mono tw) q⟩
    exact ⟨_, upd_same, paired_mono (kv_put hv hn ((tx.mono t2).mono t3)) fun _ _ z => ⟨z.1, z.2.mono tw⟩⟩
end
end Zy
set_option Elab.async false
set_option linter.all false
set_option maxRecDepth 100000
set_option maxHeartbeats 4000000
namespace Zy
open PySem PySem.Spec PyProof.Rows L2

/-! ### enumerate(v), v told by its iterator -/
theorem meets_enum1 {v : Value} {o : Obj} {H : Heap → Prop} (B : Begins v o H) :
    Meets (Builtin.«enumerate.__new__» ⟨[.type "enumerate", v], []⟩) (fun _ R s => H s.heap ∧
      R (.ok (.ret (.ref (s.heap.push o).objs.size))) { s with heap := (s.heap.push o).push { cls := .type "enumerate", data := .fields #[.none, .bool false, .ref s.heap.objs.size, rawInt 0, .none, .none] } }) :=
  .of_wp fun prog w A R s h => by
    obtain ⟨hp, g, d, tk, os⟩ := s; obtain ⟨h1, h⟩ := h
    have hsub := sub_enumerate
    have q1 : ∀ {A' : Around} {E : Value → Shared → Prop} {Q : Value → Shared → Prop}, Q (.ref hp.objs.size) ⟨hp.push o, g, d, tk, os⟩ → wpAny (model prog w) A' (pyIter v) Q E ⟨hp, g, d, tk, os⟩ :=
      fun q => B.iter prog w _ _ ⟨hp, g, d, tk, os⟩ _ h1 q
    wp_walk using q1
    refine wpAny_stack_any fun st => wpAny_pure ?_
    split
    · rename_i c _ _ _ _ _
      cases (c == Value.type "enumerate")
      · wp_walk using q1
        exact ⟨_, rfl, h⟩
      · wp_walk using q1
        exact ⟨_, rfl, h⟩
    · wp_walk using q1
      exact ⟨_, rfl, h⟩
theorem enum1_begins {prog : Program} {w : World} {A : Around} {E : Value → Shared → Prop} {s : Shared} {v : Value} {o : Obj} {H : Heap → Prop} {Q : Value → Shared → Prop} (B : Begins v o H) (h1 : H s.heap)
    (h : ∀ h', IsEnum h' (s.heap.objs.size + 1) s.heap.objs.size 0 .none → h'.get? s.heap.objs.size = some o → h'.objs.size = s.heap.objs.size + 2 →
      (∀ b o, s.heap.get? b = some o → h'.get? b = some o) → Q (.ref (s.heap.objs.size + 1)) { s with heap := h' }) :
    wpAny (model prog w) A (call (.type "enumerate") [v]) Q E s := by
  refine callType_new F.called_enumerate (by decide) (F.typeCall_enumerate_1 _) (F.newCall_enumerate_1 _) (fun obj => F.args_object_init_2 obj _) F.entry_enumerate_new
    (meets_enum1 B) ⟨h1, ?_⟩
  have hz : (s.heap.push o).objs.size = s.heap.objs.size + 1 := Heap.size_push ..
  show _ ∧ _
  rw [hz]
  have he : IsEnum ((s.heap.push o).push { cls := .type "enumerate", data := .fields #[.none, .bool false, .ref s.heap.objs.size, rawInt 0, .none, .none] }) (s.heap.objs.size + 1) s.heap.objs.size 0 .none := by
    have := Heap.get?_push_size (s.heap.push o) (o := { cls := .type "enumerate", data := .fields #[.none, .bool false, .ref s.heap.objs.size, rawInt 0, .none, .none] }) rfl
    rw [hz] at this; exact this
  refine ⟨⟨_, he, rfl⟩, h _ he (Heap.get?_push_of_some _ (Heap.get?_push_size _ B.free)) (by rw [Heap.size_push, hz]) fun b o x => Heap.get?_push_of_some _ (Heap.get?_push_of_some _ x)⟩

theorem tup_ne_iter {h : Heap} {a it : Addr} {items : Array Value} {i : Nat} (p : IsTup h a items) (q : h.IsTupleIter it a i) : a ≠ it := fun e => by
  obtain ⟨o, ho, hc, _⟩ := p
  obtain ⟨o', ho', hc', _⟩ := q
  rw [← e, ho] at ho'
  cases ho'
  rw [hc] at hc'
  exact absurd (Value.type.inj hc') (by decide)
theorem lst_ne_iter {h : Heap} {a it : Addr} {items : Array Value} {i : Nat} (p : h.IsList a items) (q : h.IsListIter it a i) : a ≠ it := fun e => by
  obtain ⟨o, ho, hc, _⟩ := p
  obtain ⟨o', ho', hc', _⟩ := q
  rw [← e, ho] at ho'
  cases ho'
  rw [hc] at hc'
  exact absurd (Value.type.inj hc') (by decide)

/-! ### enumerate(tuple) -/
def IteT (K : PySem.W.Frag) (a : Addr) : It :=
  ⟨fun i H => ∃ (xs : List V) (x : V), SqT K H a xs ∧ xs[i]? = some x, fun i H v H' => ∃ T x, v = .ref T ∧ H T = none ∧ H' = upd H T (.tup [.int (i : Nat), x]) ∧ ∀ xs, SqT K H a xs → xs[i]? = some x, fun i H => ∃ xs : List V, SqT K H a xs ∧ xs.length = i⟩
theorem turn_enumT {P : Program} {w : World} {K : PySem.W.Frag} {elts : List Expr} {kk : Nat} {tpos : Pos} (a e it : Addr) :
    Turn P w K (.Tuple elts kk tpos) (IteT K a) [e, it] e (fun i h => (∃ old, IsEnum h e it ((i : Nat) : Int) old) ∧ h.IsTupleIter it a i ∧ e ≠ it ∧ e ≠ a) where
  mem := by simp
  obj := fun i h st b hb => by
    obtain ⟨⟨old, he⟩, ⟨o, ho, hc, hd⟩, _⟩ := st
    have e' : b = e ∨ b = it := by simpa using hb
    rcases e' with z | z
    · rw [z]; exact ⟨_, he, fun v q => nomatch q⟩
    · rw [z]; exact ⟨o, ho, fun v q => by rw [hd] at q; cases q⟩
  keep := fun i h h' st k => let ⟨⟨old, he⟩, hi, hne, hna⟩ := st; ⟨⟨old, k e (by simp) _ he⟩, hi.at fun o q => k it (by simp) o q, hne, hna⟩
  item := by
    intro X hP hw hK hc i pins s σ H E I hf st hg
    subst hP hw hK
    obtain ⟨⟨old, he⟩, hit, hne, hna⟩ := st
    obtain ⟨xs, x, hq, hx⟩ := hg
    obtain ⟨its, rv, p, hz⟩ := I.tuple hq
    obtain ⟨u, hu, ru⟩ := rv.get hx
    have hel : e < s.heap.objs.size := Heap.lt_size he
    have hil : it < s.heap.objs.size := by obtain ⟨_, q, _⟩ := hit; exact Heap.lt_size q
    have hai := tup_ne_iter p hit
    have hi : i < its.toArray.size := by
      rw [List.size_toArray, ← rv.length]
      exact (List.getElem?_eq_some_iff.mp hx).1
    have hA1 : X.A.in1.handled = none := by
      show X.A.handled = none
      exact I.ok.hd hc
    have D := Draws.tuple (prog := X.prog) (w := X.w) hA1 it a hai its.toArray
    refine wpAny_pyNext_enum_itemC D he ⟨hit, p⟩ hi hne (by simp [hne, hna]) fun x' h' tk hP ho hst' hT hsz hk => ?_
    have ex : x' = u := by
      rw [show its.toArray[i]? = some u by simpa using hu] at hP
      exact (Option.some.inj hP).symm
    subst ex
    obtain ⟨hit', _⟩ := hst'
    refine ⟨_, rfl, wpAny_letOwnedTupleGo_enum (s := { s with heap := h', toks := tk + 1 }) ho fun h'' he' sb => ?_⟩
    have hT2 : h''.get? s.heap.objs.size = some { cls := .type "tuple", data := .seq #[.int i tk, x'] } := (sb.2 _ (Nat.ne_of_gt hel)).trans hT
    have new : ObjOk X.prog X.w (upd H s.heap.objs.size (.tup [.int (i : Nat), x])) h'' s.heap.objs.size (.tup [.int (i : Nat), x]) :=
      ⟨by show 2 ≤ sizeLine; decide, [.int i tk, x'], .cons ⟨_, rfl⟩ (.cons ru .nil), ⟨_, hT2, rfl, _, rfl⟩⟩
    have I1 : Inv X pins σ (upd H s.heap.objs.size (.tup [.int (i : Nat), x])) { s with heap := h'', toks := tk + 1 } :=
      I.turnedNew (ch := [e, it]) (fun b ob hb q => (sb.2 b (fun z => hb (by simp [z]))).trans (hk b ob (fun z => hb (by simp [z])) (fun z => hb (by simp [z])) q)) hf (Nat.le_refl _) new
    refine ⟨.ref s.heap.objs.size, _, I1, rfl, ⟨_, x, rfl, I.hok.fresh (Nat.le_refl _), rfl, fun ys hy => by rw [I.tuple_inj hy hq]; exact hx⟩, ⟨⟨x', ?_⟩, hit'.at fun o q => (sb.2 it (Ne.symm hne)).trans q, hne, hna⟩, fun b hb => ?_⟩
    · have e1 : ((i + 1 : Nat) : Int) = (i : Int) + 1 := by omega
      rw [e1]; exact he'
    · have hb' : b < s.heap.objs.size := by
        have e' : b = e ∨ b = it := by simpa using hb
        rcases e' with z | z
        · rw [z]; exact hel
        · rw [z]; exact hil
      rw [upd_ne (Nat.ne_of_lt hb')]
      exact (hf b hb).1
  done := by
    intro X hP hw hK hc i pins s σ H E I hf st hg
    subst hP hw hK
    obtain ⟨⟨old, he⟩, hit, hne, hna⟩ := st
    obtain ⟨xs, hq, hx⟩ := hg
    obtain ⟨its, rv, p, hz⟩ := I.tuple hq
    obtain ⟨f0, f1, f2, f3, f4, f5⟩ := hf it (by simp)
    have hl := rv.length
    have hai := tup_ne_iter p hit
    have hA1 : X.A.in1.handled = none := by
      show X.A.handled = none
      exact I.ok.hd hc
    have D := Draws.tuple (prog := X.prog) (w := X.w) hA1 it a hai its.toArray
    have ei : i = its.toArray.size := by rw [List.size_toArray, ← hl]; exact hx.symm
    rw [ei] at hit
    exact wpAny_pyNext_enum_endD D he ⟨hit, p⟩ fun h' eb => ⟨rfl, I.turned (t' := s.toks) (fun b o hb q => eb b o hb q) f0 f1 f3 f4 f5⟩
  self := fun A i s Q E st h => let ⟨⟨_, he⟩, _⟩ := st; wpAny_pyIter_enum he h
def iEnumT (K : PySem.W.Frag) (ta : TA) : TI := fun σ H R => ta σ H fun vs H1 => ∃ a xs, vs = [.ref a] ∧ SqT K H1 a xs ∧ R (IteT K a) H1
theorem pi_enumT {X : Cx} {e : Expr} {ta : TA} {p pos tpos : Pos} {elts : List Expr} {kk : Nat} (hg : Gl X "enumerate") (hm : X.mg "enumerate" = none) (ha : PA X [e] ta) (hs : starEach [e] X.env = [(false, eval e X.env)] := by rfl) :
    PI X (.Tuple elts kk tpos) (.Call (.Name "enumerate" p) [e] [] pos) (iEnumT X.K ta) := by
  refine ⟨fun pins s σ H R I h => ?_⟩
  refine Call_ (ld_blt I hg hm boot_enumerate (PyProof.Rows.callWith_type1 (thn (ha.run pos pins s σ H _ I h) fun us s1 ⟨vs, H1, I1, r1, q1⟩ => ?_) hs rfl))
  obtain ⟨a, xs, ex, hq, q⟩ := q1
  subst ex
  cases r1 with
  | cons r rr =>
    cases rr
    cases r
    obtain ⟨its, rv, p', hz⟩ := I1.tuple hq
    have al : a < s1.heap.objs.size := by obtain ⟨o, ho, _⟩ := p'; exact Heap.lt_size ho
    refine enum1_begins (begins_tuple a its.toArray) p' fun h' he hit hsz hk => wpAny_pyIter_enum he ?_
    have I2 : Inv X pins σ H1 { s1 with heap := h' } := I1.kept (t' := s1.toks) hk
    refine ⟨s1.heap.objs.size + 1, [s1.heap.objs.size + 1, s1.heap.objs.size], _, _, H1, rfl, I2, turn_enumT a (s1.heap.objs.size + 1) s1.heap.objs.size, ⟨⟨.none, he⟩, ⟨_, hit, rfl, rfl⟩, Nat.succ_ne_self _, Nat.ne_of_gt (Nat.lt_succ_of_lt al)⟩, fun b hb => ?_, q⟩
    have e' : b = s1.heap.objs.size + 1 ∨ b = s1.heap.objs.size := by simpa using hb
    have hle : s1.heap.objs.size ≤ b := by
      rcases e' with z | z
      · rw [z]; exact Nat.le_add_right _ _
      · rw [z]; exact Nat.le_refl _
    exact I1.fpOk hle (I1.hok.fresh hle)
end Zy
set_option Elab.async false
set_option linter.all false
set_option maxRecDepth 100000
set_option maxHeartbeats 4000000
namespace Zy
open PySem PySem.Spec PyProof.Rows L2

/-! ### zip(tuple, list) -/
def ItzM (K : PySem.W.Frag) (a b : Addr) : It :=
  ⟨fun i H => ∃ (xs ys : List V) (x y : V), SqT K H a xs ∧ SqL K H b ys ∧ xs[i]? = some x ∧ ys[i]? = some y,
    fun i H v H' => ∃ T x y, v = .ref T ∧ H T = none ∧ H' = upd H T (.tup [x, y]) ∧ (∀ xs, SqT K H a xs → xs[i]? = some x) ∧ ∀ ys, SqL K H b ys → ys[i]? = some y,
    fun i H => ∃ xs ys : List V, SqT K H a xs ∧ SqL K H b ys ∧ i ≤ xs.length ∧ i ≤ ys.length ∧ (i = xs.length ∨ i = ys.length)⟩
theorem turn_zipM {P : Program} {w : World} {K : PySem.W.Frag} {elts : List Expr} {kk : Nat} {tpos : Pos} {a b z TI TO i1 i2 : Addr} (S : ZipSep2 z TI TO i1 i2 [i1, a] [i2, b]) :
    Turn P w K (.Tuple elts kk tpos) (ItzM K a b) [z, TI, TO, i1, i2] z (fun i h => IsZip h z TI TO .none ∧ IsTupOf2 h TI (.ref i1) (.ref i2) ∧ (∃ x y, IsTupOf2 h TO x y) ∧ h.IsTupleIter i1 a i ∧ h.IsListIter i2 b i) where
  mem := by simp
  obj := fun i h st c hc => by
    obtain ⟨hz, hTI, ⟨x, y, hTO⟩, ⟨o1, e1, _, d1⟩, ⟨o2, e2, _, d2⟩⟩ := st
    have e' : c = z ∨ c = TI ∨ c = TO ∨ c = i1 ∨ c = i2 := by simpa using hc
    rcases e' with q | q | q | q | q
    · rw [q]; exact ⟨_, hz, fun v q => nomatch q⟩
    · rw [q]; exact ⟨_, hTI, fun v q => nomatch q⟩
    · rw [q]; exact ⟨_, hTO, fun v q => nomatch q⟩
    · rw [q]; exact ⟨o1, e1, fun v q => by rw [d1] at q; cases q⟩
    · rw [q]; exact ⟨o2, e2, fun v q => by rw [d2] at q; cases q⟩
  keep := fun i h h' st k => by
    obtain ⟨hz, hTI, ⟨x, y, hTO⟩, h1, h2⟩ := st
    exact ⟨k z (by simp) _ hz, k TI (by simp) _ hTI, ⟨x, y, k TO (by simp) _ hTO⟩, h1.at fun o q => k i1 (by simp) o q, h2.at fun o q => k i2 (by simp) o q⟩
  item := by
    intro X hP hw hK hc i pins s σ H E I hf st hg
    subst hP hw hK
    obtain ⟨hz, hTI, ⟨x0, y0, hTO⟩, h1, h2⟩ := st
    obtain ⟨xs, ys, x, y, hqx, hqy, hx, hy⟩ := hg
    obtain ⟨its, rv, p, _⟩ := I.tuple hqx
    obtain ⟨its2, rv2, p2, _⟩ := I.list hqy
    obtain ⟨u, hu, ru⟩ := rv.get hx
    obtain ⟨u2, hu2, ru2⟩ := rv2.get hy
    have hzl : z < s.heap.objs.size := Heap.lt_size hz
    have hA1 : X.A.in1.handled = none := by
      show X.A.handled = none
      exact I.ok.hd hc
    have D1 := Draws.tuple (prog := X.prog) (w := X.w) hA1 i1 a (tup_ne_iter p h1) its.toArray
    have D2 := Draws.list (prog := X.prog) (w := X.w) hA1 i2 b (lst_ne_iter p2.isList h2) its2.toArray
    have l1 : i < its.toArray.size := by rw [List.size_toArray, ← rv.length]; exact (List.getElem?_eq_some_iff.mp hx).1
    have l2 : i < its2.toArray.size := by rw [List.size_toArray, ← rv2.length]; exact (List.getElem?_eq_some_iff.mp hy).1
    refine wpAny_pyNext_zipD2_item S D1 D2 hz hTI hTO ⟨h1, p⟩ ⟨h2, p2.isList⟩ l1 l2 fun x1 x2 h' tk hP1 hP2 z' TO' st1 st2 hT hsz hk => ?_
    have e1 : x1 = u := by
      rw [show its.toArray[i]? = some u by simpa using hu] at hP1
      exact (Option.some.inj hP1).symm
    have e2 : x2 = u2 := by
      rw [show its2.toArray[i]? = some u2 by simpa using hu2] at hP2
      exact (Option.some.inj hP2).symm
    subst e1 e2
    refine ⟨_, rfl, wpAny_letOwnedTupleGo_zip (s := { s with heap := h', toks := tk }) z' fun h'' z'' sb => ?_⟩
    have hT2 : h''.get? s.heap.objs.size = some { cls := .type "tuple", data := .seq #[x1, x2] } := (sb.2 _ (Nat.ne_of_gt hzl)).trans hT
    have new : ObjOk X.prog X.w (upd H s.heap.objs.size (.tup [x, y])) h'' s.heap.objs.size (.tup [x, y]) :=
      ⟨by show 2 ≤ sizeLine; decide, [x1, x2], .cons ru (.cons ru2 .nil), ⟨_, hT2, rfl, _, rfl⟩⟩
    have I1 : Inv X pins σ (upd H s.heap.objs.size (.tup [x, y])) { s with heap := h'', toks := tk } :=
      I.turnedNew (t' := tk) (ch := [z, TI, TO, i1, i2]) (fun c o hb q => (sb.2 c (fun q' => hb (by simp [q']))).trans (hk c o (fun q' => hb (by simp [q'])) (fun q' => hb (by simp [q'])) (fun q' => hb (by simp [q'])) (fun q' => hb (by simp [q'])) q)) hf (Nat.le_refl _) new
    refine ⟨.ref s.heap.objs.size, _, I1, rfl, ⟨_, x, y, rfl, I.hok.fresh (Nat.le_refl _), rfl, fun l hl => by rw [I.tuple_inj hl hqx]; exact hx, fun l hl => by rw [I.list_inj hl hqy]; exact hy⟩, ⟨z'', ?_, ⟨x1, x2, ?_⟩, ?_, ?_⟩, fun c hcm => ?_⟩
    · exact (sb.2 _ S.TIz).trans (hk _ _ S.TIz S.TITO S.TIi1 S.TIi2 hTI)
    · exact (sb.2 _ S.TOz).trans TO'
    · exact st1.1.at fun o q => (sb.2 _ S.zi1.symm).trans q
    · exact st2.1.at fun o q => (sb.2 _ S.zi2.symm).trans q
    · have hcl : c < s.heap.objs.size := by
        have e' : c = z ∨ c = TI ∨ c = TO ∨ c = i1 ∨ c = i2 := by simpa using hcm
        rcases e' with q | q | q | q | q
        · rw [q]; exact hzl
        · rw [q]; exact Heap.lt_size hTI
        · rw [q]; exact Heap.lt_size hTO
        · rw [q]; obtain ⟨_, q', _⟩ := h1; exact Heap.lt_size q'
        · rw [q]; obtain ⟨_, q', _⟩ := h2; exact Heap.lt_size q'
      rw [upd_ne (Nat.ne_of_lt hcl)]
      exact (hf c hcm).1
  done := by
    intro X hP hw hK hc i pins s σ H E I hf st hg
    subst hP hw hK
    obtain ⟨hz, hTI, ⟨x0, y0, hTO⟩, h1, h2⟩ := st
    obtain ⟨xs, ys, hqx, hqy, l1, l2, hend⟩ := hg
    obtain ⟨its, rv, p, _⟩ := I.tuple hqx
    obtain ⟨its2, rv2, p2, _⟩ := I.list hqy
    have hA1 : X.A.in1.handled = none := by
      show X.A.handled = none
      exact I.ok.hd hc
    have D1 := Draws.tuple (prog := X.prog) (w := X.w) hA1 i1 a (tup_ne_iter p h1) its.toArray
    have D2 := Draws.list (prog := X.prog) (w := X.w) hA1 i2 b (lst_ne_iter p2.isList h2) its2.toArray
    have n1 : its.toArray.size = xs.length := by rw [List.size_toArray, ← rv.length]
    have n2 : its2.toArray.size = ys.length := by rw [List.size_toArray, ← rv2.length]
    refine wpAny_pyNext_zipD2_end S D1 D2 hz hTI hTO ⟨h1, p⟩ ⟨h2, p2.isList⟩ (by omega) (by omega) (by omega) fun h' tk hk => ⟨rfl, ?_⟩
    refine I.step (g' := s.gens) (d' := s.drawn) (ch := [z, TI, TO, i1, i2]) (fun b hb => ⟨(hf b hb).2.2.2.1, (hf b hb).2.1, (hf b hb).2.2.2.2.1, (hf b hb).2.2.2.2.2⟩)
      (fun b o _ _ hc e _ => hk b o (fun q' => hc (by simp [q'])) (fun q' => hc (by simp [q'])) (fun q' => hc (by simp [q'])) (fun q' => hc (by simp [q'])) e)
      (fun b o _ _ hc e _ => ⟨o.slots, hk b o (fun q' => hc (by simp [q'])) (fun q' => hc (by simp [q'])) (fun q' => hc (by simp [q'])) (fun q' => hc (by simp [q'])) e⟩)
      (fun b o _ e n => n) (fun b o hc e => ⟨o, hk b o (fun q' => hc (by simp [q'])) (fun q' => hc (by simp [q'])) (fun q' => hc (by simp [q'])) (fun q' => hc (by simp [q'])) e⟩)
      (fun b xs e => e) (fun b o u e => e) (fun b ps e => ⟨#[], by rw [e]; simp⟩) (fun m hm => ?_) ?_ I.bare
    · obtain ⟨o, es, ep, ho, r⟩ := hm
      have nL : ∀ b ∈ [z, TI, TO, i1, i2], X.env.locals ≠ b := fun b hb => ((hf b hb).2.1).symm
      exact ⟨o, es, ep, hk _ o (nL _ (by simp)) (nL _ (by simp)) (nL _ (by simp)) (nL _ (by simp)) ho, r⟩
    · intro b u e
      have nb : ∀ c u', H c = some u' → c ≠ z ∧ c ≠ TO ∧ c ≠ i1 ∧ c ≠ i2 := fun c u' e' => by
        refine ⟨fun q => ?_, fun q => ?_, fun q => ?_, fun q => ?_⟩
        · have := (hf z (by simp)).1; rw [← q, e'] at this; cases this
        · have := (hf TO (by simp)).1; rw [← q, e'] at this; cases this
        · have := (hf i1 (by simp)).1; rw [← q, e'] at this; cases this
        · have := (hf i2 (by simp)).1; rw [← q, e'] at this; cases this
      refine (I.hok b u e).stay (fun c v hc q => ?_) (fun _ q => q) fun _ _ q => q
      have hc' : ∃ u', H c = some u' := by
        rcases hc with rfl | hc
        · exact ⟨_, e⟩
        · exact ⟨_, hc⟩
      obtain ⟨u', hu'⟩ := hc'
      obtain ⟨a1, a2, a3, a4⟩ := nb c u' hu'
      exact hk c v a1 a2 a3 a4 q
  self := fun A i s Q E st h => wpAny_pyIter_zip st.1 h
def iZipM (K : PySem.W.Frag) (ta : TA) : TI := fun σ H R => ta σ H fun vs H1 => ∃ a b xs ys, vs = [.ref a, .ref b] ∧ SqT K H1 a xs ∧ SqL K H1 b ys ∧ R (ItzM K a b) H1
theorem pi_zipM {X : Cx} {e e2 : Expr} {ta : TA} {p pos tpos : Pos} {elts : List Expr} {kk : Nat} (hg : Gl X "zip") (hm : X.mg "zip" = none) (ha : PA X [e, e2] ta)
    (hs : starEach [e, e2] X.env = (false, eval e X.env) :: starEach [e2] X.env := by rfl) (hpl : (backTo pos (starEach [e2] X.env)).any (·.1) = false := by rfl) :
    PI X (.Tuple elts kk tpos) (.Call (.Name "zip" p) [e, e2] [] pos) (iZipM X.K ta) := by
  refine ⟨fun pins s σ H R I h => ?_⟩
  refine Call_ (ld_blt I hg hm PyProof.Rows.boot_zip (PyProof.Rows.callWith_type1 (thn (ha.run pos pins s σ H _ I h) fun us s1 ⟨vs, H1, I1, r1, q1⟩ => ?_) hs hpl))
  obtain ⟨a, b, xs, ys, ex, hqx, hqy, q⟩ := q1
  subst ex
  cases r1 with
  | cons r rr =>
    cases rr with
    | cons r' rr =>
      cases rr
      cases r
      cases r'
      have fresh5 : ∀ c, c ∈ [s1.heap.objs.size + 4, s1.heap.objs.size + 2, s1.heap.objs.size + 3, s1.heap.objs.size, s1.heap.objs.size + 1] → FpOk X pins H1 c := fun c hcm => by
        have e' : c = s1.heap.objs.size + 4 ∨ c = s1.heap.objs.size + 2 ∨ c = s1.heap.objs.size + 3 ∨ c = s1.heap.objs.size ∨ c = s1.heap.objs.size + 1 := by simpa using hcm
        have hle : s1.heap.objs.size ≤ c := by
          rcases e' with z | z | z | z | z
          · rw [z]; exact Nat.le_add_right _ _
          · rw [z]; exact Nat.le_add_right _ _
          · rw [z]; exact Nat.le_add_right _ _
          · rw [z]; exact Nat.le_refl _
          · rw [z]; exact Nat.le_add_right _ _
        exact I1.fpOk hle (I1.hok.fresh hle)
      obtain ⟨its, rv, p1, _⟩ := I1.tuple hqx
      obtain ⟨its2, rv2, p2, _⟩ := I1.list hqy
      have la : a < s1.heap.objs.size := by obtain ⟨o, ho, _⟩ := id p1; exact Heap.lt_size ho
      have lb : b < s1.heap.objs.size := p2.lt
      refine zip_begins2 (begins_tuple a its.toArray) (begins_list b its2.toArray) p1 p2.isList fun h' hz hTI hTO h1 h2 hsz hk => wpAny_pyIter_zip hz ?_
      have I2 : Inv X pins σ H1 { s1 with heap := h' } := I1.kept (t' := s1.toks) hk
      exact ⟨s1.heap.objs.size + 4, [s1.heap.objs.size + 4, s1.heap.objs.size + 2, s1.heap.objs.size + 3, s1.heap.objs.size, s1.heap.objs.size + 1], _, _, H1, rfl, I2,
        turn_zipM (zip_sep2 (fp1 := [a]) (fp2 := [b]) (fun c hc => by rw [List.mem_singleton.mp hc]; exact la) (fun c hc => by rw [List.mem_singleton.mp hc]; exact lb)), ⟨hz, hTI, ⟨_, _, hTO⟩, ⟨_, h1, rfl, rfl⟩, ⟨_, h2, rfl, rfl⟩⟩, fresh5, q⟩

/-! ### plain tuples: displays, tuple(list), sums -/
theorem laidF {X : Cx} {pins : List (Addr × Obj)} {σ : L2.St} {H : Hp} {s : Shared} {us : List Value} {xs : List V} (I : Inv X pins σ H s) (r : Vals xs us) (z : xs.length ≤ sizeLine) {t' : Nat} :
    Inv X pins σ (upd H s.heap.objs.size (.frz { cls := .type "tuple", data := .seq us.toArray } (.tup xs))) { s with heap := s.heap.push { cls := .type "tuple", data := .seq us.toArray }, toks := t' } :=
  I.laid (t' := t') (fun b u e => Heap.get?_push_of_some _ e) (Nat.le_refl _) ⟨Heap.get?_push_size _ rfl, z, us, r, ⟨_, Heap.get?_push_size _ rfl, rfl, _, rfl⟩⟩
theorem pe_tupF {X : Cx} {es : List Expr} {t : TA} {x1 : Nat} {pos : Pos} (h : PA X es t) : PE X (.Tuple es x1 pos) (tTupF t) := by
  refine ⟨fun pins s σ H Q I hq => ?_⟩
  refine wpAny_Tuple_spliced (thn (h.run pos pins s σ H _ I hq) fun us s1 ⟨xs, H1, I1, r, z, q⟩ => ⟨by rw [← r.length]; exact z, ?_⟩)
  have hf : H1 s1.heap.objs.size = none := I1.hok.fresh (Nat.le_refl _)
  exact ⟨.ref s1.heap.objs.size, _, laidF (t' := s1.toks) I1 r z, rfl, q _ _ rfl hf⟩
theorem call_tupF {X : Cx} : CallR X (.type "tuple") (rTupF X.K) := by
  intro pins s σ H xs us Q I r h
  obtain ⟨p, ys, rfl, hq, q⟩ := h
  obtain ⟨u, rfl, rx⟩ := vals1 r
  cases rx
  obtain ⟨its, r', pl, hz⟩ := I.list hq
  have hlen := r'.length
  refine call_tuple_list pl.isList (fun h' kp => ?_) (by simp only [List.size_toArray] <;> omega)
  have I1 : Inv X pins σ H { s with heap := h' } := I.kept (t' := s.toks) kp
  exact ⟨.ref h'.objs.size, _, laidF (t' := s.toks) I1 r' hz, rfl, q _ _ rfl (I1.hok.fresh (Nat.le_refl _))⟩
/-- t + u: plain where both are -/
def rCatF (K : PySem.W.Frag) : R2 := fun x y H Q => ∃ a b xs ys, x = .ref a ∧ y = .ref b ∧ SqT K H a xs ∧ SqT K H b ys ∧ xs.length + ys.length ≤ sizeLine ∧
  (xs = [] → Q (.ref b) H) ∧ (xs ≠ [] → ys = [] → Q (.ref a) H) ∧ (xs ≠ [] → ys ≠ [] → ∀ (p : Addr) (o : Obj), o.dict = none → H p = none → Q (.ref p) (upd H p (.frz o (.tup (xs ++ ys)))))
theorem op_catF {X : Cx} : OpR X (binaryOp .Add) (rCatF X.K) := by
  intro pins s σ H x y v u Q I rx ry h
  obtain ⟨a, b, xs, ys, rfl, rfl, ha, hb, hz, q0, q1, q2⟩ := h
  cases rx
  cases ry
  obtain ⟨its, r1, p1, _⟩ := I.tuple ha
  obtain ⟨its2, r2, p2, _⟩ := I.tuple hb
  by_cases hx : xs = []
  · subst hx
    cases r1
    exact cat_tup0 p1 p2 ⟨.ref b, H, I, rfl, q0 rfl⟩
  · have n1 : its ≠ [] := fun z => by
      subst z
      cases r1
      exact hx rfl
    refine HT.cat_tup p1 p2 n1 (fun z => ?_) (fun z => ?_) (by rw [← r1.length, ← r2.length]; exact hz)
    · subst z
      cases r2
      exact ⟨.ref a, H, I, rfl, q1 hx rfl⟩
    · have n2 : ys ≠ [] := fun z' => by
        subst z'
        cases r2
        exact z rfl
      exact ⟨.ref s.heap.objs.size, _, laidF (t' := s.toks) I (r1.append r2) (by rw [List.length_append]; exact hz), rfl, q2 hx n2 _ _ rfl (I.hok.fresh (Nat.le_refl _))⟩
section
variable {K : PySem.W.Frag} {B : Hp} {M : Mem} {Q : Dt → Mem → Prop}
theorem o_catF {ds es : List Dt} (hl : ds.length + es.length ≤ 1000000) (q : Q (.tup true (ds ++ es)) M) : Op2 K B (rCatF K) (.tup true ds) (.tup true es) M Q := fun v1 v2 H h1 h2 m R k => by
  cases h1 with
  | tup ha ba hs =>
    cases h2 with
    | tup hb bb hs' =>
      rename_i a xs b ys
      refine ⟨a, b, xs, ys, rfl, rfl, ha, hb, by rw [hs.length, hs'.length]; exact len_line hl, fun z => ?_, fun z z' => ?_, fun z z' p o ho hp => ?_⟩
      · subst z
        have e : ds = [] := by cases hs; rfl
        subst e
        exact k _ H _ M (Tu.refl H) (.tup hb bb hs') m q
      · subst z'
        have e : es = [] := by cases hs'; rfl
        subst e
        rw [List.append_nil] at q
        exact k _ H _ M (Tu.refl H) (.tup ha ba hs) m q
      · exact k _ _ _ M (Tu.new hp) (.new hp ho (hs.append hs')) (m.tup hp) q
end
end Zy
set_option Elab.async false
set_option linter.all false
set_option maxRecDepth 100000
set_option maxHeartbeats 4000000
namespace Zy
open PySem PySem.Spec PyProof.Rows L2

/-! ### max of a tuple of ints -/
def rMaxT (K : PySem.W.Frag) : List V → Hp → VK → Prop := fun vs H Q => ∃ (a : Addr) (n : Int) (ns : List Int), vs = [V.ref a] ∧ SqT K H a ((n :: ns).map V.int) ∧ Q (.int (ns.foldl max n)) H
theorem reads_ints {h : Heap} : ∀ {us : List Value} {ns : List Int}, IntsAre us ns → ∃ as, ReadsAll h us (ns.map PyData.int) as
  | _, _, .nil => ⟨_, .nil⟩
  | _, _, .cons n t hs => by
    obtain ⟨as, r⟩ := reads_ints (h := h) hs
    exact ⟨_, .cons (.int n t) r⟩
theorem depth_ints : ∀ ns : List Int, PyData.depthAll (ns.map PyData.int) = 0
  | [] => rfl
  | n :: ns => by
    rw [List.map_cons]
    simp only [PyData.depthAll, PyData.depth, depth_ints ns]
    rfl
theorem call_maxT {X : Cx} (hc : X.calm = true) (hu : X.A.units + 64 < cLine) : CallR X (.builtin "max") (rMaxT X.K) := by
  intro pins s σ H vs us Q I r h
  obtain ⟨a, n, ns, rfl, hs, q⟩ := h
  obtain ⟨its, rv, pl, _⟩ := I.tuple hs
  rw [Vals.ref1 r]
  obtain ⟨as, ra⟩ := reads_ints (h := s.heap) rv.ints
  rw [List.map_cons] at ra
  have ra' : ReadsAll s.heap its.toArray.toList (PyData.int n :: ns.map PyData.int) as := by rw [List.toList_toArray]; exact ra
  have al : PySem.W.AlikeAll (PyData.int n :: ns.map PyData.int) := by
    rw [← List.map_cons (f := PyData.int)]
    refine ⟨fun x hx y hy => ?_, fun x hx => ?_⟩
    · obtain ⟨i, _, rfl⟩ := List.mem_map.mp hx
      obtain ⟨j, _, rfl⟩ := List.mem_map.mp hy
      rfl
    · obtain ⟨i, _, rfl⟩ := List.mem_map.mp hx
      intro z
      cases z
  have dp : PyData.depthAll (PyData.int n :: ns.map PyData.int) = 0 := depth_ints (n :: ns)
  refine PySem.W.max_tuple_data (I.ok.hd hc) (show s.heap.IsTuple a its.toArray from pl) ra' al (by rw [dp]; omega) fun i v h' tk bs hv hr hk => ?_
  rw [PySem.W.maxD_ints] at hr
  cases hr
  exact ⟨.int _, H, I.kept hk, ⟨_, rfl⟩, q⟩
section
variable {K : PySem.W.Frag} {B : Hp} {M : Mem} {Q : Dt → Mem → Prop}
theorem o_maxT {b : Bool} {n : Int} {ns : List Int} (q : Q (.int (ns.foldl max n)) M) : OpC K B (rMaxT K) [.tup b ((n :: ns).map .int)] M Q := fun vs H h m R k => by
  cases h with
  | cons h1 h2 =>
    cases h2
    cases h1 with
    | tup ht hb hs =>
      have e := hs.ints
      subst e
      exact ⟨_, n, ns, rfl, ht, k _ H _ M (Tu.refl H) (.int _) m q⟩
end

/-! ### t.index(n), t a plain tuple of ints -/
def tTIx (K : PySem.W.Frag) (to : TE) (t : TA) : TE := fun σ H Q => to σ H fun x H1 => ∃ (p : Addr) (o : Obj) (ns : List Int), x = .ref p ∧ H1 p = some (.frz o (.tup (ns.map V.int))) ∧ o.dict = none ∧
  t σ H1 fun xs H2 => H2 p = some (.frz o (.tup (ns.map V.int))) ∧ ∃ n, xs = [.int n] ∧ n ∈ ns ∧ Q (.int (ns.idxOf n : Nat)) H2
theorem pe_tix {X : Cx} {o e : Expr} {to : TE} {t : TA} {apos cpos : Pos} (hc : X.calm = true) (ho : PE X o to) (ha : PA X [e] t)
    (hbase : attributeBase o "index" X.env (eval o X.env) = eval o X.env := by rfl)
    (hfew : ((backTo cpos (starEach [e] X.env)).all (fun x => !x.1) && (backToKw cpos (keywordEach [] X.env)).all (fun x => x.1.isSome)
      && decide ([e].length + ([] : List Keyword).length + (if ([] : List Keyword).isEmpty then 0 else 1) < 30)) = true := by rfl)
    (hline : (apos.endLine == cpos.line) = true := by rfl) (hs : starEach [e] X.env = (false, eval e X.env) :: starEach [] X.env := by rfl) (hplain : (backTo cpos (starEach [] X.env)).any (·.1) = false := by rfl) :
    PE X (.Call (.Attribute o "index" apos) [e] [] cpos) (tTIx X.K to t) := by
  refine ⟨fun pins s σ H Q I h => ?_⟩
  refine wpAny_Call_method_late hbase hfew hline rfl (thn (ho.run pins s σ H _ I h) fun v s1 ⟨x, H1, I1, r1, p, ob, ns, ex, hp, hd, q1⟩ => ?_)
  subst ex
  obtain rfl : v = Value.ref p := r1
  obtain ⟨hget, hz, its, rv, ⟨o2, ho2, hc2, n2, hd2⟩⟩ := (show ObjOk X.prog X.w H1 s1.heap p (.frz ob (.tup (ns.map V.int))) from I1.hok p _ hp)
  rw [hget] at ho2
  cases ho2
  refine ⟨"tuple", "tuple.index", PySem.F.plainAttrs_tuple, PySem.F.slot_tuple_index, PySem.F.type_tuple_index, ⟨ob, hget, hc2⟩, fun a e => ?_, ?_⟩
  · cases e
    exact ⟨ob, hget, hd⟩
  have hA := ha.run cpos pins s1 σ H1 _ I1 q1
  rw [hs] at hA ⊢
  refine Calls.callWith_builtin (by show (false || (backTo cpos (starEach [] X.env)).any (·.1)) = false; rw [hplain] <;> rfl) (Calls.evalArgs_plain ?_)
  refine thn hA fun us s2 ⟨vs, H2, I2, r2, hp2, n, ev, hn, q2⟩ => ?_
  subst ev
  obtain ⟨u, rfl, t', rfl⟩ := vals1 r2
  obtain ⟨hget2, hz2, its2, rv2, pl2⟩ := (show ObjOk X.prog X.w H2 s2.heap p (.frz ob (.tup (ns.map V.int))) from I2.hok p _ hp2)
  refine PySem.W.kix_tup pl2 (by rw [List.toList_toArray]; exact rv2.ints) (I.ok.hd hc) (fun _ => ?_) fun z => absurd hn z
  exact ⟨.int _, H2, I2.tok _, ⟨_, rfl⟩, q2⟩
section
variable {K : PySem.W.Frag} {B : Hp} {M : Mem} {δ : Dl} {Q : Dt → Mem → Prop} {te : TE} {t : TA}
theorem ev_tix (h : Ev K B te δ M fun d M1 => ∃ ns : List Int, d = .tup true (ns.map .int) ∧ EvA K B t δ M1 fun ds M2 => ∃ n, ds = [.int n] ∧ n ∈ ns ∧ Q (.int (ns.idxOf n : Nat)) M2) : Ev K B (tTIx K te t) δ M Q := fun σ H m s R k =>
  h σ H m s _ fun v H1 d M1 t1 tv m1 ⟨ns, e, h1⟩ => by
    subst e
    cases tv with
    | tup ht hb hs =>
      have ei := hs.ints
      subst ei
      obtain ⟨o, ho, hd⟩ := hb rfl
      refine ⟨_, o, ns, rfl, ho, hd, h1 σ H1 m1 (s.mono t1) _ fun ws H2 ds M2 t2 tv2 m2 ⟨n, e, hn, q⟩ => ?_⟩
      subst e
      cases tv2 with
      | cons x y =>
        cases y
        cases x
        exact ⟨(t2 _).2 _ _ ho, n, rfl, hn, k _ H2 _ M2 (t1.trans t2) (.int _) m2 q⟩
end

/-! ### t[::-1], t a tuple -/
theorem sliceApplied_rev {prog : Program} {w : World} {A : Around} {E : Value → Shared → Prop} {s : Shared} {sl : Addr} {vl vu vs : Value} {n : Nat} {Q : Int × Int × Nat → Shared → Prop} (hs : s.heap.IsSliceOf sl vl vu vs) (pl : IsPart vl none) (pu : IsPart vu none) (ps : IsPart vs (some (-1)))
    (h : Q ((n : Int) - 1, -1, n) s) : wpAny (model prog w) A (Builtin.Slice.sliceApplied (.ref sl) (pure (n : Int))) Q E s := by
  obtain ⟨os, hos, hcs, hds⟩ := id hs
  have hadj : Builtin.Slice.sliceAdjust none none (-1) (n : Int) = ((n : Int) - 1, -1) := rfl
  have hpl : Builtin.Slice.slicePlaces ((n : Int) - 1) (-1) (-1) = n := by
    unfold Builtin.Slice.slicePlaces
    rw [if_neg (by decide)]
    have e : (-(-1 : Int)) = 1 := by decide
    rw [e, Int.ediv_one]
    split <;> omega
  unfold Builtin.Slice.sliceApplied Builtin.Slice.sliceFields
  refine wpAny_bind (wpAny_bind (wpAny_field hos hds (x := vl) rfl (wpAny_bind (wpAny_field hos hds (x := vu) rfl (wpAny_bind (wpAny_field hos hds (x := vs) rfl (wpAny_pure ?_)))))))
  refine wpAny_bind (HT.slicePart_ ps ?_)
  show wpAny _ _ (if ((-1 : Int) == 0) = true then _ else _) _ _ s
  rw [if_neg (by decide)]
  refine wpAny_bind (HT.slicePart_ pl (wpAny_bind (HT.slicePart_ pu (wpAny_bind (wpAny_pure ?_)))))
  show wpAny _ _ (match Builtin.Slice.sliceAdjust none none (-1) (n : Int) with | (lo, hi) => pure (lo, (-1 : Int), Builtin.Slice.slicePlaces lo hi (-1))) _ _ s
  rw [hadj]
  show wpAny _ _ (pure ((n : Int) - 1, (-1 : Int), Builtin.Slice.slicePlaces ((n : Int) - 1) (-1) (-1))) _ _ s
  rw [hpl]
  exact wpAny_pure h
theorem pick_rev (xs : Array Value) : ((List.range xs.size).filterMap fun (m : Nat) => xs[(((xs.size : Nat) : Int) - 1 + (m : Int) * (-1)).toNat]?).toArray = xs.toList.reverse.toArray := by
  congr 1
  refine List.ext_getElem? fun i => ?_
  have e : ∀ l : List Nat, (∀ m ∈ l, m < xs.size) → (l.filterMap fun (m : Nat) => xs[(((xs.size : Nat) : Int) - 1 + (m : Int) * (-1)).toNat]?) = l.map fun m => xs.toList.reverse.getD m .none := by
    intro l hl
    induction l with
    | nil => rfl
    | cons m r ih =>
      have hm := hl m List.mem_cons_self
      have q : (((xs.size : Nat) : Int) - 1 + (m : Int) * (-1)).toNat = xs.size - 1 - m := by omega
      have hlt : xs.size - 1 - m < xs.size := by omega
      rw [List.filterMap_cons, List.map_cons, ih fun k hk => hl k (List.mem_cons_of_mem _ hk), q, Array.getElem?_eq_getElem hlt]
      have g : xs.toList.reverse.getD m .none = xs[xs.size - 1 - m] := by
        rw [List.getD_eq_getElem?_getD, List.getElem?_reverse (by rw [Array.length_toList]; exact hm), Array.length_toList]
        simp [hlt]
      rw [g]
  rw [e _ fun m hm => List.mem_range.mp hm, List.getElem?_map]
  by_cases hi : i < xs.size
  · rw [List.getElem?_range hi, Option.map_some, List.getD_eq_getElem?_getD]
    have hl : i < xs.toList.reverse.length := by rw [List.length_reverse, Array.length_toList]; exact hi
    rw [List.getElem?_eq_getElem hl]
    rfl
  · have hl : ¬ i < xs.toList.reverse.length := by rw [List.length_reverse, Array.length_toList]; exact hi
    rw [List.getElem?_eq_none (by rw [List.length_range]; omega), List.getElem?_eq_none (by omega)]
    rfl
theorem getItem_tuple_rev {prog : Program} {w : World} {A : Around} {E : Value → Shared → Prop} {s : Shared} {t sl : Addr} {items : Array Value} {vl vu vs : Value} {Q : Value → Shared → Prop} (ht : IsTup s.heap t items) (hs : s.heap.IsSliceOf sl vl vu vs) (pl : IsPart vl none) (pu : IsPart vu none) (ps : IsPart vs (some (-1)))
    (h : Q (.ref s.heap.objs.size) { s with heap := s.heap.push { cls := .type "tuple", data := .seq items.toList.reverse.toArray } })
    (hsz : items.size ≤ sizeLine) : wpAny (model prog w) A (getItem (.ref t) (.ref sl)) Q E s := by
  have htake : sizeOk (.seq items.toList.reverse.toArray) := by
    show items.toList.reverse.toArray.size ≤ sizeLine
    rw [List.size_toArray, List.length_reverse, Array.length_toList]
    exact hsz
  obtain ⟨os, hos, hcs, hds⟩ := id hs
  have hTs : s.TypeIs (.ref sl) "slice" := ⟨os, hos, hcs⟩
  unfold getItem
  try with_reducible refine wpAny_holding ?_
  first | refine wpAny_bind (wpAny_pure ?_) | skip
  refine wpAny_bind (wpAny_sequenceKey ht.typeIs (by decide) ?_)
  refine wpAny_bind (wpAny_callSpecial?_slot (name := Str.ofString "__getitem__") ht.typeIs PyProof.Rows.slot_tuple_getitem
    (wpAny_call_entry PyProof.Rows.slot_tuple_getitem ht.typeIs entry_tuple_getitem ?_ (args_tuple_getitem _ _)))
  show wpAny _ _ (Builtin.Tuple.tupleItemsOf (.ref t) >>= _) _ _ s
  refine wpAny_bind (tupleItemsOf_ ht ?_)
  refine wpAny_bind (wpAny_typeOf hTs ?_)
  rw [if_pos (by decide)]
  refine wpAny_bind (sliceApplied_rev (n := items.size) hs pl pu ps ?_)
  have hno : ¬ ((((items.size : Nat) : Int) - 1 == 0 && (-1 : Int) == 1 && items.size == items.size) = true) := by
    intro q
    rw [Bool.and_eq_true, Bool.and_eq_true] at q
    exact absurd q.1.2 (by decide)
  show wpAny _ _ (if (((items.size : Nat) : Int) - 1 == 0 && (-1 : Int) == 1 && items.size == items.size) = true then _ else _) _ _ s
  rw [if_neg hno, pick_rev]
  first
    | exact wpAny_bind (m := Builtin.Tuple.tupleExact _) (wpAny_newObj_type (wpAny_pure ⟨_, rfl, wpAny_pure h⟩) htake)
    | exact wpAny_bind (m := Builtin.Tuple.tupleExact _) (wpAny_newObj_type (wpAny_bind (wpAny_pure (wpAny_pure ⟨_, rfl, wpAny_pure h⟩))) htake)
    | exact wpAny_bind (wpAny_bind (m := Builtin.Tuple.tupleExact _) (wpAny_newObj_type (wpAny_pure (wpAny_pure ⟨_, rfl, wpAny_pure h⟩)) htake))
    | exact wpAny_bind (wpAny_bind (m := Builtin.Tuple.tupleExact _) (wpAny_newObj_type (wpAny_pure ⟨_, rfl, wpAny_pure h⟩) htake))
def tRevT (K : PySem.W.Frag) (te : TE) : TE := fun σ H Q => te σ H fun x H1 => ∃ a xs, x = .ref a ∧ SqT K H1 a xs ∧ ∀ (p : Addr) (o : Obj), o.dict = none → H1 p = none → Q (.ref p) (upd H1 p (.frz o (.tup xs.reverse)))
theorem pe_revT {X : Cx} {e : Expr} {te : TE} {k : Nat} {p1 p2 p3 pos : Pos} (he : PE X e te) : PE X (.Subscript e (.Slice none none (some (.UnaryOp .USub (.Constant (.int 1) k p1) p2)) p3) pos) (tRevT X.K te) := by
  refine ⟨fun pins s σ H Q I h => ?_⟩
  refine Subscript_ (thn (he.run pins s σ H _ I h) fun v s1 ⟨x, H1, I1, r1, q1⟩ => ?_)
  obtain ⟨a, xs, ex, hx, q⟩ := q1
  subst ex
  cases r1
  have hst : PO X (some (.UnaryOp .USub (.Constant (.int 1) k p1) p2)) (tPart (tUn (rU fun i => .int (-i)) (tC (.int 1)))) := po_some (pe_un un_neg pe_int)
  refine wpAny_Slice (thn (po_none.run pins s1 σ H1 (fun o H2 => o = none ∧ H2 = H1) I1 ⟨rfl, rfl⟩) fun vl s2 ⟨l, H2, I2, pl, el, e2⟩ => ?_)
  subst el e2
  refine thn (po_none.run pins s2 σ H2 (fun o H3 => o = none ∧ H3 = H2) I2 ⟨rfl, rfl⟩) fun vu s3 ⟨u, H3, I3, pu, eu, e3⟩ => ?_
  subst eu e3
  refine thn (hst.run pins s3 σ H3 (fun o H4 => o = some (-1) ∧ H4 = H3) I3 ⟨1, rfl, -1, rfl, rfl, rfl⟩) fun vs s4 ⟨o, H4, I4, ps, eo, e4⟩ => ?_
  subst eo e4
  have I5 : Inv X pins σ H4 { s4 with heap := s4.heap.push { cls := .type "slice", data := .fields #[vl, vu, vs] } } := I4.kept (t' := s4.toks) fun b ob q => Heap.get?_push_of_some _ q
  obtain ⟨its, r, ht, hz⟩ := I5.tuple hx
  have hlen := r.length
  show wpAny (model X.prog X.w) X.A (subscriptTail e (.Slice none none (some (.UnaryOp .USub (.Constant (.int 1) k p1) p2)) p3) (.ref a) (.ref s4.heap.objs.size)) (EP X pins σ Q) X.xe { s4 with heap := s4.heap.push { cls := .type "slice", data := .fields #[vl, vu, vs] } }
  refine tail_any (ops := [.ref a, .ref s4.heap.objs.size]) ht.typeIs PyProof.Rows.slot_tuple_getitem.lookup ?_ (by with_unfolding_all rfl)
  refine getItem_tuple_rev ht (Heap.IsSliceOf.new _ vl vu vs) pl pu ps ?_ (by rw [List.size_toArray]; omega)
  rw [List.toList_toArray]
  exact ⟨.ref _, _, laidF (t' := s4.toks) I5 r.reverse (by rw [List.length_reverse]; exact hz), rfl, q _ _ rfl (I5.hok.fresh (Nat.le_refl _))⟩
section
variable {K : PySem.W.Frag} {B : Hp} {M : Mem} {δ : Dl} {Q : Dt → Mem → Prop} {te : TE}
theorem ev_revT (h : Ev K B te δ M fun d M1 => ∃ b ds, d = .tup b ds ∧ Q (.tup true ds.reverse) M1) : Ev K B (tRevT K te) δ M Q := fun σ H m s R k =>
  h σ H m s _ fun v H1 d M1 t1 tv m1 ⟨b, ds, e, q⟩ => by
    subst e
    cases tv with
    | tup ht hb hs => exact ⟨_, _, rfl, ht, fun p o ho hp => k _ _ _ M1 (t1.trans (Tu.new hp)) (.new hp ho hs.reverse) (m1.tup hp) q⟩
end
end Zy
set_option Elab.async false
set_option linter.all false
set_option maxRecDepth 100000
set_option maxHeartbeats 4000000
namespace Zy
open PySem PySem.Spec PyProof.Rows L2
open C8 (fnBody fnArgs fnScope clsBody scC fnScope_by)

/-! ### defs, methods, properties, makers in symbolic form -/
abbrev FnP (K : PySem.W.Frag) (x qual : Str) (st : Stmt) (f : Addr) : Prop := ∃ fd, FunD K x qual (fnArgs st) (fnBody st) (fnScope st) [] [] f fd
/-- how a def binds when every parameter is written -/
def BindN (x qual : Str) (st : Stmt) (ps : List Str) : Prop := ∀ (kV doc pm : Value) (an : Option Addr) (cdv ct : Value) (us : List Value), us.length = ps.length →
  bindArgs (PySem.W.fnOf x qual (fnArgs st) (fnBody st) (fnScope st) .none kV doc pm an cdv ct) ⟨us, []⟩ = pure (ps.zip us)
section
variable (P : Program) (w : World) (K : PySem.W.Frag) (mg : Str → Option Value) (base : Heap)
/-- a body reads as t -/
def Bd (k : Nat) (qual : Str) (st : Stmt) (N : List Str) (f : Addr) (F : Spec) : Prop := ∀ (cdv : Value) (A : Around) (outer : List Env) (s : Shared) (H : Hp) (E : XK), Room k (A.deeper (envOfC qual (fnScope st) s.heap.objs.size f cdv)) →
  ∃ t, PSs (cxOf CX0 P w K mg base N qual (fnScope st) f cdv A outer s H E).nox (fnBody st) t ∧ ∀ (B : Hp) (ds : List Dt) (M : Mem) (Q0 : Dt → Mem → Prop), F ds M Q0 →
    SS K B t (ds.map some ++ List.replicate (N.length - ds.length) none) M (fun _ M' => WkM (Q0 .non) M') (fun d M' => WkM (Q0 d) M')
structure DefR (k : Nat) (x : Str) (sp : Sp) : Prop where
  ex : ∃ f, mg x = some (.ref f) ∧ PySem.W.keepIn K (.ref f) = true ∧ FnR P w K mg base CX0 k f sp
structure MetR (k : Nat) (C : Addr) (m : Str) (sp : Sp) : Prop where
  ex : ∃ f, Cls K C ∧ Meth K C m f ∧ FnR P w K mg base CX0 k f sp
structure PrpR (k : Nat) (C : Addr) (m : Str) (sp : Sp) : Prop where
  ex : ∃ p f fd ps, Cls K C ∧ PropOf K C m p f ∧ FnOk P w K mg base CX0 k f fd ps sp ∧ Binds K fd ps []
structure MakR (k : Nat) (C : Addr) (x : Str) (sp : Sp) : Prop where
  ex : ∃ f, Mk K C f ∧ mg x = some (.ref C) ∧ FnR P w K mg base CX0 k f sp
end
section
variable {P : Program} {w : World} {K : PySem.W.Frag} {mg : Str → Option Value} {base : Heap} {k : Nat} {x qual : Str} {st : Stmt} {f : Addr} {N ps : List Str} {F : Spec}
theorem fnok_of {fd : FuncData} (Fn : FunD K x qual (fnArgs st) (fnBody st) (fnScope st) [] [] f fd) (S : FnScope N ps (fnScope st)) (len : ∀ ds M Q, F ds M Q → ds.length = ps.length) (hb : Bd P w K mg base k qual st N f F) :
    FnOk P w K mg base CX0 (k + 1) f fd ps (Pm K F) :=
  Fn.ok S (pm_len len) fun cdv A outer s H vs Q E hr h => by
    obtain ⟨t, h1, h2⟩ := hb cdv A outer s H E hr
    exact ⟨t, h1.nox, pm_run h h2⟩
theorem fnr_of (Fn : FnP K x qual st f) (S : FnScope N ps (fnScope st)) (bn : BindN x qual st ps) (len : ∀ ds M Q, F ds M Q → ds.length = ps.length) (hb : Bd P w K mg base k qual st N f F) : FnR P w K mg base CX0 (k + 1) f (Pm K F) := by
  obtain ⟨fd, Fn⟩ := Fn
  have := (fnok_of Fn S len hb).raw (Fn.bindsN bn) .nil
  exact this.imp fun vs H Q E h => by rw [List.append_nil]; exact h
theorem def_of (hm : mg x = some (.ref f)) (Fn : FnP K x qual st f) (S : FnScope N ps (fnScope st)) (bn : BindN x qual st ps) (len : ∀ ds M Q, F ds M Q → ds.length = ps.length) (hb : Bd P w K mg base k qual st N f F) : DefR P w K mg base (k + 1) x (Pm K F) :=
  ⟨f, hm, Fn.elim fun _ z => z.kp, fnr_of Fn S bn len hb⟩
theorem met_of {C : Addr} {m : Str} (c : Cls K C) (me : Meth K C m f) (Fn : FnP K x qual st f) (S : FnScope N ps (fnScope st)) (bn : BindN x qual st ps) (len : ∀ ds M Q, F ds M Q → ds.length = ps.length) (hb : Bd P w K mg base k qual st N f F) : MetR P w K mg base (k + 1) C m (Pm K F) :=
  ⟨f, c, me, fnr_of Fn S bn len hb⟩
theorem prp_of {C p : Addr} {m : Str} (c : Cls K C) (me : PropOf K C m p f) (Fn : FnP K x qual st f) (S : FnScope N ps (fnScope st)) (bn : BindN x qual st ps) (len : ∀ ds M Q, F ds M Q → ds.length = ps.length) (hb : Bd P w K mg base k qual st N f F) : PrpR P w K mg base (k + 1) C m (Pm K F) := by
  obtain ⟨fd, Fn⟩ := Fn
  exact ⟨p, f, fd, ps, c, me, fnok_of Fn S len hb, Fn.bindsN bn⟩
theorem mak_of {C : Addr} {y : Str} (M : Mk K C f) (hm : mg y = some (.ref C)) (Fn : FnP K x qual st f) (S : FnScope N ps (fnScope st)) (bn : BindN x qual st ps) (len : ∀ ds M Q, F ds M Q → ds.length = ps.length) (hb : Bd P w K mg base k qual st N f F) : MakR P w K mg base (k + 1) C y (Pm K F) :=
  ⟨f, M, hm, fnr_of Fn S bn len hb⟩
/-- def f(a, .., *v) -/
def BindS (x qual : Str) (st : Stmt) (ps : List Str) (pv : Str) : Prop := ∀ (kV doc pm : Value) (an : Option Addr) (cdv ct : Value) (us rest : List Value), us.length = ps.length →
  bindArgs (PySem.W.fnOf x qual (fnArgs st) (fnBody st) (fnScope st) .none kV doc pm an cdv ct) ⟨us ++ rest, []⟩ = (newTuple rest >>= fun t => pure (ps.zip us ++ [(pv, t)]))
theorem tvs_split {H : Hp} : ∀ {n : Nat} {vs : List V} {ds : List Dt}, TVs K H vs ds → TVs K H (vs.take n) (ds.take n) ∧ TVs K H (vs.drop n) (ds.drop n) := fun h => ⟨h.take _, h.drop _⟩
theorem fns_of {pv : Str} (Fn : FnP K x qual st f) (S : FnScope N (ps ++ [pv]) (fnScope st)) (bn : BindS x qual st ps pv) (len : ∀ ds M Q, F ds M Q → ds.length = ps.length + 1)
    (hb : Bd P w K mg base k qual st N f F) : FnR P w K mg base CX0 (k + 1) f (Pm K fun ds M Q => ps.length ≤ ds.length ∧ ds.length ≤ 1000000 ∧ F (ds.take ps.length ++ [.tup false (ds.drop ps.length)]) M Q) := by
  obtain ⟨fd, Fn⟩ := Fn
  obtain ⟨oc, od, dV, kV, doc, pm, an, cdv, ct, osl, rfl, lk, hcd, hD, _⟩ := Fn.ex
  rcases hD with ⟨_, rfl⟩ | ⟨e, _⟩
  · refine (StX.fn_star (sp := Pm K F) lk hcd S StX.cxUp_none (bn kV doc pm an cdv ct) fun A outer s H vs Q E hr h => ?_).imp fun vs H Q E h => ?_
    · obtain ⟨t, h1, h2⟩ := hb cdv A outer s H E hr
      exact ⟨t, h1.nox, pm_run h h2⟩
    · obtain ⟨B, ds, M, Q0, tv, m, ⟨hl, hz, hF⟩, k⟩ := h
      have el := tv.length
      refine ⟨vs.take ps.length, vs.drop ps.length, (List.take_append_drop _ _).symm, by rw [List.length_take]; omega, by rw [List.length_drop]; exact len_line (by omega), fun p hp => ?_⟩
      exact ⟨B, _, M, Q0, ((tv.take _).mono (Tu.new hp)).append (.cons (.newF hp (tv.drop _)) .nil), m.tup hp, hF, fun d M' v H' q t tv' m' => k d M' v H' q ((Tu.new hp).trans t) tv' m'⟩
  · exact absurd rfl e
end

section
variable {X : Cx} {k j : Nat} {C : Addr} {x m : Str} {sp : Sp} {p pos apos spos : Pos} {e o : Expr} {es : List Expr} {ta te : TE} {t : TA}
theorem pe_cD (c : DefR X.prog X.w X.K X.mg X.base k x sp) (hr : Room j X.A) (hk : k ≤ j) (hg : Gl X x) (ha : PA X (e :: es) t)
    (hdb : (x == ("__debug__" : Str)) = false := by decide) (he : starEach (e :: es) X.env = (false, eval e X.env) :: starEach es X.env := by rfl) (hpl : (backTo pos (starEach es X.env)).any (·.1) = false := by rfl) :
    PE X (.Call (.Name x p) (e :: es) [] pos) (tCallR sp t) := by
  obtain ⟨f, hm, kp, F⟩ := c.ex
  refine ⟨fun pins s σ H Q I h => ?_⟩
  refine wpAny_Call_Name_kw (ld_glob I hg hm ?_ hdb)
  refine PySem.W.callWith_K (h₀ := X.base) I.ok.mod.kin kp (thn (ha.run pos pins s σ H _ I h) fun us s1 ⟨vs, H1, I1, r, q⟩ => ⟨I1.kIn, ?_⟩) he hpl
  exact wpAny_call (run_fnR F (hr.mono hk) pass0 I1 r q)
/-- f( *e) -/
def tStarR (K : PySem.W.Frag) (sp : Sp) (te : TE) : TE := fun σ H Q => te σ H fun y H1 => ∃ a xs, y = V.ref a ∧ (SqT K H1 a xs ∨ SqL K H1 a xs) ∧ sp xs H1 Q E0
theorem pe_cS (c : DefR X.prog X.w X.K X.mg X.base k x sp) (hr : Room j X.A) (hk : k ≤ j) (hg : Gl X x) (he : PE X e te) (hd : (x == ("__debug__" : Str)) = false := by decide)
    (hst : starEach [.Starred e spos] X.env = [(true, eval e X.env)] := by rfl) : PE X (.Call (.Name x p) [.Starred e spos] [] pos) (tStarR X.K sp te) := by
  obtain ⟨f, hm, kp, F⟩ := c.ex
  exact StX.pe_callS1 F (hr.mono hk) kp hg hm pass0 he hd hst
theorem pe_mR {pl : Sem Bool} (c : MetR X.prog X.w X.K X.mg X.base k C m sp) (hr : Room j X.A) (hk : k ≤ j) (he : PE X o ta) (ha : PA X (e :: es) t)
    (hst : starEach (e :: es) X.env = (false, eval e X.env) :: starEach es X.env := by rfl) (hpl : (backTo pos (starEach es X.env)).any (·.1) = false := by rfl)
    (ht : eval (.Call (.Attribute o m apos) (e :: es) [] pos) X.env = (eval o X.env >>= fun ov => standAt apos.atName >>= fun _ => holding [ov] (getMethod ov m pl) >>= fun fx =>
      callWith pos fx.1 fx.2 (backTo pos (starEach (e :: es) X.env)) (backToKw pos (keywordEach [] X.env))) := by rfl) :
    PE X (.Call (.Attribute o m apos) (e :: es) [] pos) (tMethR C m sp E0 ta t) := by
  obtain ⟨f, hc, hm, F⟩ := c.ex
  exact pe_methR (pl := pl) he hc hm F (hr.mono hk) pass0 ha hst hpl ht
theorem pe_mS {g : Addr} (hc : Cls X.K C) (b : BMeth X.K C m g) (F : FnR X.prog X.w X.K X.mg X.base CX0 k g sp) (hr : Room j X.A) (hk : k ≤ j) (he : PE X o ta) (ha : PE X e te) (hbase : attributeBase o m X.env (eval o X.env) = eval o X.env := by rfl) :
    PE X (.Call (.Attribute o m apos) [.Starred e p] [] pos) (tMethS X.K C m g sp E0 ta te) := pe_methS he hc b F (hr.mono hk) pass0 ha hbase
theorem pe_pR (c : PrpR X.prog X.w X.K X.mg X.base k C m sp) (hr : Room j X.A) (hk : k + 1 ≤ j) (he : PE X e ta) (hab : attributeBase e m X.env (eval e X.env) = eval e X.env := by rfl) : PE X (.Attribute e m pos) (tProp C sp [] E0 ta) := by
  obtain ⟨p, f, fd, ps, hc, hp, F, hb⟩ := c.ex
  exact pe_prop he hc hp F (hr.mono hk) hb .nil pass0 hab
theorem pe_kR (c : MakR X.prog X.w X.K X.mg X.base k C x sp) (hr : Room j X.A) (hk : k + 1 ≤ j) (hg : Gl X x) (ha : PA X (e :: es) t) (hdb : (x == ("__debug__" : Str)) = false := by decide)
    (he : starEach (e :: es) X.env = (false, eval e X.env) :: starEach es X.env := by rfl) (hpl : (backTo pos (starEach es X.env)).any (·.1) = false := by rfl) : PE X (.Call (.Name x p) (e :: es) [] pos) (StX.tMakeR C sp E0 t) := by
  obtain ⟨f, M, hm, F⟩ := c.ex
  exact StX.pe_makeR M F (hr.mono hk) hg hm pass0 ha hdb he hpl
end
section
variable {K : PySem.W.Frag} {B : Hp} {M : Mem} {δ : Dl} {Q : Dt → Mem → Prop} {te ta : TE} {t : TA}
theorem ev_star {F : Spec} (h : Ev K B te δ M fun d M1 => ∃ ds, ((∃ b, d = .tup b ds) ∨ ∃ a w, d = .adr a ∧ (⟨a, w, .lst ds⟩ : Cell) ∈ M1) ∧ F ds M1 Q) : Ev K B (tStarR K (Pm K F) te) δ M Q := fun σ H m s R k =>
  h σ H m s _ fun v H1 d M1 t1 tv m1 ⟨ds, hd, q⟩ => by
    rcases hd with ⟨b, e⟩ | ⟨a, w, e, c⟩
    · subst e
      cases tv with
      | tup ht hb hs => exact ⟨_, _, rfl, .inl ht, pm_use hs m1 q fun v H' d M' t2 => k v H' d M' (t1.trans t2)⟩
    · subst e
      cases tv
      obtain ⟨vs, hl, hs⟩ := m1.at_ _ c
      exact ⟨_, _, rfl, .inr (SqL.of hl), pm_use hs m1 q fun v H' d M' t2 => k v H' d M' (t1.trans t2)⟩
/-- o.m( *e) -/
theorem ev_methS {C g : Addr} {mt : Str} {F : Spec} (h : Ev K B te δ M fun d M1 => ∃ a, d = .adr a ∧ IsIns M1 a C mt ∧ ∀ B', Ev K B' ta δ M1 fun d2 M2 => ∃ b ds, d2 = .tup b ds ∧ M2 = M1 ∧ F (.adr a :: ds) M1 Q) :
    Ev K B (tMethS K C mt g (Pm K F) E0 te ta) δ M Q := fun σ H m s R k =>
  h σ H m s _ fun v H1 d M1 t1 tv m1 ⟨a, e, ⟨w, fs, c, hl⟩, h1⟩ => by
    subst e
    cases tv
    obtain ⟨dx, vs, hi, hp⟩ := m1.at_ _ c
    refine ⟨a, dx, vs, rfl, hi, fv_none hp hl, fun q hq => ?_⟩
    have e1 : Evl.Ex H1 (upd H1 q (.met g a)) := Evl.Ex.new hq
    have bq := m1.base hq
    have mB : MS K (fun b => if b = q then some (.met g a) else B b) (upd H1 q (.met g a)) M1 := ⟨fun b o e => by
      by_cases hb : b = q
      · subst hb
        have e' : some (HO.met g a) = some o := by simpa using e
        rw [← e']
        exact upd_same
      · have e' : B b = some o := by simpa [hb] using e
        exact e1 _ _ (m1.ex b o e'), fun c hc w' => by
        have := m1.fresh hq c hc
        simp only [this, if_false]
        exact m1.own c hc w', (m1.grow e1).at_, m1.nd⟩
    refine h1 _ σ _ mB (s.mono (t1.trans e1.tu)) _ fun y H2 d2 M2 t2 tv2 m2 ⟨b, ds, e2, eM, hq2⟩ => ?_
    subst e2
    subst eM
    cases tv2 with
    | tup ht hb hs =>
      have hm : H2 q = some (.met g a) := m2.ex q _ (by simp)
      have m3 : MS K B H2 M2 := ⟨fun b o e => by
        have hb : b ≠ q := fun z => by rw [z, bq] at e; cases e
        exact m2.ex b o (by simp only [hb, if_false]; exact e), m1.own, m2.at_, m2.nd⟩
      exact ⟨_, _, rfl, ht, hm, pm_use (.cons (.adr a) hs) m3 hq2 fun v H' d M' t3 => k v H' d M' ((t1.trans (e1.tu.trans t2)).trans t3)⟩
end
end Zy
set_option Elab.async false
set_option linter.all false
set_option maxRecDepth 100000
set_option maxHeartbeats 4000000
namespace Zy
open PySem PySem.Spec PyProof.Rows L2

/-! ### data read whole -/
mutual
inductive PyD (M : Mem) : Dt → PyData → Prop
  | non : PyD M .non .none
  | bl (b : Bool) : PyD M (.bl b) (.bool b)
  | int (i : Int) : PyD M (.int i) (.int i)
  | str (x : Str) : PyD M (.str x) (.str x)
  | lst {a : Addr} {w : Bool} {ds : List Dt} {ps : List PyData} : (⟨a, w, .lst ds⟩ : Cell) ∈ M → PyDs M ds ps → PyD M (.adr a) (.list ps)
  | tup {b : Bool} {ds : List Dt} {ps : List PyData} : PyDs M ds ps → PyD M (.tup b ds) (.tuple ps)
inductive PyDs (M : Mem) : List Dt → List PyData → Prop
  | nil : PyDs M [] []
  | cons {d : Dt} {ds : List Dt} {p : PyData} {ps : List PyData} : PyD M d p → PyDs M ds ps → PyDs M (d :: ds) (p :: ps)
end
section
variable {K : PySem.W.Frag} {B H : Hp} {M : Mem}
mutual
theorem PyD.dp (m : MS K B H M) : ∀ {d : Dt} {p : PyData}, PyD M d p → ∀ {v : V}, TV K H v d → Dp K H v p
  | _, _, .non, _, h => by cases h; exact .non
  | _, _, .bl b, _, h => by cases h; exact .bl b
  | _, _, .int i, _, h => by cases h; exact .int i
  | _, _, .str x, _, h => by cases h; exact .str x
  | _, _, .lst c r, _, h => by
    cases h
    obtain ⟨vs, hl, hs⟩ := m.at_ _ c
    exact .lst (SqL.of hl) (PyDs.dps m r hs)
  | _, _, .tup r, _, h => by
    cases h with
    | tup ht hb hs => exact .tup ht (PyDs.dps m r hs)
theorem PyDs.dps (m : MS K B H M) : ∀ {ds : List Dt} {ps : List PyData}, PyDs M ds ps → ∀ {vs : List V}, TVs K H vs ds → DpAll K H vs ps
  | _, _, .nil, _, h => by cases h; exact .nil
  | _, _, .cons r rs, _, h => by
    cases h with
    | cons h1 h2 => exact .cons (PyD.dp m r h1) (PyDs.dps m rs h2)
end
variable {Q : Dt → Mem → Prop} {δ : Dl} {te ta : TE} {t : TA}
theorem o_eqD {d1 d2 : Dt} {p1 p2 : PyData} (h1 : PyD M d1 p1) (h2 : PyD M d2 p2) (s1 : SeqAt.shaped p1 = true) (s2 : SeqAt.shaped p2 = true) (q : Q (.bl (PyData.eqv p1 p2)) M) : Op2 K B (rEqD K) d1 d2 M Q := fun v1 v2 H e1 e2 m R k =>
  ⟨p1, p2, h1.dp m e1, h2.dp m e2, s1, s2, k _ H _ M (Tu.refl H) (.bl _) m q⟩
theorem o_neD {d1 d2 : Dt} {p1 p2 : PyData} (h1 : PyD M d1 p1) (h2 : PyD M d2 p2) (s1 : SeqAt.shaped p1 = true) (s2 : SeqAt.shaped p2 = true) (q : Q (.bl (!PyData.eqv p1 p2)) M) : Op2 K B (rNeD K) d1 d2 M Q := fun v1 v2 H e1 e2 m R k =>
  ⟨p1, p2, h1.dp m e1, h2.dp m e2, s1, s2, k _ H _ M (Tu.refl H) (.bl _) m q⟩
/-- repr of a list or a tuple -/
def rRepr (K : PySem.W.Frag) : List V → Hp → VK → Prop := fun xs H Q => ∃ (a : Addr) (p : PyData), xs = [.ref a] ∧ Dp K H (.ref a) p ∧ p.showable = true ∧ p.hasDict = false ∧ p.depth ≤ 60 ∧ p.shown.length ≤ sizeLine ∧ Q (.str p.shown) H
theorem call_repr {X : Cx} (hg : X.A.guards = some []) (hu : X.A.units + 64 < cLine) : CallR X (.builtin "repr") (rRepr X.K) := by
  intro pins s σ H xs us Q I r h
  obtain ⟨a, p, rfl, hd, h1, h2, h3, h4, q⟩ := h
  rw [Vals.ref1 r]
  obtain ⟨as, rd⟩ := Dp.reads I p _ (.ref a) hd rfl
  refine repr_of_reads' rd h1 (fun z => by rw [h2] at z; cases z) hg (by omega) (fun _ _ e => e) (fun h' u tk hk => ?_) h4
  exact ⟨.str p.shown, H, I.kept hk, ⟨_, rfl⟩, q⟩
def isRef : Dt → Bool
  | .adr _ => true
  | .tup _ _ => true
  | _ => false
theorem o_repr {d : Dt} {p : PyData} (hd : isRef d = true) (h : PyD M d p) (h1 : p.showable = true) (h2 : p.hasDict = false) (h3 : p.depth ≤ 60) (h4 : p.shown.length ≤ sizeLine) (q : Q (.str p.shown) M) : OpC K B (rRepr K) [d] M Q := fun vs H e m R k => by
  cases e with
  | cons e1 e2 =>
    cases e2
    have z := h.dp m e1
    cases e1 with
    | adr a => exact ⟨a, p, rfl, z, h1, h2, h3, h4, k _ H _ M (Tu.refl H) (.str _) m q⟩
    | tup ht hb hs => exact ⟨_, p, rfl, z, h1, h2, h3, h4, k _ H _ M (Tu.refl H) (.str _) m q⟩
    | _ => cases hd

/-! ### isinstance -/
theorem ev_isi {c : V} {u : Value} (hc : ClsV c u) (h : Ev K B te δ M fun d M1 => ∃ b, (∀ (H : Hp) (v : V), TV K H v d → MS K B H M1 → ∃ t, TyX K H v t ∧ PySem.W.kitOne K t u = some b) ∧ Q (.bl b) M1) :
    Ev K B (tCB (rIsi K) (tCons te (tCons (tC c) tNil))) δ M Q := fun σ H m s R k =>
  h σ H m s _ fun v H' d M1 t tv m1 ⟨b, hb, q⟩ => by
    obtain ⟨ty, h1, h2⟩ := hb H' v tv m1
    exact ⟨v, c, ty, u, b, rfl, hc, h1, h2, k _ H' _ M1 t (.bl b) m1 q⟩
theorem kit_same {t : Value} : PySem.W.kitOne K t t = some true := by
  unfold PySem.W.kitOne
  rw [if_pos (by simp)]
theorem isi_ii (h : Ev K B te δ M fun d M1 => ∃ i, d = .int i ∧ Q (.bl true) M1) : Ev K B (tCB (rIsi K) (tCons te (tCons (tC (.ty "int")) tNil))) δ M Q :=
  ev_isi (.ty "int") fun σ H m s R k => h σ H m s R fun v H' d M' t tv m' ⟨i, e, q⟩ => k v H' d M' t tv m' ⟨true, fun H2 v2 tv2 _ => by
    subst e
    cases tv2
    exact ⟨_, .base (.int i), kit_same⟩, q⟩
theorem isi_ib (h : Ev K B te δ M fun d M1 => ∃ i, d = .int i ∧ Q (.bl false) M1) : Ev K B (tCB (rIsi K) (tCons te (tCons (tC (.ty "bool")) tNil))) δ M Q :=
  ev_isi (.ty "bool") fun σ H m s R k => h σ H m s R fun v H' d M' t tv m' ⟨i, e, q⟩ => k v H' d M' t tv m' ⟨false, fun H2 v2 tv2 _ => by
    subst e
    cases tv2
    exact ⟨_, .base (.int i), by rfl⟩, q⟩
theorem isi_ss (h : Ev K B te δ M fun d M1 => ∃ i, d = .str i ∧ Q (.bl true) M1) : Ev K B (tCB (rIsi K) (tCons te (tCons (tC (.ty "str")) tNil))) δ M Q :=
  ev_isi (.ty "str") fun σ H m s R k => h σ H m s R fun v H' d M' t tv m' ⟨i, e, q⟩ => k v H' d M' t tv m' ⟨true, fun H2 v2 tv2 _ => by
    subst e
    cases tv2
    exact ⟨_, .base (.str i), kit_same⟩, q⟩
theorem isi_tt (h : Ev K B te δ M fun d M1 => ∃ b ds, d = .tup b ds ∧ Q (.bl true) M1) : Ev K B (tCB (rIsi K) (tCons te (tCons (tC (.ty "tuple")) tNil))) δ M Q :=
  ev_isi (.ty "tuple") fun σ H m s R k => h σ H m s R fun v H' d M' t tv m' ⟨b, ds, e, q⟩ => k v H' d M' t tv m' ⟨true, fun H2 v2 tv2 _ => by
    subst e
    cases tv2 with
    | tup ht hb hs =>
      rcases ht with (ht | ⟨o, ht⟩) | ⟨o, its, n, e1, e2, e3⟩
      · exact ⟨_, .base (.tup ht), kit_same⟩
      · exact ⟨_, .fTuple ht, kit_same⟩
      · exact ⟨_, .kTuple e1 e2, kit_same⟩, q⟩
structure InsTy (K : PySem.W.Frag) (C : Addr) : Prop where
  cls : Cls K C
  ha : PySem.W.findIn K (.ref C) "__class__" = some (some (.builtin "object.__class__"))
  hn : PySem.W.specialIn K (.builtin "object.__class__") "__get__" = some (some (.builtin "getset_descriptor.__get__"))
  htk : PySem.W.takesIn K (.builtin "object.__class__") = some true
  hm : PySem.W.mroIn K C (.type "object") = some true
theorem isi_own {C : Addr} (hC : InsTy K C) (h : Ev K B te δ M fun d M1 => ∃ a w fs, d = .adr a ∧ (⟨a, w, .ins C fs⟩ : Cell) ∈ M1 ∧ Q (.bl true) M1) : Ev K B (tCB (rIsi K) (tCons te (tCons (tC (.ref C)) tNil))) δ M Q :=
  ev_isi (.own C) fun σ H m s R k => h σ H m s R fun v H' d M' t tv m' ⟨a, w, fs, e, c, q⟩ => k v H' d M' t tv m' ⟨true, fun H2 v2 tv2 m2 => by
    subst e
    cases tv2
    obtain ⟨dx, vs, hi, hp⟩ := m2.at_ _ c
    exact ⟨_, .base (.ins hi hC.cls hC.ha hC.hn hC.htk hC.hm), kit_same⟩, q⟩

/-! ### the module's dict of texts -/
theorem o_ninK {d : Addr} {z : Str} {u : Value} (h : PySem.W.nsIn K d z = some (some u)) (q : Q (.bl false) M) :
    Op2 K B (fun x y H Q => ∃ (z : Str) (r : Option Value), x = .str z ∧ y = .ref d ∧ PySem.W.nsIn K d z = some r ∧ Q (.bl (!r.isSome)) H) (.str z) (.adr d) M Q := fun v1 v2 H e1 e2 m R k => by
  cases e1
  cases e2
  exact ⟨z, some u, rfl, rfl, h, k _ H _ M (Tu.refl H) (.bl _) m q⟩

theorem o_itemK {w : World} {d : Addr} {z : Str} {i : Int} (h : KDct K w d z (.int i)) (q : Q (.int i) M) : Op2 K B (rIxD K w) (.adr d) (.str z) M Q := fun v1 v2 H e1 e2 m R k => by
  cases e1
  cases e2
  exact ⟨d, z, .int i, rfl, rfl, h, k _ H _ M (Tu.refl H) (.int _) m q⟩

/-! ### what is walked -/
variable {QI : Nat → (Nat → Option Dt) → (Mem → Prop) → Mem → Prop}
theorem walk_enumD {a : Addr} {vs : List V} {ds : List Dt} {H0 : Hp} (h : SqT K H0 a vs) (hs : TVs K H0 vs ds) : WalkD K B (IteT K a) ds.length (fun i => ds[i]?.map fun d => .tup false [.int (i : Nat), d]) (fun _ => True) H0 where
  goes := fun i H M hi t m _ => by
    have l := hs.length
    exact ⟨vs, vs[i]'(by omega), sqT_tu t h, by simp⟩
  stops := fun H M t m _ => ⟨vs, sqT_tu t h, hs.length⟩
  yields := fun i H x H' M hi t m _ y => by
    obtain ⟨T, z, e, hT, e2, y⟩ := y
    subst e e2
    obtain ⟨d, hd, tv⟩ := (hs.mono t).getV (y vs (sqT_tu t h))
    exact ⟨.tup false [.int (i : Nat), d], by rw [hd]; rfl, .newF hT (.cons (.int _) (.cons tv .nil)), Evl.Ex.new hT⟩
theorem ei_enum (h : EvA K B t δ M fun es M1 => ∃ b ds, es = [.tup b ds] ∧ QI ds.length (fun i => ds[i]?.map fun d => .tup false [.int (i : Nat), d]) (fun _ => True) M1) : EvI K B (iEnumT K t) δ M QI := fun σ H m s R k =>
  h σ H m s _ fun vs H' es M' t tv m' ⟨b, ds, e, q⟩ => by
    subst e
    cases tv with
    | cons x y =>
      cases y
      cases x with
      | tup ht hb hs => exact ⟨_, _, rfl, ht, k _ H' _ _ _ M' t m' trivial (walk_enumD ht hs) q⟩
theorem ei_zipT (h : EvA K B t δ M fun es M1 => ∃ b c ds ds2, es = [.tup b ds, .tup c ds2] ∧ ds.length = ds2.length ∧ QI ds.length (fun i => ds[i]?.bind fun d => ds2[i]?.map fun e => .tup false [d, e]) (fun _ => True) M1) : EvI K B (RZ.iZipA K t) δ M QI := fun σ H m s R k =>
  h σ H m s _ fun vs H' es M' t tv m' ⟨b, c, ds, ds2, e, l, q⟩ => by
    subst e
    cases tv with
    | cons x y =>
      cases y with
      | cons x2 y =>
        cases y
        cases x with
        | tup ht hb hs =>
          cases x2 with
          | tup ht2 hb2 hs2 =>
            refine ⟨_, _, _, _, rfl, .inr ⟨ht, ht2, k _ H' _ _ (fun _ => True) M' t m' trivial ?_ q⟩⟩
            have l1 := hs.length
            have l2 := hs2.length
            refine ⟨fun i H M hi t m _ => ⟨_, _, _, _, sqT_tu t ht, sqT_tu t ht2, List.getElem?_eq_getElem (by omega), List.getElem?_eq_getElem (by omega)⟩, fun H M t m _ => ⟨_, _, sqT_tu t ht, sqT_tu t ht2, .inl (by omega)⟩, fun i H x H' M hi t m _ y => ?_⟩
            obtain ⟨T, z, z2, e, hT, e2, y, y2⟩ := y
            subst e e2
            obtain ⟨d, hd, tv⟩ := (hs.mono t).getV (y _ (sqT_tu t ht))
            obtain ⟨d2, hd2, tv2⟩ := (hs2.mono t).getV (y2 _ (sqT_tu t ht2))
            exact ⟨.tup false [d, d2], by rw [hd, hd2]; rfl, .newF hT (.cons tv (.cons tv2 .nil)), Evl.Ex.new hT⟩
theorem ei_zipM (h : EvA K B t δ M fun es M1 => ∃ b a w ds ds2, es = [.tup b ds, .adr a] ∧ (⟨a, w, .lst ds2⟩ : Cell) ∈ M1 ∧ ds.length = ds2.length ∧ QI ds.length (fun i => ds[i]?.bind fun d => ds2[i]?.map fun e => .tup false [d, e]) (fun M => ∃ w, (⟨a, w, .lst ds2⟩ : Cell) ∈ M) M1) : EvI K B (iZipM K t) δ M QI := fun σ H m s R k =>
  h σ H m s _ fun vs H' es M' t tv m' ⟨b, a, w, ds, ds2, e, c, l, q⟩ => by
    subst e
    cases tv with
    | cons x y =>
      cases y with
      | cons x2 y =>
        cases y
        cases x2
        cases x with
        | tup ht hb hs =>
          obtain ⟨vs2, hl, hs2⟩ := m'.at_ _ c
          refine ⟨_, _, _, _, rfl, ht, SqL.of hl, k _ H' _ _ (fun M => ∃ w, (⟨a, w, .lst ds2⟩ : Cell) ∈ M) M' t m' ⟨w, c⟩ ?_ q⟩
          have l1 := hs.length
          refine ⟨fun i H M hi t m ⟨w, c⟩ => ?_, fun H M t m ⟨w, c⟩ => ?_, fun i H x H' M hi t m ⟨w, c⟩ y => ?_⟩
          · obtain ⟨ws, hw, hws⟩ := m.at_ _ c
            have l2 := hws.length
            exact ⟨_, _, _, _, sqT_tu t ht, SqL.of hw, List.getElem?_eq_getElem (by omega), List.getElem?_eq_getElem (by omega)⟩
          · obtain ⟨ws, hw, hws⟩ := m.at_ _ c
            have l2 := hws.length
            exact ⟨_, _, sqT_tu t ht, SqL.of hw, by omega, by omega, .inl (by omega)⟩
          · obtain ⟨ws, hw, hws⟩ := m.at_ _ c
            obtain ⟨T, z, z2, e, hT, e2, y, y2⟩ := y
            subst e e2
            obtain ⟨d, hd, tv⟩ := (hs.mono t).getV (y _ (sqT_tu t ht))
            obtain ⟨d2, hd2, tv2⟩ := hws.getV (y2 _ (SqL.of hw))
            exact ⟨.tup false [d, d2], by rw [hd, hd2]; rfl, .newF hT (.cons tv (.cons tv2 .nil)), Evl.Ex.new hT⟩
end
end Zy
set_option Elab.async false
set_option linter.all false
set_option maxRecDepth 100000
set_option maxHeartbeats 4000000
namespace Zy
open PySem PySem.Spec PyProof.Rows L2
open C8 (fnBody fnArgs fnScope clsBody scC fnScope_by)

/-! ### with -/
/-- the class at C keeps its promises at with -/
structure WthR (P : Program) (w : World) (K : PySem.W.Frag) (mg : Str → Option Value) (base : Heap) (k : Nat) (C : Addr) (spE spX : Sp) : Prop where
  ex : ∃ fe fx, PySem.W.findIn K (.ref C) "__enter__" = some (some (.ref fe)) ∧ PySem.W.isFn K (.ref fe) = true ∧ PySem.W.findIn K (.ref C) "__exit__" = some (some (.ref fx)) ∧ PySem.W.isFn K (.ref fx) = true ∧
    FnR P w K mg base CX0 k fe spE ∧ FnR P w K mg base CX0 k fx spX
def sWith (C : Addr) (spE spX : Sp) (te : TE) (i : Nat) (tb : TS) : TS := fun D σ H => te σ H fun x H1 => ∃ a dx fs, x = .ref a ∧ H1 a = some (.ins C dx fs) ∧ spE [.ref a] H1 (fun v H2 =>
  tb { nx := fun σ' H3 => spX [.ref a, .non, .non, .non] H3 (fun _ H4 => D.nx σ' H4) E0, rt := fun v H3 => spX [.ref a, .non, .non, .non] H3 (fun _ H4 => D.rt v H4) E0 } (σ.set i (some v)) H2) E0
theorem ps_with {X : Cx} {k j i : Nat} {C : Addr} {spE spX : Sp} {ctx : Expr} {y : Str} {py pos : Pos} {body : List Stmt} {te : TE} {tb : TS} (c : WthR X.prog X.w X.K X.mg X.base k C spE spX) (hr : Room j X.A) (hk : k ≤ j)
    (hN : X.N.Nodup) (hi : X.N[i]? = some y) (hx : Loc X.env.scope y) (he : PE X ctx te) (hb : PSs X.nox body tb) (hf : X.fn y = true ∨ X.env.scope.names.lookup y = some .local := by first | exact .inl rfl | exact .inr rfl | assumption) :
    PS X (.With [⟨ctx, some (.Name y py)⟩] body pos) (sWith C spE spX te i tb) := by
  obtain ⟨fe, fx, e1, e2, e3, e4, FE, FX⟩ := c.ex
  refine ⟨fun pins s σ H D I h => ?_⟩
  refine PySem.W.kw_execN (thn (he.run pins s σ H _ I h) fun u s1 ⟨x, H1, I1, rx, a, dx, fs, ex, ea, q⟩ => ?_)
  subst ex
  obtain rfl : u = Value.ref a := rx
  obtain ⟨mA, O, _⟩ := ins_get I1.hok ea
  obtain ⟨od, J, _⟩ := O.look
  refine PySem.W.kw_core (b := assign (.Name y py) X.env) I1.kIn J e1 e2 e3 e4 (thn (wpAny_call (run_fnR (us := [.ref a]) (vs := [.ref a]) FE (hr.mono hk) pass0 I1 (.cons rfl .nil) q)) fun v s2 ⟨z, H2, I2, rz, q2⟩ => ?_)
  refine wpAny_assign_Name (store_ok I2 hN hi hx rz (fun s3 I3 => ?_) hf)
  refine wpAny_mono (hb.run pins s3 _ H2 _ (I3.wish _) q2) (fun f s4 h4 => ?_) fun _ _ z => z
  cases f with
  | next =>
    obtain ⟨σ4, H4, I4, q4⟩ := h4
    have I4' : Inv X pins σ4 H4 s4 := I4.unwish
    exact thn (wpAny_call (run_fnR (us := [.ref a, .none, .none, .none]) (vs := [.ref a, .non, .non, .non]) FX (hr.mono hk) pass0 I4' (.cons rfl (.cons rfl (.cons rfl (.cons rfl .nil)))) q4)) fun v5 s5 ⟨z5, H5, I5, r5, q5⟩ => ⟨σ4, H5, I5, q5⟩
  | ret u4 =>
    obtain ⟨v4, σ4, H4, I4, r4, q4⟩ := h4
    have I4' : Inv X pins σ4 H4 s4 := I4.unwish
    exact thn (wpAny_call (run_fnR (us := [.ref a, .none, .none, .none]) (vs := [.ref a, .non, .non, .non]) FX (hr.mono hk) pass0 I4' (.cons rfl (.cons rfl (.cons rfl (.cons rfl .nil)))) q4)) fun v5 s5 ⟨z5, H5, I5, r5, q5⟩ => ⟨v4, σ4, H5, I5, r4, q5⟩
  | brk =>
    obtain ⟨_, _, _, q4⟩ := h4
    exact False.elim q4
  | cont =>
    obtain ⟨_, _, _, q4⟩ := h4
    exact False.elim q4
section
variable {K : PySem.W.Frag} {B : Hp} {M : Mem} {δ : Dl} {Q : Dt → Mem → Prop} {te ta tv : TE} {t : TA} {N : Dl → Mem → Prop} {Rt : Dt → Mem → Prop} {ts : TS}
theorem ss_with {C : Addr} {FE FX : Spec} {i : Nat} (h : Ev K B te δ M fun d M1 => ∃ a w fs, d = .adr a ∧ (⟨a, w, .ins C fs⟩ : Cell) ∈ M1 ∧ FE [.adr a] M1 fun d2 M2 =>
      SS K B ts (δ.set i (some d2)) M2 (fun δ3 M3 => FX [.adr a, .non, .non, .non] M3 fun _ M4 => N δ3 M4) fun d3 M3 => FX [.adr a, .non, .non, .non] M3 fun _ M4 => Rt d3 M4) :
    SS K B (sWith C (Pm K FE) (Pm K FX) te i ts) δ M N Rt := fun σ H m s D k1 k2 =>
  h σ H m s _ fun x H1 d M1 t1 tv m1 ⟨a, w, fs, e, c, q⟩ => by
    subst e
    cases tv
    obtain ⟨dx, vs, hi, hp⟩ := m1.at_ _ c
    refine ⟨a, dx, vs, rfl, hi, pm_use (.cons (.adr a) .nil) m1 q fun v2 H2 d2 M2 t2 tv2 m2 q2 => ?_⟩
    have aN : ∀ H, TVs K H [.ref a, .non, .non, .non] [.adr a, .non, .non, .non] := fun H => .cons (.adr a) (.cons .non (.cons .non (.cons .non .nil)))
    refine q2 _ H2 m2 ((s.mono (t1.trans t2)).set tv2) _ (fun σ3 H3 δ3 M3 t3 m3 s3 q3 => ?_) fun v3 H3 d3 M3 t3 tv3 m3 q3 => ?_
    · exact pm_use (E := E0) (aN _) m3 q3 fun _ H4 _ M4 t4 _ m4 q4 => k1 σ3 H4 δ3 M4 (((t1.trans t2).trans t3).trans t4) m4 (s3.mono t4) q4
    · exact pm_use (E := E0) (aN _) m3 q3 fun _ H4 _ M4 t4 _ m4 q4 => k2 v3 H4 d3 M4 (((t1.trans t2).trans t3).trans t4) (tv3.mono t4) m4 q4
end

/-! ### match over texts -/
def tCases : List (Str × TS) → Str → TS
  | [], _ => tNever
  | (y, t) :: r, z => fun D σ H => if z = y then t D σ H else tCases r z D σ H
structure PM (X : Cx) (cs : List MatchCase) (l : List (Str × TS)) : Prop where
  run : ∀ (pins : List (Addr × Obj)) (s : Shared) (σ : L2.St) (H : Hp) (D : Ends) (z : Str) (tk : Tok) (b : Bool), Inv X pins σ H s → tCases l z D σ H → wpAny (model X.prog X.w) X.A (matchCases cs X.env (.str z tk) b) (SP X pins D) X.xe s
theorem pm_nil {X : Cx} {cs : List MatchCase} : PM X cs [] := ⟨fun _ _ _ _ _ _ _ _ _ h => h.elim⟩
theorem pm_cons {X : Cx} {y : Str} {j : Nat} {p1 p2 : Pos} {body : List Stmt} {cs : List MatchCase} {t : TS} {l : List (Str × TS)} (hb : PSs X body t) (hc : PM X cs l) : PM X (⟨.MatchValue (.Constant (.str y) j p1) p2, none, body⟩ :: cs) ((y, t) :: l) := by
  refine ⟨fun pins s σ H D z tk b I h => ?_⟩
  refine wpAny_matchCases_cons (wpAny_matchPattern_Value (thn ((pe_str (X := X) (x := y) (j := j) (pos := p1)).run pins s σ H (fun v H1 => v = .str y ∧ H1 = H) I ⟨rfl, rfl⟩) fun u s1 ⟨v, H1, I1, r1, ev, e1⟩ => ?_))
  subst ev e1
  obtain ⟨t1, rfl⟩ := r1
  refine thn (op_eq pins s1 σ H1 (.str z) (.str y) _ _ (fun v H2 => v = .bl (decide (z = y)) ∧ H2 = H1) I1 ⟨tk, rfl⟩ ⟨t1, rfl⟩ ⟨rfl, by rw [dec_s], rfl⟩) fun u s2 ⟨v, H2, I2, r2, ev, e2⟩ => ?_
  subst ev e2
  obtain rfl : u = Value.bool (decide (z = y)) := r2
  refine wpAny_truthy_bool ?_
  by_cases e : z = y
  · rw [decide_eq_true e]
    refine assignInOrder_nil ?_
    have h' : t D σ H2 := by
      have : (if z = y then t D σ H2 else tCases l z D σ H2) := h
      rw [if_pos e] at this
      exact this
    exact hb.run pins s2 σ H2 D I2 h'
  · rw [decide_eq_false e]
    have h' : tCases l z D σ H2 := by
      have : (if z = y then t D σ H2 else tCases l z D σ H2) := h
      rw [if_neg e] at this
      exact this
    exact hc.run pins s2 σ H2 D z tk false I2 h'
def sMatch (te : TE) (l : List (Str × TS)) : TS := fun D σ H => te σ H fun x H1 => ∃ z, x = .str z ∧ tCases l z D σ H1
theorem ps_match {X : Cx} {subject : Expr} {cs : List MatchCase} {pos : Pos} {te : TE} {l : List (Str × TS)} (he : PE X subject te) (hc : PM X cs l) : PS X (.Match subject cs pos) (sMatch te l) := by
  refine ⟨fun pins s σ H D I h => ?_⟩
  refine wpAny_Match (thn (he.run pins s σ H _ I h) fun u s1 ⟨x, H1, I1, rx, z, ex, q⟩ => ?_)
  subst ex
  obtain ⟨tk, rfl⟩ := rx
  exact hc.run pins s1 σ H1 D z tk true I1 q
section
variable {K : PySem.W.Frag} {B : Hp} {M : Mem} {δ : Dl} {te ta tv : TE} {N : Dl → Mem → Prop} {Rt : Dt → Mem → Prop}
theorem ss_match {l : List (Str × TS)} (h : Ev K B te δ M fun d M1 => ∃ z, d = .str z ∧ SS K B (tCases l z) δ M1 N Rt) : SS K B (sMatch te l) δ M N Rt := fun σ H m s D k1 k2 =>
  h σ H m s _ fun x H1 d M1 t1 tv m1 ⟨z, e, q⟩ => by
    subst e
    cases tv
    exact ⟨z, rfl, q σ H1 m1 (s.mono t1) D (fun σ2 H2 δ2 M2 t2 => k1 σ2 H2 δ2 M2 (t1.trans t2)) fun v H2 d M2 t2 => k2 v H2 d M2 (t1.trans t2)⟩
theorem ss_case {y z : Str} {t : TS} {l : List (Str × TS)} (h1 : z = y → SS K B t δ M N Rt) (h2 : z ≠ y → SS K B (tCases l z) δ M N Rt) : SS K B (tCases ((y, t) :: l) z) δ M N Rt := fun σ H m s D k1 k2 => by
  show if z = y then t D σ H else tCases l z D σ H
  by_cases e : z = y
  · rw [if_pos e]
    exact h1 e σ H m s D k1 k2
  · rw [if_neg e]
    exact h2 e σ H m s D k1 k2
end

/-! ### a property, stored -/
structure SetOf (K : PySem.W.Frag) (C : Addr) (f : Str) (g : Addr) : Prop where
  hs : PySem.W.findIn K (.ref C) "__setattr__" = some (some (.builtin "object.__setattr__"))
  hp : PySem.W.plainOver K C = true
  ex : ∃ p a rest, PySem.W.takerIn K C f = some (some (.ref p)) ∧ PySem.W.typeIn K (.ref p) = some (.type "property") ∧ PySem.W.recIn K p "property" = some (a :: .ref g :: rest)
structure StrR (P : Program) (w : World) (K : PySem.W.Frag) (mg : Str → Option Value) (base : Heap) (k : Nat) (C : Addr) (f : Str) (sp : Sp) : Prop where
  ex : ∃ g, SetOf K C f g ∧ FnR P w K mg base CX0 k g sp
def sProp (C : Addr) (sp : Sp) (ta tv : TE) : TS := fun D σ H => tv σ H fun y H1 => ta σ H1 fun x H2 => ∃ a dx fs, x = .ref a ∧ H2 a = some (.ins C dx fs) ∧ sp [.ref a, y] H2 (fun _ H3 => D.nx σ H3) E0
theorem ps_sprop {X : Cx} {k j : Nat} {C : Addr} {f : Str} {sp : Sp} {o value : Expr} {pos pos' : Pos} {ta tv : TE} (c : StrR X.prog X.w X.K X.mg X.base k C f sp) (hr : Room j X.A) (hk : k + 2 ≤ j) (ha : PE X o ta) (hv : PE X value tv)
    (hs : swapsWith value (some (.Attribute o f pos')) pos.line X.env = pure false := by rfl) : PS X (.Assign [.Attribute o f pos'] value pos) (sProp C sp ta tv) := by
  obtain ⟨g, S, F⟩ := c.ex
  obtain ⟨p, a0, rest, h1, h2, h3⟩ := S.ex
  refine ⟨fun pins s σ H D I h => ?_⟩
  refine plainObj_wpAny_Assign_Attribute (thn (hv.run pins s σ H _ I h) fun u s1 ⟨y, H1, I1, ry, q⟩ => thn (ha.run pins s1 σ H1 _ I1 q) fun ov s2 ⟨x, H2, I2, rx, a, dx, fs, ex, ea, q2⟩ => ?_) hs
  subst ex
  obtain rfl : ov = Value.ref a := rx
  obtain ⟨mA, O, _⟩ := ins_get I2.hok ea
  obtain ⟨od, J, _⟩ := O.look
  have I3 := I2.tok (s2.toks + 1)
  refine PySem.W.set_plain I2.kIn J S.hs (PySem.W.osa_descr (s := { s2 with toks := s2.toks + 1 }) PySem.W.KF.slot_pset I2.kIn J S.hp h1 h2 (PySem.W.prop_set (s := { s2 with toks := s2.toks + 1 }) I2.kIn h3 ?_))
  have hr2 : Room k X.A.in1.in1 := ((hr.mono hk).in1).in1
  refine codeAny_mono (F X.A.in1.in1 X.stack { s2 with toks := s2.toks + 1 } H2 [.ref a, u] [.ref a, y] _ E0 hr2 I3.env0.in1.in1 (.cons rfl (.cons ry .nil)) q2) fun r s' hq => ?_
  cases r with
  | error er => exact False.elim hq
  | ok fl =>
    cases fl with
    | ret u' =>
      obtain ⟨v, H', I4, rv, q3⟩ := I3.after hq
      exact ⟨σ, H', I4, q3⟩
    | next => exact False.elim hq
    | brk => exact False.elim hq
    | cont => exact False.elim hq
section
variable {K : PySem.W.Frag} {B : Hp} {M : Mem} {δ : Dl} {te ta tv : TE} {N : Dl → Mem → Prop} {Rt : Dt → Mem → Prop}
theorem ss_prop {C : Addr} {F : Spec} (h : Ev K B tv δ M fun y M1 => Ev K B ta δ M1 fun d M2 => ∃ a w fs, d = .adr a ∧ (⟨a, w, .ins C fs⟩ : Cell) ∈ M2 ∧ F [.adr a, y] M2 fun _ M3 => N δ M3) : SS K B (sProp C (Pm K F) ta tv) δ M N Rt := fun σ H m s D k1 k2 =>
  h σ H m s _ fun y H1 dy M1 t1 ty m1 h1 => h1 σ H1 m1 (s.mono t1) _ fun x H2 d M2 t2 tv m2 ⟨a, w, fs, e, c, q⟩ => by
    subst e
    cases tv
    obtain ⟨dx, vs, hi, hp⟩ := m2.at_ _ c
    exact ⟨a, dx, vs, rfl, hi, pm_use (.cons (.adr a) (.cons (ty.mono t2) .nil)) m2 q fun _ H3 _ M3 t3 _ m3 q3 => k1 σ H3 δ M3 ((t1.trans t2).trans t3) m3 (((s.mono t1).mono t2).mono t3) q3⟩
end

/-! ### defs that ask that nothing is being shown -/
def FnG (P : Program) (w : World) (K : PySem.W.Frag) (mg : Str → Option Value) (base : Heap) (k : Nat) (f : Addr) (sp : Sp) : Prop :=
  ∀ (A : Around) (outer : List Env) (s : Shared) (H : Hp) (us : List Value) (vs : List V) (Q : VK) (E : XK), A.guards = some [] → Room k A → Env0 P w K mg base A outer s H → Vals vs us → sp vs H Q E →
    codeAny (model P w) A (.call (.ref f) ⟨us, []⟩) (CR CX0 outer P w H s Q E) s
structure DefG (P : Program) (w : World) (K : PySem.W.Frag) (mg : Str → Option Value) (base : Heap) (k : Nat) (x : Str) (sp : Sp) : Prop where
  ex : ∃ f, mg x = some (.ref f) ∧ PySem.W.keepIn K (.ref f) = true ∧ FnG P w K mg base k f sp
def BdG (P : Program) (w : World) (K : PySem.W.Frag) (mg : Str → Option Value) (base : Heap) (k : Nat) (qual : Str) (st : Stmt) (N : List Str) (f : Addr) (F : Spec) : Prop := ∀ (cdv : Value) (A : Around) (outer : List Env) (s : Shared) (H : Hp) (E : XK),
  A.guards = some [] → Room k (A.deeper (envOfC qual (fnScope st) s.heap.objs.size f cdv)) →
  ∃ t, PSs (cxOf CX0 P w K mg base N qual (fnScope st) f cdv A outer s H E).nox (fnBody st) t ∧ ∀ (B : Hp) (ds : List Dt) (M : Mem) (Q0 : Dt → Mem → Prop), F ds M Q0 →
    SS K B t (ds.map some ++ List.replicate (N.length - ds.length) none) M (fun _ M' => WkM (Q0 .non) M') (fun d M' => WkM (Q0 d) M')
section
variable {P : Program} {w : World} {K : PySem.W.Frag} {mg : Str → Option Value} {base : Heap} {k : Nat} {x qual : Str} {st : Stmt} {f : Addr} {N ps : List Str} {F : Spec}
theorem fng_of (Fn : FnP K x qual st f) (S : FnScope N ps (fnScope st)) (bn : BindN x qual st ps) (len : ∀ ds M Q, F ds M Q → ds.length = ps.length) (hb : BdG P w K mg base k qual st N f F) : FnG P w K mg base (k + 1) f (Pm K F) := by
  obtain ⟨fd, Fn⟩ := Fn
  obtain ⟨oc, od, dV, kV, doc, pm, an, cdv, ct, osl, rfl, lk, hcd, hD, _⟩ := Fn.ex
  rcases hD with ⟨_, rfl⟩ | ⟨e, _⟩
  · intro A outer s H us vs Q E hg hr e0 r h
    have hl := pm_len len vs H Q E h
    refine StX.run_bnd lk hcd S hr e0 (G := fun xs H2 => xs = vs ∧ H2 = H) (fun A' Ex Q' h => ?_) fun s2 H2 xs ⟨ex, eH⟩ hr' => ?_
    · rw [bn kV doc pm an cdv ct us (by rw [← r.length]; exact hl)]
      exact wpAny_pure (h s H vs us e0 Un.refl rfl (fun _ _ z => z) r hl ⟨rfl, rfl⟩)
    · subst ex eH
      obtain ⟨t, h1, h2⟩ := hb cdv A outer s2 H2 E hg hr'
      exact ⟨t, h1.nox, pm_run h h2⟩
  · exact absurd rfl e
theorem defG_of (hm : mg x = some (.ref f)) (Fn : FnP K x qual st f) (S : FnScope N ps (fnScope st)) (bn : BindN x qual st ps) (len : ∀ ds M Q, F ds M Q → ds.length = ps.length) (hb : BdG P w K mg base k qual st N f F) : DefG P w K mg base (k + 1) x (Pm K F) :=
  ⟨f, hm, Fn.elim fun _ z => z.kp, fng_of Fn S bn len hb⟩
end
theorem pe_cG {X : Cx} {k j : Nat} {x : Str} {sp : Sp} {p pos : Pos} {e : Expr} {es : List Expr} {t : TA} (c : DefG X.prog X.w X.K X.mg X.base k x sp) (hgd : X.A.guards = some []) (hr : Room j X.A) (hk : k ≤ j) (hg : Gl X x) (ha : PA X (e :: es) t)
    (hdb : (x == ("__debug__" : Str)) = false := by decide) (he : starEach (e :: es) X.env = (false, eval e X.env) :: starEach es X.env := by rfl) (hpl : (backTo pos (starEach es X.env)).any (·.1) = false := by rfl) :
    PE X (.Call (.Name x p) (e :: es) [] pos) (tCallR sp t) := by
  obtain ⟨f, hm, kp, F⟩ := c.ex
  refine ⟨fun pins s σ H Q I h => ?_⟩
  refine wpAny_Call_Name_kw (ld_glob I hg hm ?_ hdb)
  refine PySem.W.callWith_K (h₀ := X.base) I.ok.mod.kin kp (thn (ha.run pos pins s σ H _ I h) fun us s1 ⟨vs, H1, I1, r, q⟩ => ⟨I1.kIn, ?_⟩) he hpl
  refine wpAny_call (codeAny_mono (F X.A X.stack s1 H1 us vs Q E0 hgd (hr.mono hk) I1.env0 r q) fun r s' hq => ?_)
  cases r with
  | error e => exact False.elim hq
  | ok fl =>
    cases fl with
    | ret u => exact I1.after hq
    | next => exact False.elim hq
    | brk => exact False.elim hq
    | cont => exact False.elim hq
end Zy
set_option Elab.async false
set_option linter.all false
set_option maxRecDepth 100000
set_option maxHeartbeats 4000000
namespace Zy
open PySem PySem.Spec PyProof.Rows L2
open C8 (fnBody fnArgs fnScope clsBody scC fnScope_by)
structure Bi (mg : Str → Option Value) : Prop where
  len : mg "len" = none
  abs : mg "abs" = none
  isinstance : mg "isinstance" = none
  int : mg "int" = none
  bool : mg "bool" = none
  tuple : mg "tuple" = none
  str : mg "str" = none
  list : mg "list" = none
  range : mg "range" = none
  enumerate : mg "enumerate" = none
  zip : mg "zip" = none
  all : mg "all" = none
  sum : mg "sum" = none
  max : mg "max" = none
  min : mg "min" = none
  repr : mg "repr" = none
theorem zb_len : bootBuiltins "len" = some (.builtin "len") := by decide +kernel
theorem zb_abs : bootBuiltins "abs" = some (.builtin "abs") := by decide +kernel
theorem zb_isinstance : bootBuiltins "isinstance" = some (.builtin "isinstance") := by decide +kernel
theorem zb_all : bootBuiltins "all" = some (.builtin "all") := by decide +kernel
theorem zb_sum : bootBuiltins "sum" = some (.builtin "sum") := by decide +kernel
theorem zb_max : bootBuiltins "max" = some (.builtin "max") := by decide +kernel
theorem zb_min : bootBuiltins "min" = some (.builtin "min") := by decide +kernel
theorem zb_repr : bootBuiltins "repr" = some (.builtin "repr") := by decide +kernel
theorem zb_int : bootBuiltins "int" = some (.type "int") := by decide +kernel
theorem zb_bool : bootBuiltins "bool" = some (.type "bool") := by decide +kernel
theorem zb_str : bootBuiltins "str" = some (.type "str") := by decide +kernel
theorem zb_tuple : bootBuiltins "tuple" = some (.type "tuple") := by decide +kernel
section
variable {X : Cx}
theorem zix_tup (K : PySem.W.Frag) (h : X.K = K := by rfl) : IxR X (rIxT K) := by subst h; exact ix_tup
theorem zix_list (K : PySem.W.Frag) (h : X.K = K := by rfl) : IxR X (rIxL K) := by subst h; exact ix_list
theorem zop_in_seq (K : PySem.W.Frag) (h : X.K = K := by rfl) : OpR X (compareOp .In) (rIn K false) := by subst h; exact op_in_seq
theorem zop_notIn_seq (K : PySem.W.Frag) (h : X.K = K := by rfl) : OpR X (compareOp .NotIn) (rIn K true) := by subst h; exact op_notIn_seq
theorem zop_eqD (K : PySem.W.Frag) (hu : X.A.units + 64 < cLine) (h : X.K = K := by rfl) : OpR X (compareOp .Eq) (rEqD K) := by subst h; exact op_eqD hu
theorem zop_neD (K : PySem.W.Frag) (hu : X.A.units + 64 < cLine) (h : X.K = K := by rfl) : OpR X (compareOp .NotEq) (rNeD K) := by subst h; exact op_neD hu
theorem zop_catF (K : PySem.W.Frag) (h : X.K = K := by rfl) : OpR X (binaryOp .Add) (rCatF K) := by subst h; exact op_catF
theorem zcr_sum (K : PySem.W.Frag) (hc : X.calm = true) (h : X.K = K := by rfl) : CallR X (.builtin "sum") (rSum K) := by subst h; exact cr_sum hc
theorem zcr_max (K : PySem.W.Frag) (hc : X.calm = true) (h : X.K = K := by rfl) : CallR X (.builtin "max") (rMax K) := by subst h; exact cr_max hc
theorem zcr_all (K : PySem.W.Frag) (hc : X.calm = true) (h : X.K = K := by rfl) : CallR X (.builtin "all") (rAll K) := by subst h; exact cr_all hc
theorem zcall_isi (K : PySem.W.Frag) (h : X.K = K := by rfl) : CallR X (.builtin "isinstance") (rIsi K) := by subst h; exact call_isi
theorem zcall_tupF (K : PySem.W.Frag) (h : X.K = K := by rfl) : CallR X (.type "tuple") (rTupF K) := by subst h; exact call_tupF
theorem zcall_maxT (K : PySem.W.Frag) (hc : X.calm = true) (hu : X.A.units + 64 < cLine) (h : X.K = K := by rfl) : CallR X (.builtin "max") (rMaxT K) := by subst h; exact call_maxT hc hu
theorem zcall_repr (K : PySem.W.Frag) (hg : X.A.guards = some []) (hu : X.A.units + 64 < cLine) (h : X.K = K := by rfl) : CallR X (.builtin "repr") (rRepr K) := by subst h; exact call_repr hg hu
def rLenQ (K : PySem.W.Frag) : List V → Hp → VK → Prop := fun xs H Q => ∃ p ys, xs = [.ref p] ∧ (SqL K H p ys ∨ SqT K H p ys) ∧ Q (.int ys.length) H
theorem zcall_len_seq (K : PySem.W.Frag) (h : X.K = K := by rfl) : CallR X (.builtin "len") (rLenQ K) := by subst h; exact call_len_seq
theorem zsl_tupA (K : PySem.W.Frag) (h : X.K = K := by rfl) : SlR X (rSlA K) := by subst h; exact sl_tupA
theorem zsl_list (K : PySem.W.Frag) (h : X.K = K := by rfl) : SlR X (rSlL K) := by subst h; exact sl_list
theorem zmt_index (K : PySem.W.Frag) (h : X.K = K := by rfl) : MtR X "list.index" (rIndex K) := by subst h; exact mt_index
theorem zpi_list (K : PySem.W.Frag) {tg l : Expr} {tl : TE} (hl : PE X l tl) (h : X.K = K := by rfl) : PI X tg l (iList K tl) := by subst h; exact pi_list hl
theorem zpi_tup (K : PySem.W.Frag) {tg l : Expr} {tl : TE} (hl : PE X l tl) (h : X.K = K := by rfl) : PI X tg l (iTup K tl) := by subst h; exact pi_tup hl
theorem zpi_enumT (K : PySem.W.Frag) {e : Expr} {ta : TA} {p pos tpos : Pos} {elts : List Expr} {kk : Nat} (hg : Gl X "enumerate") (hm : X.mg "enumerate" = none) (ha : PA X [e] ta) (h : X.K = K := by rfl) (hs : starEach [e] X.env = [(false, eval e X.env)] := by rfl) :
    PI X (.Tuple elts kk tpos) (.Call (.Name "enumerate" p) [e] [] pos) (iEnumT K ta) := by subst h; exact pi_enumT hg hm ha hs
theorem zpi_zipM (K : PySem.W.Frag) {e e2 : Expr} {ta : TA} {p pos tpos : Pos} {elts : List Expr} {kk : Nat} (hg : Gl X "zip") (hm : X.mg "zip" = none) (ha : PA X [e, e2] ta) (h : X.K = K := by rfl)
    (hs : starEach [e, e2] X.env = (false, eval e X.env) :: starEach [e2] X.env := by rfl) (hpl : (backTo pos (starEach [e2] X.env)).any (·.1) = false := by rfl) :
    PI X (.Tuple elts kk tpos) (.Call (.Name "zip" p) [e, e2] [] pos) (iZipM K ta) := by subst h; exact pi_zipM hg hm ha hs hpl
theorem zpi_zipA (K : PySem.W.Frag) {e e2 : Expr} {ta : TA} {p pos tpos : Pos} {elts : List Expr} {kk : Nat} (hg : Gl X "zip") (hm : X.mg "zip" = none) (ha : PA X [e, e2] ta) (h : X.K = K := by rfl)
    (hs : starEach [e, e2] X.env = (false, eval e X.env) :: starEach [e2] X.env := by rfl) (hpl : (backTo pos (starEach [e2] X.env)).any (·.1) = false := by rfl) :
    PI X (.Tuple elts kk tpos) (.Call (.Name "zip" p) [e, e2] [] pos) (RZ.iZipA K ta) := by subst h; exact RZ.pi_zipA hg hm ha hs hpl
theorem zpg_tup (K : PySem.W.Frag) {es : List Expr} {k : Nat} {t : TGs} {n : Nat} {pos : Pos} (hc : X.calm = true) (hp : PGs X es t) (h : X.K = K := by rfl)
    (hn : (assignEach es X.env).length = n := by rfl) (hst : (assignEach es X.env).findIdx? (·.1) = none := by rfl) : PG X (.Tuple es k pos) (gTup K n t) := by subst h; exact pg_tup hc hp hn hst
theorem zpe_fld (K : PySem.W.Frag) {e : Expr} {f : Str} {pos : Pos} {ta : TE} (he : PE X e ta) (hb : attributeBase e f X.env (eval e X.env) = eval e X.env) (h : X.K = K := by rfl) : PE X (.Attribute e f pos) (tFld K ta f) := by subst h; exact pe_fld he hb
theorem zpe_con (K : PySem.W.Frag) {e : Expr} {f : Str} {pos : Pos} {ta : TE} (he : PE X e ta) (hb : attributeBase e f X.env (eval e X.env) = eval e X.env) (h : X.K = K := by rfl) : PE X (.Attribute e f pos) (tCon K ta f) := by subst h; exact pe_con he hb
theorem zps_fld (K : PySem.W.Frag) {o value : Expr} {f : Str} {pos pos' : Pos} {ta tv : TE} (ha : PE X o ta) (hv : PE X value tv) (hs : swapsWith value (some (.Attribute o f pos')) pos.line X.env = pure false) (h : X.K = K := by rfl) :
    PS X (.Assign [.Attribute o f pos'] value pos) (sFld K ta tv f) := by subst h; exact ps_fld ha hv hs
theorem zpe_tix (K : PySem.W.Frag) {o e : Expr} {to : TE} {t : TA} {apos cpos : Pos} (hc : X.calm = true) (ho : PE X o to) (ha : PA X [e] t) (h : X.K = K := by rfl)
    (hbase : attributeBase o "index" X.env (eval o X.env) = eval o X.env := by rfl)
    (hfew : ((backTo cpos (starEach [e] X.env)).all (fun x => !x.1) && (backToKw cpos (keywordEach [] X.env)).all (fun x => x.1.isSome)
      && decide ([e].length + ([] : List Keyword).length + (if ([] : List Keyword).isEmpty then 0 else 1) < 30)) = true := by rfl)
    (hline : (apos.endLine == cpos.line) = true := by rfl) (hs : starEach [e] X.env = (false, eval e X.env) :: starEach [] X.env := by rfl) (hplain : (backTo cpos (starEach [] X.env)).any (·.1) = false := by rfl) :
    PE X (.Call (.Attribute o "index" apos) [e] [] cpos) (tTIx K to t) := by subst h; exact pe_tix hc ho ha hbase hfew hline hs hplain
theorem zpe_revT (K : PySem.W.Frag) {e : Expr} {te : TE} {k : Nat} {p1 p2 p3 pos : Pos} (he : PE X e te) (h : X.K = K := by rfl) : PE X (.Subscript e (.Slice none none (some (.UnaryOp .USub (.Constant (.int 1) k p1) p2)) p3) pos) (tRevT K te) := by subst h; exact pe_revT he
theorem zpe_bm (K : PySem.W.Frag) {T name id : String} {r : V → List V → Hp → VK → Prop} {o e : Expr} {es : List Expr} {to : TE} {t : TA} {apos cpos : Pos} (pa : PlainAttrs T) (slot : Slot T name id) (hty : typeOf (.builtin id) = pure (.type "method_descriptor")) (hm : MtR X id r) (ho : PE X o to) (ha : PA X (e :: es) t) (h : X.K = K := by rfl)
    (hbase : attributeBase o name X.env (eval o X.env) = eval o X.env := by rfl)
    (hfew : ((backTo cpos (starEach (e :: es) X.env)).all (fun x => !x.1) && (backToKw cpos (keywordEach [] X.env)).all (fun x => x.1.isSome)
      && decide ((e :: es).length + ([] : List Keyword).length + (if ([] : List Keyword).isEmpty then 0 else 1) < 30)) = true := by rfl)
    (hline : (apos.endLine == cpos.line) = true := by rfl) (hs : starEach (e :: es) X.env = (false, eval e X.env) :: starEach es X.env := by rfl) (hplain : (backTo cpos (starEach es X.env)).any (·.1) = false := by rfl) :
    PE X (.Call (.Attribute o name apos) (e :: es) [] cpos) (tBM K T r to t) := by subst h; exact pe_bm pa slot hty hm ho ha hbase hfew hline hs hplain
theorem zpe_cS (K : PySem.W.Frag) {k j : Nat} {x : Str} {sp : Sp} {p pos spos : Pos} {e : Expr} {te : TE} (c : DefR X.prog X.w X.K X.mg X.base k x sp) (hr : Room j X.A) (hk : k ≤ j) (hg : Gl X x) (he : PE X e te) (h : X.K = K := by rfl) (hd : (x == ("__debug__" : Str)) = false := by decide)
    (hst : starEach [.Starred e spos] X.env = [(true, eval e X.env)] := by rfl) : PE X (.Call (.Name x p) [.Starred e spos] [] pos) (tStarR K sp te) := by subst h; exact pe_cS c hr hk hg he hd hst
theorem zpe_mS (K : PySem.W.Frag) {k j : Nat} {C g : Addr} {m : Str} {sp : Sp} {p pos apos : Pos} {e o : Expr} {ta te : TE} (hc : Cls X.K C) (b : BMeth X.K C m g) (F : FnR X.prog X.w X.K X.mg X.base CX0 k g sp) (hr : Room j X.A) (hk : k ≤ j) (he : PE X o ta) (ha : PE X e te) (h : X.K = K := by rfl) (hbase : attributeBase o m X.env (eval o X.env) = eval o X.env := by rfl) :
    PE X (.Call (.Attribute o m apos) [.Starred e p] [] pos) (tMethS K C m g sp E0 ta te) := by subst h; exact pe_mS hc b F hr hk he ha hbase
end
end Zy
set_option Elab.async false
set_option linter.all false
set_option maxRecDepth 100000
set_option maxHeartbeats 4000000
namespace Zy
open PySem PySem.Spec PyProof.Rows L2

/-! ### data of the program -/
def nI (ks : List Nat) : List Int := ks.map fun k : Nat => (k : Int)
abbrev eN (ks : List Nat) : List Dt := (nI ks).map Dt.int
abbrev eT (ks : List Nat) : Dt := .tup true (eN ks)
abbrev eF (q : Rat) : Dt := .tup true [.int q.num, .int (q.den : Int)]
@[simp] theorem nI_len {ks : List Nat} : (nI ks).length = ks.length := by simp [nI]
theorem eN_len {ks : List Nat} : (eN ks).length = ks.length := by simp [nI]
theorem eN_get {ks : List Nat} {i : Nat} : (eN ks)[i]? = ks[i]?.map fun k : Nat => Dt.int (k : Int) := by
  simp [nI]
  rfl
theorem eN_at {ks : List Nat} {i : Nat} {d : Dt} (h : (fun i => (eN ks)[i]?) i = some d) : ∃ x, ks[i]? = some x ∧ d = .int (x : Nat) := by
  have h' : (eN ks)[i]? = some d := h
  rw [eN_get] at h'
  obtain ⟨x, hx, e⟩ := Option.map_eq_some_iff.mp h'
  exact ⟨x, hx, e.symm⟩
theorem enum_at {ks : List Nat} {i : Nat} {d : Dt} (h : (fun i => (eN ks)[i]?.map fun d => Dt.tup false [.int (i : Nat), d]) i = some d) : ∃ x, ks[i]? = some x ∧ d = .tup false [.int (i : Nat), .int (x : Nat)] := by
  have h' : (eN ks)[i]?.map (fun d => Dt.tup false [.int (i : Nat), d]) = some d := h
  obtain ⟨z, hz, e⟩ := Option.map_eq_some_iff.mp h'
  obtain ⟨x, hx, e2⟩ := eN_at (i := i) hz
  subst e2
  exact ⟨x, hx, e.symm⟩
theorem eN_map {α : Type} {f : α → Nat} {xs : List α} : eN (xs.map f) = xs.map fun x => Dt.int (f x : Nat) := by unfold eN nI; rw [List.map_map, List.map_map]; rfl
theorem nI_mem {ks : List Nat} {k : Nat} : ((k : Int) ∈ nI ks) ↔ k ∈ ks := by
  constructor
  · intro h
    obtain ⟨j, hj, e⟩ := List.mem_map.mp h
    have : j = k := by omega
    rw [← this]; exact hj
  · exact fun h => List.mem_map.mpr ⟨k, h, rfl⟩
theorem atI_nat {α : Type} {xs : List α} {i : Nat} : atI xs (i : Int) = xs[i]? := by
  unfold atI ixN
  by_cases h : i < xs.length
  · rw [if_pos (by omega), if_pos (by omega)]
    simp
  · rw [if_pos (by omega), if_neg (by omega)]
    simp at h
    simp [h]
theorem atI0 {α : Type} {xs : List α} : atI xs 0 = xs[0]? := atI_nat (i := 0)
theorem atI1 {α : Type} {xs : List α} : atI xs 1 = xs[1]? := atI_nat (i := 1)
theorem atI2 {α : Type} {xs : List α} : atI xs 2 = xs[2]? := atI_nat (i := 2)
section
variable {K : PySem.W.Frag} {B : Hp} {M : Mem} {Q : Dt → Mem → Prop}
/-- x is not None -/
theorem o_notN {d : Dt} {b : Bool} (hd : (b = false ∧ d = .non) ∨ (b = true ∧ ∃ c ds, d = .tup c ds)) (q : Q (.bl b) M) : Op2 K B (fun x y H Q => y = .non ∧ Q (.bl (!decide (x = .non))) H) d .non M Q := fun v1 v2 H e1 e2 m R k => by
  cases e2
  rcases hd with ⟨rfl, rfl⟩ | ⟨rfl, c, ds, rfl⟩
  · cases e1
    exact ⟨rfl, k _ H _ M (Tu.refl H) (.bl _) m q⟩
  · cases e1 with
    | tup ht hb hs => exact ⟨rfl, k _ H _ M (Tu.refl H) (.bl _) m q⟩
theorem o_eqF {b c : Bool} {p q : Rat} (z : Q (.bl (decide (p = q))) M) : Op2 K B (rEqD K) (.tup b [.int p.num, .int (p.den : Int)]) (.tup c [.int q.num, .int (q.den : Int)]) M Q := by
  refine o_eqD (p1 := .tuple [.int p.num, .int p.den]) (p2 := .tuple [.int q.num, .int q.den]) (.tup (.cons (.int _) (.cons (.int _) .nil))) (.tup (.cons (.int _) (.cons (.int _) .nil))) (by rfl) (by rfl) ?_
  have e : PyData.eqv (.tuple [.int p.num, .int p.den]) (.tuple [.int q.num, .int q.den]) = decide (p = q) := by
    simp only [PyData.eqv, PyData.eqvAll]
    by_cases h : p = q
    · subst h; simp
    · rw [decide_eq_false h]
      have h2 : ¬ (p.num = q.num ∧ p.den = q.den) := fun z => h (Rat.ext z.1 z.2)
      by_cases h3 : p.num = q.num
      · have h4 : ¬ p.den = q.den := fun z => h2 ⟨h3, z⟩
        have h5 : ¬ (p.den : Int) = (q.den : Int) := fun z => h4 (by omega)
        simp [h3, h5, h4]
      · simp [h3]
  rw [e]
  exact z
theorem o_neF {b c : Bool} {p q : Rat} (z : Q (.bl (!decide (p = q))) M) : Op2 K B (rNeD K) (.tup b [.int p.num, .int (p.den : Int)]) (.tup c [.int q.num, .int (q.den : Int)]) M Q := by
  refine o_neD (p1 := .tuple [.int p.num, .int p.den]) (p2 := .tuple [.int q.num, .int q.den]) (.tup (.cons (.int _) (.cons (.int _) .nil))) (.tup (.cons (.int _) (.cons (.int _) .nil))) (by rfl) (by rfl) ?_
  have e : PyData.eqv (.tuple [.int p.num, .int p.den]) (.tuple [.int q.num, .int q.den]) = decide (p = q) := by
    simp only [PyData.eqv, PyData.eqvAll]
    by_cases h : p = q
    · subst h; simp
    · rw [decide_eq_false h]
      have h2 : ¬ (p.num = q.num ∧ p.den = q.den) := fun z => h (Rat.ext z.1 z.2)
      by_cases h3 : p.num = q.num
      · have h4 : ¬ p.den = q.den := fun z => h2 ⟨h3, z⟩
        have h5 : ¬ (p.den : Int) = (q.den : Int) := fun z => h4 (by omega)
        simp [h3, h5, h4]
      · simp [h3]
  rw [e]
  exact z
theorem et_not2 {tt : TT} {δ : Dl} {QT : Bool → Mem → Prop} (h : EvT K B tt δ M fun b M' => (b = true → QT false M') ∧ (b = false → QT true M')) : EvT K B (tNot tt) δ M QT := fun σ H m s R k =>
  h σ H m s _ fun b H' M' t m' q => by
    cases b with
    | true => exact k false H' M' t m' (q.1 rfl)
    | false => exact k true H' M' t m' (q.2 rfl)
theorem ev_not2 {ta : TE} {δ : Dl} (h : Ev K B ta δ M fun d1 M1 => ∃ b, d1 = .bl b ∧ (b = true → Q (.bl false) M1) ∧ (b = false → Q (.bl true) M1)) : Ev K B (tNotV ta) δ M Q := fun σ H m s R k =>
  h σ H m s _ fun x H1 d1 M1 t1 v1 m1 ⟨b, e, q⟩ => by
    subst e
    cases v1
    refine ⟨b, rfl, ?_⟩
    cases b with
    | true => exact k _ H1 _ M1 t1 (.bl _) m1 (q.1 rfl)
    | false => exact k _ H1 _ M1 t1 (.bl _) m1 (q.2 rfl)
theorem zo_lenT {b : Bool} {ds : List Dt} (q : Q (.int ds.length) M) : OpC K B (rLenQ K) [.tup b ds] M Q := o_lenT q
theorem zo_lenL {a : Addr} {w : Bool} {ds : List Dt} (c : (⟨a, w, .lst ds⟩ : Cell) ∈ M) (q : Q (.int ds.length) M) : OpC K B (rLenQ K) [.adr a] M Q := o_lenL c q
theorem zo_lenS {ns : List Int} (q : Q (.int ns.length) M) : OpC K B (rLenQ K) [.scr ns] M Q := o_lenS q
theorem tyD_of {a : Addr} {w : Bool} {ds : List Dt} (c : (⟨a, w, .lst ds⟩ : Cell) ∈ M) : TyD "list" (.adr a) M := ⟨rfl, w, ds, c⟩
theorem ev_id {te : TE} {δ : Dl} {Q' : Dt → Mem → Prop} (h : Ev K B te δ M Q) (e : ∀ d M', Q d M' → Q' d M') : Ev K B te δ M Q' := fun σ H m s R k => h σ H m s R fun v H' d M' t tv m' q => k v H' d M' t tv m' (e d M' q)
end

theorem pm_imp {K : PySem.W.Frag} {F F' : Spec} (h : ∀ ds M Q, F' ds M Q → F ds M Q) : ∀ (vs : List V) (H : Hp) (Q : VK) (E : XK), Pm K F' vs H Q E → Pm K F vs H Q E := fun vs H Q E ⟨B, ds, M, Q0, tv, m, hF, k⟩ => ⟨B, ds, M, Q0, tv, m, h _ _ _ hF, k⟩
theorem eN_snoc {ks : List Nat} {k : Nat} : eN (ks ++ [k]) = eN ks ++ [Dt.int (k : Int)] := by unfold eN nI; simp
theorem idx_nI {k : Nat} : ∀ {ks : List Nat}, (nI ks).idxOf (k : Int) = ks.idxOf k
  | [] => rfl
  | x :: r => by
    have ih := idx_nI (k := k) (ks := r)
    unfold nI at ih ⊢
    rw [List.map_cons, List.idxOf_cons, List.idxOf_cons, ih]
    have e : ((x : Int) == (k : Int)) = (x == k) := by
      by_cases h : x = k
      · subst h; rw [beq_self_eq_true, beq_self_eq_true]
      · have h2 : ¬ (x : Int) = (k : Int) := by omega
        rw [beq_eq_false_iff_ne.mpr h2, beq_eq_false_iff_ne.mpr h]
    rw [e]
/-! ### sizes of fractions -/
def Sz (n : Nat) (q : Rat) : Prop := q.num.natAbs < 2 ^ n ∧ q.den < 2 ^ n
instance {n : Nat} {q : Rat} : Decidable (Sz n q) := by unfold Sz; infer_instance
theorem sz0 {n : Nat} : Sz (n + 1) 0 := ⟨by show (0 : Nat) < _; exact Nat.pow_pos (by decide), by show (1 : Nat) < _; exact Nat.one_lt_two_pow (by omega)⟩
theorem Sz.mono {m n : Nat} {q : Rat} (h : Sz m q) (l : m ≤ n) : Sz n q := ⟨Nat.lt_of_lt_of_le h.1 (Nat.pow_le_pow_right (by decide) l), Nat.lt_of_lt_of_le h.2 (Nat.pow_le_pow_right (by decide) l)⟩
theorem sz_mk {n b : Nat} {a : Int} (hb : b ≠ 0) (h1 : a.natAbs < 2 ^ n) (h2 : b < 2 ^ n) : Sz n (mkRat a b) := by
  refine ⟨?_, ?_⟩
  · rw [Rat.num_mkRat, if_neg hb]
    refine Nat.lt_of_le_of_lt ?_ h1
    have hd : ((b.gcd a.natAbs : Nat) : Int) ∣ a := Int.ofNat_dvd_left.mpr (Nat.gcd_dvd_right _ _)
    rw [Int.natAbs_ediv_of_dvd hd]
    exact Nat.div_le_self _ _
  · rw [Rat.den_mkRat, if_neg hb]
    exact Nat.lt_of_le_of_lt (Nat.div_le_self _ _) h2
theorem pow_mul_lt {a b m n : Nat} (h1 : a < 2 ^ m) (h2 : b < 2 ^ n) : a * b < 2 ^ (m + n) := by
  rw [Nat.pow_add]
  exact Nat.mul_lt_mul'' h1 h2
theorem Sz.mul {m n : Nat} {p q : Rat} (h1 : Sz m p) (h2 : Sz n q) : Sz (m + n) (p * q) := by
  rw [Rat.mul_def']
  refine sz_mk (Nat.mul_ne_zero p.den_nz q.den_nz) ?_ (pow_mul_lt h1.2 h2.2)
  rw [Int.natAbs_mul]
  exact pow_mul_lt h1.1 h2.1
theorem Sz.add {m n : Nat} {p q : Rat} (h1 : Sz m p) (h2 : Sz n q) : Sz (m + n + 1) (p + q) := by
  rw [Rat.add_def']
  have d := pow_mul_lt h1.2 h2.2
  have e : 2 ^ (m + n + 1) = 2 ^ (m + n) + 2 ^ (m + n) := by rw [Nat.pow_succ]; omega
  refine sz_mk (Nat.mul_ne_zero p.den_nz q.den_nz) ?_ (by omega)
  have a1 : (p.num * (q.den : Int)).natAbs < 2 ^ (m + n) := by
    rw [Int.natAbs_mul]
    exact pow_mul_lt h1.1 h2.2
  have a2 : (q.num * (p.den : Int)).natAbs < 2 ^ (m + n) := by
    rw [Int.natAbs_mul, Nat.mul_comm]
    exact pow_mul_lt h1.2 h2.1
  omega
theorem Sz.inv {n : Nat} {q : Rat} (h : Sz n q) (hq : 0 < q.num) : Sz n q⁻¹ := by
  refine ⟨?_, ?_⟩
  · rw [Rat.num_inv, Int.sign_eq_one_of_pos hq]
    rw [Int.one_mul]
    exact h.2
  · rw [Rat.den_inv, if_neg (by omega)]
    exact h.1
theorem Sz.div {m n : Nat} {p q : Rat} (h1 : Sz m p) (h2 : Sz n q) (hq : 0 < q.num) : Sz (m + n) (p / q) := by
  rw [Rat.div_def]
  exact h1.mul (h2.inv hq)
theorem rsum_sz {n : Nat} {qs : List Rat} (h : ∀ q ∈ qs, Sz n q) : Sz (qs.length * (n + 1) + 1) (rsum qs) := by
  have g : ∀ i, i ≤ qs.length → Sz (i * (n + 1) + 1) (rsum (qs.take i)) := by
    intro i
    induction i with
    | zero => intro _; exact (by decide : Sz 1 0).mono (by omega)
    | succ i ih =>
      intro hi
      have e : qs[i]? = some (qs[i]'(by omega)) := List.getElem?_eq_getElem (by omega)
      rw [rsum_take e]
      exact ((ih (by omega)).add (h _ (List.mem_of_getElem? e))).mono (by have := Nat.add_one_mul i (n + 1); omega)
  have := g qs.length (Nat.le_refl _)
  rwa [List.take_length] at this
theorem log2_lt {a n : Nat} (h : a < 2 ^ n) (hn : 0 < n) : a.log2 < n := by
  by_cases z : a = 0
  · subst z; simpa using hn
  · exact (Nat.log2_lt z).mpr h
theorem num_pos {q : Rat} : 0 < q.num ↔ 0 < q := by
  have h1 : 0 ≤ q.num ↔ 0 ≤ q := Rat.num_nonneg
  have h2 : q.num = 0 ↔ q = 0 := Rat.num_eq_zero
  rw [Rat.lt_iff_le_and_ne, ← h1]
  constructor
  · intro h
    exact ⟨by omega, fun z => by rw [← z] at h; exact absurd h (by decide)⟩
  · rintro ⟨a, b⟩
    have : q.num ≠ 0 := fun z => b (h2.mp z).symm
    omega
end Zy
set_option Elab.async false
set_option linter.all false
set_option maxRecDepth 100000
set_option maxHeartbeats 4000000
namespace Zy
open PySem PySem.Spec PyProof.Rows L2
open C8 (fnBody fnArgs fnScope clsBody scC fnScope_by)

local macro_rules | `(tactic| walk_at "zmem") => `(tactic| repeat (first | exact List.mem_cons_self | assumption | refine List.mem_cons_of_mem _ ?_))
local macro_rules | `(tactic| walk_at "z1") => `(tactic| first
  | (with_reducible refine ss_seq ?_) | (with_reducible refine ss_next ?_) | (with_reducible refine ss_ret ?_) | (with_reducible refine ss_set ?_) | (with_reducible refine ss_if ?_)
  | (with_reducible refine ss_drop ?_) | (with_reducible refine ss_par ?_) | (with_reducible refine ss_par3 ?_)
  | (with_reducible refine et_test ?_) | (with_reducible refine et_B ?_) | (with_reducible refine et_and ?_) | (with_reducible refine et_or ?_) | (with_reducible refine et_not2 ?_) | (with_reducible refine et_yes ?_)
  | (with_reducible refine ev_op ?_) | (with_reducible refine ev_un ?_) | (with_reducible refine isi_ii ?_) | (with_reducible refine isi_ib ?_) | (with_reducible refine isi_tt ?_) | (with_reducible refine isi_ss ?_)
  | (with_reducible refine ev_cb ?_) | (with_reducible refine ev_call ?_) | (with_reducible refine ev_chain ?_)
  | (with_reducible refine ev_and ?_) | (with_reducible refine ev_or ?_) | (with_reducible refine ev_not2 ?_) | (with_reducible refine ev_if ?_) | (with_reducible refine ev_int ?_) | (with_reducible refine ev_bl ?_) | (with_reducible refine ev_non ?_) | (with_reducible refine ev_str ?_)
  | (with_reducible refine ea_nil ?_) | (with_reducible refine ea_cons ?_)
  | ((with_reducible refine' ev_var ?_ ?_); rotate_left; exact rfl) | ((with_reducible refine' o_ixT ?_ ?_); rotate_left; exact rfl) | (with_reducible refine zo_lenT ?_) | (with_reducible refine zo_lenS ?_) | ((with_reducible refine' zo_lenL ?_ ?_); rotate_left 2; (walk_at "zmem")) | (with_reducible refine ev_tup ?_) | (with_reducible refine ev_lst ?_)
  | (with_reducible refine o_I0 ?_) | (with_reducible refine o_B0 ?_) | (with_reducible refine o_neg ?_) | (with_reducible refine o_eqI ?_) | (with_reducible refine o_neI ?_)
  | (with_reducible refine fun (hq : true = false) => Bool.noConfusion hq) | (with_reducible refine fun (hq : false = true) => Bool.noConfusion hq) | (with_reducible refine fun (_ : true = true) => ?_) | (with_reducible refine fun (_ : false = false) => ?_)
  | (with_reducible refine ⟨_, rfl, ?_⟩) | (with_reducible refine ⟨_, _, rfl, ?_⟩) | (with_reducible refine ⟨_, _, _, rfl, ?_⟩) | (with_reducible refine ⟨fun (_ : true = true) => ?_, fun (hq : true = false) => Bool.noConfusion hq⟩) | (with_reducible refine ⟨fun (hq : false = true) => Bool.noConfusion hq, fun (_ : false = false) => ?_⟩) | (with_reducible refine ⟨Nat.le_of_ble_eq_true rfl, ?_⟩) | ((with_reducible refine ⟨fun hq => absurd hq ?_, fun _ => ?_⟩); (simp <;> omega)) | ((with_reducible refine ⟨fun _ => ?_, fun hq => absurd hq ?_⟩); rotate_left; (simp <;> omega)) | (with_reducible refine And.intro (?_ : _ = true → _) (?_ : _ = false → _)) | (with_reducible refine ev_bm ?_) | ((with_reducible refine' And.intro (tyD_of ?_) ?_); rotate_left 2; (walk_at "zmem")))
local macro_rules | `(tactic| walk_at "zz") => `(tactic| repeat (walk_at "z1"))
local macro_rules | `(tactic| walk_at "zle") => `(tactic| repeat (first | exact trivial | refine And.intro rfl ?_ | exact LeD.refl _))
abbrev F_is_integer : Spec := fun ds M Q => ∃ i : Int, ds = [.int i] ∧ Q (.bl true) M
theorem sc_is_integer : FnScope ["value"] ["value"] (fnScope (stT 16)) := fnScope_by (by decide +kernel)
theorem d_is_integer {P : Program} {w : World} {K : PySem.W.Frag} {mg : Str → Option Value} {base : Heap} {f CO CP CR dQ : Addr} {tk : Tok} {es : Array DictEntry} {nn : Nat} (bi : Bi mg) (gMC : mg "MOST_CASES" = some (.int 12 tk)) (gCO : mg "Observer" = some (.ref CO)) (gQ : mg "QUESTIONS" = some (.ref dQ)) (kq : KDict K w dQ es nn)   (gm : mg "is_integer" = some (.ref f)) (Fn : FnP K "is_integer" "is_integer" (stT 16) f) : DefR P w K mg base 1 "is_integer" (Pm K F_is_integer) :=
 def_of (F := F_is_integer) gm Fn sc_is_integer (fun _ _ _ _ _ _ us hl => match us, hl with | [_], _ => rfl) (fun ds M Q h => by obtain ⟨_, rfl, _⟩ := h; rfl) (fun cdv A outer s H E hr => ⟨_, (pss_one (ps_ret (pe_and (pe_callB (zcall_isi K) rfl bi.isinstance zb_isinstance (pa_cons (pv 0) (pa_cons (pe_bltn (v := .ty "int") rfl bi.int zb_int rfl) pa_nil))) (pe_one (pe_not (pe_callB (zcall_isi K) rfl bi.isinstance zb_isinstance (pa_cons (pv 0) (pa_cons (pe_bltn (v := .ty "bool") rfl bi.bool zb_bool rfl) pa_nil)))))))), fun B ds M Q0 hF => by

  obtain ⟨i, rfl, q⟩ := hF
  walk_at "zz"
  exact WkM.of q
⟩)
abbrev F_greatest_divisor : Spec := fun ds M Q => ∃ a b : Int, ds = [.int a, .int b] ∧ Q (.int (Int.gcd a b : Nat)) M
theorem sc_greatest_divisor : FnScope ["one", "other"] ["one", "other"] (fnScope (stT 17)) := fnScope_by (by decide +kernel)
theorem d_greatest_divisor {P : Program} {w : World} {K : PySem.W.Frag} {mg : Str → Option Value} {base : Heap} {f CO CP CR dQ : Addr} {tk : Tok} {es : Array DictEntry} {nn : Nat} (bi : Bi mg) (gMC : mg "MOST_CASES" = some (.int 12 tk)) (gCO : mg "Observer" = some (.ref CO)) (gQ : mg "QUESTIONS" = some (.ref dQ)) (kq : KDict K w dQ es nn)   (gm : mg "greatest_divisor" = some (.ref f)) (Fn : FnP K "greatest_divisor" "greatest_divisor" (stT 17) f) : DefR P w K mg base 1 "greatest_divisor" (Pm K F_greatest_divisor) :=
 def_of (F := F_greatest_divisor) gm Fn sc_greatest_divisor (fun _ _ _ _ _ _ us hl => match us, hl with | [_, _], _ => rfl) (fun ds M Q h => by obtain ⟨_, _, rfl, _⟩ := h; rfl) (fun cdv A outer s H E hr => ⟨_, (pss_cons (ps_set (i := 0) sc_greatest_divisor.nd rfl (by first | exact Or.inl rfl | exact Or.inr rfl) (pe_callB call_abs rfl bi.abs zb_abs (pa_cons (pv 0) pa_nil)))
 (pss_cons (ps_set (i := 1) sc_greatest_divisor.nd rfl (by first | exact Or.inl rfl | exact Or.inr rfl) (pe_callB call_abs rfl bi.abs zb_abs (pa_cons (pv 1) pa_nil)))
 (pss_cons (ps_while PassesOwn.never (pt_cmpR op_gt (pv 1) pe_int (nomark _))
 (pss_one (ps_par (i := 0) (j := 1) rfl sc_greatest_divisor.nd rfl rfl (by decide) rfl rfl (pa_cons (pv 1) (pa_cons (pe_op op_mod (pv 0) (pv 1)) pa_nil)) rfl)))
 (pss_one (ps_ret (pv 0)))))), fun B ds M Q0 hF => by

  obtain ⟨a, b, rfl, q⟩ := hF
  walk_at "zz"
  refine o_abs ?_
  walk_at "zz"
  refine o_abs ?_
  walk_at "zz"
  refine ss_while (fun n δ' M' => M' = M ∧ ∃ x y : Nat, y = n ∧ δ' = [some (.int (x : Int)), some (.int (y : Int))] ∧ Nat.gcd x y = Int.gcd a b) b.natAbs ⟨rfl, a.natAbs, b.natAbs, rfl, ?_, rfl⟩ ?_
  · show [some (Dt.int (if a < 0 then -a else a)), some (Dt.int (if b < 0 then -b else b))] = _
    rw [show (if a < 0 then -a else a) = (a.natAbs : Int) by omega, show (if b < 0 then -b else b) = (b.natAbs : Int) by omega]
  · rintro n δ' M' ⟨rfl, x, y, hn, rfl, e⟩
    subst hn
    walk_at "zz"
    · intro hz
      have hy : 0 < y := by simpa using hz
      walk_at "zz"
      refine o_I (C := fun _ j => 0 < j) (by omega) ?_
      walk_at "zz"
      refine Wk.of ⟨x % y, Nat.mod_lt _ hy, rfl, y, x % y, rfl, ?_, ?_⟩
      · show [some (Dt.int (y : Int)), some (Dt.int ((x : Int) % (y : Int)))] = _
        rw [Int.natCast_emod]
      · rw [← e, Nat.gcd_comm y, ← Nat.gcd_rec, Nat.gcd_comm]
    · intro hz
      have hy : ¬ 0 < y := by simpa using hz
      have : y = 0 := by omega
      subst this
      walk_at "zz"
      rw [Nat.gcd_zero_right] at e
      rw [e]
      exact WkM.of q
⟩)
abbrev F_is_valid_fraction : Spec := fun ds M Q => ∃ x : Rat, ds = [eF x] ∧ Q (.bl true) M
theorem sc_is_valid_fraction : FnScope ["value"] ["value"] (fnScope (stT 18)) := fnScope_by (by decide +kernel)
theorem d_is_valid_fraction {P : Program} {w : World} {K : PySem.W.Frag} {mg : Str → Option Value} {base : Heap} {f CO CP CR dQ : Addr} {tk : Tok} {es : Array DictEntry} {nn : Nat} (bi : Bi mg) (gMC : mg "MOST_CASES" = some (.int 12 tk)) (gCO : mg "Observer" = some (.ref CO)) (gQ : mg "QUESTIONS" = some (.ref dQ)) (kq : KDict K w dQ es nn)  (c_is_integer : DefR P w K mg base 1 "is_integer" (Pm K F_is_integer)) (c_greatest_divisor : DefR P w K mg base 1 "greatest_divisor" (Pm K F_greatest_divisor)) (gm : mg "is_valid_fraction" = some (.ref f)) (Fn : FnP K "is_valid_fraction" "is_valid_fraction" (stT 18) f) : DefR P w K mg base 2 "is_valid_fraction" (Pm K F_is_valid_fraction) :=
 def_of (F := F_is_valid_fraction) gm Fn sc_is_valid_fraction (fun _ _ _ _ _ _ us hl => match us, hl with | [_], _ => rfl) (fun ds M Q h => by obtain ⟨_, rfl, _⟩ := h; rfl) (fun cdv A outer s H E hr => ⟨_, (pss_cons (ps_if (PW.pt (pw_or (pt_not (pt_val (pe_callB (zcall_isi K) rfl bi.isinstance zb_isinstance (pa_cons (pv 0) (pa_cons (pe_bltn (v := .ty "tuple") rfl bi.tuple zb_tuple rfl) pa_nil))))) (pw_or1 (pt_cmpR op_ne (pe_callB (zcall_len_seq K) rfl bi.len zb_len (pa_cons (pv 0) pa_nil)) pe_int (nomark _)))))
 (pss_one (ps_ret pe_bl))
 pss_nil)
 (pss_cons (ps_if (PW.pt (pw_or (pt_not (pt_val (pe_cD c_is_integer hr (by decide) rfl (pa_cons (pe_ix (zix_tup K) (pv 0) pe_int (fun _ _ => rfl)) pa_nil)))) (pw_or (pt_not (pt_val (pe_cD c_is_integer hr (by decide) rfl (pa_cons (pe_ix (zix_tup K) (pv 0) pe_int (fun _ _ => rfl)) pa_nil)))) (pw_or1 (pt_cmpR op_lt (pe_ix (zix_tup K) (pv 0) pe_int (fun _ _ => rfl)) pe_int (nomark _))))))
 (pss_one (ps_ret pe_bl))
 pss_nil)
 (pss_one (ps_ret (pe_cmpR op_eq (pe_cD c_greatest_divisor hr (by decide) rfl (pa_cons (pe_ix (zix_tup K) (pv 0) pe_int (fun _ _ => rfl)) (pa_cons (pe_ix (zix_tup K) (pv 0) pe_int (fun _ _ => rfl)) pa_nil))) pe_int (nomark _)))))), fun B ds M Q0 hF => by

  obtain ⟨x, rfl, q⟩ := hF
  have hd := x.den_pos
  walk_at "zz"
  rw [decide_eq_true (by simp [Int.gcd, x.reduced])]
  exact WkM.of q
⟩)
abbrev F_is_positive : Spec := fun ds M Q => ∃ x : Rat, ds = [eF x] ∧ Q (.bl (decide (0 < x))) M
theorem sc_is_positive : FnScope ["value"] ["value"] (fnScope (stT 19)) := fnScope_by (by decide +kernel)
theorem d_is_positive {P : Program} {w : World} {K : PySem.W.Frag} {mg : Str → Option Value} {base : Heap} {f CO CP CR dQ : Addr} {tk : Tok} {es : Array DictEntry} {nn : Nat} (bi : Bi mg) (gMC : mg "MOST_CASES" = some (.int 12 tk)) (gCO : mg "Observer" = some (.ref CO)) (gQ : mg "QUESTIONS" = some (.ref dQ)) (kq : KDict K w dQ es nn)  (c_is_valid_fraction : DefR P w K mg base 2 "is_valid_fraction" (Pm K F_is_valid_fraction)) (gm : mg "is_positive" = some (.ref f)) (Fn : FnP K "is_positive" "is_positive" (stT 19) f) : DefR P w K mg base 3 "is_positive" (Pm K F_is_positive) :=
 def_of (F := F_is_positive) gm Fn sc_is_positive (fun _ _ _ _ _ _ us hl => match us, hl with | [_], _ => rfl) (fun ds M Q h => by obtain ⟨_, rfl, _⟩ := h; rfl) (fun cdv A outer s H E hr => ⟨_, (pss_one (ps_ret (pe_and (pe_cD c_is_valid_fraction hr (by decide) rfl (pa_cons (pv 0) pa_nil)) (pe_one (pe_cmpR op_gt (pe_ix (zix_tup K) (pv 0) pe_int (fun _ _ => rfl)) pe_int (nomark _)))))), fun B ds M Q0 hF => by

  obtain ⟨x, rfl, q⟩ := hF
  walk_at "zz"
  rw [show decide (0 < x.num) = decide (0 < x) by simp only [num_pos]]
  exact WkM.of q
⟩)
abbrev F_reduced : Spec := fun ds M Q => ∃ (a : Int) (b : Nat), ds = [.int a, .int (b : Int)] ∧ 0 < b ∧ b < 2 ^ 8990 ∧ Q (eF (mkRat a b)) M
theorem sc_reduced : FnScope ["top", "bottom", "divisor"] ["top", "bottom"] (fnScope (stT 20)) := fnScope_by (by decide +kernel)
theorem d_reduced {P : Program} {w : World} {K : PySem.W.Frag} {mg : Str → Option Value} {base : Heap} {f CO CP CR dQ : Addr} {tk : Tok} {es : Array DictEntry} {nn : Nat} (bi : Bi mg) (gMC : mg "MOST_CASES" = some (.int 12 tk)) (gCO : mg "Observer" = some (.ref CO)) (gQ : mg "QUESTIONS" = some (.ref dQ)) (kq : KDict K w dQ es nn)  (c_greatest_divisor : DefR P w K mg base 1 "greatest_divisor" (Pm K F_greatest_divisor)) (gm : mg "reduced" = some (.ref f)) (Fn : FnP K "reduced" "reduced" (stT 20) f) : DefR P w K mg base 2 "reduced" (Pm K F_reduced) :=
 def_of (F := F_reduced) gm Fn sc_reduced (fun _ _ _ _ _ _ us hl => match us, hl with | [_, _], _ => rfl) (fun ds M Q h => by obtain ⟨_, _, rfl, _⟩ := h; rfl) (fun cdv A outer s H E hr => ⟨_, (pss_cons (ps_set (i := 2) sc_reduced.nd rfl (by first | exact Or.inl rfl | exact Or.inr rfl) (pe_cD c_greatest_divisor hr (by decide) rfl (pa_cons (pv 0) (pa_cons (pv 1) pa_nil))))
 (pss_cons (ps_if (pt_cmpR op_lt (pv 1) pe_int (nomark _))
 (pss_one (ps_set (i := 2) sc_reduced.nd rfl (by first | exact Or.inl rfl | exact Or.inr rfl) (pe_un un_neg (pv 2))))
 pss_nil)
 (pss_one (ps_ret (pe_tupF (pa_cons (pe_op op_fdivW (pv 0) (pv 2)) (pa_cons (pe_op op_fdivW (pv 1) (pv 2)) pa_nil))))))), fun B ds M Q0 hF => by

  obtain ⟨a, b, rfl, hb, hb2, q⟩ := hF
  have hg : 0 < Int.gcd a b := Int.gcd_pos_of_ne_zero_right _ (by omega)
  have hl : (Int.gcd a b).log2 < 9000 := by
    have : Int.gcd a b ≤ b := Nat.le_of_dvd hb (Int.gcd_dvd_natAbs_right a b)
    exact Nat.lt_of_lt_of_le (log2_lt (n := 8990) (by omega) (by decide)) (by decide)
  walk_at "zz"
  refine o_I (C := CDivW) ⟨by omega, by simpa using hl⟩ ?_
  walk_at "zz"
  refine o_I (C := CDivW) ⟨by omega, by simpa using hl⟩ ?_
  walk_at "zz"
  refine WkM.of ?_
  have e1 : (mkRat a b).num = a / (Int.gcd a b : Nat) := by
    rw [Rat.num_mkRat, if_neg (by omega), Int.gcd_comm]
    rfl
  have e2 : ((mkRat a b).den : Int) = (b : Int) / (Int.gcd a b : Nat) := by
    rw [Rat.den_mkRat, if_neg (by omega), Int.gcd_comm, Int.natCast_ediv]
    rfl
  rw [← e1, ← e2]
  exact q
⟩)
abbrev F_plus : Spec := fun ds M Q => ∃ (p q : Rat) (m n : Nat), ds = [eF p, eF q] ∧ Sz m p ∧ Sz n q ∧ m + n ≤ 8990 ∧ Q (eF (p + q)) M
theorem sc_plus : FnScope ["one", "other"] ["one", "other"] (fnScope (stT 21)) := fnScope_by (by decide +kernel)
theorem d_plus {P : Program} {w : World} {K : PySem.W.Frag} {mg : Str → Option Value} {base : Heap} {f CO CP CR dQ : Addr} {tk : Tok} {es : Array DictEntry} {nn : Nat} (bi : Bi mg) (gMC : mg "MOST_CASES" = some (.int 12 tk)) (gCO : mg "Observer" = some (.ref CO)) (gQ : mg "QUESTIONS" = some (.ref dQ)) (kq : KDict K w dQ es nn)  (c_reduced : DefR P w K mg base 2 "reduced" (Pm K F_reduced)) (gm : mg "plus" = some (.ref f)) (Fn : FnP K "plus" "plus" (stT 21) f) : DefR P w K mg base 3 "plus" (Pm K F_plus) :=
 def_of (F := F_plus) gm Fn sc_plus (fun _ _ _ _ _ _ us hl => match us, hl with | [_, _], _ => rfl) (fun ds M Q h => by obtain ⟨_, _, _, _, rfl, _⟩ := h; rfl) (fun cdv A outer s H E hr => ⟨_, (pss_one (ps_ret (pe_cD c_reduced hr (by decide) rfl (pa_cons (pe_op op_add (pe_op op_mulW (pe_ix (zix_tup K) (pv 0) pe_int (fun _ _ => rfl)) (pe_ix (zix_tup K) (pv 1) pe_int (fun _ _ => rfl))) (pe_op op_mulW (pe_ix (zix_tup K) (pv 1) pe_int (fun _ _ => rfl)) (pe_ix (zix_tup K) (pv 0) pe_int (fun _ _ => rfl)))) (pa_cons (pe_op op_mulW (pe_ix (zix_tup K) (pv 0) pe_int (fun _ _ => rfl)) (pe_ix (zix_tup K) (pv 1) pe_int (fun _ _ => rfl))) pa_nil))))), fun B ds M Q0 hF => by

  obtain ⟨p, q, m, n, rfl, hp, hq, hmn, qq⟩ := hF
  have c1 : ∀ {a b : Nat}, a < 2 ^ m → b < 2 ^ n → a.log2 + b.log2 < 1000000 := fun {a b} h1 h2 => by
    have l1 : a.log2 < m + 1 := log2_lt (Nat.lt_of_lt_of_le h1 (Nat.pow_le_pow_right (by decide) (by omega))) (by omega)
    have l2 : b.log2 < n + 1 := log2_lt (Nat.lt_of_lt_of_le h2 (Nat.pow_le_pow_right (by decide) (by omega))) (by omega)
    omega
  have c2 : p.den * q.den < 2 ^ 8990 := Nat.lt_of_lt_of_le (pow_mul_lt hp.2 hq.2) (Nat.pow_le_pow_right (by decide) hmn)
  have pd := p.den_pos
  have qd := q.den_pos
  walk_at "zz"

  refine o_I (C := CMulW) (by exact c1 hp.1 hq.2) ?_
  walk_at "zz"
  refine o_I (C := CMulW) (by show _ + _ < _; rw [Nat.add_comm]; exact c1 hp.2 hq.1) ?_
  walk_at "zz"
  refine o_I (C := CMulW) (by exact c1 hp.2 hq.2) ?_
  walk_at "zz"
  refine ⟨Nat.mul_pos pd qd, c2, WkM.of ?_⟩
  show Q0 (eF (mkRat (p.num * q.den + q.num * p.den) (p.den * q.den))) M
  rw [← Rat.add_def']
  exact qq
⟩)
abbrev F_times : Spec := fun ds M Q => ∃ (p q : Rat) (m n : Nat), ds = [eF p, eF q] ∧ Sz m p ∧ Sz n q ∧ m + n ≤ 8990 ∧ Q (eF (p * q)) M
theorem sc_times : FnScope ["one", "other"] ["one", "other"] (fnScope (stT 23)) := fnScope_by (by decide +kernel)
theorem d_times {P : Program} {w : World} {K : PySem.W.Frag} {mg : Str → Option Value} {base : Heap} {f CO CP CR dQ : Addr} {tk : Tok} {es : Array DictEntry} {nn : Nat} (bi : Bi mg) (gMC : mg "MOST_CASES" = some (.int 12 tk)) (gCO : mg "Observer" = some (.ref CO)) (gQ : mg "QUESTIONS" = some (.ref dQ)) (kq : KDict K w dQ es nn)  (c_reduced : DefR P w K mg base 2 "reduced" (Pm K F_reduced)) (gm : mg "times" = some (.ref f)) (Fn : FnP K "times" "times" (stT 23) f) : DefR P w K mg base 3 "times" (Pm K F_times) :=
 def_of (F := F_times) gm Fn sc_times (fun _ _ _ _ _ _ us hl => match us, hl with | [_, _], _ => rfl) (fun ds M Q h => by obtain ⟨_, _, _, _, rfl, _⟩ := h; rfl) (fun cdv A outer s H E hr => ⟨_, (pss_one (ps_ret (pe_cD c_reduced hr (by decide) rfl (pa_cons (pe_op op_mulW (pe_ix (zix_tup K) (pv 0) pe_int (fun _ _ => rfl)) (pe_ix (zix_tup K) (pv 1) pe_int (fun _ _ => rfl))) (pa_cons (pe_op op_mulW (pe_ix (zix_tup K) (pv 0) pe_int (fun _ _ => rfl)) (pe_ix (zix_tup K) (pv 1) pe_int (fun _ _ => rfl))) pa_nil))))), fun B ds M Q0 hF => by

  obtain ⟨p, q, m, n, rfl, hp, hq, hmn, qq⟩ := hF
  have c1 : ∀ {a b : Nat}, a < 2 ^ m → b < 2 ^ n → a.log2 + b.log2 < 1000000 := fun {a b} h1 h2 => by
    have l1 : a.log2 < m + 1 := log2_lt (Nat.lt_of_lt_of_le h1 (Nat.pow_le_pow_right (by decide) (by omega))) (by omega)
    have l2 : b.log2 < n + 1 := log2_lt (Nat.lt_of_lt_of_le h2 (Nat.pow_le_pow_right (by decide) (by omega))) (by omega)
    omega
  have c2 : p.den * q.den < 2 ^ 8990 := Nat.lt_of_lt_of_le (pow_mul_lt hp.2 hq.2) (Nat.pow_le_pow_right (by decide) hmn)
  have pd := p.den_pos
  have qd := q.den_pos
  walk_at "zz"

  refine o_I (C := CMulW) (by exact c1 hp.1 hq.1) ?_
  walk_at "zz"
  refine o_I (C := CMulW) (by exact c1 hp.2 hq.2) ?_
  walk_at "zz"
  refine ⟨Nat.mul_pos pd qd, c2, WkM.of ?_⟩
  show Q0 (eF (mkRat (p.num * q.num) (p.den * q.den))) M
  rw [← Rat.mul_def']
  exact qq
⟩)
abbrev F_over : Spec := fun ds M Q => ∃ (p q : Rat) (m n : Nat), ds = [eF p, eF q] ∧ Sz m p ∧ Sz n q ∧ m + n ≤ 8990 ∧ 0 < q ∧ Q (eF (p / q)) M
theorem sc_over : FnScope ["one", "other"] ["one", "other"] (fnScope (stT 24)) := fnScope_by (by decide +kernel)
theorem d_over {P : Program} {w : World} {K : PySem.W.Frag} {mg : Str → Option Value} {base : Heap} {f CO CP CR dQ : Addr} {tk : Tok} {es : Array DictEntry} {nn : Nat} (bi : Bi mg) (gMC : mg "MOST_CASES" = some (.int 12 tk)) (gCO : mg "Observer" = some (.ref CO)) (gQ : mg "QUESTIONS" = some (.ref dQ)) (kq : KDict K w dQ es nn)  (c_reduced : DefR P w K mg base 2 "reduced" (Pm K F_reduced)) (gm : mg "over" = some (.ref f)) (Fn : FnP K "over" "over" (stT 24) f) : DefR P w K mg base 3 "over" (Pm K F_over) :=
 def_of (F := F_over) gm Fn sc_over (fun _ _ _ _ _ _ us hl => match us, hl with | [_, _], _ => rfl) (fun ds M Q h => by obtain ⟨_, _, _, _, rfl, _⟩ := h; rfl) (fun cdv A outer s H E hr => ⟨_, (pss_one (ps_ret (pe_cD c_reduced hr (by decide) rfl (pa_cons (pe_op op_mulW (pe_ix (zix_tup K) (pv 0) pe_int (fun _ _ => rfl)) (pe_ix (zix_tup K) (pv 1) pe_int (fun _ _ => rfl))) (pa_cons (pe_op op_mulW (pe_ix (zix_tup K) (pv 0) pe_int (fun _ _ => rfl)) (pe_ix (zix_tup K) (pv 1) pe_int (fun _ _ => rfl))) pa_nil))))), fun B ds M Q0 hF => by

  obtain ⟨p, q, m, n, rfl, hp, hq, hmn, h0, qq⟩ := hF
  have c1 : ∀ {a b : Nat}, a < 2 ^ m → b < 2 ^ n → a.log2 + b.log2 < 1000000 := fun {a b} h1 h2 => by
    have l1 : a.log2 < m + 1 := log2_lt (Nat.lt_of_lt_of_le h1 (Nat.pow_le_pow_right (by decide) (by omega))) (by omega)
    have l2 : b.log2 < n + 1 := log2_lt (Nat.lt_of_lt_of_le h2 (Nat.pow_le_pow_right (by decide) (by omega))) (by omega)
    omega
  have c2 : p.den * q.den < 2 ^ 8990 := Nat.lt_of_lt_of_le (pow_mul_lt hp.2 hq.2) (Nat.pow_le_pow_right (by decide) hmn)
  have pd := p.den_pos
  have qd := q.den_pos
  walk_at "zz"

  have h0n : 0 < q.num := num_pos.mpr h0
  refine o_I (C := CMulW) (by exact c1 hp.1 hq.2) ?_
  walk_at "zz"
  refine o_I (C := CMulW) (by exact c1 hp.2 hq.1) ?_
  walk_at "zz"
  refine ⟨p.num * q.den, p.den * q.num.natAbs, by rw [Int.natCast_mul, Int.natAbs_of_nonneg (by omega)], Nat.mul_pos pd (by omega), Nat.lt_of_lt_of_le (pow_mul_lt hp.2 hq.1) (Nat.pow_le_pow_right (by decide) hmn), WkM.of ?_⟩
  have e : mkRat (p.num * q.den) (p.den * q.num.natAbs) = p / q := by
    have hi : q⁻¹ = mkRat q.den q.num.natAbs := by
      refine Rat.ext ?_ ?_
      · rw [Rat.num_inv, Int.sign_eq_one_of_pos h0n, Rat.num_mkRat, if_neg (by omega), Int.one_mul]
        rw [Nat.gcd_comm]
        have := q.reduced
        have e1 : Nat.gcd (q.den : Int).natAbs q.num.natAbs = 1 := by
          rw [Nat.gcd_comm]; exact q.reduced
        rw [Nat.gcd_comm] at e1 ⊢
        first | rw [e1] | (rw [Nat.gcd_comm, e1])
        simp
      · rw [Rat.den_inv, if_neg (by omega), Rat.den_mkRat, if_neg (by omega)]
        have e1 : Nat.gcd q.num.natAbs (q.den : Int).natAbs = 1 := q.reduced
        rw [e1]
        simp
    rw [← Rat.mkRat_mul_mkRat, Rat.mkRat_self, ← hi, Rat.div_def]
  rw [e]
  exact qq
⟩)
end Zy
set_option Elab.async false
set_option linter.all false
set_option maxRecDepth 100000
set_option maxHeartbeats 4000000
namespace Zy
open PySem PySem.Spec PyProof.Rows L2
open C8 (fnBody fnArgs fnScope clsBody scC fnScope_by)

local macro_rules | `(tactic| walk_at "zmem") => `(tactic| repeat (first | exact List.mem_cons_self | assumption | refine List.mem_cons_of_mem _ ?_))
local macro_rules | `(tactic| walk_at "z1") => `(tactic| first
  | (with_reducible refine ss_seq ?_) | (with_reducible refine ss_next ?_) | (with_reducible refine ss_ret ?_) | (with_reducible refine ss_set ?_) | (with_reducible refine ss_if ?_)
  | (with_reducible refine ss_drop ?_) | (with_reducible refine ss_par ?_) | (with_reducible refine ss_par3 ?_)
  | (with_reducible refine et_test ?_) | (with_reducible refine et_B ?_) | (with_reducible refine et_and ?_) | (with_reducible refine et_or ?_) | (with_reducible refine et_not2 ?_) | (with_reducible refine et_yes ?_)
  | (with_reducible refine ev_op ?_) | (with_reducible refine ev_un ?_) | (with_reducible refine isi_ii ?_) | (with_reducible refine isi_ib ?_) | (with_reducible refine isi_tt ?_) | (with_reducible refine isi_ss ?_)
  | (with_reducible refine ev_cb ?_) | (with_reducible refine ev_call ?_) | (with_reducible refine ev_chain ?_)
  | (with_reducible refine ev_and ?_) | (with_reducible refine ev_or ?_) | (with_reducible refine ev_not2 ?_) | (with_reducible refine ev_if ?_) | (with_reducible refine ev_int ?_) | (with_reducible refine ev_bl ?_) | (with_reducible refine ev_non ?_) | (with_reducible refine ev_str ?_)
  | (with_reducible refine ea_nil ?_) | (with_reducible refine ea_cons ?_)
  | ((with_reducible refine' ev_var ?_ ?_); rotate_left; exact rfl) | ((with_reducible refine' o_ixT ?_ ?_); rotate_left; exact rfl) | (with_reducible refine zo_lenT ?_) | (with_reducible refine zo_lenS ?_) | ((with_reducible refine' zo_lenL ?_ ?_); rotate_left 2; (walk_at "zmem")) | (with_reducible refine ev_tup ?_) | (with_reducible refine ev_lst ?_)
  | (with_reducible refine o_I0 ?_) | (with_reducible refine o_B0 ?_) | (with_reducible refine o_neg ?_) | (with_reducible refine o_eqI ?_) | (with_reducible refine o_neI ?_)
  | (with_reducible refine fun (hq : true = false) => Bool.noConfusion hq) | (with_reducible refine fun (hq : false = true) => Bool.noConfusion hq) | (with_reducible refine fun (_ : true = true) => ?_) | (with_reducible refine fun (_ : false = false) => ?_)
  | (with_reducible refine ⟨_, rfl, ?_⟩) | (with_reducible refine ⟨_, _, rfl, ?_⟩) | (with_reducible refine ⟨_, _, _, rfl, ?_⟩) | (with_reducible refine ⟨fun (_ : true = true) => ?_, fun (hq : true = false) => Bool.noConfusion hq⟩) | (with_reducible refine ⟨fun (hq : false = true) => Bool.noConfusion hq, fun (_ : false = false) => ?_⟩) | (with_reducible refine ⟨Nat.le_of_ble_eq_true rfl, ?_⟩) | ((with_reducible refine ⟨fun hq => absurd hq ?_, fun _ => ?_⟩); (simp <;> omega)) | ((with_reducible refine ⟨fun _ => ?_, fun hq => absurd hq ?_⟩); rotate_left; (simp <;> omega)) | (with_reducible refine And.intro (?_ : _ = true → _) (?_ : _ = false → _)) | (with_reducible refine ev_bm ?_) | ((with_reducible refine' And.intro (tyD_of ?_) ?_); rotate_left 2; (walk_at "zmem")))
local macro_rules | `(tactic| walk_at "zz") => `(tactic| repeat (walk_at "z1"))
local macro_rules | `(tactic| walk_at "zle") => `(tactic| repeat (first | exact trivial | refine And.intro rfl ?_ | exact LeD.refl _))
abbrev F_added : Spec := fun ds M Q => ∃ (a : Addr) (w : Bool) (qs : List Rat) (n : Nat), ds = [.adr a] ∧ (⟨a, w, .lst (qs.map eF)⟩ : Cell) ∈ M ∧ (∀ q ∈ qs, Sz n q) ∧ (qs.length + 1) * (n + 1) ≤ 8000 ∧ Q (eF (rsum qs)) M
theorem sc_added : FnScope ["values", "result", "value"] ["values"] (fnScope (stT 25)) := fnScope_by (by decide +kernel)
theorem d_added {P : Program} {w : World} {K : PySem.W.Frag} {mg : Str → Option Value} {base : Heap} {f CO CP CR dQ : Addr} {tk : Tok} {es : Array DictEntry} {nn : Nat} (bi : Bi mg) (gMC : mg "MOST_CASES" = some (.int 12 tk)) (gCO : mg "Observer" = some (.ref CO)) (gQ : mg "QUESTIONS" = some (.ref dQ)) (kq : KDict K w dQ es nn)  (c_plus : DefR P w K mg base 3 "plus" (Pm K F_plus)) (gm : mg "added" = some (.ref f)) (Fn : FnP K "added" "added" (stT 25) f) : DefR P w K mg base 4 "added" (Pm K F_added) :=
 def_of (F := F_added) gm Fn sc_added (fun _ _ _ _ _ _ us hl => match us, hl with | [_], _ => rfl) (fun ds M Q h => by obtain ⟨_, _, _, _, rfl, _⟩ := h; rfl) (fun cdv A outer s H E hr => ⟨_, (pss_cons (ps_set (i := 1) sc_added.nd rfl (by first | exact Or.inl rfl | exact Or.inr rfl) (pe_tupF (pa_cons pe_int (pa_cons pe_int pa_nil))))
 (pss_cons (ps_for PassesOwn.never rfl (zpi_list K (pv 0)) (pg_name (i := 2) sc_added.nd rfl (by first | exact Or.inl rfl | exact Or.inr rfl))
 (pss_one (ps_set (i := 1) sc_added.nd rfl (by first | exact Or.inl rfl | exact Or.inr rfl) (pe_cD c_plus hr (by decide) rfl (pa_cons (pv 1) (pa_cons (pv 2) pa_nil))))))
 (pss_one (ps_ret (pv 1))))), fun B ds M Q0 hF => by

  obtain ⟨a, w, qs, n, rfl, hc, hs, hn, q⟩ := hF
  walk_at "zz"
  refine ss_for (own := [2]) (ei_list (ev_var rfl ⟨a, w, _, rfl, hc, ?_⟩))
  refine ⟨fun i δ' M' => M' = M ∧ δ' = [some (.adr a), some (eF (rsum (qs.take i))), none] ∧ Sz (i * (n + 1) + 1) (rsum (qs.take i)), ?_, ⟨rfl, rfl, sz0⟩, ?_, ?_⟩
  · rintro i δ' M' _ ⟨rfl, _, _⟩; exact ⟨w, hc⟩
  · rintro i d δ' M' hi hf ⟨rfl, rfl, hz⟩
    obtain ⟨x, hx, rfl⟩ := get_map hf
    have hxs := hs x (List.mem_of_getElem? hx)
    have hil : i + 1 ≤ qs.length := by rw [List.length_map] at hi; omega
    have hmul : (i + 1) * (n + 1) ≤ (qs.length + 1) * (n + 1) := Nat.mul_le_mul_right _ (by omega)
    have hsp : (i + 1) * (n + 1) = i * (n + 1) + (n + 1) := Nat.succ_mul _ _
    refine eg_name ?_
    walk_at "zz"
    refine ⟨_, _, i * (n + 1) + 1, n, rfl, hz, hxs, by omega, ?_⟩
    have e := rsum_take hx
    rw [← e]
    refine ⟨_, _, ?_, List.Sublist.refl _, rfl, rfl, ?_⟩
    · walk_at "zle"
    · rw [e]
      exact (hz.add hxs).mono (by omega)
  · rintro δ' M' ⟨rfl, rfl, _⟩
    walk_at "zz"
    rw [List.length_map, List.take_length]
    exact WkM.of q
⟩)
abbrev F_shares : Spec := fun ds M Q => ∃ (a : Addr) (w : Bool) (qs : List Rat) (n : Nat), ds = [.adr a] ∧ (⟨a, w, .lst (qs.map eF)⟩ : Cell) ∈ M ∧ (∀ q ∈ qs, Sz n q) ∧ (∀ q ∈ qs, 0 < q) ∧ (qs.length + 1) * (n + 1) ≤ 8000 ∧ Q (.tup true (qs.map fun q => eF (q / rsum qs))) M
theorem sc_shares : FnScope ["weights", "whole", "weight"] ["weights"] (fnScope (stT 26)) := fnScope_by (by decide +kernel)
theorem d_shares {P : Program} {w : World} {K : PySem.W.Frag} {mg : Str → Option Value} {base : Heap} {f CO CP CR dQ : Addr} {tk : Tok} {es : Array DictEntry} {nn : Nat} (bi : Bi mg) (gMC : mg "MOST_CASES" = some (.int 12 tk)) (gCO : mg "Observer" = some (.ref CO)) (gQ : mg "QUESTIONS" = some (.ref dQ)) (kq : KDict K w dQ es nn)  (c_added : DefR P w K mg base 4 "added" (Pm K F_added)) (c_over : DefR P w K mg base 3 "over" (Pm K F_over)) (gm : mg "shares" = some (.ref f)) (Fn : FnP K "shares" "shares" (stT 26) f) : DefR P w K mg base 5 "shares" (Pm K F_shares) :=
 def_of (F := F_shares) gm Fn sc_shares (fun _ _ _ _ _ _ us hl => match us, hl with | [_], _ => rfl) (fun ds M Q h => by obtain ⟨_, _, _, _, rfl, _⟩ := h; rfl) (fun cdv A outer s H E hr => ⟨_, (pss_cons (ps_set (i := 1) sc_shares.nd rfl (by first | exact Or.inl rfl | exact Or.inr rfl) (pe_cD c_added hr (by decide) rfl (pa_cons (pv 0) pa_nil)))
 (pss_one (ps_ret (pe_callTy (zcall_tupF K) rfl bi.tuple zb_tuple (pa_cons (pe_lc rfl sc_shares.nd (zpi_list K (pv 0)) (blkOk_by (own := [("weight", 2)]) (by kernel_rfl)) (fun _ _ _ _ _ => (pg_name (i := 2) sc_shares.nd rfl (by first | exact Or.inl rfl | exact Or.inr rfl))) (fun _ _ _ _ _ => pts_nil) (fun _ _ _ _ _ => (pe_cD c_over hr (by decide) rfl (pa_cons (pv 2) (pa_cons (pv 1) pa_nil))))) pa_nil))))), fun B ds M Q0 hF => by

  obtain ⟨a, w, qs, n, rfl, hc, hs, hp, hn, q⟩ := hF
  have hsum : Sz (qs.length * (n + 1) + 1) (rsum qs) := rsum_sz hs
  have hsp : (qs.length + 1) * (n + 1) = qs.length * (n + 1) + (n + 1) := Nat.succ_mul _ _
  have hlen : qs.length ≤ 8000 := by
    have : qs.length * 1 ≤ qs.length * (n + 1) := Nat.mul_le_mul_left _ (by omega)
    omega
  walk_at "zz"
  refine ⟨a, w, qs, n, rfl, hc, hs, hn, ?_⟩
  walk_at "zz"
  refine ev_lcP (own := [2]) (by simp) (ei_list (ev_var rfl ⟨a, w, _, rfl, hc, ?_⟩))
  refine ⟨fun i => qs[i]?.map fun q => eF (q / rsum qs), by simp; omega, ?_, ?_⟩
  · intro B' i d hi hf
    obtain ⟨x, hx, rfl⟩ := get_map hf
    have hm := List.mem_of_getElem? hx
    refine eg_name ?_
    walk_at "zz"
    refine ⟨_, _, n, _, rfl, hs x hm, hsum, by omega, rsum_pos hp (List.ne_nil_of_mem hm), ?_⟩
    exact ⟨List.Sublist.refl _, by simp [hx]⟩
  · intro p
    walk_at "zz"
    refine o_tupL List.mem_cons_self ?_
    rw [List.length_map, fm_map]
    exact ⟨M, List.sublist_cons_self _ _, q⟩
⟩)
abbrev F_is_valid_labels : Spec := fun ds M Q => ∃ (b : Bool) (ls : List Nat), ds = [.tup b (eN ls)] ∧ rgs 0 ls ∧ 1 ≤ ls.length ∧ ls.length ≤ 12 ∧ Q (.bl true) M
theorem sc_is_valid_labels : FnScope ["value", "unused", "label"] ["value"] (fnScope (stT 29)) := fnScope_by (by decide +kernel)
theorem d_is_valid_labels {P : Program} {w : World} {K : PySem.W.Frag} {mg : Str → Option Value} {base : Heap} {f CO CP CR dQ : Addr} {tk : Tok} {es : Array DictEntry} {nn : Nat} (bi : Bi mg) (gMC : mg "MOST_CASES" = some (.int 12 tk)) (gCO : mg "Observer" = some (.ref CO)) (gQ : mg "QUESTIONS" = some (.ref dQ)) (kq : KDict K w dQ es nn)  (c_is_integer : DefR P w K mg base 1 "is_integer" (Pm K F_is_integer)) (gm : mg "is_valid_labels" = some (.ref f)) (Fn : FnP K "is_valid_labels" "is_valid_labels" (stT 29) f) : DefR P w K mg base 2 "is_valid_labels" (Pm K F_is_valid_labels) :=
 def_of (F := F_is_valid_labels) gm Fn sc_is_valid_labels (fun _ _ _ _ _ _ us hl => match us, hl with | [_], _ => rfl) (fun ds M Q h => by obtain ⟨_, _, rfl, _⟩ := h; rfl) (fun cdv A outer s H E hr => ⟨_, (pss_cons (ps_if (PW.pt (pw_or (pt_not (pt_val (pe_callB (zcall_isi K) rfl bi.isinstance zb_isinstance (pa_cons (pv 0) (pa_cons (pe_bltn (v := .ty "tuple") rfl bi.tuple zb_tuple rfl) pa_nil))))) (pw_or1 (pt_not (pt_chain op_le op_le pe_int (pe_callB (zcall_len_seq K) rfl bi.len zb_len (pa_cons (pv 0) pa_nil)) (pe_glob (v := .int 12) rfl gMC ⟨_, rfl⟩))))))
 (pss_one (ps_ret pe_bl))
 pss_nil)
 (pss_cons (ps_set (i := 1) sc_is_valid_labels.nd rfl (by first | exact Or.inl rfl | exact Or.inr rfl) pe_int)
 (pss_cons (ps_for PassesOwn.never rfl (zpi_tup K (pv 0)) (pg_name (i := 2) sc_is_valid_labels.nd rfl (by first | exact Or.inl rfl | exact Or.inr rfl))
 (pss_cons (ps_if (PW.pt (pw_or (pt_not (pt_val (pe_cD c_is_integer hr (by decide) rfl (pa_cons (pv 2) pa_nil)))) (pw_or1 (pt_not (pt_chain op_le op_le pe_int (pv 2) (pv 1))))))
 (pss_one (ps_ret pe_bl))
 pss_nil)
 (pss_one (ps_if (pt_cmpR op_eq (pv 2) (pv 1) (nomark _))
 (pss_one (ps_aug (i := 1) sc_is_valid_labels.nd rfl (by first | exact Or.inl rfl | exact Or.inr rfl) pe_int ip_add))
 pss_nil))))
 (pss_one (ps_ret pe_bl))))), fun B ds M Q0 hF => by

  obtain ⟨b, ls, rfl, hr, h1, h2, q⟩ := hF
  walk_at "zz"
  refine ss_for (own := [2]) (ei_tup (ev_var rfl ⟨b, _, rfl, ?_⟩))
  refine ⟨fun i δ' M' => M' = M ∧ ∃ u : Nat, δ' = [some (.tup b (eN ls)), some (.int (u : Int)), none] ∧ rgs u (ls.drop i), fun _ _ _ _ _ => trivial, ⟨rfl, 0, rfl, hr⟩, ?_, ?_⟩
  · rintro i d δ' M' hi hf ⟨rfl, u, rfl, hu⟩
    obtain ⟨x, hx, rfl⟩ := eN_at hf
    rw [drop_head hx] at hu
    obtain ⟨hxu, hu⟩ := hu
    refine eg_name ?_
    walk_at "zz"
    · intro hz
      have e : x = u := by have := of_decide_eq_true hz; omega
      refine ss_aug rfl (ev_int ⟨1, rfl, ?_⟩)
      refine ⟨_, _, ?_, List.Sublist.refl _, rfl, u + 1, rfl, by rw [if_pos e] at hu; exact hu⟩
      walk_at "zle"
    · intro hz
      have e : ¬ x = u := by have := of_decide_eq_false hz; omega
      walk_at "zz"
      refine ⟨_, _, ?_, List.Sublist.refl _, rfl, u, rfl, by rw [if_neg e] at hu; exact hu⟩
      walk_at "zle"
  · rintro δ' M' ⟨rfl, u, rfl, _⟩
    walk_at "zz"
    exact WkM.of q
⟩)
def ascE (n : Nat) : Nat → List Nat → Prop
  | _, [] => True
  | l, x :: r => l ≤ x ∧ x < n ∧ ascE n (x + 1) r
abbrev F_is_valid_event : Spec := fun ds M Q => ∃ (b : Bool) (ks : List Nat) (n : Nat), ds = [.tup b (eN ks), .int (n : Int)] ∧ ascE n 0 ks ∧ Q (.bl true) M
theorem sc_is_valid_event : FnScope ["value", "size", "least", "case"] ["value", "size"] (fnScope (stT 30)) := fnScope_by (by decide +kernel)
theorem d_is_valid_event {P : Program} {w : World} {K : PySem.W.Frag} {mg : Str → Option Value} {base : Heap} {f CO CP CR dQ : Addr} {tk : Tok} {es : Array DictEntry} {nn : Nat} (bi : Bi mg) (gMC : mg "MOST_CASES" = some (.int 12 tk)) (gCO : mg "Observer" = some (.ref CO)) (gQ : mg "QUESTIONS" = some (.ref dQ)) (kq : KDict K w dQ es nn)  (c_is_integer : DefR P w K mg base 1 "is_integer" (Pm K F_is_integer)) (gm : mg "is_valid_event" = some (.ref f)) (Fn : FnP K "is_valid_event" "is_valid_event" (stT 30) f) : DefR P w K mg base 2 "is_valid_event" (Pm K F_is_valid_event) :=
 def_of (F := F_is_valid_event) gm Fn sc_is_valid_event (fun _ _ _ _ _ _ us hl => match us, hl with | [_, _], _ => rfl) (fun ds M Q h => by obtain ⟨_, _, _, rfl, _⟩ := h; rfl) (fun cdv A outer s H E hr => ⟨_, (pss_cons (ps_if (pt_not (pt_val (pe_callB (zcall_isi K) rfl bi.isinstance zb_isinstance (pa_cons (pv 0) (pa_cons (pe_bltn (v := .ty "tuple") rfl bi.tuple zb_tuple rfl) pa_nil)))))
 (pss_one (ps_ret pe_bl))
 pss_nil)
 (pss_cons (ps_set (i := 2) sc_is_valid_event.nd rfl (by first | exact Or.inl rfl | exact Or.inr rfl) pe_int)
 (pss_cons (ps_for PassesOwn.never rfl (zpi_tup K (pv 0)) (pg_name (i := 3) sc_is_valid_event.nd rfl (by first | exact Or.inl rfl | exact Or.inr rfl))
 (pss_cons (ps_if (PW.pt (pw_or (pt_not (pt_val (pe_cD c_is_integer hr (by decide) rfl (pa_cons (pv 3) pa_nil)))) (pw_or1 (pt_not (pt_chain op_le op_lt (pv 2) (pv 3) (pv 1))))))
 (pss_one (ps_ret pe_bl))
 pss_nil)
 (pss_one (ps_set (i := 2) sc_is_valid_event.nd rfl (by first | exact Or.inl rfl | exact Or.inr rfl) (pe_op op_add (pv 3) pe_int)))))
 (pss_one (ps_ret pe_bl))))), fun B ds M Q0 hF => by

  obtain ⟨b, ks, n, rfl, hr, q⟩ := hF
  walk_at "zz"
  refine ss_for (own := [3]) (ei_tup (ev_var rfl ⟨b, _, rfl, ?_⟩))
  refine ⟨fun i δ' M' => M' = M ∧ ∃ u : Nat, δ' = [some (.tup b (eN ks)), some (.int (n : Int)), some (.int (u : Int)), none] ∧ ascE n u (ks.drop i), fun _ _ _ _ _ => trivial, ⟨rfl, 0, rfl, hr⟩, ?_, ?_⟩
  · rintro i d δ' M' hi hf ⟨rfl, u, rfl, hu⟩
    obtain ⟨x, hx, rfl⟩ := eN_at hf
    rw [drop_head hx] at hu
    obtain ⟨hxu, hxn, hu⟩ := hu
    refine eg_name ?_
    walk_at "zz"
    refine ⟨_, _, ?_, List.Sublist.refl _, rfl, x + 1, rfl, hu⟩
    walk_at "zle"
  · rintro δ' M' ⟨rfl, u, rfl, _⟩
    walk_at "zz"
    exact WkM.of q
⟩)
abbrev F_check_labels : Spec := fun ds M Q => ∃ (b : Bool) (ls : List Nat), ds = [.tup b (eN ls)] ∧ rgs 0 ls ∧ 1 ≤ ls.length ∧ ls.length ≤ 12 ∧ Q .non M
theorem sc_check_labels : FnScope ["labels"] ["labels"] (fnScope (stT 31)) := fnScope_by (by decide +kernel)
theorem d_check_labels {P : Program} {w : World} {K : PySem.W.Frag} {mg : Str → Option Value} {base : Heap} {f CO CP CR dQ : Addr} {tk : Tok} {es : Array DictEntry} {nn : Nat} (bi : Bi mg) (gMC : mg "MOST_CASES" = some (.int 12 tk)) (gCO : mg "Observer" = some (.ref CO)) (gQ : mg "QUESTIONS" = some (.ref dQ)) (kq : KDict K w dQ es nn)  (c_is_valid_labels : DefR P w K mg base 2 "is_valid_labels" (Pm K F_is_valid_labels)) (gm : mg "check_labels" = some (.ref f)) (Fn : FnP K "check_labels" "check_labels" (stT 31) f) : DefR P w K mg base 3 "check_labels" (Pm K F_check_labels) :=
 def_of (F := F_check_labels) gm Fn sc_check_labels (fun _ _ _ _ _ _ us hl => match us, hl with | [_], _ => rfl) (fun ds M Q h => by obtain ⟨_, _, rfl, _⟩ := h; rfl) (fun cdv A outer s H E hr => ⟨_, (pss_one (ps_if (pt_not (pt_val (pe_cD c_is_valid_labels hr (by decide) rfl (pa_cons (pv 0) pa_nil))))
 pss_never
 pss_nil)), fun B ds M Q0 hF => by

  obtain ⟨b, ls, rfl, hr, h1, h2, q⟩ := hF
  walk_at "zz"
  refine ⟨hr, h1, h2, ?_⟩
  walk_at "zz"
  exact WkM.of q
⟩)
abbrev F_grouped : Spec := fun ds M Q => ∃ (b : Bool) (ls : List Nat), ds = [.tup b (eN ls)] ∧ ls ≠ [] ∧ ls.length ≤ 100 ∧ (∀ x ∈ ls, x < 100) ∧ Q (.tup true ((groups ls).map eT)) M
theorem sc_grouped : FnScope ["labels", "parts", "label", "case", "other"] ["labels"] (fnScope (stT 32)) := fnScope_by (by decide +kernel)
theorem d_grouped {P : Program} {w : World} {K : PySem.W.Frag} {mg : Str → Option Value} {base : Heap} {f CO CP CR dQ : Addr} {tk : Tok} {es : Array DictEntry} {nn : Nat} (bi : Bi mg) (gMC : mg "MOST_CASES" = some (.int 12 tk)) (gCO : mg "Observer" = some (.ref CO)) (gQ : mg "QUESTIONS" = some (.ref dQ)) (kq : KDict K w dQ es nn)   (gm : mg "grouped" = some (.ref f)) (Fn : FnP K "grouped" "grouped" (stT 32) f) : DefR P w K mg base 1 "grouped" (Pm K F_grouped) :=
 def_of (F := F_grouped) gm Fn sc_grouped (fun _ _ _ _ _ _ us hl => match us, hl with | [_], _ => rfl) (fun ds M Q h => by obtain ⟨_, _, rfl, _⟩ := h; rfl) (fun cdv A outer s H E hr => ⟨_, (pss_cons (ps_set (i := 1) sc_grouped.nd rfl (by first | exact Or.inl rfl | exact Or.inr rfl) (pe_lst pa_nil))
 (pss_cons (ps_for PassesOwn.never rfl (pi_range1 rfl bi.range (pa_cons (pe_op op_add (pe_callB (zcall_maxT K rfl hr.units) rfl bi.max zb_max (pa_cons (pv 0) pa_nil)) pe_int) pa_nil)) (pg_name (i := 2) sc_grouped.nd rfl (by first | exact Or.inl rfl | exact Or.inr rfl))
 (pss_one (ps_expr (zpe_bm K F.plainAttrs_list F.slot_list_append F.type_list_append mt_append (pv 1) (pa_cons (pe_callTy (zcall_tupF K) rfl bi.tuple zb_tuple (pa_cons (pe_lc rfl sc_grouped.nd (zpi_enumT K rfl bi.enumerate (pa_cons (pv 0) pa_nil)) (blkOk_by (own := [("case", 3), ("other", 4)]) (by kernel_rfl)) (fun _ _ _ _ _ => (zpg_tup K (n := 2) rfl (pgs_cons (pg_name (i := 3) sc_grouped.nd rfl (by first | exact Or.inl rfl | exact Or.inr rfl)) (pgs_cons (pg_name (i := 4) sc_grouped.nd rfl (by first | exact Or.inl rfl | exact Or.inr rfl)) pgs_nil)))) (fun _ _ _ _ _ => (pts_one (pt_cmpR op_eq (pv 4) (pv 2) (nomark _)))) (fun _ _ _ _ _ => (pv 3))) pa_nil)) pa_nil)))))
 (pss_one (ps_ret (pe_callTy (zcall_tupF K) rfl bi.tuple zb_tuple (pa_cons (pv 1) pa_nil)))))), fun B ds M Q0 hF => by

  obtain ⟨b, ls, rfl, hne, hl, hx, q⟩ := hF
  have hmx : maxN ls ≤ 100 := maxN_le fun x h => Nat.le_of_lt (hx x h)
  obtain ⟨n0, r0, hnr⟩ : ∃ n0 r0, ls = n0 :: r0 := by
    cases ls with
    | nil => exact absurd rfl hne
    | cons a r => exact ⟨a, r, rfl⟩
  have emax : (nI r0).foldl max (n0 : Int) = (maxN ls : Nat) := by
    rw [hnr]
    have g : ∀ (r : List Nat) (a : Nat), (nI r).foldl max (a : Int) = (r.foldl max a : Nat) := by
      intro r
      induction r with
      | nil => intro a; rfl
      | cons y r ih =>
        intro a
        show (nI r).foldl max (max (a : Int) (y : Int)) = _
        rw [show max (a : Int) (y : Int) = ((max a y : Nat) : Int) by omega, ih]
        rfl
    rw [g]
    show _ = (((n0 :: r0).foldl max 0 : Nat) : Int)
    rw [List.foldl_cons, Nat.zero_max]
  walk_at "zz"
  intro p
  walk_at "zz"
  refine ss_for (own := [2]) (ei_rng ?_)
  walk_at "zz"
  have ho : (⟨p, true, .lst []⟩ : Cell) ∈ (⟨p, true, .lst []⟩ :: M : Mem) := List.mem_cons_self
  rw [show eN ls = ((n0 : Int) :: nI r0).map Dt.int by rw [hnr]; rfl]
  refine o_maxT ?_
  rw [emax]
  refine ev_int (o_I0 (ea_nil ⟨maxN ls + 1, by simp, by omega, ?_⟩))
  refine ⟨fun i δ' M' => δ' = [some (.tup b (eN ls)), some (.adr p), none, none, none] ∧ M' = ⟨p, true, .lst (((groups ls).take i).map eT)⟩ :: M, fun _ _ _ _ _ => trivial, ⟨by rw [hnr]; rfl, rfl⟩, ?_, ?_⟩
  · rintro i d δ' M' hi hf ⟨rfl, rfl⟩
    have hd := (Option.some.inj hf).symm
    subst hd
    have hg : (groups ls)[i]? = some ((List.range ls.length).filter fun j => ls[j]? == some i) := by
      unfold groups
      rw [List.getElem?_map, List.getElem?_range (by omega)]
      rfl
    refine eg_name ?_
    walk_at "zz"
    refine ev_lcP (own := [3] ++ ([4] ++ [])) (by simp) (ei_enum ?_)
    walk_at "zz"
    refine ⟨fun j => if ls[j]? == some i then some (.int (j : Nat)) else none, by simp; omega, ?_, ?_⟩
    · intro B' j d hj hf2
      obtain ⟨x, hx2, rfl⟩ := enum_at hf2
      refine eg_tup rfl (egs_cons (eg_name (egs_cons (eg_name (egs_nil ?_)))))
      walk_at "zz"
      · intro hz
        have e : x = i := by have := of_decide_eq_true hz; omega
        walk_at "zz"
        exact ⟨List.Sublist.refl _, by simp [hx2, e]⟩
      · intro hz
        have e : ¬ x = i := by have := of_decide_eq_false hz; omega
        exact ⟨List.Sublist.refl _, by simp [hx2, e]⟩
    · intro p2
      walk_at "zz"
      refine o_tupL List.mem_cons_self ?_
      rw [fm_if, ← eN_map (f := fun x => x), List.map_id', eN_len]
      walk_at "zz"
      refine o_append (p := 1) rfl (by simp [groups_len]; omega) ?_
      refine ⟨_, _, ?_, ?_, rfl, rfl⟩
      · walk_at "zle"
      · rw [take_snoc hg, List.map_append]
        exact List.sublist_cons_self _ _
  · rintro δ' M' ⟨rfl, rfl⟩
    walk_at "zz"
    refine o_tupL List.mem_cons_self ?_
    rw [← groups_len, List.take_length]
    exact ⟨M, List.sublist_cons_self _ _, q⟩
⟩)
end Zy
set_option Elab.async false
set_option linter.all false
set_option maxRecDepth 100000
set_option maxHeartbeats 4000000
namespace Zy
open PySem PySem.Spec PyProof.Rows L2
open C8 (fnBody fnArgs fnScope clsBody scC fnScope_by)

local macro_rules | `(tactic| walk_at "zmem") => `(tactic| repeat (first | exact List.mem_cons_self | assumption | refine List.mem_cons_of_mem _ ?_))
local macro_rules | `(tactic| walk_at "z1") => `(tactic| first
  | (with_reducible refine ss_seq ?_) | (with_reducible refine ss_next ?_) | (with_reducible refine ss_ret ?_) | (with_reducible refine ss_set ?_) | (with_reducible refine ss_if ?_)
  | (with_reducible refine ss_drop ?_) | (with_reducible refine ss_par ?_) | (with_reducible refine ss_par3 ?_)
  | (with_reducible refine et_test ?_) | (with_reducible refine et_B ?_) | (with_reducible refine et_and ?_) | (with_reducible refine et_or ?_) | (with_reducible refine et_not2 ?_) | (with_reducible refine et_yes ?_)
  | (with_reducible refine ev_op ?_) | (with_reducible refine ev_un ?_) | (with_reducible refine isi_ii ?_) | (with_reducible refine isi_ib ?_) | (with_reducible refine isi_tt ?_) | (with_reducible refine isi_ss ?_)
  | (with_reducible refine ev_cb ?_) | (with_reducible refine ev_call ?_) | (with_reducible refine ev_chain ?_)
  | (with_reducible refine ev_and ?_) | (with_reducible refine ev_or ?_) | (with_reducible refine ev_not2 ?_) | (with_reducible refine ev_if ?_) | (with_reducible refine ev_int ?_) | (with_reducible refine ev_bl ?_) | (with_reducible refine ev_non ?_) | (with_reducible refine ev_str ?_)
  | (with_reducible refine ea_nil ?_) | (with_reducible refine ea_cons ?_)
  | ((with_reducible refine' ev_var ?_ ?_); rotate_left; exact rfl) | ((with_reducible refine' o_ixT ?_ ?_); rotate_left; exact rfl) | (with_reducible refine zo_lenT ?_) | (with_reducible refine zo_lenS ?_) | ((with_reducible refine' zo_lenL ?_ ?_); rotate_left 2; (walk_at "zmem")) | (with_reducible refine ev_tup ?_) | (with_reducible refine ev_lst ?_)
  | (with_reducible refine o_I0 ?_) | (with_reducible refine o_B0 ?_) | (with_reducible refine o_neg ?_) | (with_reducible refine o_eqI ?_) | (with_reducible refine o_neI ?_)
  | (with_reducible refine fun (hq : true = false) => Bool.noConfusion hq) | (with_reducible refine fun (hq : false = true) => Bool.noConfusion hq) | (with_reducible refine fun (_ : true = true) => ?_) | (with_reducible refine fun (_ : false = false) => ?_)
  | (with_reducible refine ⟨_, rfl, ?_⟩) | (with_reducible refine ⟨_, _, rfl, ?_⟩) | (with_reducible refine ⟨_, _, _, rfl, ?_⟩) | (with_reducible refine ⟨fun (_ : true = true) => ?_, fun (hq : true = false) => Bool.noConfusion hq⟩) | (with_reducible refine ⟨fun (hq : false = true) => Bool.noConfusion hq, fun (_ : false = false) => ?_⟩) | (with_reducible refine ⟨Nat.le_of_ble_eq_true rfl, ?_⟩) | ((with_reducible refine ⟨fun hq => absurd hq ?_, fun _ => ?_⟩); (simp <;> omega)) | ((with_reducible refine ⟨fun _ => ?_, fun hq => absurd hq ?_⟩); rotate_left; (simp <;> omega)) | (with_reducible refine And.intro (?_ : _ = true → _) (?_ : _ = false → _)) | (with_reducible refine ev_bm ?_) | ((with_reducible refine' And.intro (tyD_of ?_) ?_); rotate_left 2; (walk_at "zmem")))
local macro_rules | `(tactic| walk_at "zz") => `(tactic| repeat (walk_at "z1"))
local macro_rules | `(tactic| walk_at "zle") => `(tactic| repeat (first | exact trivial | refine And.intro rfl ?_ | exact LeD.refl _))
abbrev F_relabelled : Spec := fun ds M Q => ∃ (a : Addr) (w : Bool) (ks : List Nat), ds = [.adr a] ∧ (⟨a, w, .lst (eN ks)⟩ : Cell) ∈ M ∧ ks.length ≤ 1000 ∧ Q (eT (relab ks)) M
theorem sc_relabelled : FnScope ["keys", "seen", "labels", "key"] ["keys"] (fnScope (stT 33)) := fnScope_by (by decide +kernel)
theorem d_relabelled {P : Program} {w : World} {K : PySem.W.Frag} {mg : Str → Option Value} {base : Heap} {f CO CP CR dQ : Addr} {tk : Tok} {es : Array DictEntry} {nn : Nat} (bi : Bi mg) (gMC : mg "MOST_CASES" = some (.int 12 tk)) (gCO : mg "Observer" = some (.ref CO)) (gQ : mg "QUESTIONS" = some (.ref dQ)) (kq : KDict K w dQ es nn)   (gm : mg "relabelled" = some (.ref f)) (Fn : FnP K "relabelled" "relabelled" (stT 33) f) : DefR P w K mg base 1 "relabelled" (Pm K F_relabelled) :=
 def_of (F := F_relabelled) gm Fn sc_relabelled (fun _ _ _ _ _ _ us hl => match us, hl with | [_], _ => rfl) (fun ds M Q h => by obtain ⟨_, _, _, rfl, _⟩ := h; rfl) (fun cdv A outer s H E hr => ⟨_, (pss_cons (ps_set (i := 1) sc_relabelled.nd rfl (by first | exact Or.inl rfl | exact Or.inr rfl) (pe_lst pa_nil))
 (pss_cons (ps_set (i := 2) sc_relabelled.nd rfl (by first | exact Or.inl rfl | exact Or.inr rfl) (pe_lst pa_nil))
 (pss_cons (ps_for PassesOwn.never rfl (zpi_list K (pv 0)) (pg_name (i := 3) sc_relabelled.nd rfl (by first | exact Or.inl rfl | exact Or.inr rfl))
 (pss_cons (ps_if (pt_cmpR (zop_notIn_seq K) (pv 3) (pv 1) (by rfl))
 (pss_one (ps_expr (zpe_bm K F.plainAttrs_list F.slot_list_append F.type_list_append mt_append (pv 1) (pa_cons (pv 3) pa_nil))))
 pss_nil)
 (pss_one (ps_expr (zpe_bm K F.plainAttrs_list F.slot_list_append F.type_list_append mt_append (pv 2) (pa_cons (zpe_bm K F.plainAttrs_list F.slot_list_index F.type_list_index (zmt_index K) (pv 1) (pa_cons (pv 3) pa_nil)) pa_nil))))))
 (pss_one (ps_ret (pe_callTy (zcall_tupF K) rfl bi.tuple zb_tuple (pa_cons (pv 2) pa_nil))))))), fun B ds M Q0 hF => by

  obtain ⟨a, w, ks, rfl, hc, hl, q⟩ := hF
  walk_at "zz"
  intro p1
  walk_at "zz"
  intro p2
  walk_at "zz"
  have hc2 : ∀ (x y : Cell), (⟨a, w, .lst (eN ks)⟩ : Cell) ∈ (x :: y :: M : Mem) := fun x y => List.mem_cons_of_mem _ (List.mem_cons_of_mem _ hc)
  refine ss_for (own := [3]) (ei_list (ev_var rfl ⟨a, w, _, rfl, hc2 _ _, ?_⟩))
  refine ⟨fun i δ' M' => δ' = [some (.adr a), some (.adr p1), some (.adr p2), none] ∧ M' = ⟨p2, true, .lst (eN (relF (ks.take i)).2)⟩ :: ⟨p1, true, .lst (eN (relF (ks.take i)).1)⟩ :: M, ?_, ⟨rfl, rfl⟩, ?_, ?_⟩
  · rintro i δ' M' _ ⟨rfl, rfl⟩; exact ⟨w, hc2 _ _⟩
  · rintro i d δ' M' hi hf ⟨rfl, rfl⟩
    obtain ⟨x, hx, rfl⟩ := eN_at hf
    have hil : i < ks.length := by rw [eN_len] at hi; exact hi
    have hr : relF (ks.take (i + 1)) = relS (relF (ks.take i)) x := by rw [take_snoc hx, relF_snoc]
    have hlen : (relF (ks.take i)).1.length ≤ i ∧ (relF (ks.take i)).2.length = i := by
      have g := relF_len (ks.take i)
      rw [List.length_take] at g
      omega
    refine eg_name ?_
    walk_at "zz"
    refine o_ninL (List.mem_cons_of_mem _ List.mem_cons_self) ?_
    walk_at "zz"
    · intro hz
      have hn : x ∉ (relF (ks.take i)).1 := by
        have := (Bool.not_eq_true' _).mp hz
        have := of_decide_eq_false this
        rwa [nI_mem] at this
      walk_at "zz"
      refine o_append (p := 1) rfl (by rw [eN_len]; omega) ?_
      have e1 : eN (relF (ks.take i)).1 ++ [Dt.int (x : Int)] = eN (relF (ks.take (i + 1))).1 := by
        rw [hr, ← eN_snoc]; unfold relS; simp [hn]
      have e2 : (relF (ks.take (i + 1))).2 = (relF (ks.take i)).2 ++ [(relF (ks.take (i + 1))).1.idxOf x] := by
        rw [hr]; rfl
      have hin : x ∈ (relF (ks.take (i + 1))).1 := by rw [hr]; unfold relS; simp [hn]
      rw [e1]
      walk_at "zz"
      refine o_indexL (List.mem_cons_of_mem _ List.mem_cons_self) (nI_mem.mpr hin) ?_
      rw [idx_nI]
      walk_at "zz"
      refine o_append (p := 0) rfl (by rw [eN_len]; omega) ?_
      rw [← eN_snoc, ← e2]
      refine ⟨_, _, ?_, List.Sublist.refl _, rfl, rfl⟩
      walk_at "zle"
    · intro hz
      have hn : x ∈ (relF (ks.take i)).1 := by
        have := (Bool.not_eq_false' _).mp hz
        have := of_decide_eq_true this
        rwa [nI_mem] at this
      walk_at "zz"
      have e1 : (relF (ks.take (i + 1))).1 = (relF (ks.take i)).1 := by
        rw [hr]; unfold relS; simp [hn]
      have e2 : (relF (ks.take (i + 1))).2 = (relF (ks.take i)).2 ++ [(relF (ks.take (i + 1))).1.idxOf x] := by
        rw [hr]; rfl
      rw [← e1] at hn ⊢
      refine o_indexL (List.mem_cons_of_mem _ List.mem_cons_self) (nI_mem.mpr hn) ?_
      rw [idx_nI]
      walk_at "zz"
      refine o_append (p := 0) rfl (by rw [eN_len]; omega) ?_
      rw [← eN_snoc, ← e2]
      refine ⟨_, _, ?_, List.Sublist.refl _, rfl, rfl⟩
      walk_at "zle"
  · rintro δ' M' ⟨rfl, rfl⟩
    walk_at "zz"
    refine o_tupL List.mem_cons_self ?_
    rw [eN_len, List.take_length]
    exact ⟨M, (List.sublist_cons_self _ _).trans (List.sublist_cons_self _ _), q⟩
⟩)
abbrev F_check_partitions : Spec := fun ds M Q => ∃ (b : Bool) (rows : List (List Nat)) (m : Nat), ds = [.tup b (rows.map eT)] ∧ rows ≠ [] ∧ rows.length ≤ 10 ∧ 1 ≤ m ∧ m ≤ 12 ∧ (∀ r ∈ rows, r.length = m ∧ rgs 0 r) ∧ Q .non M
theorem sc_check_partitions : FnScope ["partitions", "labels"] ["partitions"] (fnScope (stT 34)) := fnScope_by (by decide +kernel)
theorem d_check_partitions {P : Program} {w : World} {K : PySem.W.Frag} {mg : Str → Option Value} {base : Heap} {f CO CP CR dQ : Addr} {tk : Tok} {es : Array DictEntry} {nn : Nat} (bi : Bi mg) (gMC : mg "MOST_CASES" = some (.int 12 tk)) (gCO : mg "Observer" = some (.ref CO)) (gQ : mg "QUESTIONS" = some (.ref dQ)) (kq : KDict K w dQ es nn)  (c_check_labels : DefR P w K mg base 3 "check_labels" (Pm K F_check_labels)) (gm : mg "check_partitions" = some (.ref f)) (Fn : FnP K "check_partitions" "check_partitions" (stT 34) f) : DefR P w K mg base 4 "check_partitions" (Pm K F_check_partitions) :=
 def_of (F := F_check_partitions) gm Fn sc_check_partitions (fun _ _ _ _ _ _ us hl => match us, hl with | [_], _ => rfl) (fun ds M Q h => by obtain ⟨_, _, _, rfl, _⟩ := h; rfl) (fun cdv A outer s H E hr => ⟨_, (pss_cons (ps_for PassesOwn.never rfl (zpi_tup K (pv 0)) (pg_name (i := 1) sc_check_partitions.nd rfl (by first | exact Or.inl rfl | exact Or.inr rfl))
 (pss_one (ps_expr (pe_cD c_check_labels hr (by decide) rfl (pa_cons (pv 1) pa_nil)))))
 (pss_cons (ps_if (pt_cmpR op_eq (pe_callB (zcall_len_seq K) rfl bi.len zb_len (pa_cons (pv 0) pa_nil)) pe_int (nomark _))
 pss_never
 pss_nil)
 (pss_one (ps_for PassesOwn.never rfl (zpi_tup K (pv 0)) (pg_name (i := 1) sc_check_partitions.nd rfl (by first | exact Or.inl rfl | exact Or.inr rfl))
 (pss_one (ps_if (pt_cmpR op_ne (pe_callB (zcall_len_seq K) rfl bi.len zb_len (pa_cons (pv 1) pa_nil)) (pe_callB (zcall_len_seq K) rfl bi.len zb_len (pa_cons (pe_ix (zix_tup K) (pv 0) pe_int (fun _ _ => rfl)) pa_nil)) (nomark _))
 pss_never
 pss_nil)))))), fun B ds M Q0 hF => by

  obtain ⟨b, rows, m, rfl, hne, hrl, hm1, hm2, hr, q⟩ := hF
  obtain ⟨r0, rs, e0⟩ : ∃ r0 rs, rows = r0 :: rs := by
    cases rows with
    | nil => exact absurd rfl hne
    | cons a r => exact ⟨a, r, rfl⟩
  have hr0 := (hr r0 (by rw [e0]; exact List.mem_cons_self)).1
  have hat : ∀ M', M' = M → True := fun _ _ => trivial
  walk_at "zz"
  refine ss_for (own := [1]) (ei_tup (ev_var rfl ⟨b, _, rfl, ?_⟩))
  refine ⟨fun i δ' M' => M' = M ∧ δ' = [some (.tup b (rows.map eT)), none], fun _ _ _ _ _ => trivial, ⟨rfl, rfl⟩, ?_, ?_⟩
  · rintro i d δ' M' hi hf ⟨rfl, rfl⟩
    obtain ⟨x, hx, rfl⟩ := get_map hf
    obtain ⟨h1, h2⟩ := hr x (List.mem_of_getElem? hx)
    refine eg_name ?_
    walk_at "zz"
    refine ⟨h2, by omega, by omega, ?_⟩
    refine ⟨_, _, ?_, List.Sublist.refl _, rfl, rfl⟩
    walk_at "zle"
  · rintro δ' M' ⟨rfl, rfl⟩
    walk_at "zz"
    · skip
      refine ss_for (own := [1]) (ei_tup (ev_var rfl ⟨b, _, rfl, ?_⟩))
      refine ⟨fun i δ' M2 => M2 = M' ∧ δ' = [some (.tup b (rows.map eT)), none], fun _ _ _ _ _ => trivial, ⟨rfl, rfl⟩, ?_, ?_⟩
      · rintro i d δ' M' hi hf ⟨rfl, rfl⟩
        obtain ⟨x, hx, rfl⟩ := get_map hf
        obtain ⟨h1, h2⟩ := hr x (List.mem_of_getElem? hx)
        refine eg_name ?_
        walk_at "zz"
        refine o_ixT (d := eT r0) (by rw [atI0, e0]; rfl) ?_
        walk_at "zz"
        refine ⟨_, _, ?_, List.Sublist.refl _, rfl, rfl⟩
        walk_at "zle"
      · rintro δ' M' ⟨rfl, rfl⟩
        exact WkM.of q
⟩)
abbrev F_joined : Spec := fun ds M Q => ∃ (rows : List (List Nat)) (m : Nat), ds = [.tup false (rows.map eT)] ∧ rows ≠ [] ∧ rows.length ≤ 10 ∧ 1 ≤ m ∧ m ≤ 12 ∧ (∀ r ∈ rows, r.length = m ∧ rgs 0 r) ∧ Q (eT (relab (joinG m rows))) M
abbrev F_joinedS : Spec := fun ds M Q => ∃ (rows : List (List Nat)) (m : Nat), ds = rows.map eT ∧ rows ≠ [] ∧ rows.length ≤ 10 ∧ 1 ≤ m ∧ m ≤ 12 ∧ (∀ r ∈ rows, r.length = m ∧ rgs 0 r) ∧ Q (eT (relab (joinG m rows))) M
theorem sc_joined : FnScope ["partitions", "group", "labels", "part", "kept", "case", "old", "name"] ["partitions"] (fnScope (stT 35)) := fnScope_by (by decide +kernel)
theorem fn_joined {P : Program} {w : World} {K : PySem.W.Frag} {mg : Str → Option Value} {base : Heap} {f CO CP CR dQ : Addr} {tk : Tok} {es : Array DictEntry} {nn : Nat} (bi : Bi mg) (gMC : mg "MOST_CASES" = some (.int 12 tk)) (gCO : mg "Observer" = some (.ref CO)) (gQ : mg "QUESTIONS" = some (.ref dQ)) (kq : KDict K w dQ es nn)  (c_check_partitions : DefR P w K mg base 4 "check_partitions" (Pm K F_check_partitions)) (c_grouped : DefR P w K mg base 1 "grouped" (Pm K F_grouped)) (c_relabelled : DefR P w K mg base 1 "relabelled" (Pm K F_relabelled)) (Fn : FnP K "joined" "joined" (stT 35) f) : FnR P w K mg base CX0 5 f (Pm K F_joinedS) :=
 (fns_of (F := F_joined) (ps := []) Fn sc_joined (fun _ _ _ _ _ _ us rest hl => match us, hl, rest with | [], _, [] => rfl | [], _, _ :: _ => rfl) (fun ds M Q h => by obtain ⟨_, _, rfl, _⟩ := h; rfl) (fun cdv A outer s H E hr => ⟨_, (pss_cons (ps_expr (pe_cD c_check_partitions hr (by decide) rfl (pa_cons (pv 0) pa_nil)))
 (pss_cons (ps_set (i := 1) sc_joined.nd rfl (by first | exact Or.inl rfl | exact Or.inr rfl) (pe_listRg rfl rfl bi.list (prg_1 rfl bi.range (pe_callB (zcall_len_seq K) rfl bi.len zb_len (pa_cons (pe_ix (zix_tup K) (pv 0) pe_int (fun _ _ => rfl)) pa_nil)))))
 (pss_cons (ps_for PassesOwn.never rfl (zpi_tup K (pv 0)) (pg_name (i := 2) sc_joined.nd rfl (by first | exact Or.inl rfl | exact Or.inr rfl))
 (pss_one (ps_for PassesOwn.never rfl (zpi_tup K (pe_cD c_grouped hr (by decide) rfl (pa_cons (pv 2) pa_nil))) (pg_name (i := 3) sc_joined.nd rfl (by first | exact Or.inl rfl | exact Or.inr rfl))
 (pss_cons (ps_set (i := 4) sc_joined.nd rfl (by first | exact Or.inl rfl | exact Or.inr rfl) (pe_ix (zix_list K) (pv 1) (pe_ix (zix_tup K) (pv 3) pe_int (fun _ _ => rfl)) (fun _ _ => rfl)))
 (pss_one (ps_for PassesOwn.never rfl (zpi_tup K (pv 3)) (pg_name (i := 5) sc_joined.nd rfl (by first | exact Or.inl rfl | exact Or.inr rfl))
 (pss_cons (ps_set (i := 6) sc_joined.nd rfl (by first | exact Or.inl rfl | exact Or.inr rfl) (pe_ix (zix_list K) (pv 1) (pv 5) (fun _ _ => rfl)))
 (pss_one (ps_setLc (i := 1) rfl sc_joined.nd rfl rfl (sw_true rfl rfl rfl rfl) (zpi_list K (pv 1)) (blkOk_by (own := [("name", 7)]) (by kernel_rfl)) (fun _ _ _ _ _ => (pg_name (i := 7) sc_joined.nd rfl (by first | exact Or.inl rfl | exact Or.inr rfl))) (fun _ _ _ _ _ => pts_nil) (fun _ _ _ _ _ => (pe_ifExp (pt_cmpR op_eq (pv 7) (pv 6) (nomark _)) (pv 4) (pv 7))))))))))))
 (pss_one (ps_ret (pe_cD c_relabelled hr (by decide) rfl (pa_cons (pv 1) pa_nil))))))), fun B ds M Q0 hF => by

  obtain ⟨rows, m, rfl, hne, hrl, hm1, hm2, hr, q⟩ := hF
  obtain ⟨r0, rs, e0⟩ : ∃ r0 rs, rows = r0 :: rs := by
    cases rows with
    | nil => exact absurd rfl hne
    | cons a r => exact ⟨a, r, rfl⟩
  have hr0 := (hr r0 (by rw [e0]; exact List.mem_cons_self)).1
  walk_at "zz"
  refine ⟨false, rows, m, rfl, hne, hrl, hm1, hm2, hr, ?_⟩
  walk_at "zz"
  refine ev_listRg ?_
  walk_at "zz"
  refine o_ixT (d := eT r0) (by rw [atI0, e0]; rfl) ?_
  walk_at "zz"
  rw [show (eN r0).length = m by rw [eN_len, hr0]]
  refine ⟨by omega, fun g0 => ?_⟩
  walk_at "zz"
  have hg0 : (List.range m).map (fun i => Dt.int (i : Nat)) = eN (List.range m) := by
    unfold eN nI; rw [List.map_map]; rfl
  rw [hg0]
  refine ss_for (own := [2]) (ei_tup (ev_var rfl ⟨false, _, rfl, ?_⟩))
  refine ⟨fun i δ' M' => ∃ g, δ' = [some (.tup false (rows.map eT)), some (.adr g), none, none, none, none, none, none] ∧ M' = ⟨g, true, .lst (eN ((rows.take i).foldl mergeL (List.range m)))⟩ :: M, fun _ _ _ _ _ => trivial, ⟨g0, rfl, rfl⟩, ?_, ?_⟩
  · rintro i d δ' M' hi hf ⟨g, rfl, rfl⟩
    obtain ⟨ls, hls, rfl⟩ := get_map hf
    obtain ⟨hlm, hrg⟩ := hr ls (List.mem_of_getElem? hls)
    have hlne : ls ≠ [] := fun z => by rw [z] at hlm; simp at hlm; omega
    have hlt : ∀ x ∈ ls, x < 12 := fun x hx => by have := rgs_lt hrg x hx; omega
    generalize hG : (rows.take i).foldl mergeL (List.range m) = G
    have hGl : G.length = m := by rw [← hG, foldL_len, List.length_range]
    have hnext : (rows.take (i + 1)).foldl mergeL (List.range m) = mergeL G ls := by
      rw [take_snoc hls, List.foldl_append, hG]; rfl
    refine eg_name ?_
    refine ss_for (own := [3]) (ei_tup ?_)
    walk_at "zz"
    refine ⟨hlne, by omega, fun x hx => by have := hlt x hx; omega, true, _, rfl, ?_⟩
    refine ⟨fun j δ' M' => ∃ g, δ' = [some (.tup false (rows.map eT)), some (.adr g), some (eT ls), none, none, none, none, none] ∧ M' = ⟨g, true, .lst (eN (((groups ls).take j).foldl mergeP G))⟩ :: M, fun _ _ _ _ _ => trivial, ⟨g, rfl, rfl⟩, ?_, ?_⟩
    · rintro j d δ' M' hj hf ⟨g, rfl, rfl⟩
      obtain ⟨part, hpt, rfl⟩ := get_map hf
      have hpm := List.mem_of_getElem? hpt
      have hpne := groups_ne hrg hlne part hpm
      obtain ⟨p0, pr, ep⟩ : ∃ p0 pr, part = p0 :: pr := by
        cases part with
        | nil => exact absurd rfl hpne
        | cons a r => exact ⟨a, r, rfl⟩
      have hplt : ∀ c ∈ part, c < m := fun c hc => by
        obtain ⟨_, e⟩ := groups_get hpt
        rw [e] at hc
        have := (List.getElem?_eq_some_iff.mp (mem_group.mp hc)).1
        omega
      generalize hG2 : ((groups ls).take j).foldl mergeP G = G2
      have hG2l : G2.length = m := by rw [← hG2, foldP_len, hGl]
      have hnext2 : ((groups ls).take (j + 1)).foldl mergeP G = mergeP G2 part := by
        rw [take_snoc hpt, List.foldl_append, hG2]; rfl
      have gd : ∀ {L : List Nat} {c : Nat}, c < L.length → atI (eN L) (c : Int) = some (Dt.int (L.getD c 0 : Nat)) := fun {L c} h => by
        rw [atI_nat, eN_get, List.getElem?_eq_getElem h]
        simp [h]
      have hp0 : p0 < m := hplt p0 (by rw [ep]; exact List.mem_cons_self)
      refine eg_name ?_
      walk_at "zz"
      refine o_ixT (d := .int (p0 : Nat)) (by rw [atI0, ep]; rfl) ?_
      walk_at "zz"
      refine o_ixL List.mem_cons_self (gd (by omega)) ?_
      walk_at "zz"
      refine ss_for (own := [5]) (ei_tup (ev_var rfl ⟨true, _, rfl, ?_⟩))
      refine ⟨fun k δ' M' => ∃ g, δ' = [some (.tup false (rows.map eT)), some (.adr g), some (eT ls), some (eT part), some (.int (G2.getD p0 0 : Nat)), none, none, none] ∧ M' = ⟨g, true, .lst (eN ((part.take k).foldl (mergeC (G2.getD p0 0)) G2))⟩ :: M, fun _ _ _ _ _ => trivial, ⟨g, rfl, rfl⟩, ?_, ?_⟩
      · rintro k d δ' M' hk hf ⟨g, rfl, rfl⟩
        obtain ⟨c, hc, rfl⟩ := eN_at hf
        have hcm := hplt c (List.mem_of_getElem? hc)
        generalize hG3 : (part.take k).foldl (mergeC (G2.getD p0 0)) G2 = G3
        have hG3l : G3.length = m := by rw [← hG3, foldC_len, hG2l]
        have hnext3 : (part.take (k + 1)).foldl (mergeC (G2.getD p0 0)) G2 = mergeC (G2.getD p0 0) G3 c := by
          rw [take_snoc hc, List.foldl_append, hG3]; rfl
        refine eg_name ?_
        walk_at "zz"
        refine o_ixL List.mem_cons_self (gd (by omega)) ?_
        walk_at "zz"
        refine ev_lcP (own := [7]) (by simp) (ei_list (ev_var rfl ⟨g, true, _, rfl, List.mem_cons_self, ?_⟩))
        refine ⟨fun z => G3[z]?.map fun x => Dt.int ((if x = G3.getD c 0 then G2.getD p0 0 else x : Nat) : Int), by rw [eN_len]; omega, ?_, ?_⟩
        · intro B' z d hz hf
          obtain ⟨x, hx, rfl⟩ := eN_at hf
          refine eg_name ?_
          walk_at "zz"
          · intro hz
            have e : x = G3.getD c 0 := by have := of_decide_eq_true hz; omega
            walk_at "zz"
            exact ⟨List.Sublist.refl _, by dsimp only; rw [hx, Option.map_some, if_pos e]⟩
          · intro hz
            have e : ¬ x = G3.getD c 0 := by have := of_decide_eq_false hz; omega
            walk_at "zz"
            exact ⟨List.Sublist.refl _, by dsimp only; rw [hx, Option.map_some, if_neg e]⟩
        · intro g'
          have e : (List.range (eN G3).length).filterMap (fun z => G3[z]?.map fun x => Dt.int ((if x = G3.getD c 0 then G2.getD p0 0 else x : Nat) : Int)) = eN (mergeC (G2.getD p0 0) G3 c) := by
            rw [eN_len, fm_map]
            unfold mergeC
            rw [eN_map]
          rw [e, ← hnext3]
          refine ⟨_, _, ?_, ?_, g', rfl, rfl⟩
          · walk_at "zle"
          · exact (List.sublist_cons_self _ _).cons₂ _
      · rintro δ' M' ⟨g, rfl, rfl⟩
        refine ⟨_, _, ?_, List.Sublist.refl _, g, rfl, ?_⟩
        · walk_at "zle"
        · rw [hnext2, eN_len, List.take_length]
          have : mergeP G2 part = part.foldl (mergeC (G2.getD p0 0)) G2 := by unfold mergeP; rw [ep]; rfl
          rw [this]
    · rintro δ' M' ⟨g, rfl, rfl⟩
      refine ⟨_, _, ?_, List.Sublist.refl _, g, rfl, ?_⟩
      · walk_at "zle"
      · rw [hnext, List.length_map, List.take_length]; rfl
  · rintro δ' M' ⟨g, rfl, rfl⟩
    walk_at "zz"
    rw [List.length_map, List.take_length]
    refine ⟨g, true, _, rfl, List.mem_cons_self, ?_, ⟨M, List.sublist_cons_self _ _, q⟩⟩
    rw [foldL_len, List.length_range]
    omega
⟩)).imp (pm_imp fun ds M Q ⟨rows, m, e, h1, h2, h3⟩ => ⟨by simp, by rw [e, List.length_map]; omega, rows, m, by rw [e]; rfl, h1, h2, h3⟩)
end Zy
set_option Elab.async false
set_option linter.all false
set_option maxRecDepth 100000
set_option maxHeartbeats 4000000
namespace Zy
open PySem PySem.Spec PyProof.Rows L2
/-! ### objects of the program -/
abbrev eQ (qs : List Rat) : Dt := .tup true (qs.map eF)
structure Ob where
  lab : List Nat
  w : List Nat
structure ObOk (n : Nat) (o : Ob) : Prop where
  n1 : 1 ≤ n
  n2 : n ≤ 9
  ll : o.lab.length = n
  lw : o.w.length = n
  rg : rgs 0 o.lab
  wp : ∀ x ∈ o.w, 1 ≤ x ∧ x ≤ 40
/-- the labels, the weights at a case -/
def Ob.l (o : Ob) (x : Nat) : Nat := o.lab.getD x 0
def Ob.v (o : Ob) (x : Nat) : Nat := o.w.getD x 0
def Ob.part (o : Ob) (x : Nat) : List Nat := (List.range o.lab.length).filter fun y => o.l y == o.l x
def Ob.odd (o : Ob) (x : Nat) : Rat := (o.v x : Rat) / ((((o.part x).map o.v).sum : Nat) : Rat)
def Ob.odds (o : Ob) : List Rat := (List.range o.lab.length).map o.odd
def pOdd (o : Ob) (kept : List Nat) (x : Nat) : Rat := o.odd x / rsum ((kept.filter fun y => o.l y == o.l x).map o.odd)
def presOdds (o : Ob) (kept : List Nat) : List Rat := kept.map (pOdd o kept)
def cutE (kept : List Nat) (e : List Nat) : List Nat := kept.filter fun x => decide (x ∈ e)
def rowF (kept : List Nat) (o : Ob) : List Nat := relab (kept.map o.l)
def regionsF (obs : List Ob) (kept : List Nat) : List (List Nat) := (groups (relab (joinG kept.length (obs.map (rowF kept))))).map fun places => places.map fun i => kept.getD i 0
abbrev obFs (o : Ob) : List (Str × Dt) := [("own_labels", eT o.lab), ("own_parts", .tup true ((groups o.lab).map eT)), ("own_odds", eQ o.odds)]
abbrev obC (CO a : Addr) (o : Ob) : Cell := ⟨a, true, .ins CO (obFs o)⟩
abbrev prC (CP p : Addr) (k b : Dt) : Cell := ⟨p, true, .ins CP [("kept", k), ("before", b)]⟩
abbrev rmFs (os : List Addr) (n : Nat) (p : Addr) : List (Str × Dt) := [("watchers", .tup false (os.map .adr)), ("size", .int (n : Int)), ("presence", .adr p)]
abbrev rmC (CR r : Addr) (os : List Addr) (n : Nat) (p : Addr) : Cell := ⟨r, true, .ins CR (rmFs os n p)⟩
/-- the room at r: its presence at p, its observers at os; c: how the kept cases' tuple came -/
structure RoomX (CO CP CR : Addr) (M : Mem) (r : Addr) (n : Nat) (obs : List Ob) (kept : List Nat) (p : Addr) (os : List Addr) (c : Bool) (b : Dt) : Prop where
  rm : rmC CR r os n p ∈ M
  pr : prC CP p (.tup c (eN kept)) b ∈ M
  ob : Paired (fun a o => obC CO a o ∈ M) os obs
  ok : ∀ o ∈ obs, ObOk n o
  o1 : 1 ≤ obs.length
  o2 : obs.length ≤ 4
  ka : ascE n 0 kept
  kn : kept ≠ []
  ne : CO ≠ CP ∧ CP ≠ CR ∧ CO ≠ CR
theorem zp_get {α β : Type} {F : α → β → Prop} : ∀ {l₁ : List α} {l₂ : List β} {i : Nat} {y : β}, Paired F l₁ l₂ → l₂[i]? = some y → ∃ x, l₁[i]? = some x ∧ F x y
  | _, _, _, _, .nil, e => by simp at e
  | _, _, 0, _, .cons r _, e => by simp at e; subst e; exact ⟨_, rfl, r⟩
  | _, _, i + 1, y, .cons _ t, e => by
    obtain ⟨x, h1, h2⟩ := zp_get (i := i) (y := y) t (by simpa using e)
    exact ⟨x, by simpa using h1, h2⟩
theorem zp_len {α β : Type} {F : α → β → Prop} {l₁ : List α} {l₂ : List β} (h : Paired F l₁ l₂) : l₁.length = l₂.length := paired_len h
section
variable {CO CP CR : Addr} {M M' : Mem} {r : Addr} {n : Nat} {obs : List Ob} {kept : List Nat} {p : Addr} {os : List Addr} {c : Bool} {b : Dt}
theorem RoomX.sub (h : RoomX CO CP CR M r n obs kept p os c b) (s : ∀ x, x ∈ M → x ∈ M') : RoomX CO CP CR M' r n obs kept p os c b :=
  { h with rm := s _ h.rm, pr := s _ h.pr, ob := paired_mono h.ob fun _ _ z => s _ z }
theorem mem_set_ne {M : Mem} {c c0 x : Cell} {i : Nat} (h : c ∈ M) (hi : M[i]? = some c0) (ne : c ≠ c0) : c ∈ M.set i x := by
  obtain ⟨j, hj⟩ := List.getElem?_of_mem h
  have hij : i ≠ j := fun e => ne (by rw [e, hj] at hi; exact Option.some.inj hi)
  exact List.mem_of_getElem? (i := j) (by rw [List.getElem?_set_ne hij]; exact hj)
/-- the presence changes -/
theorem RoomX.set {i : Nat} {kept' : List Nat} {c' : Bool} {b' : Dt} (h : RoomX CO CP CR M r n obs kept p os c b) (hi : M[i]? = some (prC CP p (.tup c (eN kept)) b)) (ka : ascE n 0 kept') (kn : kept' ≠ []) :
    RoomX CO CP CR (M.set i (prC CP p (.tup c' (eN kept')) b')) r n obs kept' p os c' b' := by
  refine { h with rm := mem_set_ne h.rm hi ?_, pr := ?_, ob := paired_mono h.ob fun a o z => mem_set_ne z hi ?_, ka := ka, kn := kn }
  · intro e
    have : MO.ins CR (rmFs os n p) = .ins CP [("kept", .tup c (eN kept)), ("before", b)] := congrArg Cell.o e
    injection this with e1 e2
    exact h.ne.2.1 e1.symm
  · exact List.mem_of_getElem? (i := i) (by rw [List.getElem?_set_self (List.getElem?_eq_some_iff.mp hi).1])
  · intro e
    have : MO.ins CO (obFs o) = .ins CP [("kept", .tup c (eN kept)), ("before", b)] := congrArg Cell.o e
    injection this with e1 e2
    exact h.ne.1 e1
theorem RoomX.at_ (h : RoomX CO CP CR M r n obs kept p os c b) : ∃ i : Nat, M[i]? = some (prC CP p (.tup c (eN kept)) b) := List.getElem?_of_mem h.pr
end
theorem eN_range {n : Nat} : (List.range n).map (fun i => Dt.int (i : Nat)) = eN (List.range n) := by
  unfold eN nI; rw [List.map_map]; rfl
theorem fmI {f : Nat → Dt} (ks : List Nat) : (List.range (eN ks).length).filterMap (fun i => ks[i]?.map f) = ks.map f := by
  rw [eN_len, fm_map]
theorem atI_eN {ks : List Nat} {x : Nat} (h : x < ks.length) : atI (eN ks) (x : Int) = some (Dt.int (ks.getD x 0 : Nat)) := by
  rw [atI_nat, eN_get, List.getElem?_eq_getElem h]
  simp [h]
theorem atI_get {α : Type} {xs : List α} {i : Nat} {x : α} (h : xs[i]? = some x) : atI xs (i : Int) = some x := by rw [atI_nat, h]
theorem atI_mapg {α β : Type} {f : α → β} {xs : List α} {i : Nat} {x : α} (h : xs[i]? = some x) : atI (xs.map f) (i : Int) = some (f x) := by rw [atI_nat, List.getElem?_map, h]; rfl
theorem asc_lt {n : Nat} : ∀ {l : Nat} {ks : List Nat}, ascE n l ks → ∀ x ∈ ks, l ≤ x ∧ x < n
  | _, [], _, _, hx => by cases hx
  | l, y :: r, h, x, hx => by
    obtain ⟨h1, h2, h3⟩ := h
    rcases List.mem_cons.mp hx with rfl | hx
    · exact ⟨h1, h2⟩
    · have := asc_lt h3 x hx; omega
theorem asc_len {n : Nat} : ∀ {l : Nat} {ks : List Nat}, ascE n l ks → l ≤ n → ks.length + l ≤ n
  | _, [], _, h => by simpa using h
  | l, y :: r, h, hl => by
    obtain ⟨h1, h2, h3⟩ := h
    have := asc_len h3 (by omega)
    rw [List.length_cons]; omega
theorem Ob.odds_len {o : Ob} : o.odds.length = o.lab.length := by simp [Ob.odds]
theorem Ob.odds_get {o : Ob} {x : Nat} (h : x < o.lab.length) : o.odds[x]? = some (o.odd x) := by
  unfold Ob.odds
  rw [List.getElem?_map, List.getElem?_range h]; rfl
theorem sum_le {l : List Nat} {b : Nat} (h : ∀ x ∈ l, x ≤ b) : l.sum ≤ b * l.length := by
  induction l with
  | nil => simp
  | cons x r ih =>
    rw [List.sum_cons, List.length_cons, Nat.mul_succ]
    have h1 := h x List.mem_cons_self
    have h2 := ih fun y hy => h y (List.mem_cons_of_mem _ hy)
    omega
theorem le_sum {l : List Nat} {x : Nat} (h : x ∈ l) : x ≤ l.sum := by
  induction l with
  | nil => cases h
  | cons y r ih =>
    rw [List.sum_cons]
    rcases List.mem_cons.mp h with rfl | h
    · omega
    · have := ih h; omega
section
variable {n : Nat} {o : Ob}
theorem ObOk.v (h : ObOk n o) {x : Nat} (hx : x < n) : 1 ≤ o.v x ∧ o.v x ≤ 40 := by
  have : x < o.w.length := by rw [h.lw]; exact hx
  unfold Ob.v
  rw [List.getD_eq_getElem?_getD, List.getElem?_eq_getElem this]
  exact h.wp _ (List.getElem_mem _)
theorem ObOk.part_mem (h : ObOk n o) {x y : Nat} : y ∈ o.part x ↔ y < n ∧ o.l y = o.l x := by
  unfold Ob.part
  rw [List.mem_filter, List.mem_range, h.ll]
  simp
theorem ObOk.sum (h : ObOk n o) {x : Nat} (hx : x < n) : 1 ≤ ((o.part x).map o.v).sum ∧ ((o.part x).map o.v).sum < 2 ^ 9 := by
  constructor
  · have h1 : o.v x ∈ (o.part x).map o.v := List.mem_map.mpr ⟨x, h.part_mem.mpr ⟨hx, rfl⟩, rfl⟩
    have := le_sum h1
    have := (h.v hx).1
    omega
  · have h1 : ∀ z ∈ (o.part x).map o.v, z ≤ 40 := fun z hz => by
      obtain ⟨y, hy, rfl⟩ := List.mem_map.mp hz
      exact (h.v (h.part_mem.mp hy).1).2
    have h2 := sum_le h1
    have h3 : (o.part x).length ≤ n := by
      unfold Ob.part
      have := List.length_filter_le (fun y => o.l y == o.l x) (List.range o.lab.length)
      rw [List.length_range] at this
      rw [← h.ll]
      exact this
    have := h.n2
    rw [List.length_map] at h2
    have e : (2 : Nat) ^ 9 = 512 := by decide
    omega
theorem natC_pos {a : Nat} (h : 0 < a) : (0 : Rat) < (a : Rat) := num_pos.mp (by show (0 : Int) < ((a : Nat) : Int); omega)
theorem div_pos' {a b : Rat} (ha : 0 < a) (hb : 0 < b) : 0 < a / b := by
  rw [Rat.div_def]
  exact Rat.mul_pos ha (Rat.inv_pos.mpr hb)
theorem sz_nat {a m : Nat} (h : a < 2 ^ m) (h2 : 0 < m) : Sz m (a : Rat) := ⟨by show ((a : Nat) : Int).natAbs < _; simpa using h, by show 1 < _; exact Nat.one_lt_two_pow (by omega)⟩
theorem ObOk.odd_pos (h : ObOk n o) {x : Nat} (hx : x < n) : 0 < o.odd x := div_pos' (natC_pos (h.v hx).1) (natC_pos (h.sum hx).1)
theorem sz_frac {a b m : Nat} (h : a < 2 ^ m) (hb : b < 2 ^ m) (h0 : 0 < b) : Sz m ((a : Rat) / (b : Rat)) := by
  have : ((a : Rat) / (b : Rat)) = mkRat (a : Int) b := by rw [Rat.mkRat_eq_div]; rfl
  rw [this]
  exact sz_mk (by omega) (by simpa using h) hb
theorem ObOk.odd_sz (h : ObOk n o) {x : Nat} (hx : x < n) : Sz 9 (o.odd x) := by
  have := (h.v hx).2
  exact sz_frac (by have e : (2 : Nat) ^ 9 = 512 := by decide
                    omega) (h.sum hx).2 (h.sum hx).1
end
theorem asc_filter {n : Nat} {f : Nat → Bool} : ∀ {l : Nat} {ks : List Nat}, ascE n l ks → ascE n l (ks.filter f)
  | _, [], _ => trivial
  | l, y :: r, h => by
    obtain ⟨h1, h2, h3⟩ := h
    rw [List.filter_cons]
    split
    · exact ⟨h1, h2, asc_filter h3⟩
    · exact asc_mono (by omega) (asc_filter h3)
where
  asc_mono {n : Nat} : ∀ {l l' : Nat} {ks : List Nat}, l ≤ l' → ascE n l' ks → ascE n l ks
    | _, _, [], _, _ => trivial
    | _, _, _ :: _, h, ⟨h1, h2, h3⟩ => ⟨by omega, h2, h3⟩
theorem asc_folds {n : Nat} : ∀ {evs : List (List Nat)} {ks : List Nat}, ascE n 0 ks → ascE n 0 (evs.foldl cutE ks)
  | [], _, h => h
  | e :: r, ks, h => asc_folds (evs := r) (asc_filter h)
end Zy
set_option Elab.async false
set_option linter.all false
set_option maxRecDepth 100000
set_option maxHeartbeats 4000000
namespace Zy
open PySem PySem.Spec PyProof.Rows L2
open C8 (fnBody fnArgs fnScope clsBody scC fnScope_by)

local macro_rules | `(tactic| walk_at "zmem") => `(tactic| repeat (first | exact List.mem_cons_self | assumption | refine List.mem_cons_of_mem _ ?_))
local macro_rules | `(tactic| walk_at "z1") => `(tactic| first
  | (with_reducible refine ss_seq ?_) | (with_reducible refine ss_next ?_) | (with_reducible refine ss_ret ?_) | (with_reducible refine ss_set ?_) | (with_reducible refine ss_if ?_)
  | (with_reducible refine ss_drop ?_) | (with_reducible refine ss_par ?_) | (with_reducible refine ss_par3 ?_)
  | (with_reducible refine et_test ?_) | (with_reducible refine et_B ?_) | (with_reducible refine et_and ?_) | (with_reducible refine et_or ?_) | (with_reducible refine et_not2 ?_) | (with_reducible refine et_yes ?_)
  | (with_reducible refine ev_op ?_) | (with_reducible refine ev_un ?_) | (with_reducible refine isi_ii ?_) | (with_reducible refine isi_ib ?_) | (with_reducible refine isi_tt ?_) | (with_reducible refine isi_ss ?_)
  | (with_reducible refine ev_cb ?_) | (with_reducible refine ev_call ?_) | (with_reducible refine ev_chain ?_)
  | (with_reducible refine ev_and ?_) | (with_reducible refine ev_or ?_) | (with_reducible refine ev_not2 ?_) | (with_reducible refine ev_if ?_) | (with_reducible refine ev_int ?_) | (with_reducible refine ev_bl ?_) | (with_reducible refine ev_non ?_) | (with_reducible refine ev_str ?_)
  | (with_reducible refine ea_nil ?_) | (with_reducible refine ea_cons ?_)
  | ((with_reducible refine' ev_var ?_ ?_); rotate_left; exact rfl) | ((with_reducible refine' o_ixT ?_ ?_); rotate_left; exact rfl) | (with_reducible refine zo_lenT ?_) | (with_reducible refine zo_lenS ?_) | ((with_reducible refine' zo_lenL ?_ ?_); rotate_left 2; (walk_at "zmem")) | (with_reducible refine ev_tup ?_) | (with_reducible refine ev_lst ?_)
  | (with_reducible refine o_I0 ?_) | (with_reducible refine o_B0 ?_) | (with_reducible refine o_neg ?_) | (with_reducible refine o_eqI ?_) | (with_reducible refine o_neI ?_)
  | (with_reducible refine fun (hq : true = false) => Bool.noConfusion hq) | (with_reducible refine fun (hq : false = true) => Bool.noConfusion hq) | (with_reducible refine fun (_ : true = true) => ?_) | (with_reducible refine fun (_ : false = false) => ?_)
  | (with_reducible refine ⟨_, rfl, ?_⟩) | (with_reducible refine ⟨_, _, rfl, ?_⟩) | (with_reducible refine ⟨_, _, _, rfl, ?_⟩) | (with_reducible refine ⟨fun (_ : true = true) => ?_, fun (hq : true = false) => Bool.noConfusion hq⟩) | (with_reducible refine ⟨fun (hq : false = true) => Bool.noConfusion hq, fun (_ : false = false) => ?_⟩) | (with_reducible refine ⟨Nat.le_of_ble_eq_true rfl, ?_⟩) | ((with_reducible refine ⟨fun hq => absurd hq ?_, fun _ => ?_⟩); (simp <;> omega)) | ((with_reducible refine ⟨fun _ => ?_, fun hq => absurd hq ?_⟩); rotate_left; (simp <;> omega)) | (with_reducible refine And.intro (?_ : _ = true → _) (?_ : _ = false → _)) | (with_reducible refine ev_bm ?_) | (with_reducible refine ss_fld ?_) | (with_reducible refine ev_fld ?_) | (with_reducible refine ev_prop ?_) | (with_reducible refine ev_meth ?_) | (with_reducible refine ev_make ?_) | ((with_reducible refine' And.intro (tyD_of ?_) ?_); rotate_left 2; (walk_at "zmem")))
local macro_rules | `(tactic| walk_at "zz") => `(tactic| repeat (walk_at "z1"))
local macro_rules | `(tactic| walk_at "zle") => `(tactic| repeat (first | exact trivial | refine And.intro rfl ?_ | exact LeD.refl _))
abbrev F_are_odds : Spec := fun ds M Q => ∃ (b c : Bool) (ls : List Nat) (qs : List Rat) (k : Nat), ds = [.tup b (eN ls), .tup c (qs.map eF)] ∧ rgs 0 ls ∧ 1 ≤ ls.length ∧ ls.length ≤ 12 ∧ qs.length = ls.length ∧ (∀ x ∈ qs, 0 < x ∧ Sz k x) ∧ k ≤ 100 ∧ (∀ p ∈ groups ls, rsum (p.map fun i => qs.getD i 0) = 1) ∧ Q (.bl true) M
theorem sc_are_odds : FnScope ["labels", "value", "part", "one", "case"] ["labels", "value"] (fnScope (stT 37)) := fnScope_by (by decide +kernel)
theorem d_are_odds {P : Program} {w : World} {K : PySem.W.Frag} {mg : Str → Option Value} {base : Heap} {f CO CP CR dQ : Addr} {tk : Tok} {es : Array DictEntry} {nn : Nat} (bi : Bi mg) (gMC : mg "MOST_CASES" = some (.int 12 tk)) (gCO : mg "Observer" = some (.ref CO)) (gQ : mg "QUESTIONS" = some (.ref dQ)) (kq : KDict K w dQ es nn)  (c_is_positive : DefR P w K mg base 3 "is_positive" (Pm K F_is_positive)) (c_added : DefR P w K mg base 4 "added" (Pm K F_added)) (c_grouped : DefR P w K mg base 1 "grouped" (Pm K F_grouped)) (gm : mg "are_odds" = some (.ref f)) (Fn : FnP K "are_odds" "are_odds" (stT 37) f) : DefR P w K mg base 5 "are_odds" (Pm K F_are_odds) :=
 def_of (F := F_are_odds) gm Fn sc_are_odds (fun _ _ _ _ _ _ us hl => match us, hl with | [_, _], _ => rfl) (fun ds M Q h => by obtain ⟨_, _, _, _, _, rfl, _⟩ := h; rfl) (fun cdv A outer s H E hr => ⟨_, (pss_cons (ps_if (PW.pt (pw_or (pt_not (pt_val (pe_callB (zcall_isi K) rfl bi.isinstance zb_isinstance (pa_cons (pv 1) (pa_cons (pe_bltn (v := .ty "tuple") rfl bi.tuple zb_tuple rfl) pa_nil))))) (pw_or (pt_cmpR op_ne (pe_callB (zcall_len_seq K) rfl bi.len zb_len (pa_cons (pv 1) pa_nil)) (pe_callB (zcall_len_seq K) rfl bi.len zb_len (pa_cons (pv 0) pa_nil)) (nomark _)) (pw_or1 (pt_not (pt_val (pe_callB (zcr_all K rfl) rfl bi.all zb_all (pa_cons (pe_lc rfl sc_are_odds.nd (zpi_tup K (pv 1)) (blkOk_by (own := [("one", 3)]) (by kernel_rfl)) (fun _ _ _ _ _ => (pg_name (i := 3) sc_are_odds.nd rfl (by first | exact Or.inl rfl | exact Or.inr rfl))) (fun _ _ _ _ _ => pts_nil) (fun _ _ _ _ _ => (pe_cD c_is_positive hr (by decide) rfl (pa_cons (pv 3) pa_nil)))) pa_nil))))))))
 (pss_one (ps_ret pe_bl))
 pss_nil)
 (pss_one (ps_ret (pe_callB (zcr_all K rfl) rfl bi.all zb_all (pa_cons (pe_lc rfl sc_are_odds.nd (zpi_tup K (pe_cD c_grouped hr (by decide) rfl (pa_cons (pv 0) pa_nil))) (blkOk_by (own := [("part", 2)]) (by kernel_rfl)) (fun _ _ _ _ _ => (pg_name (i := 2) sc_are_odds.nd rfl (by first | exact Or.inl rfl | exact Or.inr rfl))) (fun _ _ _ _ _ => pts_nil) (fun _ _ _ _ _ => (pe_cmpR (zop_eqD K hr.units) (pe_cD c_added hr (by decide) rfl (pa_cons (pe_lc rfl sc_are_odds.nd (zpi_tup K (pv 2)) (blkOk_by (own := [("case", 4)]) (by kernel_rfl)) (fun _ _ _ _ _ => (pg_name (i := 4) sc_are_odds.nd rfl (by first | exact Or.inl rfl | exact Or.inr rfl))) (fun _ _ _ _ _ => pts_nil) (fun _ _ _ _ _ => (pe_ix (zix_tup K) (pv 1) (pv 4) (fun _ _ => rfl)))) pa_nil)) (pe_tupF (pa_cons pe_int (pa_cons pe_int pa_nil))) (nomark _)))) pa_nil))))), fun B ds M Q0 hF => by

  obtain ⟨b, c, ls, qs, k, rfl, hr, h1, h2, hq, hp, hk, hs, q⟩ := hF
  have e1 : (List.range (qs.map eF).length).filterMap (fun i => qs[i]?.map fun _ => Dt.bl true) = (qs.map fun _ => true).map Dt.bl := by
    rw [List.length_map, fm_map, List.map_map]; rfl
  have e2 : (List.range ((groups ls).map eT).length).filterMap (fun i => (groups ls)[i]?.map fun _ => Dt.bl true) = ((groups ls).map fun _ => true).map Dt.bl := by
    rw [List.length_map, fm_map, List.map_map]; rfl
  have a1 : (qs.map fun _ => true).all id = true := by simp
  have a2 : ((groups ls).map fun _ => true).all id = true := by simp
  have hne : ls ≠ [] := fun z => by rw [z] at h1; simp at h1
  have hlt : ∀ x ∈ ls, x < 12 := fun x hx => by have := rgs_lt hr x hx; omega
  have hml : maxN ls ≤ 12 := maxN_le fun x hx => by have := hlt x hx; omega
  walk_at "zz"
  refine ev_lcP (own := [3]) (by simp) (ei_tup (ev_var rfl ⟨c, _, rfl, ?_⟩))
  refine ⟨fun i => qs[i]?.map fun _ => Dt.bl true, by rw [List.length_map]; omega, ?_, ?_⟩
  · intro B' i d hi hf
    obtain ⟨x, hx, rfl⟩ := get_map hf
    refine eg_name ?_
    walk_at "zz"
    refine ⟨List.Sublist.refl _, ?_⟩
    dsimp only
    rw [hx, decide_eq_true (hp x (List.mem_of_getElem? hx)).1]
    rfl
  · intro p
    rw [e1]
    walk_at "zz"
    refine o_allL List.mem_cons_self ?_
    rw [a1]
    walk_at "zz"
    refine ev_lcP (own := [2]) (by simp) (ei_tup ?_)
    walk_at "zz"
    refine ⟨hne, by omega, fun x hx => by have := hlt x hx; omega, true, _, rfl, ?_⟩
    refine ⟨fun i => (groups ls)[i]?.map fun _ => Dt.bl true, by rw [List.length_map, groups_len]; omega, ?_, ?_⟩
    · intro B' i d hi hf
      obtain ⟨pt, hpt, rfl⟩ := get_map hf
      have hplt : ∀ z ∈ pt, z < ls.length := fun z hz => by
        obtain ⟨_, e⟩ := groups_get hpt
        rw [e] at hz
        exact (List.getElem?_eq_some_iff.mp (mem_group.mp hz)).1
      have hpl : pt.length ≤ ls.length := by
        obtain ⟨_, e⟩ := groups_get hpt
        rw [e]
        have := List.length_filter_le (fun j => ls[j]? == some i) (List.range ls.length)
        rwa [List.length_range] at this
      have hqs : ∀ z ∈ pt, ∃ x, qs[z]? = some x ∧ qs.getD z 0 = x ∧ Sz k x := fun z hz => by
        have hz2 : z < qs.length := by rw [hq]; exact hplt z hz
        refine ⟨qs[z], List.getElem?_eq_getElem hz2, by simp [hz2], (hp _ (List.getElem_mem hz2)).2⟩
      refine eg_name ?_
      walk_at "zz"
      refine ev_lcP (own := [4]) (by simp) (ei_tup (ev_var rfl ⟨true, _, rfl, ?_⟩))
      refine ⟨fun j => pt[j]?.map fun z => eF (qs.getD z 0), by rw [eN_len]; omega, ?_, ?_⟩
      · intro B2 j d hj hf
        obtain ⟨z, hz, rfl⟩ := eN_at hf
        obtain ⟨x, hx1, hx2, hx3⟩ := hqs z (List.mem_of_getElem? hz)
        refine eg_name ?_
        walk_at "zz"
        refine o_ixT (d := eF x) (by rw [atI_nat, List.getElem?_map, hx1]; rfl) ?_
        refine ⟨List.Sublist.refl _, ?_⟩
        dsimp only
        rw [hz, Option.map_some, hx2]
      · intro p2
        have e3 : (List.range (eN pt).length).filterMap (fun j => pt[j]?.map fun z => eF (qs.getD z 0)) = (pt.map fun z => qs.getD z 0).map eF := by
          rw [eN_len, fm_map, List.map_map]; rfl
        rw [e3]
        walk_at "zz"
        refine ⟨p2, true, _, k, rfl, List.mem_cons_self, fun x hx => ?_, ?_, ?_⟩
        · obtain ⟨z, hz, rfl⟩ := List.mem_map.mp hx
          obtain ⟨x, hx1, hx2, hx3⟩ := hqs z hz
          rw [hx2]; exact hx3
        · rw [List.length_map]
          have : (pt.length + 1) * (k + 1) ≤ 13 * 101 := Nat.mul_le_mul (by omega) (by omega)
          omega
        · rw [hs pt (List.mem_of_getElem? hpt)]
          walk_at "zz"
          refine o_eqF (q := 1) ?_
          refine ⟨List.sublist_cons_self _ _, ?_⟩
          dsimp only
          rw [hpt]
          rfl
    · intro p2
      rw [e2]
      walk_at "zz"
      refine o_allL List.mem_cons_self ?_
      rw [a2]
      exact ⟨M, (List.sublist_cons_self _ _).trans (List.sublist_cons_self _ _), q⟩
⟩)
abbrev F_Observer_assign_odds (CO : Addr) : Spec := fun ds M Q => ∃ (a : Addr) (ls : List Nat) (qs : List Rat) (k : Nat) (P : Dt) (M1 : Mem), ds = [.adr a, eQ qs] ∧ M = ⟨a, true, .ins CO [("own_labels", eT ls), ("own_parts", P)]⟩ :: M1 ∧ rgs 0 ls ∧ 1 ≤ ls.length ∧ ls.length ≤ 12 ∧ qs.length = ls.length ∧ (∀ x ∈ qs, 0 < x ∧ Sz k x) ∧ k ≤ 100 ∧ (∀ p ∈ groups ls, rsum (p.map fun i => qs.getD i 0) = 1) ∧ Q .non (⟨a, true, .ins CO [("own_labels", eT ls), ("own_parts", P), ("own_odds", eQ qs)]⟩ :: M1)
theorem sc_Observer_assign_odds : FnScope ["self", "odds"] ["self", "odds"] (fnScope (stM 39 7)) := fnScope_by (by decide +kernel)
theorem fn_Observer_assign_odds {P : Program} {w : World} {K : PySem.W.Frag} {mg : Str → Option Value} {base : Heap} {f CO CP CR dQ : Addr} {tk : Tok} {es : Array DictEntry} {nn : Nat} (bi : Bi mg) (gMC : mg "MOST_CASES" = some (.int 12 tk)) (gCO : mg "Observer" = some (.ref CO)) (gQ : mg "QUESTIONS" = some (.ref dQ)) (kq : KDict K w dQ es nn) (hCO : Cls K CO) (na_ol : NoAttr K CO "own_labels") (na_op : NoAttr K CO "own_parts") (na_oo : NoAttr K CO "own_odds") (c_are_odds : DefR P w K mg base 5 "are_odds" (Pm K F_are_odds)) (Fn : FnP K "assign_odds" "Observer.assign_odds" (stM 39 7) f) : FnR P w K mg base CX0 6 f (Pm K (F_Observer_assign_odds CO)) :=
 fnr_of (F := (F_Observer_assign_odds CO)) Fn sc_Observer_assign_odds (fun _ _ _ _ _ _ us hl => match us, hl with | [_, _], _ => rfl) (fun ds M Q h => by obtain ⟨_, _, _, _, _, _, rfl, _⟩ := h; rfl) (fun cdv A outer s H E hr => ⟨_, (pss_cons (ps_if (pt_not (pt_val (pe_cD c_are_odds hr (by decide) rfl (pa_cons (zpe_fld K (pv 0) rfl) (pa_cons (pv 1) pa_nil)))))
 pss_never
 pss_nil)
 (pss_one (zps_fld K (pv 0) (pv 1) rfl))), fun B ds M Q0 hF => by

  obtain ⟨a, ls, qs, k, P, M1, rfl, rfl, hr, h1, h2, hq, hp, hk, hs, q⟩ := hF
  walk_at "zz"
  refine ⟨a, true, CO, _, eT ls, rfl, List.mem_cons_self, hCO, na_ol, rfl, ?_⟩
  walk_at "zz"
  refine ⟨true, true, ls, qs, k, rfl, hr, h1, h2, hq, hp, hk, hs, ?_⟩
  walk_at "zz"
  refine ⟨a, CO, _, 0, rfl, rfl, hCO, na_oo, by simp, ?_⟩
  exact WkM.of q
⟩)
abbrev F_Observer___init__ (CO : Addr) : Spec := fun ds M Q => ∃ (a : Addr) (ls : List Nat) (qs : List Rat) (k : Nat) (M1 : Mem), ds = [.adr a, eT ls, eQ qs] ∧ M = ⟨a, true, .ins CO []⟩ :: M1 ∧ rgs 0 ls ∧ 1 ≤ ls.length ∧ ls.length ≤ 12 ∧ qs.length = ls.length ∧ (∀ x ∈ qs, 0 < x ∧ Sz k x) ∧ k ≤ 100 ∧ (∀ p ∈ groups ls, rsum (p.map fun i => qs.getD i 0) = 1) ∧ Q .non (⟨a, true, .ins CO [("own_labels", eT ls), ("own_parts", .tup true ((groups ls).map eT)), ("own_odds", eQ qs)]⟩ :: M1)
theorem sc_Observer___init__ : FnScope ["self", "labels", "odds"] ["self", "labels", "odds"] (fnScope (stM 39 1)) := fnScope_by (by decide +kernel)
theorem fn_Observer___init__ {P : Program} {w : World} {K : PySem.W.Frag} {mg : Str → Option Value} {base : Heap} {f CO CP CR dQ : Addr} {tk : Tok} {es : Array DictEntry} {nn : Nat} (bi : Bi mg) (gMC : mg "MOST_CASES" = some (.int 12 tk)) (gCO : mg "Observer" = some (.ref CO)) (gQ : mg "QUESTIONS" = some (.ref dQ)) (kq : KDict K w dQ es nn) (hCO : Cls K CO) (na_ol : NoAttr K CO "own_labels") (na_op : NoAttr K CO "own_parts") (na_oo : NoAttr K CO "own_odds") (c_check_labels : DefR P w K mg base 3 "check_labels" (Pm K F_check_labels)) (c_grouped : DefR P w K mg base 1 "grouped" (Pm K F_grouped)) (c_m_assign_odds : MetR P w K mg base 6 CO "assign_odds" (Pm K (F_Observer_assign_odds CO))) (Fn : FnP K "__init__" "Observer.__init__" (stM 39 1) f) : FnR P w K mg base CX0 7 f (Pm K (F_Observer___init__ CO)) :=
 fnr_of (F := (F_Observer___init__ CO)) Fn sc_Observer___init__ (fun _ _ _ _ _ _ us hl => match us, hl with | [_, _, _], _ => rfl) (fun ds M Q h => by obtain ⟨_, _, _, _, _, rfl, _⟩ := h; rfl) (fun cdv A outer s H E hr => ⟨_, (pss_cons (ps_expr (pe_cD c_check_labels hr (by decide) rfl (pa_cons (pv 1) pa_nil)))
 (pss_cons (zps_fld K (pv 0) (pv 1) rfl)
 (pss_cons (zps_fld K (pv 0) (pe_cD c_grouped hr (by decide) rfl (pa_cons (pv 1) pa_nil)) rfl)
 (pss_one (ps_expr (pe_mR c_m_assign_odds hr (by decide) (pv 0) (pa_cons (pv 2) pa_nil))))))), fun B ds M Q0 hF => by

  obtain ⟨a, ls, qs, k, M1, rfl, rfl, hr, h1, h2, hq, hp, hk, hs, q⟩ := hF
  have hne : ls ≠ [] := fun z => by rw [z] at h1; simp at h1
  walk_at "zz"
  refine ⟨hr, h1, h2, ?_⟩
  walk_at "zz"
  refine ⟨a, CO, _, 0, rfl, rfl, hCO, na_ol, by simp, ?_⟩
  walk_at "zz"
  refine ⟨hne, by omega, fun x hx => by have := rgs_lt hr x hx; omega, ?_⟩
  walk_at "zz"
  refine ⟨a, CO, _, 0, rfl, rfl, hCO, na_op, Nat.le_of_ble_eq_true rfl, ?_⟩
  walk_at "zz"
  refine ⟨⟨true, _, List.mem_cons_self, by rfl⟩, ?_⟩
  walk_at "zz"
  refine ⟨a, ls, qs, k, _, M1, rfl, rfl, hr, h1, h2, hq, hp, hk, hs, ?_⟩
  exact WkM.of q
⟩)
abbrev F_Observer_labels (CO : Addr) : Spec := fun ds M Q => ∃ (a : Addr) (w : Bool) (fs : List (Str × Dt)) (x : Dt), ds = [.adr a] ∧ (⟨a, w, .ins CO fs⟩ : Cell) ∈ M ∧ fs.lookup ("own_labels" : Str) = some x ∧ Q x M
theorem sc_Observer_labels : FnScope ["self"] ["self"] (fnScope (stM 39 3)) := fnScope_by (by decide +kernel)
theorem pr_Observer_labels {P : Program} {w : World} {K : PySem.W.Frag} {mg : Str → Option Value} {base : Heap} {f CO CP CR dQ : Addr} {tk : Tok} {es : Array DictEntry} {nn : Nat} (bi : Bi mg) (gMC : mg "MOST_CASES" = some (.int 12 tk)) (gCO : mg "Observer" = some (.ref CO)) (gQ : mg "QUESTIONS" = some (.ref dQ)) (kq : KDict K w dQ es nn) (hCO : Cls K CO) (na_ol : NoAttr K CO "own_labels") (na_op : NoAttr K CO "own_parts") (na_oo : NoAttr K CO "own_odds")  {p : Addr} (hc : Cls K CO) (hp : PropOf K CO "labels" p f) (Fn : FnP K "labels" "Observer.labels" (stM 39 3) f) : PrpR P w K mg base 1 CO "labels" (Pm K (F_Observer_labels CO)) :=
 prp_of (F := (F_Observer_labels CO)) hc hp Fn sc_Observer_labels (fun _ _ _ _ _ _ us hl => match us, hl with | [_], _ => rfl) (fun ds M Q h => by obtain ⟨_, _, _, _, rfl, _⟩ := h; rfl) (fun cdv A outer s H E hr => ⟨_, (pss_one (ps_ret (zpe_fld K (pv 0) rfl))), fun B ds M Q0 hF => by

  obtain ⟨a, w, fs, x, rfl, hc, hl, q⟩ := hF
  walk_at "zz"
  exact ⟨a, w, CO, fs, x, rfl, hc, hCO, na_ol, hl, WkM.of q⟩
⟩)
abbrev F_Observer_odds (CO : Addr) : Spec := fun ds M Q => ∃ (a : Addr) (w : Bool) (fs : List (Str × Dt)) (x : Dt), ds = [.adr a] ∧ (⟨a, w, .ins CO fs⟩ : Cell) ∈ M ∧ fs.lookup ("own_odds" : Str) = some x ∧ Q x M
theorem sc_Observer_odds : FnScope ["self"] ["self"] (fnScope (stM 39 5)) := fnScope_by (by decide +kernel)
theorem pr_Observer_odds {P : Program} {w : World} {K : PySem.W.Frag} {mg : Str → Option Value} {base : Heap} {f CO CP CR dQ : Addr} {tk : Tok} {es : Array DictEntry} {nn : Nat} (bi : Bi mg) (gMC : mg "MOST_CASES" = some (.int 12 tk)) (gCO : mg "Observer" = some (.ref CO)) (gQ : mg "QUESTIONS" = some (.ref dQ)) (kq : KDict K w dQ es nn) (hCO : Cls K CO) (na_ol : NoAttr K CO "own_labels") (na_op : NoAttr K CO "own_parts") (na_oo : NoAttr K CO "own_odds")  {p : Addr} (hc : Cls K CO) (hp : PropOf K CO "odds" p f) (Fn : FnP K "odds" "Observer.odds" (stM 39 5) f) : PrpR P w K mg base 1 CO "odds" (Pm K (F_Observer_odds CO)) :=
 prp_of (F := (F_Observer_odds CO)) hc hp Fn sc_Observer_odds (fun _ _ _ _ _ _ us hl => match us, hl with | [_], _ => rfl) (fun ds M Q h => by obtain ⟨_, _, _, _, rfl, _⟩ := h; rfl) (fun cdv A outer s H E hr => ⟨_, (pss_one (ps_ret (zpe_fld K (pv 0) rfl))), fun B ds M Q0 hF => by

  obtain ⟨a, w, fs, x, rfl, hc, hl, q⟩ := hF
  walk_at "zz"
  exact ⟨a, w, CO, fs, x, rfl, hc, hCO, na_oo, hl, WkM.of q⟩
⟩)
abbrev F_Presence___init__ (CP : Addr) : Spec := fun ds M Q => ∃ (a : Addr) (k : Dt) (M1 : Mem), ds = [.adr a, k] ∧ M = ⟨a, true, .ins CP []⟩ :: M1 ∧ Q .non (prC CP a k k :: M1)
theorem sc_Presence___init__ : FnScope ["self", "kept"] ["self", "kept"] (fnScope (stM 74 0)) := fnScope_by (by decide +kernel)
theorem fn_Presence___init__ {P : Program} {w : World} {K : PySem.W.Frag} {mg : Str → Option Value} {base : Heap} {f CO CP CR dQ : Addr} {tk : Tok} {es : Array DictEntry} {nn : Nat} (bi : Bi mg) (gMC : mg "MOST_CASES" = some (.int 12 tk)) (gCO : mg "Observer" = some (.ref CO)) (gQ : mg "QUESTIONS" = some (.ref dQ)) (kq : KDict K w dQ es nn) (hCP : Cls K CP) (na_k : NoAttr K CP "kept") (na_b : NoAttr K CP "before")  (Fn : FnP K "__init__" "Presence.__init__" (stM 74 0) f) : FnR P w K mg base CX0 1 f (Pm K (F_Presence___init__ CP)) :=
 fnr_of (F := (F_Presence___init__ CP)) Fn sc_Presence___init__ (fun _ _ _ _ _ _ us hl => match us, hl with | [_, _], _ => rfl) (fun ds M Q h => by obtain ⟨_, _, _, rfl, _⟩ := h; rfl) (fun cdv A outer s H E hr => ⟨_, (pss_cons (zps_fld K (pv 0) (pv 1) rfl)
 (pss_one (zps_fld K (pv 0) (pv 1) rfl))), fun B ds M Q0 hF => by

  obtain ⟨a, k, M1, rfl, rfl, q⟩ := hF
  walk_at "zz"
  refine ⟨a, CP, _, 0, rfl, rfl, hCP, na_k, by simp, ?_⟩
  walk_at "zz"
  refine ⟨a, CP, _, 0, rfl, rfl, hCP, na_b, Nat.le_of_ble_eq_true rfl, ?_⟩
  exact WkM.of q
⟩)
abbrev F_Presence___enter__ (CP : Addr) : Spec := fun ds M Q => ∃ (a : Addr) (k b : Dt) (i : Nat), ds = [.adr a] ∧ M[i]? = some (prC CP a k b) ∧ Q (.adr a) (M.set i (prC CP a k k))
theorem sc_Presence___enter__ : FnScope ["self"] ["self"] (fnScope (stM 74 1)) := fnScope_by (by decide +kernel)
theorem fn_Presence___enter__ {P : Program} {w : World} {K : PySem.W.Frag} {mg : Str → Option Value} {base : Heap} {f CO CP CR dQ : Addr} {tk : Tok} {es : Array DictEntry} {nn : Nat} (bi : Bi mg) (gMC : mg "MOST_CASES" = some (.int 12 tk)) (gCO : mg "Observer" = some (.ref CO)) (gQ : mg "QUESTIONS" = some (.ref dQ)) (kq : KDict K w dQ es nn) (hCP : Cls K CP) (na_k : NoAttr K CP "kept") (na_b : NoAttr K CP "before")  (Fn : FnP K "__enter__" "Presence.__enter__" (stM 74 1) f) : FnR P w K mg base CX0 1 f (Pm K (F_Presence___enter__ CP)) :=
 fnr_of (F := (F_Presence___enter__ CP)) Fn sc_Presence___enter__ (fun _ _ _ _ _ _ us hl => match us, hl with | [_], _ => rfl) (fun ds M Q h => by obtain ⟨_, _, _, _, rfl, _⟩ := h; rfl) (fun cdv A outer s H E hr => ⟨_, (pss_cons (zps_fld K (pv 0) (zpe_fld K (pv 0) rfl) rfl)
 (pss_one (ps_ret (pv 0)))), fun B ds M Q0 hF => by

  obtain ⟨a, k, b, i, rfl, hi, q⟩ := hF
  walk_at "zz"
  refine ⟨a, true, CP, _, k, rfl, List.mem_of_getElem? hi, hCP, na_k, rfl, ?_⟩
  walk_at "zz"
  refine ⟨a, CP, _, i, rfl, hi, hCP, na_b, by simp, ?_⟩
  walk_at "zz"
  exact WkM.of q
⟩)
abbrev F_Presence___exit__ (CP : Addr) : Spec := fun ds M Q => ∃ (a : Addr) (k b : Dt) (i : Nat), ds = [.adr a, .non, .non, .non] ∧ M[i]? = some (prC CP a k b) ∧ Q .non (M.set i (prC CP a b b))
theorem sc_Presence___exit__ : FnScope ["self", "kind", "value", "trace"] ["self", "kind", "value", "trace"] (fnScope (stM 74 2)) := fnScope_by (by decide +kernel)
theorem fn_Presence___exit__ {P : Program} {w : World} {K : PySem.W.Frag} {mg : Str → Option Value} {base : Heap} {f CO CP CR dQ : Addr} {tk : Tok} {es : Array DictEntry} {nn : Nat} (bi : Bi mg) (gMC : mg "MOST_CASES" = some (.int 12 tk)) (gCO : mg "Observer" = some (.ref CO)) (gQ : mg "QUESTIONS" = some (.ref dQ)) (kq : KDict K w dQ es nn) (hCP : Cls K CP) (na_k : NoAttr K CP "kept") (na_b : NoAttr K CP "before")  (Fn : FnP K "__exit__" "Presence.__exit__" (stM 74 2) f) : FnR P w K mg base CX0 1 f (Pm K (F_Presence___exit__ CP)) :=
 fnr_of (F := (F_Presence___exit__ CP)) Fn sc_Presence___exit__ (fun _ _ _ _ _ _ us hl => match us, hl with | [_, _, _, _], _ => rfl) (fun ds M Q h => by obtain ⟨_, _, _, _, rfl, _⟩ := h; rfl) (fun cdv A outer s H E hr => ⟨_, (pss_one (zps_fld K (pv 0) (zpe_fld K (pv 0) rfl) rfl)), fun B ds M Q0 hF => by

  obtain ⟨a, k, b, i, rfl, hi, q⟩ := hF
  walk_at "zz"
  refine ⟨a, true, CP, _, b, rfl, List.mem_of_getElem? hi, hCP, na_b, rfl, ?_⟩
  walk_at "zz"
  refine ⟨a, CP, _, i, rfl, hi, hCP, na_k, by simp, ?_⟩
  exact WkM.of q
⟩)
end Zy
set_option Elab.async false
set_option linter.all false
set_option maxRecDepth 100000
set_option maxHeartbeats 4000000
namespace Zy
open PySem PySem.Spec PyProof.Rows L2
open C8 (fnBody fnArgs fnScope clsBody scC fnScope_by)

local macro_rules | `(tactic| walk_at "zmem") => `(tactic| repeat (first | exact List.mem_cons_self | assumption | refine List.mem_cons_of_mem _ ?_))
local macro_rules | `(tactic| walk_at "z1") => `(tactic| first
  | (with_reducible refine ss_seq ?_) | (with_reducible refine ss_next ?_) | (with_reducible refine ss_ret ?_) | (with_reducible refine ss_set ?_) | (with_reducible refine ss_if ?_)
  | (with_reducible refine ss_drop ?_) | (with_reducible refine ss_par ?_) | (with_reducible refine ss_par3 ?_)
  | (with_reducible refine et_test ?_) | (with_reducible refine et_B ?_) | (with_reducible refine et_and ?_) | (with_reducible refine et_or ?_) | (with_reducible refine et_not2 ?_) | (with_reducible refine et_yes ?_)
  | (with_reducible refine ev_op ?_) | (with_reducible refine ev_un ?_) | (with_reducible refine isi_ii ?_) | (with_reducible refine isi_ib ?_) | (with_reducible refine isi_tt ?_) | (with_reducible refine isi_ss ?_)
  | (with_reducible refine ev_cb ?_) | (with_reducible refine ev_call ?_) | (with_reducible refine ev_chain ?_)
  | (with_reducible refine ev_and ?_) | (with_reducible refine ev_or ?_) | (with_reducible refine ev_not2 ?_) | (with_reducible refine ev_if ?_) | (with_reducible refine ev_int ?_) | (with_reducible refine ev_bl ?_) | (with_reducible refine ev_non ?_) | (with_reducible refine ev_str ?_)
  | (with_reducible refine ea_nil ?_) | (with_reducible refine ea_cons ?_)
  | ((with_reducible refine' ev_var ?_ ?_); rotate_left; exact rfl) | ((with_reducible refine' o_ixT ?_ ?_); rotate_left; exact rfl) | (with_reducible refine zo_lenT ?_) | (with_reducible refine zo_lenS ?_) | ((with_reducible refine' zo_lenL ?_ ?_); rotate_left 2; (walk_at "zmem")) | (with_reducible refine ev_tup ?_) | (with_reducible refine ev_lst ?_)
  | (with_reducible refine o_I0 ?_) | (with_reducible refine o_B0 ?_) | (with_reducible refine o_neg ?_) | (with_reducible refine o_eqI ?_) | (with_reducible refine o_neI ?_)
  | (with_reducible refine fun (hq : true = false) => Bool.noConfusion hq) | (with_reducible refine fun (hq : false = true) => Bool.noConfusion hq) | (with_reducible refine fun (_ : true = true) => ?_) | (with_reducible refine fun (_ : false = false) => ?_)
  | (with_reducible refine ⟨_, rfl, ?_⟩) | (with_reducible refine ⟨_, _, rfl, ?_⟩) | (with_reducible refine ⟨_, _, _, rfl, ?_⟩) | (with_reducible refine ⟨fun (_ : true = true) => ?_, fun (hq : true = false) => Bool.noConfusion hq⟩) | (with_reducible refine ⟨fun (hq : false = true) => Bool.noConfusion hq, fun (_ : false = false) => ?_⟩) | (with_reducible refine ⟨Nat.le_of_ble_eq_true rfl, ?_⟩) | ((with_reducible refine ⟨fun hq => absurd hq ?_, fun _ => ?_⟩); (simp <;> omega)) | ((with_reducible refine ⟨fun _ => ?_, fun hq => absurd hq ?_⟩); rotate_left; (simp <;> omega)) | (with_reducible refine And.intro (?_ : _ = true → _) (?_ : _ = false → _)) | (with_reducible refine ev_bm ?_) | (with_reducible refine ss_fld ?_) | (with_reducible refine ev_fld ?_) | (with_reducible refine ev_prop ?_) | (with_reducible refine ev_meth ?_) | (with_reducible refine ev_make ?_) | ((with_reducible refine' And.intro (tyD_of ?_) ?_); rotate_left 2; (walk_at "zmem")))
local macro_rules | `(tactic| walk_at "zz") => `(tactic| repeat (walk_at "z1"))
local macro_rules | `(tactic| walk_at "zle") => `(tactic| repeat (first | exact trivial | refine And.intro rfl ?_ | exact LeD.refl _))
abbrev F_Room___init__ (CO CP CR : Addr) : Spec := fun ds M Q => ∃ (a : Addr) (os : List Addr) (obs : List Ob) (n : Nat) (M1 : Mem), ds = [.adr a, .tup false (os.map .adr)] ∧ M = ⟨a, true, .ins CR []⟩ :: M1 ∧ Paired (fun a o => obC CO a o ∈ M1) os obs ∧ (∀ o ∈ obs, ObOk n o) ∧ 1 ≤ obs.length ∧ obs.length ≤ 4 ∧ (∀ p, Q .non (prC CP p (.tup false (eN (List.range n))) (.tup false (eN (List.range n))) :: rmC CR a os n p :: M1))
abbrev F_Room___init__S (CO CP CR : Addr) : Spec := fun ds M Q => ∃ (a : Addr) (os : List Addr) (obs : List Ob) (n : Nat) (M1 : Mem), ds = .adr a :: os.map .adr ∧ M = ⟨a, true, .ins CR []⟩ :: M1 ∧ Paired (fun a o => obC CO a o ∈ M1) os obs ∧ (∀ o ∈ obs, ObOk n o) ∧ 1 ≤ obs.length ∧ obs.length ≤ 4 ∧ (∀ p, Q .non (prC CP p (.tup false (eN (List.range n))) (.tup false (eN (List.range n))) :: rmC CR a os n p :: M1))
theorem sc_Room___init__ : FnScope ["self", "observers", "observer", "size"] ["self", "observers"] (fnScope (stM 75 1)) := fnScope_by (by decide +kernel)
theorem fn_Room___init__ {P : Program} {w : World} {K : PySem.W.Frag} {mg : Str → Option Value} {base : Heap} {f CO CP CR dQ : Addr} {tk : Tok} {es : Array DictEntry} {nn : Nat} (bi : Bi mg) (gMC : mg "MOST_CASES" = some (.int 12 tk)) (gCO : mg "Observer" = some (.ref CO)) (gQ : mg "QUESTIONS" = some (.ref dQ)) (kq : KDict K w dQ es nn) (hCO : Cls K CO) (na_ol : NoAttr K CO "own_labels") (na_op : NoAttr K CO "own_parts") (na_oo : NoAttr K CO "own_odds") (hCP : Cls K CP) (na_k : NoAttr K CP "kept") (na_b : NoAttr K CP "before") (hCR : Cls K CR) (na_w : NoAttr K CR "watchers") (na_s : NoAttr K CR "size") (na_p : NoAttr K CR "presence") {uu : Value} (con : Con K CR "MOST_OBSERVERS" (.int 6) uu) (hIO : InsTy K CO) (c_get_labels : PrpR P w K mg base 1 CO "labels" (Pm K (F_Observer_labels CO))) (c_new_Presence : MakR P w K mg base 1 CP "Presence" (Pm K (F_Presence___init__ CP))) (Fn : FnP K "__init__" "Room.__init__" (stM 75 1) f) : FnR P w K mg base CX0 3 f (Pm K (F_Room___init__S CO CP CR)) :=
 (fns_of (F := (F_Room___init__ CO CP CR)) (ps := ["self"]) Fn sc_Room___init__ (fun _ _ _ _ _ _ us rest hl => match us, hl, rest with | [_], _, [] => rfl | [_], _, _ :: _ => rfl) (fun ds M Q h => by obtain ⟨_, _, _, _, _, rfl, _⟩ := h; rfl) (fun cdv A outer s H E hr => ⟨_, (pss_cons (ps_if (pt_not (pt_chain op_le op_le pe_int (pe_callB (zcall_len_seq K) rfl bi.len zb_len (pa_cons (pv 1) pa_nil)) (zpe_con K (pv 0) rfl)))
 pss_never
 pss_nil)
 (pss_cons (ps_for PassesOwn.never rfl (zpi_tup K (pv 1)) (pg_name (i := 2) sc_Room___init__.nd rfl (by first | exact Or.inl rfl | exact Or.inr rfl))
 (pss_one (ps_if (pt_not (pt_val (pe_callB (zcall_isi K) rfl bi.isinstance zb_isinstance (pa_cons (pv 2) (pa_cons (pe_glob (v := .ref CO) rfl gCO rfl) pa_nil)))))
 pss_never
 pss_nil)))
 (pss_cons (ps_set (i := 3) sc_Room___init__.nd rfl (by first | exact Or.inl rfl | exact Or.inr rfl) (pe_callB (zcall_len_seq K) rfl bi.len zb_len (pa_cons (pe_pR c_get_labels hr (by decide) (pe_ix (zix_tup K) (pv 1) pe_int (fun _ _ => rfl))) pa_nil)))
 (pss_cons (ps_for PassesOwn.never rfl (zpi_tup K (pv 1)) (pg_name (i := 2) sc_Room___init__.nd rfl (by first | exact Or.inl rfl | exact Or.inr rfl))
 (pss_one (ps_if (pt_cmpR op_ne (pe_callB (zcall_len_seq K) rfl bi.len zb_len (pa_cons (pe_pR c_get_labels hr (by decide) (pv 2)) pa_nil)) (pv 3) (nomark _))
 pss_never
 pss_nil)))
 (pss_cons (zps_fld K (pv 0) (pv 1) rfl)
 (pss_cons (zps_fld K (pv 0) (pv 3) rfl)
 (pss_one (zps_fld K (pv 0) (pe_kR c_new_Presence hr (by decide) rfl (pa_cons (pe_tupRg rfl rfl bi.tuple (prg_1 rfl bi.range (pv 3))) pa_nil)) rfl)))))))), fun B ds M Q0 hF => by

  obtain ⟨a, os, obs, n, M1, rfl, rfl, hp, hok, h1, h2, q⟩ := hF
  have hl := (zp_len hp)
  obtain ⟨o0, ho0⟩ : ∃ o0, obs[0]? = some o0 := ⟨obs[0]'(by omega), List.getElem?_eq_getElem (by omega)⟩
  obtain ⟨x0, hx0, hc0⟩ := zp_get hp ho0
  have k0 := hok o0 (List.mem_of_getElem? ho0)
  have hc0' : ∀ y : Cell, obC CO x0 o0 ∈ (y :: M1 : Mem) := fun y => List.mem_cons_of_mem _ hc0
  walk_at "zz"
  refine ev_con (v := .int 6) (u := uu) (fun _ => .int 6) ?_
  walk_at "zz"
  refine ⟨a, true, CR, [], rfl, List.mem_cons_self, hCR, con, rfl, ?_⟩
  walk_at "zz"
  refine ss_for (own := [2]) (ei_tup (ev_var rfl ⟨false, _, rfl, ?_⟩))
  refine ⟨fun i δ' M' => M' = ⟨a, true, .ins CR []⟩ :: M1 ∧ δ' = [some (.adr a), some (.tup false (os.map .adr)), none, none], fun _ _ _ _ _ => trivial, ⟨rfl, rfl⟩, ?_, ?_⟩
  · rintro i d δ' M' hi hf ⟨rfl, rfl⟩
    obtain ⟨x, hx, rfl⟩ := get_map hf
    obtain ⟨o, ho⟩ : ∃ o, obs[i]? = some o := ⟨obs[i]'(by rw [List.length_map] at hi; omega), List.getElem?_eq_getElem _⟩
    obtain ⟨x', hx', hc⟩ := zp_get hp ho
    rw [hx] at hx'
    cases hx'
    refine eg_name ?_
    walk_at "z1"
    walk_at "z1"
    walk_at "z1"
    refine isi_own hIO (ev_var rfl ⟨x, true, _, rfl, List.mem_cons_of_mem _ hc, ?_⟩)
    walk_at "zz"
    refine ⟨_, _, ?_, List.Sublist.refl _, rfl, rfl⟩
    walk_at "zle"
  · rintro δ' M' ⟨rfl, rfl⟩
    walk_at "zz"
    refine o_ixT (d := .adr x0) (by rw [atI0, List.getElem?_map, hx0]; rfl) ?_
    walk_at "zz"
    refine ⟨⟨true, _, hc0' _⟩, x0, true, _, _, rfl, hc0' _, rfl, ?_⟩
    walk_at "zz"
    refine ss_for (own := [2]) (ei_tup (ev_var rfl ⟨false, _, rfl, ?_⟩))
    refine ⟨fun i δ' M' => M' = ⟨a, true, .ins CR []⟩ :: M1 ∧ δ' = [some (.adr a), some (.tup false (os.map .adr)), none, some (.int (n : Nat))], fun _ _ _ _ _ => trivial, ⟨rfl, by rw [eN_len, k0.ll]; rfl⟩, ?_, ?_⟩
    · rintro i d δ' M' hi hf ⟨rfl, rfl⟩
      obtain ⟨x, hx, rfl⟩ := get_map hf
      obtain ⟨o, ho⟩ : ∃ o, obs[i]? = some o := ⟨obs[i]'(by rw [List.length_map] at hi; omega), List.getElem?_eq_getElem _⟩
      obtain ⟨x', hx', hc⟩ := zp_get hp ho
      rw [hx] at hx'
      cases hx'
      have k := hok o (List.mem_of_getElem? ho)
      have kl := k.ll
      refine eg_name ?_
      walk_at "zz"
      refine ⟨⟨true, _, List.mem_cons_of_mem _ hc⟩, x, true, _, _, rfl, List.mem_cons_of_mem _ hc, rfl, ?_⟩
      walk_at "zz"
      refine ⟨_, _, ?_, List.Sublist.refl _, rfl, rfl⟩
      walk_at "zle"
    · rintro δ' M' ⟨rfl, rfl⟩
      walk_at "zz"
      refine ⟨a, CR, _, 0, rfl, rfl, hCR, na_w, by simp, ?_⟩
      walk_at "zz"
      refine ⟨a, CR, _, 0, rfl, rfl, hCR, na_s, Nat.le_of_ble_eq_true rfl, ?_⟩
      walk_at "zz"
      refine ev_tupRg (ev_var rfl ⟨n, rfl, by have := k0.n2; omega, ?_⟩)
      rw [eN_range]
      walk_at "zz"
      intro p
      refine ⟨p, _, _, rfl, rfl, ?_⟩
      refine ⟨rfl, ?_⟩
      walk_at "zz"
      refine ⟨a, CR, _, 1, rfl, rfl, hCR, na_p, Nat.le_of_ble_eq_true rfl, ?_⟩
      exact WkM.of (q p)
⟩)).imp (pm_imp fun ds M Q ⟨a, os, obs, n, M1, e, h1, h2, h3, h4, h5, h6⟩ => ⟨by rw [e]; simp, by rw [e, List.length_cons, List.length_map, zp_len h2]; omega, a, os, obs, n, M1, by rw [e]; rfl, h1, h2, h3, h4, h5, h6⟩)
abbrev F_Room_observers (CO CP CR : Addr) : Spec := fun ds M Q => ∃ (r : Addr) (n : Nat) (obs : List Ob) (kept : List Nat) (p : Addr) (os : List Addr) (c : Bool) (b : Dt), ds = [.adr r] ∧ RoomX CO CP CR M r n obs kept p os c b ∧ Q (.tup false (os.map .adr)) M
theorem sc_Room_observers : FnScope ["self"] ["self"] (fnScope (stM 75 4)) := fnScope_by (by decide +kernel)
theorem pr_Room_observers {P : Program} {w : World} {K : PySem.W.Frag} {mg : Str → Option Value} {base : Heap} {f CO CP CR dQ : Addr} {tk : Tok} {es : Array DictEntry} {nn : Nat} (bi : Bi mg) (gMC : mg "MOST_CASES" = some (.int 12 tk)) (gCO : mg "Observer" = some (.ref CO)) (gQ : mg "QUESTIONS" = some (.ref dQ)) (kq : KDict K w dQ es nn) (hCO : Cls K CO) (na_ol : NoAttr K CO "own_labels") (na_op : NoAttr K CO "own_parts") (na_oo : NoAttr K CO "own_odds") (hCP : Cls K CP) (na_k : NoAttr K CP "kept") (na_b : NoAttr K CP "before") (hCR : Cls K CR) (na_w : NoAttr K CR "watchers") (na_s : NoAttr K CR "size") (na_p : NoAttr K CR "presence")  {p : Addr} (hc : Cls K CR) (hp : PropOf K CR "observers" p f) (Fn : FnP K "observers" "Room.observers" (stM 75 4) f) : PrpR P w K mg base 1 CR "observers" (Pm K (F_Room_observers CO CP CR)) :=
 prp_of (F := (F_Room_observers CO CP CR)) hc hp Fn sc_Room_observers (fun _ _ _ _ _ _ us hl => match us, hl with | [_], _ => rfl) (fun ds M Q h => by obtain ⟨_, _, _, _, _, _, _, _, rfl, _⟩ := h; rfl) (fun cdv A outer s H E hr => ⟨_, (pss_one (ps_ret (zpe_fld K (pv 0) rfl))), fun B ds M Q0 hF => by

  obtain ⟨r, n, obs, kept, p, os, c, b, rfl, hx, q⟩ := hF
  walk_at "zz"
  exact ⟨r, true, CR, _, _, rfl, hx.rm, hCR, na_w, rfl, WkM.of q⟩
⟩)
abbrev F_Room_cases (CO CP CR : Addr) : Spec := fun ds M Q => ∃ (r : Addr) (n : Nat) (obs : List Ob) (kept : List Nat) (p : Addr) (os : List Addr) (c : Bool) (b : Dt), ds = [.adr r] ∧ RoomX CO CP CR M r n obs kept p os c b ∧ Q (.tup c (eN kept)) M
theorem sc_Room_cases : FnScope ["self"] ["self"] (fnScope (stM 75 5)) := fnScope_by (by decide +kernel)
theorem pr_Room_cases {P : Program} {w : World} {K : PySem.W.Frag} {mg : Str → Option Value} {base : Heap} {f CO CP CR dQ : Addr} {tk : Tok} {es : Array DictEntry} {nn : Nat} (bi : Bi mg) (gMC : mg "MOST_CASES" = some (.int 12 tk)) (gCO : mg "Observer" = some (.ref CO)) (gQ : mg "QUESTIONS" = some (.ref dQ)) (kq : KDict K w dQ es nn) (hCO : Cls K CO) (na_ol : NoAttr K CO "own_labels") (na_op : NoAttr K CO "own_parts") (na_oo : NoAttr K CO "own_odds") (hCP : Cls K CP) (na_k : NoAttr K CP "kept") (na_b : NoAttr K CP "before") (hCR : Cls K CR) (na_w : NoAttr K CR "watchers") (na_s : NoAttr K CR "size") (na_p : NoAttr K CR "presence")  {p : Addr} (hc : Cls K CR) (hp : PropOf K CR "cases" p f) (Fn : FnP K "cases" "Room.cases" (stM 75 5) f) : PrpR P w K mg base 1 CR "cases" (Pm K (F_Room_cases CO CP CR)) :=
 prp_of (F := (F_Room_cases CO CP CR)) hc hp Fn sc_Room_cases (fun _ _ _ _ _ _ us hl => match us, hl with | [_], _ => rfl) (fun ds M Q h => by obtain ⟨_, _, _, _, _, _, _, _, rfl, _⟩ := h; rfl) (fun cdv A outer s H E hr => ⟨_, (pss_one (ps_ret (zpe_fld K (zpe_fld K (pv 0) rfl) rfl))), fun B ds M Q0 hF => by

  obtain ⟨r, n, obs, kept, p, os, c, b, rfl, hx, q⟩ := hF
  walk_at "zz"
  refine ⟨r, true, CR, _, _, rfl, hx.rm, hCR, na_p, rfl, ?_⟩
  exact ⟨p, true, CP, _, _, rfl, hx.pr, hCP, na_k, rfl, WkM.of q⟩
⟩)
abbrev F_Room_cases_set (CO CP CR : Addr) : Spec := fun ds M Q => ∃ (r : Addr) (n : Nat) (obs : List Ob) (kept : List Nat) (p : Addr) (os : List Addr) (c : Bool) (b : Dt) (kept2 : List Nat) (c2 : Bool) (i : Nat), ds = [.adr r, .tup c2 (eN kept2)] ∧ RoomX CO CP CR M r n obs kept p os c b ∧ ascE n 0 kept2 ∧ kept2 ≠ [] ∧ M[i]? = some (prC CP p (.tup c (eN kept)) b) ∧ Q .non (M.set i (prC CP p (.tup c2 (eN kept2)) b))
theorem sc_Room_cases_set : FnScope ["self", "event", "presence"] ["self", "event"] (fnScope (stM 75 6)) := fnScope_by (by decide +kernel)
theorem fn_Room_cases_set {P : Program} {w : World} {K : PySem.W.Frag} {mg : Str → Option Value} {base : Heap} {f CO CP CR dQ : Addr} {tk : Tok} {es : Array DictEntry} {nn : Nat} (bi : Bi mg) (gMC : mg "MOST_CASES" = some (.int 12 tk)) (gCO : mg "Observer" = some (.ref CO)) (gQ : mg "QUESTIONS" = some (.ref dQ)) (kq : KDict K w dQ es nn) (hCO : Cls K CO) (na_ol : NoAttr K CO "own_labels") (na_op : NoAttr K CO "own_parts") (na_oo : NoAttr K CO "own_odds") (hCP : Cls K CP) (na_k : NoAttr K CP "kept") (na_b : NoAttr K CP "before") (hCR : Cls K CR) (na_w : NoAttr K CR "watchers") (na_s : NoAttr K CR "size") (na_p : NoAttr K CR "presence") (c_is_valid_event : DefR P w K mg base 2 "is_valid_event" (Pm K F_is_valid_event)) (Fn : FnP K "cases" "Room.cases" (stM 75 6) f) : FnR P w K mg base CX0 3 f (Pm K (F_Room_cases_set CO CP CR)) :=
 fnr_of (F := (F_Room_cases_set CO CP CR)) Fn sc_Room_cases_set (fun _ _ _ _ _ _ us hl => match us, hl with | [_, _], _ => rfl) (fun ds M Q h => by obtain ⟨_, _, _, _, _, _, _, _, _, _, _, rfl, _⟩ := h; rfl) (fun cdv A outer s H E hr => ⟨_, (pss_cons (ps_if (PW.pt (pw_or (pt_not (pt_val (pe_cD c_is_valid_event hr (by decide) rfl (pa_cons (pv 1) (pa_cons (zpe_fld K (pv 0) rfl) pa_nil))))) (pw_or1 (pt_cmpR op_eq (pe_callB (zcall_len_seq K) rfl bi.len zb_len (pa_cons (pv 1) pa_nil)) pe_int (nomark _)))))
 pss_never
 pss_nil)
 (pss_cons (ps_set (i := 2) sc_Room_cases_set.nd rfl (by first | exact Or.inl rfl | exact Or.inr rfl) (zpe_fld K (pv 0) rfl))
 (pss_one (zps_fld K (pv 2) (pv 1) rfl)))), fun B ds M Q0 hF => by

  obtain ⟨r, n, obs, kept, p, os, c, b, k2, c2, i, rfl, hx, ha, hn, hi, q⟩ := hF
  have hl : 0 < k2.length := by cases k2 with
    | nil => exact absurd rfl hn
    | cons a r => simp
  walk_at "zz"
  refine ⟨r, true, CR, _, _, rfl, hx.rm, hCR, na_s, rfl, ?_⟩
  walk_at "zz"
  refine ⟨ha, ?_⟩
  walk_at "zz"
  refine ⟨r, true, CR, _, _, rfl, hx.rm, hCR, na_p, rfl, ?_⟩
  walk_at "zz"
  refine ⟨p, CP, _, i, rfl, hi, hCP, na_k, by simp, ?_⟩
  exact WkM.of q
⟩)
abbrev F_Room_assign_cases (CO CP CR : Addr) : Spec := fun ds M Q => ∃ (r : Addr) (n : Nat) (obs : List Ob) (kept : List Nat) (p : Addr) (os : List Addr) (c : Bool) (b : Dt) (kept2 : List Nat) (c2 : Bool) (i : Nat), ds = [.adr r, .tup c2 (eN kept2)] ∧ RoomX CO CP CR M r n obs kept p os c b ∧ ascE n 0 kept2 ∧ kept2 ≠ [] ∧ M[i]? = some (prC CP p (.tup c (eN kept)) b) ∧ Q .non (M.set i (prC CP p (.tup c2 (eN kept2)) b))
theorem sc_Room_assign_cases : FnScope ["self", "event"] ["self", "event"] (fnScope (stM 75 7)) := fnScope_by (by decide +kernel)
theorem fn_Room_assign_cases {P : Program} {w : World} {K : PySem.W.Frag} {mg : Str → Option Value} {base : Heap} {f CO CP CR dQ : Addr} {tk : Tok} {es : Array DictEntry} {nn : Nat} (bi : Bi mg) (gMC : mg "MOST_CASES" = some (.int 12 tk)) (gCO : mg "Observer" = some (.ref CO)) (gQ : mg "QUESTIONS" = some (.ref dQ)) (kq : KDict K w dQ es nn) (hCO : Cls K CO) (na_ol : NoAttr K CO "own_labels") (na_op : NoAttr K CO "own_parts") (na_oo : NoAttr K CO "own_odds") (hCP : Cls K CP) (na_k : NoAttr K CP "kept") (na_b : NoAttr K CP "before") (hCR : Cls K CR) (na_w : NoAttr K CR "watchers") (na_s : NoAttr K CR "size") (na_p : NoAttr K CR "presence") (c_set_cases : StrR P w K mg base 3 CR "cases" (Pm K (F_Room_cases_set CO CP CR))) (Fn : FnP K "assign_cases" "Room.assign_cases" (stM 75 7) f) : FnR P w K mg base CX0 6 f (Pm K (F_Room_assign_cases CO CP CR)) :=
 fnr_of (F := (F_Room_assign_cases CO CP CR)) Fn sc_Room_assign_cases (fun _ _ _ _ _ _ us hl => match us, hl with | [_, _], _ => rfl) (fun ds M Q h => by obtain ⟨_, _, _, _, _, _, _, _, _, _, _, rfl, _⟩ := h; rfl) (fun cdv A outer s H E hr => ⟨_, (pss_one (ps_sprop c_set_cases hr (by decide) (pv 0) (pv 1))), fun B ds M Q0 hF => by

  obtain ⟨r, n, obs, kept, p, os, c, b, k2, c2, i, rfl, hx, ha, hn, hi, q⟩ := hF
  refine ss_prop ?_
  walk_at "zz"
  refine ⟨r, true, _, rfl, hx.rm, ?_⟩
  refine ⟨r, n, obs, kept, p, os, c, b, k2, c2, i, rfl, hx, ha, hn, hi, ?_⟩
  exact WkM.of q
⟩)
abbrev F_Room_check_group (CO CP CR : Addr) : Spec := fun ds M Q => ∃ (r : Addr) (n : Nat) (obs : List Ob) (kept : List Nat) (p : Addr) (os : List Addr) (c : Bool) (b : Dt) (k : Nat), ds = [.adr r, .tup true [.int (k : Int)]] ∧ RoomX CO CP CR M r n obs kept p os c b ∧ k < obs.length ∧ Q .non M
theorem sc_Room_check_group : FnScope ["self", "numbers", "place", "number"] ["self", "numbers"] (fnScope (stM 75 10)) := fnScope_by (by decide +kernel)
theorem fn_Room_check_group {P : Program} {w : World} {K : PySem.W.Frag} {mg : Str → Option Value} {base : Heap} {f CO CP CR dQ : Addr} {tk : Tok} {es : Array DictEntry} {nn : Nat} (bi : Bi mg) (gMC : mg "MOST_CASES" = some (.int 12 tk)) (gCO : mg "Observer" = some (.ref CO)) (gQ : mg "QUESTIONS" = some (.ref dQ)) (kq : KDict K w dQ es nn) (hCO : Cls K CO) (na_ol : NoAttr K CO "own_labels") (na_op : NoAttr K CO "own_parts") (na_oo : NoAttr K CO "own_odds") (hCP : Cls K CP) (na_k : NoAttr K CP "kept") (na_b : NoAttr K CP "before") (hCR : Cls K CR) (na_w : NoAttr K CR "watchers") (na_s : NoAttr K CR "size") (na_p : NoAttr K CR "presence") (c_is_integer : DefR P w K mg base 1 "is_integer" (Pm K F_is_integer)) (Fn : FnP K "check_group" "Room.check_group" (stM 75 10) f) : FnR P w K mg base CX0 2 f (Pm K (F_Room_check_group CO CP CR)) :=
 fnr_of (F := (F_Room_check_group CO CP CR)) Fn sc_Room_check_group (fun _ _ _ _ _ _ us hl => match us, hl with | [_, _], _ => rfl) (fun ds M Q h => by obtain ⟨_, _, _, _, _, _, _, _, _, rfl, _⟩ := h; rfl) (fun cdv A outer s H E hr => ⟨_, (pss_cons (ps_for PassesOwn.never rfl (zpi_enumT K rfl bi.enumerate (pa_cons (pv 1) pa_nil)) (zpg_tup K (n := 2) rfl (pgs_cons (pg_name (i := 2) sc_Room_check_group.nd rfl (by first | exact Or.inl rfl | exact Or.inr rfl)) (pgs_cons (pg_name (i := 3) sc_Room_check_group.nd rfl (by first | exact Or.inl rfl | exact Or.inr rfl)) pgs_nil)))
 (pss_one (ps_if (PW.pt (pw_or (pt_not (pt_val (pe_cD c_is_integer hr (by decide) rfl (pa_cons (pv 3) pa_nil)))) (pw_or (pt_not (pt_chain op_le op_lt pe_int (pv 3) (pe_callB (zcall_len_seq K) rfl bi.len zb_len (pa_cons (zpe_fld K (pv 0) rfl) pa_nil)))) (pw_or1 (pt_cmpR (zop_in_seq K) (pv 3) (pe_slice (zsl_tupA K) (pv 1) po_none (po_some (pv 2))) (by rfl))))))
 pss_never
 pss_nil)))
 (pss_one (ps_if (pt_cmpR op_eq (pe_callB (zcall_len_seq K) rfl bi.len zb_len (pa_cons (pv 1) pa_nil)) pe_int (nomark _))
 pss_never
 pss_nil))), fun B ds M Q0 hF => by

  obtain ⟨r, n, obs, kept, p, os, c, b, k, rfl, hx, hk, q⟩ := hF
  have hl := zp_len hx.ob
  refine ss_seq (ss_for (own := [2] ++ ([3] ++ [])) (ei_enum ?_))
  walk_at "zz"
  refine ⟨fun i δ' M' => M' = M ∧ δ' = [some (.adr r), some (.tup true [.int (k : Int)]), none, none], fun _ _ _ _ _ => trivial, ⟨rfl, rfl⟩, ?_, ?_⟩
  · rintro i d δ' M' hi hf ⟨rfl, rfl⟩
    have e : i = 0 := by simp at hi; omega
    subst e
    have hd := (Option.some.inj hf).symm
    subst hd
    refine eg_tup rfl (egs_cons (eg_name (egs_cons (eg_name (egs_nil ?_)))))
    walk_at "zz"
    refine ⟨r, true, CR, _, _, rfl, hx.rm, hCR, na_w, rfl, ?_⟩
    walk_at "zz"
    refine ev_sl (ev_var rfl (eo_none (eo_some (ev_var rfl ⟨_, rfl, ?_⟩))))
    refine o_slT (n := 0) (by simp) ?_
    refine o_inT (ns := []) ?_
    walk_at "zz"
    refine ⟨_, _, ?_, List.Sublist.refl _, rfl, rfl⟩
    walk_at "zle"
  · rintro δ' M' ⟨rfl, rfl⟩
    walk_at "zz"
    exact WkM.of q
⟩)
end Zy
set_option Elab.async false
set_option linter.all false
set_option maxRecDepth 100000
set_option maxHeartbeats 4000000
namespace Zy
open PySem PySem.Spec PyProof.Rows L2
open C8 (fnBody fnArgs fnScope clsBody scC fnScope_by)

local macro_rules | `(tactic| walk_at "zmem") => `(tactic| repeat (first | exact List.mem_cons_self | assumption | refine List.mem_cons_of_mem _ ?_))
local macro_rules | `(tactic| walk_at "z1") => `(tactic| first
  | (with_reducible refine ss_seq ?_) | (with_reducible refine ss_next ?_) | (with_reducible refine ss_ret ?_) | (with_reducible refine ss_set ?_) | (with_reducible refine ss_if ?_)
  | (with_reducible refine ss_drop ?_) | (with_reducible refine ss_par ?_) | (with_reducible refine ss_par3 ?_)
  | (with_reducible refine et_test ?_) | (with_reducible refine et_B ?_) | (with_reducible refine et_and ?_) | (with_reducible refine et_or ?_) | (with_reducible refine et_not2 ?_) | (with_reducible refine et_yes ?_)
  | (with_reducible refine ev_op ?_) | (with_reducible refine ev_un ?_) | (with_reducible refine isi_ii ?_) | (with_reducible refine isi_ib ?_) | (with_reducible refine isi_tt ?_) | (with_reducible refine isi_ss ?_)
  | (with_reducible refine ev_cb ?_) | (with_reducible refine ev_call ?_) | (with_reducible refine ev_chain ?_)
  | (with_reducible refine ev_and ?_) | (with_reducible refine ev_or ?_) | (with_reducible refine ev_not2 ?_) | (with_reducible refine ev_if ?_) | (with_reducible refine ev_int ?_) | (with_reducible refine ev_bl ?_) | (with_reducible refine ev_non ?_) | (with_reducible refine ev_str ?_)
  | (with_reducible refine ea_nil ?_) | (with_reducible refine ea_cons ?_)
  | ((with_reducible refine' ev_var ?_ ?_); rotate_left; exact rfl) | ((with_reducible refine' o_ixT ?_ ?_); rotate_left; exact rfl) | (with_reducible refine zo_lenT ?_) | (with_reducible refine zo_lenS ?_) | ((with_reducible refine' zo_lenL ?_ ?_); rotate_left 2; (walk_at "zmem")) | (with_reducible refine ev_tup ?_) | (with_reducible refine ev_lst ?_)
  | (with_reducible refine o_I0 ?_) | (with_reducible refine o_B0 ?_) | (with_reducible refine o_neg ?_) | (with_reducible refine o_eqI ?_) | (with_reducible refine o_neI ?_)
  | (with_reducible refine fun (hq : true = false) => Bool.noConfusion hq) | (with_reducible refine fun (hq : false = true) => Bool.noConfusion hq) | (with_reducible refine fun (_ : true = true) => ?_) | (with_reducible refine fun (_ : false = false) => ?_)
  | (with_reducible refine ⟨_, rfl, ?_⟩) | (with_reducible refine ⟨_, _, rfl, ?_⟩) | (with_reducible refine ⟨_, _, _, rfl, ?_⟩) | (with_reducible refine ⟨fun (_ : true = true) => ?_, fun (hq : true = false) => Bool.noConfusion hq⟩) | (with_reducible refine ⟨fun (hq : false = true) => Bool.noConfusion hq, fun (_ : false = false) => ?_⟩) | (with_reducible refine ⟨Nat.le_of_ble_eq_true rfl, ?_⟩) | ((with_reducible refine ⟨fun hq => absurd hq ?_, fun _ => ?_⟩); (simp <;> omega)) | ((with_reducible refine ⟨fun _ => ?_, fun hq => absurd hq ?_⟩); rotate_left; (simp <;> omega)) | (with_reducible refine And.intro (?_ : _ = true → _) (?_ : _ = false → _)) | (with_reducible refine ev_bm ?_) | (with_reducible refine ss_fld ?_) | (with_reducible refine ev_fld ?_) | (with_reducible refine ev_prop ?_) | (with_reducible refine ev_meth ?_) | (with_reducible refine ev_make ?_) | ((with_reducible refine' And.intro (tyD_of ?_) ?_); rotate_left 2; (walk_at "zmem")))
local macro_rules | `(tactic| walk_at "zz") => `(tactic| repeat (walk_at "z1"))
local macro_rules | `(tactic| walk_at "zle") => `(tactic| repeat (first | exact trivial | refine And.intro rfl ?_ | exact LeD.refl _))
abbrev F_Room_present_odds (CO CP CR : Addr) : Spec := fun ds M Q => ∃ (r : Addr) (n : Nat) (obs : List Ob) (kept : List Nat) (p : Addr) (os : List Addr) (c : Bool) (b : Dt) (k : Nat) (o : Ob), ds = [.adr r, .int (k : Int)] ∧ RoomX CO CP CR M r n obs kept p os c b ∧ obs[k]? = some o ∧ Q (eQ (presOdds o kept)) M
theorem sc_Room_present_odds : FnScope ["self", "number", "kept", "labels", "odds", "result", "case", "mate"] ["self", "number"] (fnScope (stM 75 9)) := fnScope_by (by decide +kernel)
theorem fn_Room_present_odds {P : Program} {w : World} {K : PySem.W.Frag} {mg : Str → Option Value} {base : Heap} {f CO CP CR dQ : Addr} {tk : Tok} {es : Array DictEntry} {nn : Nat} (bi : Bi mg) (gMC : mg "MOST_CASES" = some (.int 12 tk)) (gCO : mg "Observer" = some (.ref CO)) (gQ : mg "QUESTIONS" = some (.ref dQ)) (kq : KDict K w dQ es nn) (hCO : Cls K CO) (na_ol : NoAttr K CO "own_labels") (na_op : NoAttr K CO "own_parts") (na_oo : NoAttr K CO "own_odds") (hCP : Cls K CP) (na_k : NoAttr K CP "kept") (na_b : NoAttr K CP "before") (hCR : Cls K CR) (na_w : NoAttr K CR "watchers") (na_s : NoAttr K CR "size") (na_p : NoAttr K CR "presence") (c_m_check_group : MetR P w K mg base 2 CR "check_group" (Pm K (F_Room_check_group CO CP CR))) (c_get_labels : PrpR P w K mg base 1 CO "labels" (Pm K (F_Observer_labels CO))) (c_get_odds : PrpR P w K mg base 1 CO "odds" (Pm K (F_Observer_odds CO))) (c_over : DefR P w K mg base 3 "over" (Pm K F_over)) (c_added : DefR P w K mg base 4 "added" (Pm K F_added)) (Fn : FnP K "present_odds" "Room.present_odds" (stM 75 9) f) : FnR P w K mg base CX0 5 f (Pm K (F_Room_present_odds CO CP CR)) :=
 fnr_of (F := (F_Room_present_odds CO CP CR)) Fn sc_Room_present_odds (fun _ _ _ _ _ _ us hl => match us, hl with | [_, _], _ => rfl) (fun ds M Q h => by obtain ⟨_, _, _, _, _, _, _, _, _, _, rfl, _⟩ := h; rfl) (fun cdv A outer s H E hr => ⟨_, (pss_cons (ps_expr (pe_mR c_m_check_group hr (by decide) (pv 0) (pa_cons (pe_tupF (pa_cons (pv 1) pa_nil)) pa_nil)))
 (pss_cons (ps_set (i := 2) sc_Room_present_odds.nd rfl (by first | exact Or.inl rfl | exact Or.inr rfl) (zpe_fld K (zpe_fld K (pv 0) rfl) rfl))
 (pss_cons (ps_set (i := 3) sc_Room_present_odds.nd rfl (by first | exact Or.inl rfl | exact Or.inr rfl) (pe_pR c_get_labels hr (by decide) (pe_ix (zix_tup K) (zpe_fld K (pv 0) rfl) (pv 1) (fun _ _ => rfl))))
 (pss_cons (ps_set (i := 4) sc_Room_present_odds.nd rfl (by first | exact Or.inl rfl | exact Or.inr rfl) (pe_pR c_get_odds hr (by decide) (pe_ix (zix_tup K) (zpe_fld K (pv 0) rfl) (pv 1) (fun _ _ => rfl))))
 (pss_cons (ps_set (i := 5) sc_Room_present_odds.nd rfl (by first | exact Or.inl rfl | exact Or.inr rfl) (pe_lst pa_nil))
 (pss_cons (ps_for PassesOwn.never rfl (zpi_tup K (pv 2)) (pg_name (i := 6) sc_Room_present_odds.nd rfl (by first | exact Or.inl rfl | exact Or.inr rfl))
 (pss_one (ps_expr (zpe_bm K F.plainAttrs_list F.slot_list_append F.type_list_append mt_append (pv 5) (pa_cons (pe_cD c_over hr (by decide) rfl (pa_cons (pe_ix (zix_tup K) (pv 4) (pv 6) (fun _ _ => rfl)) (pa_cons (pe_cD c_added hr (by decide) rfl (pa_cons (pe_lc rfl sc_Room_present_odds.nd (zpi_tup K (pv 2)) (blkOk_by (own := [("mate", 7)]) (by kernel_rfl)) (fun _ _ _ _ _ => (pg_name (i := 7) sc_Room_present_odds.nd rfl (by first | exact Or.inl rfl | exact Or.inr rfl))) (fun _ _ _ _ _ => (pts_one (pt_cmpR op_eq (pe_ix (zix_tup K) (pv 3) (pv 7) (fun _ _ => rfl)) (pe_ix (zix_tup K) (pv 3) (pv 6) (fun _ _ => rfl)) (nomark _)))) (fun _ _ _ _ _ => (pe_ix (zix_tup K) (pv 4) (pv 7) (fun _ _ => rfl)))) pa_nil)) pa_nil))) pa_nil)))))
 (pss_one (ps_ret (pe_callTy (zcall_tupF K) rfl bi.tuple zb_tuple (pa_cons (pv 5) pa_nil)))))))))), fun B ds M Q0 hF => by

  obtain ⟨r, n, obs, kept, p, os, c, b, k, o, rfl, hx, hk, q⟩ := hF
  have hok := hx.ok o (List.mem_of_getElem? hk)
  have hlt : k < obs.length := (List.getElem?_eq_some_iff.mp hk).1
  obtain ⟨a, ha, hca⟩ := zp_get hx.ob hk
  have hkn : ∀ x ∈ kept, x < n := fun x h => (asc_lt hx.ka x h).2
  have hkl : kept.length ≤ n := by have := asc_len hx.ka (Nat.zero_le _); omega
  have hn9 := hok.n2
  have gl : ∀ {x : Nat}, x ∈ kept → atI (eN o.lab) (x : Int) = some (Dt.int (o.l x : Nat)) := fun {x} h => atI_eN (by rw [hok.ll]; exact hkn x h)
  have go : ∀ {x : Nat}, x ∈ kept → atI (o.odds.map eF) (x : Int) = some (eF (o.odd x)) := fun {x} h => atI_mapg (Ob.odds_get (by rw [hok.ll]; exact hkn x h))
  walk_at "zz"
  refine ⟨⟨true, _, hx.rm, by rfl⟩, ?_⟩
  walk_at "zz"
  refine ⟨r, n, obs, kept, p, os, c, b, k, rfl, hx, hlt, ?_⟩
  walk_at "zz"
  refine ⟨r, true, CR, _, _, rfl, hx.rm, hCR, na_p, rfl, ?_⟩
  refine ⟨p, true, CP, _, _, rfl, hx.pr, hCP, na_k, rfl, ?_⟩
  walk_at "zz"
  refine ⟨r, true, CR, _, _, rfl, hx.rm, hCR, na_w, rfl, ?_⟩
  walk_at "zz"
  refine o_ixT (d := .adr a) (atI_mapg ha) ?_
  walk_at "zz"
  refine ⟨⟨true, _, hca⟩, a, true, _, _, rfl, hca, rfl, ?_⟩
  walk_at "zz"
  refine ⟨r, true, CR, _, _, rfl, hx.rm, hCR, na_w, rfl, ?_⟩
  walk_at "zz"
  refine o_ixT (d := .adr a) (atI_mapg ha) ?_
  walk_at "zz"
  refine ⟨⟨true, _, hca⟩, a, true, _, _, rfl, hca, rfl, ?_⟩
  walk_at "zz"
  intro p1
  walk_at "zz"
  refine ss_for (own := [6]) (ei_tup (ev_var rfl ⟨c, _, rfl, ?_⟩))
  refine ⟨fun i δ' M' => δ' = [some (.adr r), some (.int (k : Int)), some (.tup c (eN kept)), some (eT o.lab), some (eQ o.odds), some (.adr p1), none, none] ∧ M' = ⟨p1, true, .lst (((kept.take i).map (pOdd o kept)).map eF)⟩ :: M, fun _ _ _ _ _ => trivial, ⟨rfl, rfl⟩, ?_, ?_⟩
  · rintro i d δ' M' hi hf ⟨rfl, rfl⟩
    obtain ⟨x, hxi, rfl⟩ := eN_at hf
    have hxk := List.mem_of_getElem? hxi
    have hil : i < kept.length := by rw [eN_len] at hi; exact hi
    refine eg_name ?_
    walk_at "zz"
    refine o_ixT (go hxk) ?_
    walk_at "zz"
    refine ev_lcP (own := [7]) (by simp) (ei_tup (ev_var rfl ⟨c, _, rfl, ?_⟩))
    refine ⟨fun j => kept[j]?.bind fun y => if (o.l y == o.l x) = true then some (eF (o.odd y)) else none, by rw [eN_len]; omega, ?_, ?_⟩
    · intro B' j d hj hf
      obtain ⟨y, hy, rfl⟩ := eN_at hf
      have hyk := List.mem_of_getElem? hy
      refine eg_name ?_
      walk_at "zz"
      refine o_ixT (gl hyk) ?_
      walk_at "zz"
      refine o_ixT (gl hxk) ?_
      walk_at "zz"
      · intro hz
        have e : o.l y = o.l x := by have := of_decide_eq_true hz; omega
        walk_at "zz"
        refine o_ixT (go hyk) ?_
        refine ⟨List.Sublist.refl _, ?_⟩
        dsimp only
        rw [hy, Option.bind_some, if_pos (by simpa using e)]
      · intro hz
        have e : ¬ o.l y = o.l x := by have := of_decide_eq_false hz; omega
        refine ⟨List.Sublist.refl _, ?_⟩
        dsimp only
        rw [hy, Option.bind_some, if_neg (by simpa using e)]
    · intro p2
      have e3 : (List.range (eN kept).length).filterMap (fun j => kept[j]?.bind fun y => if (o.l y == o.l x) = true then some (eF (o.odd y)) else none) = ((kept.filter fun y => o.l y == o.l x).map o.odd).map eF := by
        rw [eN_len, fm_filter, fm_if, List.map_map]; rfl
      have hfl := List.length_filter_le (fun y => o.l y == o.l x) kept
      have hmem : ∀ z ∈ (kept.filter fun y => o.l y == o.l x).map o.odd, 0 < z ∧ Sz 9 z := fun z hz => by
        obtain ⟨y, hy, rfl⟩ := List.mem_map.mp hz
        have hyn := hkn y (List.mem_filter.mp hy).1
        exact ⟨hok.odd_pos hyn, hok.odd_sz hyn⟩
      have hne : (kept.filter fun y => o.l y == o.l x).map o.odd ≠ [] := List.ne_nil_of_mem (List.mem_map.mpr ⟨x, List.mem_filter.mpr ⟨hxk, by simp⟩, rfl⟩)
      have hb : ((kept.filter fun y => o.l y == o.l x).map o.odd).length ≤ 9 := by rw [List.length_map]; omega
      have hsz : Sz 91 (rsum ((kept.filter fun y => o.l y == o.l x).map o.odd)) := (rsum_sz fun z hz => (hmem z hz).2).mono (by omega)
      rw [e3]
      walk_at "zz"
      refine ⟨p2, true, _, 9, rfl, List.mem_cons_self, fun z hz => (hmem z hz).2, by omega, ?_⟩
      walk_at "zz"
      refine ⟨_, _, 9, 91, rfl, hok.odd_sz (hkn x hxk), hsz, by omega, rsum_pos (fun z hz => (hmem z hz).1) hne, ?_⟩
      walk_at "zz"
      refine o_append (p := 1) rfl (by simp; omega) ?_
      refine ⟨_, _, ?_, ?_, rfl, rfl⟩
      · walk_at "zle"
      · rw [take_snoc hxi, List.map_append, List.map_append]
        exact List.sublist_cons_self _ _
  · rintro δ' M' ⟨rfl, rfl⟩
    walk_at "zz"
    refine o_tupL List.mem_cons_self ?_
    rw [eN_len, List.take_length]
    exact ⟨M, List.sublist_cons_self _ _, q⟩
⟩)
abbrev F_Room_regions (CO CP CR : Addr) : Spec := fun ds M Q => ∃ (r : Addr) (n : Nat) (obs : List Ob) (kept : List Nat) (p : Addr) (os : List Addr) (c : Bool) (b : Dt), ds = [.adr r] ∧ RoomX CO CP CR M r n obs kept p os c b ∧ Q (.tup true ((regionsF obs kept).map eT)) M
theorem sc_Room_regions : FnScope ["self", "kept", "rows", "observer", "labels", "places", "case", "place"] ["self"] (fnScope (stM 75 8)) := fnScope_by (by decide +kernel)
theorem pr_Room_regions {P : Program} {w : World} {K : PySem.W.Frag} {mg : Str → Option Value} {base : Heap} {f CO CP CR dQ : Addr} {tk : Tok} {es : Array DictEntry} {nn : Nat} (bi : Bi mg) (gMC : mg "MOST_CASES" = some (.int 12 tk)) (gCO : mg "Observer" = some (.ref CO)) (gQ : mg "QUESTIONS" = some (.ref dQ)) (kq : KDict K w dQ es nn) (hCO : Cls K CO) (na_ol : NoAttr K CO "own_labels") (na_op : NoAttr K CO "own_parts") (na_oo : NoAttr K CO "own_odds") (hCP : Cls K CP) (na_k : NoAttr K CP "kept") (na_b : NoAttr K CP "before") (hCR : Cls K CR) (na_w : NoAttr K CR "watchers") (na_s : NoAttr K CR "size") (na_p : NoAttr K CR "presence") (c_get_labels : PrpR P w K mg base 1 CO "labels" (Pm K (F_Observer_labels CO))) (c_relabelled : DefR P w K mg base 1 "relabelled" (Pm K F_relabelled)) (c_grouped : DefR P w K mg base 1 "grouped" (Pm K F_grouped)) (c_joined : DefR P w K mg base 5 "joined" (Pm K F_joinedS)) {p : Addr} (hc : Cls K CR) (hp : PropOf K CR "regions" p f) (Fn : FnP K "regions" "Room.regions" (stM 75 8) f) : PrpR P w K mg base 6 CR "regions" (Pm K (F_Room_regions CO CP CR)) :=
 prp_of (F := (F_Room_regions CO CP CR)) hc hp Fn sc_Room_regions (fun _ _ _ _ _ _ us hl => match us, hl with | [_], _ => rfl) (fun ds M Q h => by obtain ⟨_, _, _, _, _, _, _, _, rfl, _⟩ := h; rfl) (fun cdv A outer s H E hr => ⟨_, (pss_cons (ps_set (i := 1) sc_Room_regions.nd rfl (by first | exact Or.inl rfl | exact Or.inr rfl) (zpe_fld K (zpe_fld K (pv 0) rfl) rfl))
 (pss_cons (ps_set (i := 2) sc_Room_regions.nd rfl (by first | exact Or.inl rfl | exact Or.inr rfl) (pe_lst pa_nil))
 (pss_cons (ps_for PassesOwn.never rfl (zpi_tup K (zpe_fld K (pv 0) rfl)) (pg_name (i := 3) sc_Room_regions.nd rfl (by first | exact Or.inl rfl | exact Or.inr rfl))
 (pss_cons (ps_set (i := 4) sc_Room_regions.nd rfl (by first | exact Or.inl rfl | exact Or.inr rfl) (pe_pR c_get_labels hr (by decide) (pv 3)))
 (pss_one (ps_expr (zpe_bm K F.plainAttrs_list F.slot_list_append F.type_list_append mt_append (pv 2) (pa_cons (pe_cD c_relabelled hr (by decide) rfl (pa_cons (pe_lc rfl sc_Room_regions.nd (zpi_tup K (pv 1)) (blkOk_by (own := [("case", 6)]) (by kernel_rfl)) (fun _ _ _ _ _ => (pg_name (i := 6) sc_Room_regions.nd rfl (by first | exact Or.inl rfl | exact Or.inr rfl))) (fun _ _ _ _ _ => pts_nil) (fun _ _ _ _ _ => (pe_ix (zix_tup K) (pv 4) (pv 6) (fun _ _ => rfl)))) pa_nil)) pa_nil))))))
 (pss_one (ps_ret (pe_callTy (zcall_tupF K) rfl bi.tuple zb_tuple (pa_cons (pe_lc rfl sc_Room_regions.nd (zpi_tup K (pe_cD c_grouped hr (by decide) rfl (pa_cons (zpe_cS K c_joined hr (by decide) rfl (pv 2)) pa_nil))) (blkOk_by (own := [("places", 5)]) (by kernel_rfl)) (fun _ _ _ _ _ => (pg_name (i := 5) sc_Room_regions.nd rfl (by first | exact Or.inl rfl | exact Or.inr rfl))) (fun _ _ _ _ _ => pts_nil) (fun _ _ _ _ _ => (pe_callTy (zcall_tupF K) rfl bi.tuple zb_tuple (pa_cons (pe_lc rfl sc_Room_regions.nd (zpi_tup K (pv 5)) (blkOk_by (own := [("place", 7)]) (by kernel_rfl)) (fun _ _ _ _ _ => (pg_name (i := 7) sc_Room_regions.nd rfl (by first | exact Or.inl rfl | exact Or.inr rfl))) (fun _ _ _ _ _ => pts_nil) (fun _ _ _ _ _ => (pe_ix (zix_tup K) (pv 1) (pv 7) (fun _ _ => rfl)))) pa_nil)))) pa_nil))))))), fun B ds M Q0 hF => by

  obtain ⟨r, n, obs, kept, p, os, c, b, rfl, hx, q⟩ := hF
  have hkn : ∀ x ∈ kept, x < n := fun x h => (asc_lt hx.ka x h).2
  have hkl : kept.length ≤ n := by have := asc_len hx.ka (Nat.zero_le _); omega
  have hl := zp_len hx.ob
  have hn9 : n ≤ 9 := by
    have : 0 < obs.length := hx.o1
    exact (hx.ok _ (List.getElem_mem this)).n2
  have hk1 : 1 ≤ kept.length := by
    have := hx.kn
    cases kept with
    | nil => exact absurd rfl this
    | cons a r => simp
  have ho2 := hx.o2
  have ho1 := hx.o1
  walk_at "zz"
  refine ⟨r, true, CR, _, _, rfl, hx.rm, hCR, na_p, rfl, ?_⟩
  refine ⟨p, true, CP, _, _, rfl, hx.pr, hCP, na_k, rfl, ?_⟩
  walk_at "zz"
  intro p1
  walk_at "zz"
  refine ss_for (own := [3]) (ei_tup ?_)
  walk_at "zz"
  refine ⟨r, true, CR, _, _, rfl, List.mem_cons_of_mem _ hx.rm, hCR, na_w, rfl, false, _, rfl, ?_⟩
  refine ⟨fun i δ' M' => δ' = [some (.adr r), some (.tup c (eN kept)), some (.adr p1), none, none, none, none, none] ∧ M' = ⟨p1, true, .lst (((obs.take i).map (rowF kept)).map eT)⟩ :: M, fun _ _ _ _ _ => trivial, ⟨rfl, rfl⟩, ?_, ?_⟩
  · rintro i d δ' M' hi hf ⟨rfl, rfl⟩
    obtain ⟨x, hxi, rfl⟩ := get_map hf
    have hil : i < obs.length := by rw [List.length_map] at hi; omega
    obtain ⟨o, ho⟩ : ∃ o, obs[i]? = some o := ⟨obs[i], List.getElem?_eq_getElem hil⟩
    obtain ⟨x', hx', hc⟩ := zp_get hx.ob ho
    rw [hxi] at hx'
    cases hx'
    have hok := hx.ok o (List.mem_of_getElem? ho)
    have gl : ∀ {x : Nat}, x ∈ kept → atI (eN o.lab) (x : Int) = some (Dt.int (o.l x : Nat)) := fun {x} h => atI_eN (by rw [hok.ll]; exact hkn x h)
    refine eg_name ?_
    walk_at "zz"
    refine ⟨⟨true, _, List.mem_cons_of_mem _ hc⟩, x, true, _, _, rfl, List.mem_cons_of_mem _ hc, rfl, ?_⟩
    walk_at "zz"
    refine ev_lcP (own := [6]) (by simp) (ei_tup (ev_var rfl ⟨c, _, rfl, ?_⟩))
    refine ⟨fun j => kept[j]?.map fun y => Dt.int (o.l y : Nat), by rw [eN_len]; omega, ?_, ?_⟩
    · intro B' j d hj hf
      obtain ⟨y, hy, rfl⟩ := eN_at hf
      refine eg_name ?_
      walk_at "zz"
      refine o_ixT (gl (List.mem_of_getElem? hy)) ?_
      refine ⟨List.Sublist.refl _, ?_⟩
      dsimp only
      rw [hy]
      rfl
    · intro p2
      rw [fmI, ← eN_map]
      walk_at "zz"
      refine ⟨p2, true, _, rfl, List.mem_cons_self, by rw [List.length_map]; omega, ?_⟩
      walk_at "zz"
      refine o_append (p := 1) rfl (by simp; omega) ?_
      refine ⟨_, _, ?_, ?_, rfl, rfl⟩
      · walk_at "zle"
      · rw [take_snoc ho, List.map_append, List.map_append]
        exact List.sublist_cons_self _ _
  · rintro δ' M' ⟨rfl, rfl⟩
    rw [List.length_map, hl, List.take_length]
    walk_at "zz"
    refine ev_lcP (own := [5]) (by simp) (ei_tup ?_)
    walk_at "zz"
    refine ev_star ?_
    walk_at "zz"
    refine ⟨_, .inr ⟨p1, true, rfl, List.mem_cons_self⟩, obs.map (rowF kept), kept.length, rfl, by intro z; rw [List.map_eq_nil_iff] at z; rw [z] at ho1; simp at ho1, by rw [List.length_map]; omega, hk1, by omega, ?_, ?_⟩
    · intro rr hrr
      obtain ⟨o, ho, rfl⟩ := List.mem_map.mp hrr
      exact ⟨by unfold rowF; rw [relab_len, List.length_map], (relab_rgs _).1⟩
    have hjl : (relab (joinG kept.length (obs.map (rowF kept)))).length = kept.length := by rw [relab_len, joinG_len]
    have hjm : ∀ x ∈ relab (joinG kept.length (obs.map (rowF kept))), x < kept.length := fun x h => by have := relab_lt _ x h; rwa [joinG_len] at this
    have hgl : (groups (relab (joinG kept.length (obs.map (rowF kept))))).length ≤ 100 := by
      rw [groups_len]
      have := maxN_le (ls := relab (joinG kept.length (obs.map (rowF kept)))) (b := 9) fun x h => by have := hjm x h; omega
      omega
    walk_at "zz"
    refine ⟨by intro z; rw [z] at hjl; simp at hjl; omega, by omega, fun x h => by have := hjm x h; omega, true, _, rfl, ?_⟩
    refine ⟨fun j => (groups (relab (joinG kept.length (obs.map (rowF kept)))))[j]?.map fun pl => eT (pl.map fun i => kept.getD i 0), by rw [List.length_map]; omega, ?_, ?_⟩
    · intro B' j d hj hf
      obtain ⟨pl, hpl, rfl⟩ := get_map hf
      have hplt : ∀ z ∈ pl, z < kept.length := fun z hz => by
        obtain ⟨_, e⟩ := groups_get hpl
        rw [e] at hz
        have := (List.getElem?_eq_some_iff.mp (mem_group.mp hz)).1
        omega
      have hpll : pl.length ≤ 100 := by
        obtain ⟨_, e⟩ := groups_get hpl
        rw [e]
        have := List.length_filter_le (fun z => (relab (joinG kept.length (obs.map (rowF kept))))[z]? == some j) (List.range (relab (joinG kept.length (obs.map (rowF kept)))).length)
        rw [List.length_range, hjl] at this
        rw [hjl]
        omega
      refine eg_name ?_
      walk_at "zz"
      refine ev_lcP (own := [7]) (by simp) (ei_tup (ev_var rfl ⟨true, _, rfl, ?_⟩))
      refine ⟨fun z => pl[z]?.map fun y => Dt.int (kept.getD y 0 : Nat), by rw [eN_len]; omega, ?_, ?_⟩
      · intro B2 z d hz hf
        obtain ⟨y, hy, rfl⟩ := eN_at hf
        refine eg_name ?_
        walk_at "zz"
        refine o_ixT (atI_eN (hplt y (List.mem_of_getElem? hy))) ?_
        refine ⟨List.Sublist.refl _, ?_⟩
        dsimp only
        rw [hy]
        rfl
      · intro p2
        rw [fmI, ← eN_map]
        walk_at "zz"
        refine o_tupL List.mem_cons_self ?_
        refine ⟨List.sublist_cons_self _ _, ?_⟩
        dsimp only
        rw [hpl]
        rfl
    · intro p2
      rw [List.length_map, fm_map]
      walk_at "zz"
      refine o_tupL List.mem_cons_self ?_
      refine ⟨M, (List.sublist_cons_self _ _).trans (List.sublist_cons_self _ _), ?_⟩
      unfold regionsF at q
      rw [List.map_map] at q
      exact q
⟩)
end Zy
set_option Elab.async false
set_option linter.all false
set_option maxRecDepth 100000
set_option maxHeartbeats 4000000
namespace Zy
open PySem PySem.Spec PyProof.Rows L2
open C8 (fnBody fnArgs fnScope clsBody scC fnScope_by)

local macro_rules | `(tactic| walk_at "zmem") => `(tactic| repeat (first | exact List.mem_cons_self | assumption | refine List.mem_cons_of_mem _ ?_))
local macro_rules | `(tactic| walk_at "z1") => `(tactic| first
  | (with_reducible refine ss_seq ?_) | (with_reducible refine ss_next ?_) | (with_reducible refine ss_ret ?_) | (with_reducible refine ss_set ?_) | (with_reducible refine ss_if ?_)
  | (with_reducible refine ss_drop ?_) | (with_reducible refine ss_par ?_) | (with_reducible refine ss_par3 ?_)
  | (with_reducible refine et_test ?_) | (with_reducible refine et_B ?_) | (with_reducible refine et_and ?_) | (with_reducible refine et_or ?_) | (with_reducible refine et_not2 ?_) | (with_reducible refine et_yes ?_)
  | (with_reducible refine ev_op ?_) | (with_reducible refine ev_un ?_) | (with_reducible refine isi_ii ?_) | (with_reducible refine isi_ib ?_) | (with_reducible refine isi_tt ?_) | (with_reducible refine isi_ss ?_)
  | (with_reducible refine ev_cb ?_) | (with_reducible refine ev_call ?_) | (with_reducible refine ev_chain ?_)
  | (with_reducible refine ev_and ?_) | (with_reducible refine ev_or ?_) | (with_reducible refine ev_not2 ?_) | (with_reducible refine ev_if ?_) | (with_reducible refine ev_int ?_) | (with_reducible refine ev_bl ?_) | (with_reducible refine ev_non ?_) | (with_reducible refine ev_str ?_)
  | (with_reducible refine ea_nil ?_) | (with_reducible refine ea_cons ?_)
  | ((with_reducible refine' ev_var ?_ ?_); rotate_left; exact rfl) | ((with_reducible refine' o_ixT ?_ ?_); rotate_left; exact rfl) | (with_reducible refine zo_lenT ?_) | (with_reducible refine zo_lenS ?_) | ((with_reducible refine' zo_lenL ?_ ?_); rotate_left 2; (walk_at "zmem")) | (with_reducible refine ev_tup ?_) | (with_reducible refine ev_lst ?_)
  | (with_reducible refine o_I0 ?_) | (with_reducible refine o_B0 ?_) | (with_reducible refine o_neg ?_) | (with_reducible refine o_eqI ?_) | (with_reducible refine o_neI ?_)
  | (with_reducible refine fun (hq : true = false) => Bool.noConfusion hq) | (with_reducible refine fun (hq : false = true) => Bool.noConfusion hq) | (with_reducible refine fun (_ : true = true) => ?_) | (with_reducible refine fun (_ : false = false) => ?_)
  | (with_reducible refine ⟨_, rfl, ?_⟩) | (with_reducible refine ⟨_, _, rfl, ?_⟩) | (with_reducible refine ⟨_, _, _, rfl, ?_⟩) | (with_reducible refine ⟨fun (_ : true = true) => ?_, fun (hq : true = false) => Bool.noConfusion hq⟩) | (with_reducible refine ⟨fun (hq : false = true) => Bool.noConfusion hq, fun (_ : false = false) => ?_⟩) | (with_reducible refine ⟨Nat.le_of_ble_eq_true rfl, ?_⟩) | ((with_reducible refine ⟨fun hq => absurd hq ?_, fun _ => ?_⟩); (simp <;> omega)) | ((with_reducible refine ⟨fun _ => ?_, fun hq => absurd hq ?_⟩); rotate_left; (simp <;> omega)) | (with_reducible refine And.intro (?_ : _ = true → _) (?_ : _ = false → _)) | (with_reducible refine ev_bm ?_) | (with_reducible refine ss_fld ?_) | (with_reducible refine ev_fld ?_) | (with_reducible refine ev_prop ?_) | (with_reducible refine ev_meth ?_) | (with_reducible refine ev_make ?_) | ((with_reducible refine' And.intro (tyD_of ?_) ?_); rotate_left 2; (walk_at "zmem")))
local macro_rules | `(tactic| walk_at "zz") => `(tactic| repeat (walk_at "z1"))
local macro_rules | `(tactic| walk_at "zle") => `(tactic| repeat (first | exact trivial | refine And.intro rfl ?_ | exact LeD.refl _))
abbrev F_Room_answer (CO CP CR : Addr) : Spec := fun ds M Q => ∃ (r : Addr) (n : Nat) (obs : List Ob) (kept : List Nat) (p : Addr) (os : List Addr) (c : Bool) (b : Dt) (z : Str) (args : List Dt), ds = [.adr r, .str z, .tup false args] ∧ RoomX CO CP CR M r n obs kept p os c b ∧ ((z = "cases" ∧ args = [] ∧ ∀ c2, Q (.tup c2 (eN kept)) M) ∨ (z = "regions" ∧ args = [] ∧ Q (.tup true ((regionsF obs (kept)).map eT)) M) ∨ ∃ (k : Nat) (o : Ob), z = "present_odds" ∧ args = [.int (k : Int)] ∧ obs[k]? = some o ∧ Q (eQ (presOdds o (kept))) M)
theorem sc_Room_answer : FnScope ["self", "question", "arguments"] ["self", "question", "arguments"] (fnScope (stM 75 14)) := fnScope_by (by decide +kernel)
theorem fn_Room_answer {P : Program} {w : World} {K : PySem.W.Frag} {mg : Str → Option Value} {base : Heap} {f CO CP CR dQ : Addr} {tk : Tok} {es : Array DictEntry} {nn : Nat} (bi : Bi mg) (gMC : mg "MOST_CASES" = some (.int 12 tk)) (gCO : mg "Observer" = some (.ref CO)) (gQ : mg "QUESTIONS" = some (.ref dQ)) (kq : KDict K w dQ es nn) (hCO : Cls K CO) (na_ol : NoAttr K CO "own_labels") (na_op : NoAttr K CO "own_parts") (na_oo : NoAttr K CO "own_odds") (hCP : Cls K CP) (na_k : NoAttr K CP "kept") (na_b : NoAttr K CP "before") (hCR : Cls K CR) (na_w : NoAttr K CR "watchers") (na_s : NoAttr K CR "size") (na_p : NoAttr K CR "presence") (c_get_cases : PrpR P w K mg base 1 CR "cases" (Pm K (F_Room_cases CO CP CR))) (c_get_regions : PrpR P w K mg base 6 CR "regions" (Pm K (F_Room_regions CO CP CR))) (cls_present_odds : Cls K CR) (bm_present_odds : BMeth K CR "present_odds" g_present_odds) (fn_present_odds : FnR P w K mg base CX0 5 g_present_odds (Pm K (F_Room_present_odds CO CP CR))) (Fn : FnP K "answer" "Room.answer" (stM 75 14) f) : FnR P w K mg base CX0 10 f (Pm K (F_Room_answer CO CP CR)) :=
 fnr_of (F := (F_Room_answer CO CP CR)) Fn sc_Room_answer (fun _ _ _ _ _ _ us hl => match us, hl with | [_, _, _], _ => rfl) (fun ds M Q h => by obtain ⟨_, _, _, _, _, _, _, _, _, _, rfl, _⟩ := h; rfl) (fun cdv A outer s H E hr => ⟨_, (pss_one (ps_match (pv 1) (pm_cons (pss_one (ps_ret (pe_pR c_get_cases hr (by decide) (pv 0)))) (pm_cons (pss_one (ps_ret (pe_pR c_get_regions hr (by decide) (pv 0)))) (pm_cons (pss_one (ps_ret (zpe_mS K cls_present_odds bm_present_odds fn_present_odds hr (by decide) (pv 0) (pv 2)))) (pm_cons pss_never pm_nil)))))), fun B ds M Q0 hF => by

  obtain ⟨r, n, obs, kept, p, os, c, b, z, args, rfl, hx, h⟩ := hF
  refine ss_match ?_
  walk_at "zz"
  refine ss_case (fun e => ?_) fun n1 => ss_case (fun e => ?_) fun n2 => ss_case (fun e => ?_) fun n3 => ?_
  · subst e
    walk_at "zz"
    refine ⟨⟨true, _, hx.rm⟩, r, n, obs, kept, p, os, c, b, rfl, hx, ?_⟩
    rcases h with ⟨_, _, q⟩ | ⟨e, _⟩ | ⟨_, _, e, _⟩
    · exact WkM.of (q c)
    · exact absurd e (by decide)
    · exact absurd e (by decide)
  · subst e
    walk_at "zz"
    refine ⟨⟨true, _, hx.rm⟩, r, n, obs, kept, p, os, c, b, rfl, hx, ?_⟩
    rcases h with ⟨e, _⟩ | ⟨_, _, q⟩ | ⟨_, _, e, _⟩
    · exact absurd e (by decide)
    · exact WkM.of q
    · exact absurd e (by decide)
  · subst e
    rcases h with ⟨e, _⟩ | ⟨e, _⟩ | ⟨k, o, _, rfl, ho, q⟩
    · exact absurd e (by decide)
    · exact absurd e (by decide)
    walk_at "zz"
    refine ev_methS ?_
    walk_at "zz"
    refine ⟨⟨true, _, hx.rm, by rfl⟩, fun B' => ev_var rfl ⟨false, _, rfl, rfl, ?_⟩⟩
    exact ⟨r, n, obs, kept, p, os, c, b, k, o, rfl, hx, ho, WkM.of q⟩
  · exfalso
    rcases h with ⟨e, _⟩ | ⟨e, _⟩ | ⟨_, _, e, _⟩
    · exact n1 e
    · exact n2 e
    · exact n3 e
⟩)
abbrev F_Room_supposed (CO CP CR : Addr) : Spec := fun ds M Q => ∃ (r : Addr) (n : Nat) (obs : List Ob) (kept : List Nat) (p : Addr) (os : List Addr) (c : Bool) (b : Dt) (evs : List (List Nat)) (z : Str) (args : List Dt) (i : Nat), ds = [.adr r, .tup true (evs.map eT), .str z, .tup false args] ∧ RoomX CO CP CR M r n obs kept p os c b ∧ M[i]? = some (prC CP p (.tup c (eN kept)) b) ∧ evs.length ≤ 10 ∧ (∀ e ∈ evs, ascE n 0 e) ∧ evs.foldl cutE kept ≠ [] ∧ ((z = "cases" ∧ args = [] ∧ ∀ c2, Q (.tup c2 (eN (evs.foldl cutE kept))) (M.set i (prC CP p (.tup c (eN kept)) (.tup c (eN kept))))) ∨ (z = "regions" ∧ args = [] ∧ Q (.tup true ((regionsF obs ((evs.foldl cutE kept))).map eT)) (M.set i (prC CP p (.tup c (eN kept)) (.tup c (eN kept))))) ∨ ∃ (k : Nat) (o : Ob), z = "present_odds" ∧ args = [.int (k : Int)] ∧ obs[k]? = some o ∧ Q (eQ (presOdds o ((evs.foldl cutE kept)))) (M.set i (prC CP p (.tup c (eN kept)) (.tup c (eN kept)))))
abbrev F_Room_supposedS (CO CP CR : Addr) : Spec := fun ds M Q => ∃ (r : Addr) (n : Nat) (obs : List Ob) (kept : List Nat) (p : Addr) (os : List Addr) (c : Bool) (b : Dt) (evs : List (List Nat)) (z : Str) (args : List Dt) (i : Nat), ds = .adr r :: .tup true (evs.map eT) :: .str z :: args ∧ RoomX CO CP CR M r n obs kept p os c b ∧ M[i]? = some (prC CP p (.tup c (eN kept)) b) ∧ evs.length ≤ 10 ∧ (∀ e ∈ evs, ascE n 0 e) ∧ evs.foldl cutE kept ≠ [] ∧ ((z = "cases" ∧ args = [] ∧ ∀ c2, Q (.tup c2 (eN (evs.foldl cutE kept))) (M.set i (prC CP p (.tup c (eN kept)) (.tup c (eN kept))))) ∨ (z = "regions" ∧ args = [] ∧ Q (.tup true ((regionsF obs ((evs.foldl cutE kept))).map eT)) (M.set i (prC CP p (.tup c (eN kept)) (.tup c (eN kept))))) ∨ ∃ (k : Nat) (o : Ob), z = "present_odds" ∧ args = [.int (k : Int)] ∧ obs[k]? = some o ∧ Q (eQ (presOdds o ((evs.foldl cutE kept)))) (M.set i (prC CP p (.tup c (eN kept)) (.tup c (eN kept)))))
theorem sc_Room_supposed : FnScope ["self", "events", "question", "arguments", "event", "presence", "case"] ["self", "events", "question", "arguments"] (fnScope (stM 75 13)) := fnScope_by (by decide +kernel)
theorem fn_Room_supposed {P : Program} {w : World} {K : PySem.W.Frag} {mg : Str → Option Value} {base : Heap} {f CO CP CR dQ : Addr} {tk : Tok} {es : Array DictEntry} {nn : Nat} (bi : Bi mg) (gMC : mg "MOST_CASES" = some (.int 12 tk)) (gCO : mg "Observer" = some (.ref CO)) (gQ : mg "QUESTIONS" = some (.ref dQ)) (kq : KDict K w dQ es nn) (hCO : Cls K CO) (na_ol : NoAttr K CO "own_labels") (na_op : NoAttr K CO "own_parts") (na_oo : NoAttr K CO "own_odds") (hCP : Cls K CP) (na_k : NoAttr K CP "kept") (na_b : NoAttr K CP "before") (hCR : Cls K CR) (na_w : NoAttr K CR "watchers") (na_s : NoAttr K CR "size") (na_p : NoAttr K CR "presence") (kd : ∀ (z : Str) (j : Int), (z, j) ∈ [(("cases" : Str), (0 : Int)), ("regions", 0), ("present_odds", 1)] → KDct K w dQ z (.int j)) (c_is_valid_event : DefR P w K mg base 2 "is_valid_event" (Pm K F_is_valid_event)) (c_with : WthR P w K mg base 1 CP (Pm K (F_Presence___enter__ CP)) (Pm K (F_Presence___exit__ CP))) (c_m_answer : MetR P w K mg base 10 CR "answer" (Pm K (F_Room_answer CO CP CR))) (Fn : FnP K "supposed" "Room.supposed" (stM 75 13) f) : FnR P w K mg base CX0 11 f (Pm K (F_Room_supposedS CO CP CR)) :=
 (fns_of (F := (F_Room_supposed CO CP CR)) (ps := ["self", "events", "question"]) Fn sc_Room_supposed (fun _ _ _ _ _ _ us rest hl => match us, hl, rest with | [_, _, _], _, [] => rfl | [_, _, _], _, _ :: _ => rfl) (fun ds M Q h => by obtain ⟨_, _, _, _, _, _, _, _, _, _, _, _, rfl, _⟩ := h; rfl) (fun cdv A outer s H E hr => ⟨_, (pss_cons (ps_if (pt_not (pt_val (pe_callB (zcall_isi K) rfl bi.isinstance zb_isinstance (pa_cons (pv 1) (pa_cons (pe_bltn (v := .ty "tuple") rfl bi.tuple zb_tuple rfl) pa_nil)))))
 pss_never
 pss_nil)
 (pss_cons (ps_for PassesOwn.never rfl (zpi_tup K (pv 1)) (pg_name (i := 4) sc_Room_supposed.nd rfl (by first | exact Or.inl rfl | exact Or.inr rfl))
 (pss_one (ps_if (pt_not (pt_val (pe_cD c_is_valid_event hr (by decide) rfl (pa_cons (pv 4) (pa_cons (zpe_fld K (pv 0) rfl) pa_nil)))))
 pss_never
 pss_nil)))
 (pss_cons (ps_if (PW.pt (pw_or (pt_not (pt_val (pe_callB (zcall_isi K) rfl bi.isinstance zb_isinstance (pa_cons (pv 2) (pa_cons (pe_bltn (v := .ty "str") rfl bi.str zb_str rfl) pa_nil))))) (pw_or (pt_cmpR (op_notIn_kd kq) (pv 2) (pe_glob (v := .ref dQ) rfl gQ rfl) (by rfl)) (pw_or1 (pt_cmpR op_ne (pe_ix ix_kdict (pe_glob (v := .ref dQ) rfl gQ rfl) (pv 2) (fun _ _ => rfl)) (pe_callB (zcall_len_seq K) rfl bi.len zb_len (pa_cons (pv 3) pa_nil)) (nomark _))))))
 pss_never
 pss_nil)
 (pss_one (ps_with c_with hr (by decide) (i := 5) sc_Room_supposed.nd rfl (by first | exact Or.inl rfl | exact Or.inr rfl) (zpe_fld K (pv 0) rfl)
 (pss_cons (ps_for PassesOwn.never rfl (zpi_tup K (pv 1)) (pg_name (i := 4) sc_Room_supposed.nd rfl (by first | exact Or.inl rfl | exact Or.inr rfl))
 (pss_one (zps_fld K (pv 5) (pe_callTy (zcall_tupF K) rfl bi.tuple zb_tuple (pa_cons (pe_lc rfl sc_Room_supposed.nd (zpi_tup K (zpe_fld K (pv 5) rfl)) (blkOk_by (own := [("case", 6)]) (by kernel_rfl)) (fun _ _ _ _ _ => (pg_name (i := 6) sc_Room_supposed.nd rfl (by first | exact Or.inl rfl | exact Or.inr rfl))) (fun _ _ _ _ _ => (pts_one (pt_cmpR (zop_in_seq K) (pv 6) (pv 4) (by rfl)))) (fun _ _ _ _ _ => (pv 6))) pa_nil)) rfl)))
 (pss_cons (ps_if (pt_cmpR op_eq (pe_callB (zcall_len_seq K) rfl bi.len zb_len (pa_cons (zpe_fld K (pv 5) rfl) pa_nil)) pe_int (nomark _))
 pss_never
 pss_nil)
 (pss_one (ps_ret (pe_mR c_m_answer hr (by decide) (pv 0) (pa_cons (pv 2) (pa_cons (pv 3) pa_nil)))))))))))), fun B ds M Q0 hF => by

  obtain ⟨r, n, obs, kept, p, os, c, b, evs, z, args, i, rfl, hx, hi, hev, hea, hne, h⟩ := hF
  have hkn : ∀ x ∈ kept, x < n := fun x h => (asc_lt hx.ka x h).2
  have hkl : kept.length ≤ n := by have := asc_len hx.ka (Nat.zero_le _); omega
  have hn9 : n ≤ 9 := by
    have : 0 < obs.length := hx.o1
    exact (hx.ok _ (List.getElem_mem this)).n2
  have hq : ∃ j : Int, KDct K w dQ z (.int j) ∧ j = args.length := by
    rcases h with ⟨e, e2, _⟩ | ⟨e, e2, _⟩ | ⟨_, _, e, e2, _⟩
    · exact ⟨0, kd _ _ (by rw [e]; simp), by rw [e2]; rfl⟩
    · exact ⟨0, kd _ _ (by rw [e]; simp), by rw [e2]; rfl⟩
    · exact ⟨1, kd _ _ (by rw [e]; simp), by rw [e2]; rfl⟩
  obtain ⟨j, hkd, hj⟩ := hq
  have hkd2 := hkd
  obtain ⟨es', nn', u', _, _, hns, _⟩ := hkd2
  walk_at "zz"
  refine ss_for (own := [4]) (ei_tup (ev_var rfl ⟨true, _, rfl, ?_⟩))
  refine ⟨fun i δ' M' => M' = M ∧ δ' = [some (.adr r), some (.tup true (evs.map eT)), some (.str z), some (.tup false args), none, none, none], fun _ _ _ _ _ => trivial, ⟨rfl, rfl⟩, ?_, ?_⟩
  · rintro i d δ' M' hi hf ⟨rfl, rfl⟩
    obtain ⟨e, he, rfl⟩ := get_map hf
    refine eg_name ?_
    walk_at "zz"
    refine ⟨r, true, CR, _, _, rfl, hx.rm, hCR, na_s, rfl, ?_⟩
    walk_at "zz"
    refine ⟨hea e (List.mem_of_getElem? he), ?_⟩
    walk_at "zz"
    refine ⟨_, _, ?_, List.Sublist.refl _, rfl, rfl⟩
    walk_at "zle"
  · rintro δ' M' ⟨rfl, rfl⟩
    walk_at "zz"
    refine ev_adr ?_
    refine o_ninK hns ?_
    walk_at "zz"
    refine ev_adr ?_
    walk_at "zz"
    refine o_itemK hkd ?_
    walk_at "zz"
    refine ss_with ?_
    walk_at "zz"
    refine ⟨r, true, CR, _, _, rfl, hx.rm, hCR, na_p, rfl, p, true, _, rfl, hx.pr, ?_⟩
    refine ⟨p, _, b, i, rfl, hi, ?_⟩
    generalize hM2 : M'.set i (prC CP p (.tup c (eN kept)) (.tup c (eN kept))) = M2 at h ⊢
    have hset : ∀ X : Cell, M'.set i X = M2.set i X := fun X => by rw [← hM2, List.set_set]
    have hi2 : M2[i]? = some (prC CP p (.tup c (eN kept)) (.tup c (eN kept))) := by
      rw [← hM2, List.getElem?_set_self (List.getElem?_eq_some_iff.mp hi).1]
    have hx2 : RoomX CO CP CR M2 r n obs kept p os c (.tup c (eN kept)) := by rw [← hM2]; exact hx.set hi hx.ka hx.kn
    have hir : ∀ {X : Cell}, (M2.set i X)[i]? = some X := fun {X} => List.getElem?_set_self (List.getElem?_eq_some_iff.mp hi2).1
    walk_at "z1"
    refine ss_for (own := [4]) (ei_tup (ev_var rfl ⟨true, _, rfl, ?_⟩))
    refine ⟨fun m δ' M' => δ' = [some (.adr r), some (.tup true (evs.map eT)), some (.str z), some (.tup false args), none, some (.adr p), none] ∧ ∃ c3, M' = M2.set i (prC CP p (.tup c3 (eN ((evs.take m).foldl cutE kept))) (.tup c (eN kept))), fun _ _ _ _ _ => trivial, ⟨rfl, c, (zset_self hi2).symm⟩, ?_, ?_⟩
    · rintro m d δ' M' hm hf ⟨rfl, c3, rfl⟩
      obtain ⟨e, he, rfl⟩ := get_map hf
      generalize hK : (evs.take m).foldl cutE kept = K1
      have hnext : (evs.take (m + 1)).foldl cutE kept = cutE K1 e := by rw [take_snoc he, List.foldl_append, hK]; rfl
      have hK1 : K1.length ≤ n := by
        have a1 : ascE n 0 K1 := by rw [← hK]; exact asc_folds hx.ka
        have := asc_len a1 (Nat.zero_le _)
        omega
      refine eg_name ?_
      walk_at "zz"
      refine ev_lcP (own := [6]) (by simp) (ei_tup ?_)
      walk_at "zz"
      refine ⟨p, true, CP, _, _, rfl, List.mem_of_getElem? hir, hCP, na_k, rfl, c3, _, rfl, ?_⟩
      refine ⟨fun y => K1[y]?.bind fun x => if decide (x ∈ e) = true then some (Dt.int (x : Nat)) else none, by rw [eN_len]; omega, ?_, ?_⟩
      · intro B' y d hy hf
        obtain ⟨x, hx1, rfl⟩ := eN_at hf
        refine eg_name ?_
        walk_at "zz"
        refine o_inT ?_
        walk_at "zz"
        · intro hz
          have e1 : x ∈ e := by have := of_decide_eq_true hz; rwa [nI_mem] at this
          walk_at "zz"
          refine ⟨List.Sublist.refl _, ?_⟩
          dsimp only
          rw [hx1, Option.bind_some, if_pos (by simpa using e1)]
        · intro hz
          have e1 : x ∉ e := by have := of_decide_eq_false hz; rwa [nI_mem] at this
          refine ⟨List.Sublist.refl _, ?_⟩
          dsimp only
          rw [hx1, Option.bind_some, if_neg (by simpa using e1)]
      · intro p2
        have e3 : (List.range (eN K1).length).filterMap (fun y => K1[y]?.bind fun x => if decide (x ∈ e) = true then some (Dt.int (x : Nat)) else none) = eN (cutE K1 e) := by
          rw [eN_len, fm_filter, fm_if]
          unfold cutE
          rw [← eN_map (f := fun x => x), List.map_id']
        rw [e3]
        walk_at "zz"
        refine o_tupL List.mem_cons_self ?_
        walk_at "zz"
        refine ⟨p, CP, _, i + 1, rfl, hir, hCP, na_k, by simp, ?_⟩
        refine ⟨_, _, ?_, ?_, rfl, true, rfl⟩
        · walk_at "zle"
        · rw [hnext]
          show List.Sublist _ (_ :: ((M2.set i _).set i _))
          rw [List.set_set]
          exact List.sublist_cons_self _ _
    · rintro δ' M' ⟨rfl, c3, rfl⟩
      rw [List.length_map, List.take_length]
      generalize hK : evs.foldl cutE kept = K1 at hne h ⊢
      have ha1 : ascE n 0 K1 := by rw [← hK]; exact asc_folds hx.ka
      have hx3 : RoomX CO CP CR (M2.set i (prC CP p (.tup c3 (eN K1)) (.tup c (eN kept)))) r n obs K1 p os c3 (.tup c (eN kept)) := hx2.set hi2 ha1 hne
      have hl0 : 0 < K1.length := by cases K1 with
        | nil => exact absurd rfl hne
        | cons a r => simp
      walk_at "zz"
      refine ⟨p, true, CP, _, _, rfl, List.mem_of_getElem? hir, hCP, na_k, rfl, ?_⟩
      walk_at "zz"
      refine ⟨⟨true, _, hx3.rm, by rfl⟩, ?_⟩
      walk_at "zz"
      refine ⟨r, n, obs, K1, p, os, c3, _, z, args, rfl, hx3, ?_⟩
      have hexit : ∀ d, Q0 d M2 → F_Presence___exit__ CP [.adr p, .non, .non, .non] (M2.set i (prC CP p (.tup c3 (eN K1)) (.tup c (eN kept)))) fun _ M4 => WkM (Q0 d) M4 := fun d hd =>
        ⟨p, _, _, i, rfl, hir, WkM.of (by rw [List.set_set, zset_self hi2]; exact hd)⟩
      rcases h with ⟨e1, e2, h⟩ | ⟨e1, e2, h⟩ | ⟨k, o, e1, e2, e3, h⟩
      · exact .inl ⟨e1, e2, fun c2 => hexit _ (h c2)⟩
      · exact .inr (.inl ⟨e1, e2, hexit _ h⟩)
      · exact .inr (.inr ⟨k, o, e1, e2, e3, hexit _ h⟩)
⟩)).imp (pm_imp fun ds M Q ⟨r, n, obs, kept, p, os, c, b, evs, z, args, i, e, h⟩ => ⟨by rw [e]; simp, by
    have ha : args.length ≤ 1 := by
      rcases h.2.2.2.2.2 with ⟨_, e, _⟩ | ⟨_, e, _⟩ | ⟨_, _, _, e, _⟩ <;> rw [e] <;> simp
    rw [e]; simp; omega, r, n, obs, kept, p, os, c, b, evs, z, args, i, by rw [e]; rfl, h⟩)
end Zy
set_option Elab.async false
set_option linter.all false
set_option maxRecDepth 100000
set_option maxHeartbeats 4000000
namespace Zy
open PySem PySem.Spec PyProof.Rows L2
/-! ### the rows of present parts, the steps, what is reached -/
structure Rw where
  num : Nat
  part : List Nat
  q : Nat → Rat
abbrev rowD (r : Rw) : Dt := .tup true [.int (r.num : Int), eT r.part, eQ (r.part.map r.q)]
def rowP (kept : List Nat) (j : Nat) (o : Ob) (pl : List Nat) : Rw := ⟨j, pl.map fun i => kept.getD i 0, pOdd o kept⟩
def rowsT (kept cs : List Nat) (j : Nat) (o : Ob) (L : List (List Nat)) : List Rw := (L.filter fun pl => decide (kept.getD (pl.headD 0) 0 ∈ cs)).map (rowP kept j o)
def rowsOf (kept cs : List Nat) (j : Nat) (o : Ob) : List Rw := rowsT kept cs j o (groups (rowF kept o))
theorem rowsT_yes {kept cs : List Nat} {j : Nat} {o : Ob} {L : List (List Nat)} {pl : List Nat} (h : kept.getD (pl.headD 0) 0 ∈ cs) : rowsT kept cs j o (L ++ [pl]) = rowsT kept cs j o L ++ [rowP kept j o pl] := by
  unfold rowsT
  rw [List.filter_append, List.map_append, List.filter_cons, decide_eq_true h]
  rfl
theorem rowsT_no {kept cs : List Nat} {j : Nat} {o : Ob} {L : List (List Nat)} {pl : List Nat} (h : ¬ kept.getD (pl.headD 0) 0 ∈ cs) : rowsT kept cs j o (L ++ [pl]) = rowsT kept cs j o L := by
  unfold rowsT
  rw [List.filter_append, List.map_append, List.filter_cons, decide_eq_false h]
  simp
theorem rowsT_len {kept cs : List Nat} {j : Nat} {o : Ob} {L : List (List Nat)} : (rowsT kept cs j o L).length ≤ L.length := by
  unfold rowsT
  rw [List.length_map]
  exact List.length_filter_le _ _
def obAt (obs : List Ob) (j : Nat) : Ob := obs.getD j ⟨[], []⟩
def rowsU (obs : List Ob) (kept cs : List Nat) (n : Nat) : List Rw := (List.range n).flatMap fun j => rowsOf kept cs j (obAt obs j)
def rowsP (obs : List Ob) (kept cs : List Nat) : List Rw := rowsU obs kept cs obs.length
theorem rowsU_succ {obs : List Ob} {kept cs : List Nat} {n : Nat} : rowsU obs kept cs (n + 1) = rowsU obs kept cs n ++ rowsOf kept cs n (obAt obs n) := by
  unfold rowsU
  rw [List.range_succ, List.flatMap_append]
  simp
structure RwOk (r : Rw) : Prop where
  ne : r.part ≠ []
  ln : r.part.length ≤ 9
  q0 : ∀ x ∈ r.part, 0 < r.q x ∧ Sz 100 (r.q x)
structure Step where
  num : Nat
  y : Nat
  q : Rat
abbrev stD (s : Step) : Dt := .tup true [.int (s.num : Int), .int (s.y : Int), eF s.q]
def stepsR (h : Nat) (r : Rw) : List Step := if h ∈ r.part then (r.part.filter fun x => !decide (x = h)).map fun x => ⟨r.num, x, r.q x / r.q h⟩ else []
def stepsF (rs : List Rw) (h : Nat) : List Step := rs.flatMap (stepsR h)
theorem stepsF_snoc {rs : List Rw} {r : Rw} {h : Nat} : stepsF (rs ++ [r]) h = stepsF rs h ++ stepsR h r := by
  unfold stepsF
  rw [List.flatMap_append]
  simp
theorem stepsR_len {r : Rw} {h : Nat} : (stepsR h r).length ≤ r.part.length := by
  unfold stepsR
  split
  · rw [List.length_map]; exact List.length_filter_le _ _
  · exact Nat.zero_le _
theorem stepsF_len {rs : List Rw} {h : Nat} (ok : ∀ r ∈ rs, RwOk r) : (stepsF rs h).length ≤ 9 * rs.length := by
  induction rs with
  | nil => simp [stepsF]
  | cons r l ih =>
    have e : stepsF (r :: l) h = stepsR h r ++ stepsF l h := by simp [stepsF]
    rw [e, List.length_append, List.length_cons]
    have h1 : (stepsR h r).length ≤ r.part.length := stepsR_len
    have h2 := (ok r List.mem_cons_self).ln
    have h3 := ih fun x hx => ok x (List.mem_cons_of_mem _ hx)
    omega
structure Ent where
  x : Nat
  s : Nat
  q : Rat
  wk : List (Nat × Nat × Nat)
abbrev wkD (t : Nat × Nat × Nat) : Dt := .tup true [.int (t.1 : Int), .int (t.2.1 : Int), .int (t.2.2 : Int)]
abbrev entV (e : Ent) : Dt := .tup true [.int (e.s : Int), eF e.q, .tup true (e.wk.map wkD)]
abbrev entD (e : Ent) : Int × Dt := ((e.x : Int), entV e)
def wtR (R : List Ent) (x : Nat) : Rat := ((R.find? fun e => decide (e.x = x)).map (·.q)).getD 0
theorem valD_ent {R : List Ent} {x : Nat} : valD (R.map entD) (x : Int) = (R.find? fun e => decide (e.x = x)).map entV := by
  unfold valD
  induction R with
  | nil => rfl
  | cons e r ih =>
    rw [List.map_cons, List.find?_cons, List.find?_cons]
    by_cases h : e.x = x
    · have h2 : (e.x : Int) = (x : Int) := by omega
      simp [h]
    · have h2 : ¬ (e.x : Int) = (x : Int) := by omega
      simp [h, h2] at ih ⊢
      exact ih
theorem find_ent {R : List Ent} {x : Nat} (h : ∃ e ∈ R, e.x = x) : ∃ e ∈ R, e.x = x ∧ (R.find? fun e => decide (e.x = x)) = some e := by
  obtain ⟨e, he, hx⟩ := h
  cases q : R.find? fun e => decide (e.x = x) with
  | none =>
    have := List.find?_eq_none.mp q e he
    simp [hx] at this
  | some e' => exact ⟨e', List.mem_of_find?_eq_some q, by simpa using List.find?_some q, rfl⟩
theorem find_none {R : List Ent} {x : Nat} : (R.find? fun e => decide (e.x = x)) = none ↔ ∀ e ∈ R, e.x ≠ x := by
  rw [List.find?_eq_none]
  simp
/-- u agrees with the steps -/
def ConS (rs : List Rw) (cs : List Nat) (u : Nat → Rat) : Prop := ∀ x ∈ cs, ∀ s ∈ stepsF rs x, u s.y = s.q * u x
structure SprOk (rs : List Rw) (cs : List Nat) : Prop where
  ok : ∀ r ∈ rs, RwOk r
  rl : rs.length ≤ 36
  c1 : cs ≠ []
  c9 : cs.length ≤ 9
  nd : cs.Nodup
  st : ∀ x ∈ cs, ∀ s ∈ stepsF rs x, s.y ∈ cs ∧ 0 < s.q ∧ Sz 6 s.q
  co : ∀ S : Nat → Prop, S (cs.headD 0) → (∀ x ∈ cs, S x → ∀ s ∈ stepsF rs x, S s.y) → ∀ y ∈ cs, S y
/-- an entry that stands at the place i -/
structure EntOk (rs : List Rw) (cs : List Nat) (i : Nat) (e : Ent) : Prop where
  mem : e.x ∈ cs
  st : e.s = cs.headD 0
  pos : 0 < e.q
  sz : Sz (6 * i + 1) e.q
  wk : e.wk.length ≤ i
  con : ∀ u, ConS rs cs u → e.q * u (cs.headD 0) = u e.x
structure RInv (rs : List Rw) (cs : List Nat) (R : List Ent) : Prop where
  nd : (R.map Ent.x).Nodup
  ok : ∀ i e, R[i]? = some e → EntOk rs cs i e
theorem RInv.len {rs : List Rw} {cs : List Nat} {R : List Ent} (h : RInv rs cs R) : R.length ≤ cs.length := by
  have s : ∀ x ∈ R.map Ent.x, x ∈ cs := fun x hx => by
    obtain ⟨e, he, rfl⟩ := List.mem_map.mp hx
    obtain ⟨i, hi⟩ := List.getElem?_of_mem he
    exact (h.ok i e hi).mem
  have := h.nd.length_le_of_subset s
  rwa [List.length_map] at this
theorem RInv.first {rs : List Rw} {cs : List Nat} (h : cs ≠ []) : RInv rs cs [⟨cs.headD 0, cs.headD 0, 1, []⟩] := by
  refine ⟨by simp, fun i e hi => ?_⟩
  cases i with
  | succ i => simp at hi
  | zero =>
    have e1 := Option.some.inj hi
    subst e1
    refine ⟨?_, rfl, by show (0 : Rat) < 1; decide, by show Sz (6 * 0 + 1) 1; decide, Nat.le_refl _, fun u _ => by show 1 * u (cs.headD 0) = u (cs.headD 0); rw [Rat.one_mul]⟩
    cases cs with
    | nil => exact absurd rfl h
    | cons a r => exact List.mem_cons_self
theorem RInv.snoc {rs : List Rw} {cs : List Nat} {R : List Ent} (h : RInv rs cs R) (hs : SprOk rs cs) {e : Ent} (he : e ∈ R) {s : Step} (hst : s ∈ stepsF rs e.x) (hn : ∀ f ∈ R, f.x ≠ s.y) (t : Nat × Nat × Nat) :
    RInv rs cs (R ++ [⟨s.y, e.s, e.q * s.q, e.wk ++ [t]⟩]) := by
  obtain ⟨j, hj⟩ := List.getElem?_of_mem he
  have hjl : j < R.length := (List.getElem?_eq_some_iff.mp hj).1
  have k := h.ok j e hj
  obtain ⟨s1, s2, s3⟩ := hs.st e.x k.mem s hst
  refine ⟨?_, fun i f hi => ?_⟩
  · rw [List.map_append, List.nodup_append]
    refine ⟨h.nd, by simp, fun a ha b hb => ?_⟩
    obtain ⟨f, hf, rfl⟩ := List.mem_map.mp ha
    simp at hb
    subst hb
    exact hn f hf
  · by_cases hi2 : i < R.length
    · rw [List.getElem?_append_left hi2] at hi
      exact h.ok i f hi
    · rw [List.getElem?_append_right (by omega)] at hi
      have e0 : i - R.length = 0 := by
        cases q : i - R.length with
        | zero => rfl
        | succ m => rw [q] at hi; simp at hi
      rw [e0] at hi
      have hf : f = ⟨s.y, e.s, e.q * s.q, e.wk ++ [t]⟩ := by simpa using hi.symm
      subst hf
      refine ⟨s1, k.st, Rat.mul_pos k.pos s2, (k.sz.mul s3).mono (by omega), by have := k.wk; simp; omega, fun u hu => ?_⟩
      have h1 := k.con u hu
      have h2 := hu e.x k.mem s hst
      show e.q * s.q * u (cs.headD 0) = u s.y
      rw [h2, ← h1]
      grind
theorem enumA_at {os : List Addr} {i : Nat} {d : Dt} (h : (fun i => (os.map Dt.adr)[i]?.map fun d => Dt.tup false [.int (i : Nat), d]) i = some d) : ∃ x, os[i]? = some x ∧ d = .tup false [.int (i : Nat), .adr x] := by
  have h' : (os.map Dt.adr)[i]?.map (fun d => Dt.tup false [.int (i : Nat), d]) = some d := h
  obtain ⟨z, hz, e⟩ := Option.map_eq_some_iff.mp h'
  obtain ⟨x, hx, e2⟩ := get_map hz
  subst e2
  exact ⟨x, hx, e.symm⟩
theorem zip_at {ks : List Nat} {q : Nat → Rat} {i : Nat} {d : Dt} (h : (fun i => (eN ks)[i]?.bind fun d => ((ks.map q).map eF)[i]?.map fun e => Dt.tup false [d, e]) i = some d) : ∃ x, ks[i]? = some x ∧ d = .tup false [.int (x : Nat), eF (q x)] := by
  have h' : (eN ks)[i]?.bind (fun d => ((ks.map q).map eF)[i]?.map fun e => Dt.tup false [d, e]) = some d := h
  obtain ⟨z, hz, e⟩ := Option.bind_eq_some_iff.mp h'
  obtain ⟨x, hx, e2⟩ := eN_at (i := i) hz
  subst e2
  rw [List.getElem?_map, List.getElem?_map, hx] at e
  exact ⟨x, hx, (Option.some.inj e).symm⟩
/-- the end of spread -/
structure RFin (rs : List Rw) (cs : List Nat) (R : List Ent) : Prop where
  inv : RInv rs cs R
  all : ∀ y ∈ cs, ∃ e ∈ R, e.x = y
theorem wtR_of {R : List Ent} {x : Nat} {e : Ent} (h : (R.find? fun e => decide (e.x = x)) = some e) : wtR R x = e.q := by unfold wtR; rw [h]; rfl
theorem RFin.wt {rs : List Rw} {cs : List Nat} {R : List Ent} (h : RFin rs cs R) {x : Nat} (hx : x ∈ cs) (c9 : cs.length ≤ 9) : 0 < wtR R x ∧ Sz 61 (wtR R x) ∧ ∀ u, ConS rs cs u → wtR R x * u (cs.headD 0) = u x := by
  obtain ⟨e, he, ex, hf⟩ := find_ent (h.all x hx)
  obtain ⟨i, hi⟩ := List.getElem?_of_mem he
  have hil := (List.getElem?_eq_some_iff.mp hi).1
  have k := h.inv.ok i e hi
  have l := h.inv.len
  rw [wtR_of hf]
  exact ⟨k.pos, k.sz.mono (by omega), fun u hu => by rw [k.con u hu, ex]⟩
theorem mem_steps {rs : List Rw} {r : Rw} {x y : Nat} (hr : r ∈ rs) (hx : x ∈ r.part) (hy : y ∈ r.part) (ne : y ≠ x) : (⟨r.num, y, r.q y / r.q x⟩ : Step) ∈ stepsF rs x := by
  unfold stepsF
  rw [List.mem_flatMap]
  refine ⟨r, hr, ?_⟩
  unfold stepsR
  rw [if_pos hx]
  refine List.mem_map.mpr ⟨y, List.mem_filter.mpr ⟨hy, by simpa using ne⟩, rfl⟩
theorem of_steps {rs : List Rw} {x : Nat} {s : Step} (h : s ∈ stepsF rs x) : ∃ r ∈ rs, x ∈ r.part ∧ s.y ∈ r.part ∧ s.q = r.q s.y / r.q x := by
  unfold stepsF at h
  rw [List.mem_flatMap] at h
  obtain ⟨r, hr, h⟩ := h
  unfold stepsR at h
  split at h
  · rename_i hx
    obtain ⟨y, hy, e⟩ := List.mem_map.mp h
    subst e
    exact ⟨r, hr, hx, (List.mem_filter.mp hy).1, rfl⟩
  · cases h
theorem head_mem {ks : List Nat} (h : ks ≠ []) : ks.headD 0 ∈ ks := by
  cases ks with
  | nil => exact absurd rfl h
  | cons a r => exact List.mem_cons_self
/-- every row agrees with the weights -/
def Agree (rs : List Rw) (R : List Ent) : Prop := ∀ r ∈ rs, ∀ x ∈ r.part, wtR R (r.part.headD 0) * (r.q x / r.q (r.part.headD 0)) = wtR R x
theorem agree_con {rs : List Rw} {cs : List Nat} {R : List Ent} (ok : ∀ r ∈ rs, RwOk r) (h : Agree rs R) : ConS rs cs (wtR R) := fun x hx s hs => by
  obtain ⟨r, hr, hxp, hyp, e⟩ := of_steps hs
  have h1 := h r hr x hxp
  have h2 := h r hr s.y hyp
  have k := ok r hr
  have q0 := (k.q0 _ (head_mem k.ne)).1
  have qx := (k.q0 x hxp).1
  rw [e, ← h1, ← h2]
  have n0 : r.q (r.part.headD 0) ≠ 0 := by grind
  have nx : r.q x ≠ 0 := by grind
  grind
theorem con_agree {rs : List Rw} {cs : List Nat} {R : List Ent} (hs : SprOk rs cs) (hc : ∀ r ∈ rs, ∀ x ∈ r.part, x ∈ cs) (h : RFin rs cs R) {u : Nat → Rat} (hu : ConS rs cs u) (hp : ∀ x ∈ cs, 0 < u x) : Agree rs R := fun r hr x hx => by
  have k := hs.ok r hr
  have hm := head_mem k.ne
  have h0 := (h.wt (hc r hr _ hm) hs.c9).2.2 u hu
  have h1 := (h.wt (hc r hr x hx) hs.c9).2.2 u hu
  have hh := hp _ (head_mem hs.c1)
  have q0 := (k.q0 _ hm).1
  by_cases e : x = r.part.headD 0
  · rw [← e] at q0 ⊢
    have : r.q x ≠ 0 := by grind
    grind
  · have st := hu _ (hc r hr _ hm) _ (mem_steps hr hm hx e)
    have st' : u x = r.q x / r.q (r.part.headD 0) * u (r.part.headD 0) := st
    rw [← h0, ← h1] at st'
    have hn : u (cs.headD 0) ≠ 0 := by grind
    grind
end Zy
set_option Elab.async false
set_option linter.all false
set_option maxRecDepth 100000
set_option maxHeartbeats 1000000
namespace Zy
/-! ### labels made small -/
theorem relF_spec (ks : List Nat) : (∀ k ∈ ks, k ∈ (relF ks).1) ∧ (relF ks).2 = ks.map fun k => (relF ks).1.idxOf k := by
  have g : ∀ n, n ≤ ks.length → (∀ k ∈ ks.take n, k ∈ (relF (ks.take n)).1) ∧ (relF (ks.take n)).2 = (ks.take n).map fun k => (relF (ks.take n)).1.idxOf k := by
    intro n
    induction n with
    | zero => intro _; exact ⟨fun k hk => by simp at hk, rfl⟩
    | succ n ih =>
      intro hn
      have e : ks[n]? = some (ks[n]'(by omega)) := List.getElem?_eq_getElem (by omega)
      rw [take_snoc e, relF_snoc]
      generalize ks[n]'(by omega) = k
      obtain ⟨h1, h2⟩ := ih (by omega)
      have hs : ∀ z ∈ (relF (ks.take n)).1, z ∈ (relS (relF (ks.take n)) k).1 ∧ (relS (relF (ks.take n)) k).1.idxOf z = (relF (ks.take n)).1.idxOf z := fun z hz => by
        unfold relS
        by_cases h : k ∈ (relF (ks.take n)).1
        · simp only [h, if_true]; exact ⟨hz, trivial⟩
        · simp only [h, if_false]
          exact ⟨List.mem_append_left _ hz, by rw [List.idxOf_append, if_pos hz]⟩
      have hk : k ∈ (relS (relF (ks.take n)) k).1 := by
        unfold relS
        by_cases h : k ∈ (relF (ks.take n)).1
        · simp only [h, if_true]
        · simp only [h, if_false]; simp
      refine ⟨fun z hz => ?_, ?_⟩
      · rcases List.mem_append.mp hz with hz | hz
        · exact (hs z (h1 z hz)).1
        · have : z = k := by simpa using hz
          rw [this]; exact hk
      · rw [List.map_append]
        have e2 : (relS (relF (ks.take n)) k).2 = (relF (ks.take n)).2 ++ [(relS (relF (ks.take n)) k).1.idxOf k] := rfl
        rw [e2, h2]
        congr 1
        exact List.map_congr_left fun z hz => ((hs z (h1 z hz)).2).symm
  have := g ks.length (Nat.le_refl _)
  rwa [List.take_length] at this
theorem relab_get {ks : List Nat} {i k : Nat} (h : ks[i]? = some k) : (relab ks)[i]? = some ((relF ks).1.idxOf k) := by
  unfold relab
  rw [(relF_spec ks).2, List.getElem?_map, h]; rfl
theorem idxOf_inj' {l : List Nat} {a b : Nat} (ha : a ∈ l) (hb : b ∈ l) (h : l.idxOf a = l.idxOf b) : a = b := by
  have h1 := List.getElem_idxOf (List.idxOf_lt_length_iff.mpr ha)
  have h2 := List.getElem_idxOf (List.idxOf_lt_length_iff.mpr hb)
  have h3 : l[l.idxOf a]? = some a := by rw [List.getElem?_eq_getElem (List.idxOf_lt_length_iff.mpr ha), h1]
  have h4 : l[l.idxOf b]? = some b := by rw [List.getElem?_eq_getElem (List.idxOf_lt_length_iff.mpr hb), h2]
  rw [h, h4] at h3
  exact (Option.some.inj h3).symm
theorem relab_iff {ks : List Nat} {i j a b : Nat} (hi : ks[i]? = some a) (hj : ks[j]? = some b) : (relab ks)[i]? = (relab ks)[j]? ↔ a = b := by
  rw [relab_get hi, relab_get hj]
  constructor
  · intro h
    exact idxOf_inj' ((relF_spec ks).1 a (List.mem_of_getElem? hi)) ((relF_spec ks).1 b (List.mem_of_getElem? hj)) (Option.some.inj h)
  · rintro rfl; rfl

/-! ### joining -/
def at0 (g : List Nat) (i : Nat) : Nat := g.getD i 0
theorem at0_get {g : List Nat} {i : Nat} (h : i < g.length) : g[i]? = some (at0 g i) := by
  unfold at0
  rw [List.getElem?_eq_getElem h]; simp [h]
theorem mergeC_at {k c i : Nat} {g : List Nat} (h : i < g.length) : at0 (mergeC k g c) i = if at0 g i = at0 g c then k else at0 g i := by
  unfold at0 mergeC
  simp [h]
def Clo (m : Nat) (rows : List (List Nat)) (S : Nat → Prop) : Prop := ∀ ls ∈ rows, ∀ i j, i < m → j < m → ls[i]? = ls[j]? → (S i ↔ S j)
def Conn (m : Nat) (rows : List (List Nat)) (i j : Nat) : Prop := ∀ S, Clo m rows S → (S i ↔ S j)
def Snd (m : Nat) (rows : List (List Nat)) (g : List Nat) : Prop := g.length = m ∧ ∀ i j, i < m → j < m → at0 g i = at0 g j → Conn m rows i j
/-- equal before, equal behind -/
def Fol (m : Nat) (g g' : List Nat) : Prop := ∀ i j, i < m → j < m → at0 g i = at0 g j → at0 g' i = at0 g' j
theorem foldC_step {m : Nat} {rows : List (List Nat)} {k p0 : Nat} : ∀ {part g : List Nat}, Snd m rows g → p0 < m → at0 g p0 = k → (∀ c ∈ part, c < m ∧ Conn m rows p0 c) →
    Snd m rows (part.foldl (mergeC k) g) ∧ Fol m g (part.foldl (mergeC k) g) ∧ (∀ i, i < m → at0 g i = k → at0 (part.foldl (mergeC k) g) i = k) ∧ ∀ c ∈ part, at0 (part.foldl (mergeC k) g) c = k
  | [], g, hs, hp, hk, _ => ⟨hs, fun _ _ _ _ e => e, fun _ _ e => e, fun c hc => by cases hc⟩
  | c :: r, g, hs, hp, hk, hc => by
    obtain ⟨hcm, hcc⟩ := hc c List.mem_cons_self
    have hl := hs.1
    have at1 : ∀ i, i < m → at0 (mergeC k g c) i = if at0 g i = at0 g c then k else at0 g i := fun i hi => mergeC_at (by omega)
    have s1 : Snd m rows (mergeC k g c) := by
      refine ⟨by rw [mergeC_len]; exact hl, fun i j hi hj e => ?_⟩
      rw [at1 i hi, at1 j hj] at e
      by_cases ei : at0 g i = at0 g c
      · by_cases ej : at0 g j = at0 g c
        · exact hs.2 i j hi hj (ei.trans ej.symm)
        · rw [if_pos ei, if_neg ej] at e
          have a1 := hs.2 i c hi hcm ei
          have a2 := hs.2 j p0 hj hp (by rw [hk]; exact e.symm)
          exact fun S hS => (a1 S hS).trans ((hcc S hS).symm.trans (a2 S hS).symm)
      · by_cases ej : at0 g j = at0 g c
        · rw [if_neg ei, if_pos ej] at e
          have a1 := hs.2 j c hj hcm ej
          have a2 := hs.2 i p0 hi hp (by rw [hk]; exact e)
          exact fun S hS => (a2 S hS).trans ((hcc S hS).trans (a1 S hS).symm)
        · rw [if_neg ei, if_neg ej] at e
          exact hs.2 i j hi hj e
    have f1 : Fol m g (mergeC k g c) := fun i j hi hj e => by rw [at1 i hi, at1 j hj, e]
    have k1 : ∀ i, i < m → at0 g i = k → at0 (mergeC k g c) i = k := fun i hi e => by
      rw [at1 i hi]; split
      · rfl
      · exact e
    have c1 : at0 (mergeC k g c) c = k := by rw [at1 c hcm, if_pos rfl]
    obtain ⟨r1, r2, r3, r4⟩ := foldC_step (part := r) s1 hp (k1 p0 hp hk) fun x hx => hc x (List.mem_cons_of_mem _ hx)
    refine ⟨r1, fun i j hi hj e => r2 i j hi hj (f1 i j hi hj e), fun i hi e => r3 i hi (k1 i hi e), fun x hx => ?_⟩
    rcases List.mem_cons.mp hx with rfl | hx
    · exact r3 x hcm c1
    · exact r4 x hx
theorem mergeP_step {m : Nat} {rows : List (List Nat)} {part g : List Nat} (hs : Snd m rows g) (hne : part ≠ []) (hc : ∀ c ∈ part, c < m ∧ ∀ d ∈ part, Conn m rows c d) :
    Snd m rows (mergeP g part) ∧ Fol m g (mergeP g part) ∧ ∀ c ∈ part, ∀ d ∈ part, at0 (mergeP g part) c = at0 (mergeP g part) d := by
  obtain ⟨p0, r, ep⟩ : ∃ p0 r, part = p0 :: r := by
    cases part with
    | nil => exact absurd rfl hne
    | cons a r => exact ⟨a, r, rfl⟩
  have hp0 : p0 ∈ part := by rw [ep]; exact List.mem_cons_self
  have eM : mergeP g part = part.foldl (mergeC (at0 g p0)) g := by unfold mergeP at0; rw [ep]; rfl
  rw [eM]
  obtain ⟨h1, h2, _, h4⟩ := foldC_step (part := part) (k := at0 g p0) (p0 := p0) hs (hc p0 hp0).1 rfl fun c hcp => ⟨(hc c hcp).1, (hc p0 hp0).2 c hcp⟩
  exact ⟨h1, h2, fun c hcp d hd => (h4 c hcp).trans (h4 d hd).symm⟩
theorem foldP_step {m : Nat} {rows : List (List Nat)} : ∀ {ps : List (List Nat)} {g : List Nat}, Snd m rows g → (∀ p ∈ ps, p ≠ [] ∧ ∀ c ∈ p, c < m ∧ ∀ d ∈ p, Conn m rows c d) →
    Snd m rows (ps.foldl mergeP g) ∧ Fol m g (ps.foldl mergeP g) ∧ ∀ p ∈ ps, ∀ c ∈ p, ∀ d ∈ p, at0 (ps.foldl mergeP g) c = at0 (ps.foldl mergeP g) d
  | [], g, hs, _ => ⟨hs, fun _ _ _ _ e => e, fun p hp => by cases hp⟩
  | p :: r, g, hs, hc => by
    obtain ⟨hne, hcc⟩ := hc p List.mem_cons_self
    obtain ⟨h1, h2, h3⟩ := mergeP_step hs hne hcc
    obtain ⟨r1, r2, r3⟩ := foldP_step (ps := r) h1 fun q hq => hc q (List.mem_cons_of_mem _ hq)
    refine ⟨r1, fun i j hi hj e => r2 i j hi hj (h2 i j hi hj e), fun q hq c hcq d hd => ?_⟩
    rcases List.mem_cons.mp hq with rfl | hq
    · exact r2 c d (hcc c hcq).1 (hcc d hd).1 (h3 c hcq d hd)
    · exact r3 q hq c hcq d hd
theorem foldL_step {m : Nat} {rows : List (List Nat)} : ∀ {l : List (List Nat)} {g : List Nat}, (∀ ls ∈ l, ls ∈ rows ∧ ls.length = m ∧ rgs 0 ls ∧ ls ≠ []) → Snd m rows g →
    Snd m rows (l.foldl mergeL g) ∧ Fol m g (l.foldl mergeL g) ∧ ∀ ls ∈ l, ∀ i j, i < m → j < m → ls[i]? = ls[j]? → at0 (l.foldl mergeL g) i = at0 (l.foldl mergeL g) j
  | [], g, _, hs => ⟨hs, fun _ _ _ _ e => e, fun ls h => by cases h⟩
  | ls :: r, g, hl, hs => by
    obtain ⟨hin, hlen, hrg, hne⟩ := hl ls List.mem_cons_self
    have hpt : ∀ p ∈ groups ls, p ≠ [] ∧ ∀ c ∈ p, c < m ∧ ∀ d ∈ p, Conn m rows c d := fun p hp => by
      obtain ⟨k, hk⟩ := List.getElem?_of_mem hp
      obtain ⟨_, e⟩ := groups_get hk
      have hm : ∀ c ∈ p, c < m ∧ ls[c]? = some k := fun c hc => by
        rw [e] at hc
        have z := mem_group.mp hc
        exact ⟨by rw [← hlen]; exact (List.getElem?_eq_some_iff.mp z).1, z⟩
      refine ⟨groups_ne hrg hne p hp, fun c hc => ⟨(hm c hc).1, fun d hd S hS => hS ls hin c d (hm c hc).1 (hm d hd).1 ((hm c hc).2.trans (hm d hd).2.symm)⟩⟩
    obtain ⟨h1, h2, h3⟩ := foldP_step (ps := groups ls) hs hpt
    obtain ⟨r1, r2, r3⟩ := foldL_step (l := r) (g := mergeL g ls) (fun x hx => hl x (List.mem_cons_of_mem _ hx)) h1
    refine ⟨r1, fun i j hi hj e => r2 i j hi hj (h2 i j hi hj e), fun q hq i j hi hj e => ?_⟩
    rcases List.mem_cons.mp hq with rfl | hq
    · refine r2 i j hi hj ?_
      have hi2 : i < q.length := by rw [hlen]; exact hi
      have ei := List.getElem?_eq_getElem hi2
      have hkm : q[i] ≤ maxN q := le_maxN _ (List.getElem_mem hi2)
      have hg : (groups q)[q[i]]? = some ((List.range q.length).filter fun z => q[z]? == some q[i]) := by
        unfold groups
        rw [List.getElem?_map, List.getElem?_range (by omega)]; rfl
      exact h3 _ (List.mem_of_getElem? hg) i (mem_group.mpr ei) j (mem_group.mpr (e.symm.trans ei))
    · exact r3 q hq i j hi hj e
/-- what joined gives -/
theorem joinG_spec {m : Nat} {rows : List (List Nat)} (hl : ∀ ls ∈ rows, ls.length = m ∧ rgs 0 ls ∧ ls ≠ []) :
    (∀ i j, i < m → j < m → at0 (joinG m rows) i = at0 (joinG m rows) j → Conn m rows i j) ∧ ∀ ls ∈ rows, ∀ i j, i < m → j < m → ls[i]? = ls[j]? → at0 (joinG m rows) i = at0 (joinG m rows) j := by
  have s0 : Snd m rows (List.range m) := ⟨List.length_range, fun i j hi hj e => by
    have : i = j := by
      unfold at0 at e
      simpa [hi, hj] using e
    subst this
    exact fun S _ => Iff.rfl⟩
  obtain ⟨h1, _, h3⟩ := foldL_step (l := rows) (fun ls h => ⟨h, hl ls h⟩) s0
  exact ⟨h1.2, h3⟩
end Zy
set_option Elab.async false
set_option linter.all false
set_option maxRecDepth 100000
set_option maxHeartbeats 1000000
namespace Zy
/-! ### regions of a room -/
/-- what is known of a room's data -/
structure RmOk (n : Nat) (obs : List Ob) (kept : List Nat) : Prop where
  ok : ∀ o ∈ obs, ObOk n o
  o1 : 1 ≤ obs.length
  o2 : obs.length ≤ 4
  ka : ascE n 0 kept
  kn : kept ≠ []
theorem asc_nodup {n : Nat} : ∀ {l : Nat} {ks : List Nat}, ascE n l ks → ks.Nodup
  | _, [], _ => .nil
  | l, y :: r, h => by
    obtain ⟨h1, h2, h3⟩ := h
    rw [List.nodup_cons]
    exact ⟨fun hm => by have := (asc_lt h3 y hm).1; omega, asc_nodup h3⟩
section
variable {n : Nat} {obs : List Ob} {kept : List Nat}
theorem RmOk.n9 (h : RmOk n obs kept) : n ≤ 9 := by
  have := h.o1
  have hl : 0 < obs.length := this
  exact (h.ok _ (List.getElem_mem hl)).n2
theorem RmOk.kl (h : RmOk n obs kept) : kept.length ≤ 9 := by
  have := asc_len h.ka (Nat.zero_le _)
  have := h.n9
  omega
theorem RmOk.k1 (h : RmOk n obs kept) : 1 ≤ kept.length := by
  have := h.kn
  cases kept with
  | nil => exact absurd rfl this
  | cons a r => simp
theorem RmOk.kn' (h : RmOk n obs kept) {x : Nat} (hx : x ∈ kept) : x < n := (asc_lt h.ka x hx).2
theorem kept_at {i : Nat} (h : i < kept.length) : kept[i]? = some (kept.getD i 0) := at0_get h
theorem rowF_iff {o : Ob} {i j : Nat} (hi : i < kept.length) (hj : j < kept.length) : (rowF kept o)[i]? = (rowF kept o)[j]? ↔ o.l (kept.getD i 0) = o.l (kept.getD j 0) := by
  unfold rowF
  exact relab_iff (a := o.l (kept.getD i 0)) (b := o.l (kept.getD j 0)) (by rw [List.getElem?_map, kept_at hi]; rfl) (by rw [List.getElem?_map, kept_at hj]; rfl)
def jL (obs : List Ob) (kept : List Nat) : List Nat := relab (joinG kept.length (obs.map (rowF kept)))
theorem jL_len : (jL obs kept).length = kept.length := by unfold jL; rw [relab_len, joinG_len]
theorem jL_iff {i j : Nat} (hi : i < kept.length) (hj : j < kept.length) : (jL obs kept)[i]? = (jL obs kept)[j]? ↔ at0 (joinG kept.length (obs.map (rowF kept))) i = at0 (joinG kept.length (obs.map (rowF kept))) j := by
  unfold jL
  exact relab_iff (at0_get (by rw [joinG_len]; exact hi)) (at0_get (by rw [joinG_len]; exact hj))
theorem rows_ok (h : RmOk n obs kept) : ∀ ls ∈ obs.map (rowF kept), ls.length = kept.length ∧ rgs 0 ls ∧ ls ≠ [] := fun ls hl => by
  obtain ⟨o, _, rfl⟩ := List.mem_map.mp hl
  have e : (rowF kept o).length = kept.length := by unfold rowF; rw [relab_len, List.length_map]
  refine ⟨e, (relab_rgs _).1, fun z => ?_⟩
  rw [z] at e
  have := h.k1
  simp at e
  omega
/-- linked cases stand in one region -/
theorem jL_link (h : RmOk n obs kept) {o : Ob} (ho : o ∈ obs) {i j : Nat} (hi : i < kept.length) (hj : j < kept.length) (e : o.l (kept.getD i 0) = o.l (kept.getD j 0)) : (jL obs kept)[i]? = (jL obs kept)[j]? :=
  (jL_iff hi hj).mpr ((joinG_spec (rows_ok h)).2 _ (List.mem_map_of_mem ho) i j hi hj ((rowF_iff hi hj).mpr e))
/-- a set that is closed under links holds a region whole or not at all -/
theorem jL_conn (h : RmOk n obs kept) {S : Nat → Prop} (hS : ∀ o ∈ obs, ∀ x ∈ kept, ∀ y ∈ kept, o.l x = o.l y → (S x ↔ S y)) {i j : Nat} (hi : i < kept.length) (hj : j < kept.length) (e : (jL obs kept)[i]? = (jL obs kept)[j]?) : S (kept.getD i 0) ↔ S (kept.getD j 0) := by
  refine (joinG_spec (rows_ok h)).1 i j hi hj ((jL_iff hi hj).mp e) (fun k => S (kept.getD k 0)) fun ls hl a b ha hb hab => ?_
  obtain ⟨o, ho, rfl⟩ := List.mem_map.mp hl
  exact hS o ho _ (List.mem_of_getElem? (kept_at ha)) _ (List.mem_of_getElem? (kept_at hb)) ((rowF_iff ha hb).mp hab)
theorem reg_get {k : Nat} {cs : List Nat} (h : (regionsF obs kept)[k]? = some cs) : ∃ pl, (groups (jL obs kept))[k]? = some pl ∧ cs = pl.map fun i => kept.getD i 0 := by
  unfold regionsF at h
  obtain ⟨pl, h1, h2⟩ := get_map h
  exact ⟨pl, h1, h2.symm⟩
theorem reg_mem {k : Nat} {cs : List Nat} (h : (regionsF obs kept)[k]? = some cs) {x : Nat} : x ∈ cs ↔ ∃ i, i < kept.length ∧ kept.getD i 0 = x ∧ (jL obs kept)[i]? = some k := by
  obtain ⟨pl, h1, rfl⟩ := reg_get h
  obtain ⟨_, e⟩ := groups_get h1
  rw [List.mem_map]
  constructor
  · rintro ⟨i, hi, rfl⟩
    rw [e] at hi
    have z := mem_group.mp hi
    exact ⟨i, by rw [← jL_len (obs := obs)]; exact (List.getElem?_eq_some_iff.mp z).1, rfl, z⟩
  · rintro ⟨i, _, hx, z⟩
    exact ⟨i, by rw [e]; exact mem_group.mpr z, hx⟩
/-- a region of a room -/
structure RegOk (obs : List Ob) (kept cs : List Nat) : Prop where
  ne : cs ≠ []
  nd : cs.Nodup
  sub : ∀ x ∈ cs, x ∈ kept
  clo : ∀ o ∈ obs, ∀ x ∈ cs, ∀ y ∈ kept, o.l x = o.l y → y ∈ cs
  con : ∀ S : Nat → Prop, (∀ o ∈ obs, ∀ x ∈ kept, ∀ y ∈ kept, o.l x = o.l y → (S x ↔ S y)) → ∀ x ∈ cs, ∀ y ∈ cs, (S x ↔ S y)
theorem reg_ok (h : RmOk n obs kept) {k : Nat} {cs : List Nat} (hk : (regionsF obs kept)[k]? = some cs) : RegOk obs kept cs := by
  have hm := fun {x} => reg_mem hk (x := x)
  have ix : ∀ {y : Nat}, y ∈ kept → ∃ j, j < kept.length ∧ kept.getD j 0 = y := fun {y} hy => by
    obtain ⟨j, hj⟩ := List.getElem?_of_mem hy
    have hl := (List.getElem?_eq_some_iff.mp hj).1
    refine ⟨j, hl, ?_⟩
    have := kept_at hl
    rw [hj] at this
    exact (Option.some.inj this).symm
  obtain ⟨pl, h1, e⟩ := reg_get hk
  have hjne : jL obs kept ≠ [] := fun z => by
    have := jL_len (obs := obs) (kept := kept)
    rw [z] at this
    have := h.k1
    simp only [List.length_nil] at *
    omega
  have hrg : rgs 0 (jL obs kept) := (relab_rgs _).1
  have hplne := groups_ne hrg hjne pl (List.mem_of_getElem? h1)
  refine ⟨fun z => hplne ?_, ?_, fun x hx => ?_, fun o ho x hx y hy he => ?_, fun S hS x hx y hy => ?_⟩
  · rw [e] at z
    exact List.map_eq_nil_iff.mp z
  · rw [e]
    obtain ⟨_, e2⟩ := groups_get h1
    have hpn : pl.Nodup := by rw [e2]; exact List.nodup_range.sublist List.filter_sublist
    have hlt : ∀ i ∈ pl, i < kept.length := fun i hi => by
      rw [e2] at hi
      have z := mem_group.mp hi
      rw [← jL_len (obs := obs)]
      exact (List.getElem?_eq_some_iff.mp z).1
    refine nodup_map_on hpn fun a ha b hb hab => ?_
    have h3 := kept_at (hlt a ha)
    have h4 := kept_at (hlt b hb)
    rw [hab, ← h4] at h3
    obtain ⟨l1, e1⟩ := List.getElem?_eq_some_iff.mp h4
    obtain ⟨l2, e2'⟩ := List.getElem?_eq_some_iff.mp (h3.trans h4)
    exact (List.getElem_inj (asc_nodup h.ka)).mp (e2'.trans e1.symm)
  · obtain ⟨i, hi, rfl, _⟩ := hm.mp hx
    exact List.mem_of_getElem? (kept_at hi)
  · obtain ⟨i, hi, rfl, hz⟩ := hm.mp hx
    obtain ⟨j, hj, rfl⟩ := ix hy
    exact hm.mpr ⟨j, hj, rfl, (jL_link h ho hi hj he).symm.trans hz⟩
  · obtain ⟨i, hi, rfl, hz⟩ := hm.mp hx
    obtain ⟨j, hj, rfl, hz2⟩ := hm.mp hy
    exact jL_conn h hS hi hj (hz.trans hz2.symm)
where
  nodup_map_on {f : Nat → Nat} : ∀ {l : List Nat}, l.Nodup → (∀ a ∈ l, ∀ b ∈ l, f a = f b → a = b) → (l.map f).Nodup
    | [], _, _ => .nil
    | a :: r, hn, hi => by
      rw [List.map_cons, List.nodup_cons]
      rw [List.nodup_cons] at hn
      refine ⟨fun hm => ?_, nodup_map_on hn.2 fun x hx y hy => hi x (List.mem_cons_of_mem _ hx) y (List.mem_cons_of_mem _ hy)⟩
      obtain ⟨b, hb, e⟩ := List.mem_map.mp hm
      have := hi b (List.mem_cons_of_mem _ hb) a List.mem_cons_self e
      subst this
      exact hn.1 hb
theorem RegOk.len (h : RmOk n obs kept) {cs : List Nat} (g : RegOk obs kept cs) : cs.length ≤ 9 := by
  have := g.nd.length_le_of_subset (fun x hx => g.sub x hx)
  have := h.kl
  omega

/-! ### the rows -/
theorem row_of {cs : List Nat} {r : Rw} (h : r ∈ rowsP obs kept cs) : ∃ o ∈ obs, ∃ pl ∈ groups (rowF kept o), kept.getD (pl.headD 0) 0 ∈ cs ∧ r.part = (pl.map fun i => kept.getD i 0) ∧ r.q = pOdd o kept := by
  unfold rowsP rowsU at h
  rw [List.mem_flatMap] at h
  obtain ⟨j, hj, h⟩ := h
  have hjl := List.mem_range.mp hj
  have ho : obAt obs j ∈ obs := by
    unfold obAt
    rw [List.getD_eq_getElem?_getD, List.getElem?_eq_getElem hjl]
    exact List.getElem_mem hjl
  unfold rowsOf rowsT at h
  obtain ⟨pl, hpl, rfl⟩ := List.mem_map.mp h
  obtain ⟨h1, h2⟩ := List.mem_filter.mp hpl
  exact ⟨_, ho, pl, h1, by simpa using h2, rfl, rfl⟩
theorem row_in {cs : List Nat} {o : Ob} (ho : o ∈ obs) {pl : List Nat} (hp : pl ∈ groups (rowF kept o)) (hh : kept.getD (pl.headD 0) 0 ∈ cs) : ∃ r ∈ rowsP obs kept cs, r.part = (pl.map fun i => kept.getD i 0) ∧ r.q = pOdd o kept := by
  obtain ⟨j, hj⟩ := List.getElem?_of_mem ho
  have hjl := (List.getElem?_eq_some_iff.mp hj).1
  refine ⟨rowP kept j o pl, ?_, rfl, rfl⟩
  unfold rowsP rowsU
  rw [List.mem_flatMap]
  refine ⟨j, List.mem_range.mpr hjl, ?_⟩
  have e : obAt obs j = o := by unfold obAt; rw [List.getD_eq_getElem?_getD, hj]; rfl
  rw [e]
  unfold rowsOf rowsT
  exact List.mem_map.mpr ⟨pl, List.mem_filter.mpr ⟨hp, by simpa using hh⟩, rfl⟩
theorem pl_same (h : RmOk n obs kept) {o : Ob} (ho : o ∈ obs) {pl : List Nat} (hp : pl ∈ groups (rowF kept o)) : pl ≠ [] ∧ pl.length ≤ 9 ∧ (∀ i ∈ pl, i < kept.length) ∧ (∀ i ∈ pl, ∀ j ∈ pl, o.l (kept.getD i 0) = o.l (kept.getD j 0)) ∧ ∀ i ∈ pl, ∀ j, j < kept.length → o.l (kept.getD i 0) = o.l (kept.getD j 0) → j ∈ pl := by
  obtain ⟨k, hk⟩ := List.getElem?_of_mem hp
  obtain ⟨_, e⟩ := groups_get hk
  obtain ⟨r1, r2, r3⟩ := rows_ok h _ (List.mem_map_of_mem ho)
  have hm : ∀ i ∈ pl, i < kept.length ∧ (rowF kept o)[i]? = some k := fun i hi => by
    rw [e] at hi
    have z := mem_group.mp hi
    exact ⟨by rw [← r1]; exact (List.getElem?_eq_some_iff.mp z).1, z⟩
  refine ⟨groups_ne r2 r3 pl hp, ?_, fun i hi => (hm i hi).1, fun i hi j hj => (rowF_iff (hm i hi).1 (hm j hj).1).mp ((hm i hi).2.trans (hm j hj).2.symm), fun i hi j hj hij => ?_⟩
  · have hl := List.length_filter_le (fun i => (rowF kept o)[i]? == some k) (List.range (rowF kept o).length)
    rw [List.length_range, r1] at hl
    rw [e, r1]
    have := h.kl
    omega
  · rw [e]
    exact mem_group.mpr (((rowF_iff (hm i hi).1 hj).mpr hij).symm.trans (hm i hi).2)
/-- the part of x -/
theorem row_at (h : RmOk n obs kept) {cs : List Nat} (g : RegOk obs kept cs) {o : Ob} (ho : o ∈ obs) {x y : Nat} (hx : x ∈ cs) (hy : y ∈ kept) (e : o.l x = o.l y) : ∃ r ∈ rowsP obs kept cs, x ∈ r.part ∧ y ∈ r.part ∧ r.q = pOdd o kept := by
  have ix : ∀ {y : Nat}, y ∈ kept → ∃ j, j < kept.length ∧ kept.getD j 0 = y := fun {y} hy => by
    obtain ⟨j, hj⟩ := List.getElem?_of_mem hy
    have hl := (List.getElem?_eq_some_iff.mp hj).1
    refine ⟨j, hl, ?_⟩
    have := kept_at hl
    rw [hj] at this
    exact (Option.some.inj this).symm
  obtain ⟨i, hi, rfl⟩ := ix (g.sub x hx)
  obtain ⟨j, hj, rfl⟩ := ix hy
  obtain ⟨r1, r2, r3⟩ := rows_ok h _ (List.mem_map_of_mem ho)
  have hi2 : i < (rowF kept o).length := by rw [r1]; exact hi
  have ei := List.getElem?_eq_getElem hi2
  have hkm : (rowF kept o)[i] ≤ maxN (rowF kept o) := le_maxN _ (List.getElem_mem hi2)
  have hg : (groups (rowF kept o))[(rowF kept o)[i]]? = some ((List.range (rowF kept o).length).filter fun z => (rowF kept o)[z]? == some (rowF kept o)[i]) := by
    unfold groups
    rw [List.getElem?_map, List.getElem?_range (by omega)]; rfl
  have hp := List.mem_of_getElem? hg
  generalize hpl : (List.range (rowF kept o).length).filter (fun z => (rowF kept o)[z]? == some (rowF kept o)[i]) = pl at hp
  have him : i ∈ pl := by rw [← hpl]; exact mem_group.mpr ei
  obtain ⟨q1, q2, q3, q4, q5⟩ := pl_same h ho hp
  have hh := head_mem q1
  have hhc : kept.getD (pl.headD 0) 0 ∈ cs := g.clo o ho _ hx _ (List.mem_of_getElem? (kept_at (q3 _ hh))) (q4 i him _ hh)
  obtain ⟨r, hr, e1, e2⟩ := row_in ho hp hhc
  refine ⟨r, hr, ?_, ?_, e2⟩
  · rw [e1]; exact List.mem_map.mpr ⟨i, him, rfl⟩
  · rw [e1]; exact List.mem_map.mpr ⟨j, q5 i him j hj e, rfl⟩
theorem row_ok (h : RmOk n obs kept) {cs : List Nat} (g : RegOk obs kept cs) {r : Rw} (hr : r ∈ rowsP obs kept cs) : ∃ o ∈ obs, r.q = pOdd o kept ∧ r.part ≠ [] ∧ r.part.length ≤ 9 ∧ (∀ x ∈ r.part, x ∈ cs) ∧ ∀ x ∈ r.part, ∀ y ∈ r.part, o.l x = o.l y := by
  obtain ⟨o, ho, pl, hp, hh, e1, e2⟩ := row_of hr
  obtain ⟨q1, q2, q3, q4, q5⟩ := pl_same h ho hp
  have hhm := head_mem q1
  refine ⟨o, ho, e2, fun z => q1 (by rw [e1] at z; exact List.map_eq_nil_iff.mp z), by rw [e1, List.length_map]; exact q2, fun x hx => ?_, fun x hx y hy => ?_⟩
  · rw [e1] at hx
    obtain ⟨i, hi, rfl⟩ := List.mem_map.mp hx
    exact g.clo o ho _ hh _ (List.mem_of_getElem? (kept_at (q3 i hi))) (q4 _ hhm i hi)
  · rw [e1] at hx hy
    obtain ⟨i, hi, rfl⟩ := List.mem_map.mp hx
    obtain ⟨j, hj, rfl⟩ := List.mem_map.mp hy
    exact q4 i hi j hj
/-- present odds -/
theorem pOdd_ok (h : RmOk n obs kept) {o : Ob} (ho : o ∈ obs) {x : Nat} (hx : x ∈ kept) : 0 < pOdd o kept x ∧ Sz 100 (pOdd o kept x) := by
  have k := h.ok o ho
  have hmem : ∀ z ∈ (kept.filter fun y => o.l y == o.l x).map o.odd, 0 < z ∧ Sz 9 z := fun z hz => by
    obtain ⟨y, hy, rfl⟩ := List.mem_map.mp hz
    have hyn := h.kn' (List.mem_filter.mp hy).1
    exact ⟨k.odd_pos hyn, k.odd_sz hyn⟩
  have hne : (kept.filter fun y => o.l y == o.l x).map o.odd ≠ [] := List.ne_nil_of_mem (List.mem_map.mpr ⟨x, List.mem_filter.mpr ⟨hx, by simp⟩, rfl⟩)
  have hb : ((kept.filter fun y => o.l y == o.l x).map o.odd).length ≤ 9 := by
    rw [List.length_map]
    have := List.length_filter_le (fun y => o.l y == o.l x) kept
    have := h.kl
    omega
  have hs : 0 < rsum ((kept.filter fun y => o.l y == o.l x).map o.odd) := rsum_pos (fun z hz => (hmem z hz).1) hne
  have hsz : Sz 91 (rsum ((kept.filter fun y => o.l y == o.l x).map o.odd)) := (rsum_sz fun z hz => (hmem z hz).2).mono (by omega)
  have hxn := h.kn' hx
  exact ⟨div_pos' (k.odd_pos hxn) hs, ((k.odd_sz hxn).div hsz (num_pos.mpr hs)).mono (by omega)⟩
theorem pOdd_ratio (h : RmOk n obs kept) {o : Ob} (ho : o ∈ obs) {x y : Nat} (hx : x ∈ kept) (hy : y ∈ kept) (e : o.l x = o.l y) : pOdd o kept y / pOdd o kept x = (o.v y : Rat) / (o.v x : Rat) := by
  have k := h.ok o ho
  have hxn := h.kn' hx
  have hyn := h.kn' hy
  have px := (pOdd_ok h ho hx).1
  have vx := natC_pos (k.v hxn).1
  have sx := natC_pos (k.sum hxn).1
  have ep : o.part y = o.part x := by unfold Ob.part; rw [e]
  have e1 : pOdd o kept y = o.odd y / rsum ((kept.filter fun z => o.l z == o.l x).map o.odd) := by unfold pOdd; rw [e]
  have e2 : pOdd o kept x = o.odd x / rsum ((kept.filter fun z => o.l z == o.l x).map o.odd) := rfl
  have o1 : o.odd y = (o.v y : Rat) / ((((o.part x).map o.v).sum : Nat) : Rat) := by unfold Ob.odd; rw [ep]
  have o2 : o.odd x = (o.v x : Rat) / ((((o.part x).map o.v).sum : Nat) : Rat) := rfl
  rw [e2] at px
  rw [e1, e2, o1, o2]
  rw [o2] at px
  generalize rsum ((kept.filter fun z => o.l z == o.l x).map o.odd) = A at *
  generalize ((((o.part x).map o.v).sum : Nat) : Rat) = C at *
  generalize (o.v x : Rat) = vx' at *
  generalize (o.v y : Rat) = vy' at *
  have nA : A ≠ 0 := fun z => by
    rw [z, Rat.div_def (_ / _), Rat.inv_zero, Rat.mul_zero] at px
    exact absurd px (by decide)
  have nC : C ≠ 0 := by grind
  have nv : vx' ≠ 0 := by grind
  grind
end
end Zy
set_option Elab.async false
set_option linter.all false
set_option maxRecDepth 100000
set_option maxHeartbeats 1000000
namespace Zy
section
variable {n : Nat} {obs : List Ob} {kept cs : List Nat}
theorem frac_pos {a b : Nat} (ha : 0 < a) (hb : 0 < b) : 0 < (a : Rat) / (b : Rat) := div_pos' (natC_pos ha) (natC_pos hb)
theorem step_ok (h : RmOk n obs kept) (g : RegOk obs kept cs) {x : Nat} (hx : x ∈ cs) {s : Step} (hs : s ∈ stepsF (rowsP obs kept cs) x) : s.y ∈ cs ∧ ∃ o ∈ obs, o.l x = o.l s.y ∧ s.q = (o.v s.y : Rat) / (o.v x : Rat) := by
  obtain ⟨r, hr, h1, h2, h3⟩ := of_steps hs
  obtain ⟨o, ho, e, _, _, hc, hl⟩ := row_ok h g hr
  have hyc := hc _ h2
  refine ⟨hyc, o, ho, hl x h1 _ h2, ?_⟩
  rw [h3, e]
  exact pOdd_ratio h ho (g.sub x hx) (g.sub _ hyc) (hl x h1 _ h2)
theorem rowsU_len {cs : List Nat} (h : RmOk n obs kept) : ∀ m, m ≤ obs.length → (rowsU obs kept cs m).length ≤ 9 * m
  | 0, _ => by simp [rowsU]
  | m + 1, hm => by
    rw [rowsU_succ, List.length_append]
    have ih := rowsU_len (cs := cs) h m (by omega)
    have ho : obAt obs m ∈ obs := by
      unfold obAt
      rw [List.getD_eq_getElem?_getD, List.getElem?_eq_getElem (by omega)]
      exact List.getElem_mem (by omega)
    have h1 : (rowsOf kept cs m (obAt obs m)).length ≤ (groups (rowF kept (obAt obs m))).length := rowsT_len
    rw [groups_len] at h1
    obtain ⟨r1, r2, r3⟩ := rows_ok h _ (List.mem_map_of_mem ho)
    have h2 : maxN (rowF kept (obAt obs m)) + 1 ≤ kept.length := by
      have h3 : ∀ x ∈ rowF kept (obAt obs m), x ≤ kept.length - 1 := fun x hx => by
        have := relab_lt _ x hx
        rw [List.length_map] at this
        omega
      have := maxN_le h3
      have := h.k1
      omega
    have := h.kl
    omega
theorem spr_ok (h : RmOk n obs kept) (g : RegOk obs kept cs) : SprOk (rowsP obs kept cs) cs where
  ok := fun r hr => by
    obtain ⟨o, ho, e, h1, h2, h3, _⟩ := row_ok h g hr
    exact ⟨h1, h2, fun x hx => by rw [e]; exact pOdd_ok h ho (g.sub x (h3 x hx))⟩
  rl := by
    have := rowsU_len (cs := cs) h obs.length (Nat.le_refl _)
    have := h.o2
    show (rowsU obs kept cs obs.length).length ≤ 36
    omega
  c1 := g.ne
  c9 := g.len h
  nd := g.nd
  st := fun x hx s hs => by
    obtain ⟨h1, o, ho, _, e⟩ := step_ok h g hx hs
    have kx := (h.ok o ho).v (h.kn' (g.sub x hx))
    have ky := (h.ok o ho).v (h.kn' (g.sub _ h1))
    have e64 : (2 : Nat) ^ 6 = 64 := by decide
    exact ⟨h1, by rw [e]; exact frac_pos ky.1 kx.1, by rw [e]; exact sz_frac (by omega) (by omega) kx.1⟩
  co := fun S h0 hst y hy => by
    have hl : ∀ o ∈ obs, ∀ x ∈ kept, ∀ z ∈ kept, o.l x = o.l z → ((x ∈ cs ∧ S x) → (z ∈ cs ∧ S z)) := fun o ho x hx z hz e ⟨a, b⟩ => by
      have hzc := g.clo o ho x a z hz e
      refine ⟨hzc, ?_⟩
      by_cases hxz : z = x
      · rw [hxz]; exact b
      · obtain ⟨r, hr, r1, r2, _⟩ := row_at h g ho a hz e
        exact hst x a b _ (mem_steps hr r1 r2 hxz)
    have := g.con (fun x => x ∈ cs ∧ S x) (fun o ho x hx z hz e => ⟨hl o ho x hx z hz e, hl o ho z hz x hx e.symm⟩) _ (head_mem g.ne) y hy
    exact (this.mp ⟨head_mem g.ne, h0⟩).2
theorem cov_ok (h : RmOk n obs kept) (g : RegOk obs kept cs) : ∀ r ∈ rowsP obs kept cs, ∀ x ∈ r.part, x ∈ cs := fun r hr => by
  obtain ⟨_, _, _, _, _, h3, _⟩ := row_ok h g hr
  exact h3
/-- u agrees with the observers' weights -/
def ConO (obs : List Ob) (cs : List Nat) (u : Nat → Rat) : Prop := ∀ o ∈ obs, ∀ x ∈ cs, ∀ y ∈ cs, o.l x = o.l y → u y * (o.v x : Rat) = u x * (o.v y : Rat)
theorem conO_of (h : RmOk n obs kept) (g : RegOk obs kept cs) {u : Nat → Rat} (hu : ConS (rowsP obs kept cs) cs u) : ConO obs cs u := fun o ho x hx y hy e => by
  by_cases hxy : y = x
  · rw [hxy]
  · obtain ⟨r, hr, r1, r2, r3⟩ := row_at h g ho hx (g.sub y hy) e
    have st := hu x hx _ (mem_steps hr r1 r2 hxy)
    have st' : u y = r.q y / r.q x * u x := st
    rw [r3, pOdd_ratio h ho (g.sub x hx) (g.sub y hy) e] at st'
    have vx := natC_pos ((h.ok o ho).v (h.kn' (g.sub x hx))).1
    generalize (o.v x : Rat) = a at *
    generalize (o.v y : Rat) = b at *
    have : a ≠ 0 := by grind
    rw [st']
    grind
theorem conS_of (h : RmOk n obs kept) (g : RegOk obs kept cs) {u : Nat → Rat} (hu : ConO obs cs u) : ConS (rowsP obs kept cs) cs u := fun x hx s hs => by
  obtain ⟨hy, o, ho, e, q⟩ := step_ok h g hx hs
  have h1 := hu o ho x hx s.y hy e
  have vx := natC_pos ((h.ok o ho).v (h.kn' (g.sub x hx))).1
  rw [q]
  generalize (o.v x : Rat) = a at *
  generalize (o.v s.y : Rat) = b at *
  have : a ≠ 0 := by grind
  grind
/-- a new region inside an old one -/
theorem cut_in {kept2 cut : List Nat} (hs : ∀ x ∈ kept2, x ∈ kept) (g : RegOk obs kept cs) (g2 : RegOk obs kept2 cut) (h0 : cut.headD 0 ∈ cs) : ∀ x ∈ cut, x ∈ cs := fun x hx => by
  have := g2.con (fun y => y ∈ cs) (fun o ho a ha b hb e => ⟨fun z => g.clo o ho a z b (hs b hb) e, fun z => g.clo o ho b z a (hs a ha) e.symm⟩) _ (head_mem g2.ne) x hx
  exact this.mp h0
/-- two sources of a region are one, but for a factor -/
theorem source_one (h : RmOk n obs kept) (g : RegOk obs kept cs) {u v : Nat → Rat} (hu : ConO obs cs u) (hv : ConO obs cs v) (pu : ∀ x ∈ cs, 0 < u x) (pv : ∀ x ∈ cs, 0 < v x) : ∀ x ∈ cs, u x / rsum (cs.map u) = v x / rsum (cs.map v) := by
  have hh := head_mem g.ne
  have key : ∀ y ∈ cs, u y * v (cs.headD 0) = v y * u (cs.headD 0) := fun y hy => by
    have hl : ∀ o ∈ obs, ∀ x ∈ kept, ∀ z ∈ kept, o.l x = o.l z → ((x ∈ cs ∧ u x * v (cs.headD 0) = v x * u (cs.headD 0)) → (z ∈ cs ∧ u z * v (cs.headD 0) = v z * u (cs.headD 0))) := fun o ho x hx z hz e ⟨a, b⟩ => by
      have hzc := g.clo o ho x a z hz e
      refine ⟨hzc, ?_⟩
      have h1 := hu o ho x a z hzc e
      have h2 := hv o ho x a z hzc e
      have vx := natC_pos ((h.ok o ho).v (h.kn' hx)).1
      generalize (o.v x : Rat) = p at *
      generalize (o.v z : Rat) = q at *
      have : p ≠ 0 := by grind
      have e1 : u z = u x * q / p := by grind
      have e2 : v z = v x * q / p := by grind
      rw [e1, e2]
      grind
    have := g.con (fun x => x ∈ cs ∧ u x * v (cs.headD 0) = v x * u (cs.headD 0)) (fun o ho x hx z hz e => ⟨hl o ho x hx z hz e, hl o ho z hz x hx e.symm⟩) _ hh y hy
    exact (this.mp ⟨hh, by rw [Rat.mul_comm]⟩).2
  have p1 := pu _ hh
  have p2 := pv _ hh
  have hvn : v (cs.headD 0) ≠ 0 := by grind
  have hsum : rsum (cs.map u) = u (cs.headD 0) / v (cs.headD 0) * rsum (cs.map v) := by
    rw [← rsum_mul]
    congr 1
    rw [List.map_map]
    refine List.map_congr_left fun x hx => ?_
    have := key x hx
    show u x = u (cs.headD 0) / v (cs.headD 0) * v x
    grind
  have hsv : 0 < rsum (cs.map v) := rsum_pos (fun q hq => by obtain ⟨x, hx, rfl⟩ := List.mem_map.mp hq; exact pv x hx) (fun z => g.ne (List.map_eq_nil_iff.mp z))
  intro x hx
  have := key x hx
  rw [hsum]
  generalize rsum (cs.map v) = A at *
  have : A ≠ 0 := by grind
  grind
end
end Zy
set_option Elab.async false
set_option linter.all false
set_option maxRecDepth 100000
set_option maxHeartbeats 4000000
namespace Zy
open PySem PySem.Spec PyProof.Rows L2
open C8 (fnBody fnArgs fnScope clsBody scC fnScope_by)

local macro_rules | `(tactic| walk_at "zmem") => `(tactic| repeat (first | exact List.mem_cons_self | assumption | refine List.mem_cons_of_mem _ ?_))
local macro_rules | `(tactic| walk_at "z1") => `(tactic| first
  | (with_reducible refine ss_seq ?_) | (with_reducible refine ss_next ?_) | (with_reducible refine ss_ret ?_) | (with_reducible refine ss_set ?_) | (with_reducible refine ss_if ?_)
  | (with_reducible refine ss_drop ?_) | (with_reducible refine ss_par ?_) | (with_reducible refine ss_par3 ?_)
  | (with_reducible refine et_test ?_) | (with_reducible refine et_B ?_) | (with_reducible refine et_and ?_) | (with_reducible refine et_or ?_) | (with_reducible refine et_not2 ?_) | (with_reducible refine et_yes ?_)
  | (with_reducible refine ev_op ?_) | (with_reducible refine ev_un ?_) | (with_reducible refine isi_ii ?_) | (with_reducible refine isi_ib ?_) | (with_reducible refine isi_tt ?_) | (with_reducible refine isi_ss ?_)
  | (with_reducible refine ev_cb ?_) | (with_reducible refine ev_call ?_) | (with_reducible refine ev_chain ?_)
  | (with_reducible refine ev_and ?_) | (with_reducible refine ev_or ?_) | (with_reducible refine ev_not2 ?_) | (with_reducible refine ev_if ?_) | (with_reducible refine ev_int ?_) | (with_reducible refine ev_bl ?_) | (with_reducible refine ev_non ?_) | (with_reducible refine ev_str ?_)
  | (with_reducible refine ea_nil ?_) | (with_reducible refine ea_cons ?_)
  | ((with_reducible refine' ev_var ?_ ?_); rotate_left; exact rfl) | ((with_reducible refine' o_ixT ?_ ?_); rotate_left; exact rfl) | (with_reducible refine zo_lenT ?_) | (with_reducible refine zo_lenS ?_) | ((with_reducible refine' zo_lenL ?_ ?_); rotate_left 2; (walk_at "zmem")) | (with_reducible refine ev_tup ?_) | (with_reducible refine ev_lst ?_)
  | (with_reducible refine o_I0 ?_) | (with_reducible refine o_B0 ?_) | (with_reducible refine o_neg ?_) | (with_reducible refine o_eqI ?_) | (with_reducible refine o_neI ?_)
  | (with_reducible refine fun (hq : true = false) => Bool.noConfusion hq) | (with_reducible refine fun (hq : false = true) => Bool.noConfusion hq) | (with_reducible refine fun (_ : true = true) => ?_) | (with_reducible refine fun (_ : false = false) => ?_)
  | (with_reducible refine ⟨_, rfl, ?_⟩) | (with_reducible refine ⟨_, _, rfl, ?_⟩) | (with_reducible refine ⟨_, _, _, rfl, ?_⟩) | (with_reducible refine ⟨fun (_ : true = true) => ?_, fun (hq : true = false) => Bool.noConfusion hq⟩) | (with_reducible refine ⟨fun (hq : false = true) => Bool.noConfusion hq, fun (_ : false = false) => ?_⟩) | (with_reducible refine ⟨Nat.le_of_ble_eq_true rfl, ?_⟩) | ((with_reducible refine ⟨fun hq => absurd hq ?_, fun _ => ?_⟩); (simp <;> omega)) | ((with_reducible refine ⟨fun _ => ?_, fun hq => absurd hq ?_⟩); rotate_left; (simp <;> omega)) | (with_reducible refine And.intro (?_ : _ = true → _) (?_ : _ = false → _)) | (with_reducible refine ev_bm ?_) | (with_reducible refine ss_fld ?_) | (with_reducible refine ev_fld ?_) | (with_reducible refine ev_prop ?_) | (with_reducible refine ev_meth ?_) | (with_reducible refine ev_make ?_) | ((with_reducible refine' And.intro (tyD_of ?_) ?_); rotate_left 2; (walk_at "zmem")))
local macro_rules | `(tactic| walk_at "zz") => `(tactic| repeat (walk_at "z1"))
local macro_rules | `(tactic| walk_at "zle") => `(tactic| repeat (first | exact trivial | refine And.intro rfl ?_ | exact LeD.refl _))
abbrev F_region_cases (CO CP CR : Addr) : Spec := fun ds M Q => ∃ (r : Addr) (n : Nat) (obs : List Ob) (kept : List Nat) (p : Addr) (os : List Addr) (c : Bool) (b : Dt) (k : Nat) (g : List Nat), ds = [.adr r, .int (k : Int)] ∧ RoomX CO CP CR M r n obs kept p os c b ∧ (regionsF obs kept)[k]? = some g ∧ Q (eT g) M
theorem sc_region_cases : FnScope ["room", "region", "regions"] ["room", "region"] (fnScope (stT 41)) := fnScope_by (by decide +kernel)
theorem d_region_cases {P : Program} {w : World} {K : PySem.W.Frag} {mg : Str → Option Value} {base : Heap} {f CO CP CR dQ : Addr} {tk : Tok} {es : Array DictEntry} {nn : Nat} (bi : Bi mg) (gMC : mg "MOST_CASES" = some (.int 12 tk)) (gCO : mg "Observer" = some (.ref CO)) (gQ : mg "QUESTIONS" = some (.ref dQ)) (kq : KDict K w dQ es nn) (hCO : Cls K CO) (na_ol : NoAttr K CO "own_labels") (na_op : NoAttr K CO "own_parts") (na_oo : NoAttr K CO "own_odds") (hCP : Cls K CP) (na_k : NoAttr K CP "kept") (na_b : NoAttr K CP "before") (hCR : Cls K CR) (na_w : NoAttr K CR "watchers") (na_s : NoAttr K CR "size") (na_p : NoAttr K CR "presence") (c_get_regions : PrpR P w K mg base 6 CR "regions" (Pm K (F_Room_regions CO CP CR))) (c_is_integer : DefR P w K mg base 1 "is_integer" (Pm K F_is_integer)) (gm : mg "region_cases" = some (.ref f)) (Fn : FnP K "region_cases" "region_cases" (stT 41) f) : DefR P w K mg base 8 "region_cases" (Pm K (F_region_cases CO CP CR)) :=
 def_of (F := (F_region_cases CO CP CR)) gm Fn sc_region_cases (fun _ _ _ _ _ _ us hl => match us, hl with | [_, _], _ => rfl) (fun ds M Q h => by obtain ⟨_, _, _, _, _, _, _, _, _, _, rfl, _⟩ := h; rfl) (fun cdv A outer s H E hr => ⟨_, (pss_cons (ps_set (i := 2) sc_region_cases.nd rfl (by first | exact Or.inl rfl | exact Or.inr rfl) (pe_pR c_get_regions hr (by decide) (pv 0)))
 (pss_cons (ps_if (PW.pt (pw_or (pt_not (pt_val (pe_cD c_is_integer hr (by decide) rfl (pa_cons (pv 1) pa_nil)))) (pw_or1 (pt_not (pt_chain op_le op_lt pe_int (pv 1) (pe_callB (zcall_len_seq K) rfl bi.len zb_len (pa_cons (pv 2) pa_nil)))))))
 pss_never
 pss_nil)
 (pss_one (ps_ret (pe_ix (zix_tup K) (pv 2) (pv 1) (fun _ _ => rfl)))))), fun B ds M Q0 hF => by

  obtain ⟨r, n, obs, kept, p, os, c, b, k, g, rfl, hx, hk, q⟩ := hF
  have hkl := (List.getElem?_eq_some_iff.mp hk).1
  walk_at "zz"
  refine ⟨⟨true, _, hx.rm⟩, r, n, obs, kept, p, os, c, b, rfl, hx, ?_⟩
  walk_at "zz"
  refine o_ixT (d := eT g) (atI_mapg hk) ?_
  exact WkM.of q
⟩)
abbrev F_present_parts (CO CP CR : Addr) : Spec := fun ds M Q => ∃ (r : Addr) (n : Nat) (obs : List Ob) (kept : List Nat) (p : Addr) (os : List Addr) (c : Bool) (b : Dt) (cs : List Nat), ds = [.adr r, eT cs] ∧ RoomX CO CP CR M r n obs kept p os c b ∧ ∀ a, Q (.adr a) (⟨a, true, .lst ((rowsP obs kept cs).map rowD)⟩ :: M)
theorem sc_present_parts : FnScope ["room", "cases", "kept", "rows", "number", "observer", "odds", "labels", "places", "part", "case", "place"] ["room", "cases"] (fnScope (stT 42)) := fnScope_by (by decide +kernel)
theorem d_present_parts {P : Program} {w : World} {K : PySem.W.Frag} {mg : Str → Option Value} {base : Heap} {f CO CP CR dQ : Addr} {tk : Tok} {es : Array DictEntry} {nn : Nat} (bi : Bi mg) (gMC : mg "MOST_CASES" = some (.int 12 tk)) (gCO : mg "Observer" = some (.ref CO)) (gQ : mg "QUESTIONS" = some (.ref dQ)) (kq : KDict K w dQ es nn) (hCO : Cls K CO) (na_ol : NoAttr K CO "own_labels") (na_op : NoAttr K CO "own_parts") (na_oo : NoAttr K CO "own_odds") (hCP : Cls K CP) (na_k : NoAttr K CP "kept") (na_b : NoAttr K CP "before") (hCR : Cls K CR) (na_w : NoAttr K CR "watchers") (na_s : NoAttr K CR "size") (na_p : NoAttr K CR "presence") (c_get_cases : PrpR P w K mg base 1 CR "cases" (Pm K (F_Room_cases CO CP CR))) (c_get_observers : PrpR P w K mg base 1 CR "observers" (Pm K (F_Room_observers CO CP CR))) (c_m_present_odds : MetR P w K mg base 5 CR "present_odds" (Pm K (F_Room_present_odds CO CP CR))) (c_get_labels : PrpR P w K mg base 1 CO "labels" (Pm K (F_Observer_labels CO))) (c_grouped : DefR P w K mg base 1 "grouped" (Pm K F_grouped)) (c_relabelled : DefR P w K mg base 1 "relabelled" (Pm K F_relabelled)) (gm : mg "present_parts" = some (.ref f)) (Fn : FnP K "present_parts" "present_parts" (stT 42) f) : DefR P w K mg base 6 "present_parts" (Pm K (F_present_parts CO CP CR)) :=
 def_of (F := (F_present_parts CO CP CR)) gm Fn sc_present_parts (fun _ _ _ _ _ _ us hl => match us, hl with | [_, _], _ => rfl) (fun ds M Q h => by obtain ⟨_, _, _, _, _, _, _, _, _, rfl, _⟩ := h; rfl) (fun cdv A outer s H E hr => ⟨_, (pss_cons (ps_set (i := 2) sc_present_parts.nd rfl (by first | exact Or.inl rfl | exact Or.inr rfl) (pe_pR c_get_cases hr (by decide) (pv 0)))
 (pss_cons (ps_set (i := 3) sc_present_parts.nd rfl (by first | exact Or.inl rfl | exact Or.inr rfl) (pe_lst pa_nil))
 (pss_cons (ps_for PassesOwn.never rfl (zpi_enumT K rfl bi.enumerate (pa_cons (pe_pR c_get_observers hr (by decide) (pv 0)) pa_nil)) (zpg_tup K (n := 2) rfl (pgs_cons (pg_name (i := 4) sc_present_parts.nd rfl (by first | exact Or.inl rfl | exact Or.inr rfl)) (pgs_cons (pg_name (i := 5) sc_present_parts.nd rfl (by first | exact Or.inl rfl | exact Or.inr rfl)) pgs_nil)))
 (pss_cons (ps_set (i := 6) sc_present_parts.nd rfl (by first | exact Or.inl rfl | exact Or.inr rfl) (pe_mR c_m_present_odds hr (by decide) (pv 0) (pa_cons (pv 4) pa_nil)))
 (pss_cons (ps_set (i := 7) sc_present_parts.nd rfl (by first | exact Or.inl rfl | exact Or.inr rfl) (pe_pR c_get_labels hr (by decide) (pv 5)))
 (pss_one (ps_for PassesOwn.never rfl (zpi_tup K (pe_cD c_grouped hr (by decide) rfl (pa_cons (pe_cD c_relabelled hr (by decide) rfl (pa_cons (pe_lc rfl sc_present_parts.nd (zpi_tup K (pv 2)) (blkOk_by (own := [("case", 10)]) (by kernel_rfl)) (fun _ _ _ _ _ => (pg_name (i := 10) sc_present_parts.nd rfl (by first | exact Or.inl rfl | exact Or.inr rfl))) (fun _ _ _ _ _ => pts_nil) (fun _ _ _ _ _ => (pe_ix (zix_tup K) (pv 7) (pv 10) (fun _ _ => rfl)))) pa_nil)) pa_nil))) (pg_name (i := 8) sc_present_parts.nd rfl (by first | exact Or.inl rfl | exact Or.inr rfl))
 (pss_one (ps_if (pt_cmpR (zop_in_seq K) (pe_ix (zix_tup K) (pv 2) (pe_ix (zix_tup K) (pv 8) pe_int (fun _ _ => rfl)) (fun _ _ => rfl)) (pv 1) (by rfl))
 (pss_cons (ps_set (i := 9) sc_present_parts.nd rfl (by first | exact Or.inl rfl | exact Or.inr rfl) (pe_callTy (zcall_tupF K) rfl bi.tuple zb_tuple (pa_cons (pe_lc rfl sc_present_parts.nd (zpi_tup K (pv 8)) (blkOk_by (own := [("place", 11)]) (by kernel_rfl)) (fun _ _ _ _ _ => (pg_name (i := 11) sc_present_parts.nd rfl (by first | exact Or.inl rfl | exact Or.inr rfl))) (fun _ _ _ _ _ => pts_nil) (fun _ _ _ _ _ => (pe_ix (zix_tup K) (pv 2) (pv 11) (fun _ _ => rfl)))) pa_nil)))
 (pss_one (ps_expr (zpe_bm K F.plainAttrs_list F.slot_list_append F.type_list_append mt_append (pv 3) (pa_cons (pe_tupF (pa_cons (pv 4) (pa_cons (pv 9) (pa_cons (pe_callTy (zcall_tupF K) rfl bi.tuple zb_tuple (pa_cons (pe_lc rfl sc_present_parts.nd (zpi_tup K (pv 8)) (blkOk_by (own := [("place", 11)]) (by kernel_rfl)) (fun _ _ _ _ _ => (pg_name (i := 11) sc_present_parts.nd rfl (by first | exact Or.inl rfl | exact Or.inr rfl))) (fun _ _ _ _ _ => pts_nil) (fun _ _ _ _ _ => (pe_ix (zix_tup K) (pv 6) (pv 11) (fun _ _ => rfl)))) pa_nil)) pa_nil)))) pa_nil)))))
 pss_nil)))))))
 (pss_one (ps_ret (pv 3)))))), fun B ds M Q0 hF => by

  obtain ⟨r, n, obs, kept, p, os, c, b, cs, rfl, hx, q⟩ := hF
  have hkn : ∀ x ∈ kept, x < n := fun x h => (asc_lt hx.ka x h).2
  have hkl : kept.length ≤ n := by have := asc_len hx.ka (Nat.zero_le _); omega
  have hl := zp_len hx.ob
  have hn9 : n ≤ 9 := by
    have : 0 < obs.length := hx.o1
    exact (hx.ok _ (List.getElem_mem this)).n2
  have hk1 : 1 ≤ kept.length := by
    have := hx.kn
    cases kept with
    | nil => exact absurd rfl this
    | cons a r => simp
  have ho2 := hx.o2
  walk_at "zz"
  refine ⟨⟨true, _, hx.rm⟩, r, n, obs, kept, p, os, c, b, rfl, hx, ?_⟩
  walk_at "zz"
  intro p1
  have hxs : ∀ {Y : Cell}, RoomX CO CP CR (Y :: M) r n obs kept p os c b := fun {Y} => hx.sub fun x h => List.mem_cons_of_mem _ h
  walk_at "zz"
  refine ss_for (own := [4] ++ ([5] ++ [])) (ei_enum ?_)
  walk_at "zz"
  refine ⟨⟨true, _, hxs.rm⟩, r, n, obs, kept, p, os, c, b, rfl, hxs, ?_⟩
  walk_at "zz"
  refine ⟨fun i δ' M' => δ' = [some (.adr r), some (eT cs), some (.tup c (eN kept)), some (.adr p1), none, none, none, none, none, none, none, none] ∧ M' = ⟨p1, true, .lst ((rowsU obs kept cs i).map rowD)⟩ :: M ∧ (rowsU obs kept cs i).length ≤ 20 * i, fun _ _ _ _ _ => trivial, ⟨rfl, rfl, Nat.le_refl _⟩, ?_, ?_⟩
  · rintro i d δ' M' hi hf ⟨rfl, rfl, hrl⟩
    obtain ⟨x, hxi, rfl⟩ := enumA_at hf
    have hil : i < obs.length := by rw [List.length_map] at hi; omega
    obtain ⟨o, ho⟩ : ∃ o, obs[i]? = some o := ⟨obs[i], List.getElem?_eq_getElem hil⟩
    have hoA : obAt obs i = o := by unfold obAt; rw [List.getD_eq_getElem?_getD, ho]; rfl
    obtain ⟨x', hx', hc⟩ := zp_get hx.ob ho
    rw [hxi] at hx'
    cases hx'
    have hok := hx.ok o (List.mem_of_getElem? ho)
    have gl : ∀ {x : Nat}, x ∈ kept → atI (eN o.lab) (x : Int) = some (Dt.int (o.l x : Nat)) := fun {x} h => atI_eN (by rw [hok.ll]; exact hkn x h)
    have hGl : (rowF kept o).length = kept.length := by unfold rowF; rw [relab_len, List.length_map]
    have hGm : ∀ x ∈ rowF kept o, x < kept.length := fun x h => by have := relab_lt _ x h; rwa [List.length_map] at this
    have hGr : rgs 0 (rowF kept o) := (relab_rgs _).1
    have hGn : rowF kept o ≠ [] := by intro z; rw [z] at hGl; simp at hGl; omega
    have hgl : (groups (rowF kept o)).length ≤ 20 := by
      rw [groups_len]
      have := maxN_le (ls := rowF kept o) (b := 9) fun x h => by have := hGm x h; omega
      omega
    refine eg_tup rfl (egs_cons (eg_name (egs_cons (eg_name (egs_nil ?_)))))
    walk_at "zz"
    refine ⟨⟨true, _, hxs.rm, by rfl⟩, ?_⟩
    walk_at "zz"
    refine ⟨r, n, obs, kept, p, os, c, b, i, o, rfl, hxs, ho, ?_⟩
    walk_at "zz"
    refine ⟨⟨true, _, List.mem_cons_of_mem _ hc⟩, x, true, _, _, rfl, List.mem_cons_of_mem _ hc, rfl, ?_⟩
    walk_at "zz"
    refine ss_for (own := [8]) (ei_tup ?_)
    walk_at "zz"
    refine ev_lcP (own := [10]) (by simp) (ei_tup (ev_var rfl ⟨c, _, rfl, ?_⟩))
    refine ⟨fun j => kept[j]?.map fun y => Dt.int (o.l y : Nat), by rw [eN_len]; omega, ?_, ?_⟩
    · intro B' j d hj hf
      obtain ⟨y, hy, rfl⟩ := eN_at hf
      refine eg_name ?_
      walk_at "zz"
      refine o_ixT (gl (List.mem_of_getElem? hy)) ?_
      refine ⟨List.Sublist.refl _, ?_⟩
      dsimp only
      rw [hy]
      rfl
    · intro p2
      rw [fmI, ← eN_map]
      walk_at "zz"
      refine ⟨p2, true, _, rfl, List.mem_cons_self, by rw [List.length_map]; omega, ?_⟩
      walk_at "zz"
      rw [show relab (kept.map o.l) = rowF kept o from rfl]
      refine ⟨hGn, by omega, fun x h => by have := hGm x h; omega, true, _, rfl, ?_⟩
      generalize (⟨p2, true, MO.lst (eN (kept.map o.l))⟩ : Cell) = X2
      refine ⟨fun m δ' M' => δ' = [some (.adr r), some (eT cs), some (.tup c (eN kept)), some (.adr p1), some (.int (i : Nat)), some (.adr x), some (eQ (presOdds o kept)), some (eT o.lab), none, none, none, none] ∧ M' = X2 :: ⟨p1, true, .lst ((rowsU obs kept cs i ++ rowsT kept cs i o ((groups (rowF kept o)).take m)).map rowD)⟩ :: M, fun _ _ _ _ _ => trivial, ⟨rfl, by simp [rowsT]⟩, ?_, ?_⟩
      · rintro m d δ' M' hm hf ⟨rfl, rfl⟩
        obtain ⟨pl, hpl, rfl⟩ := get_map hf
        have hplne := groups_ne hGr hGn pl (List.mem_of_getElem? hpl)
        obtain ⟨p0, pr, ep⟩ : ∃ p0 pr, pl = p0 :: pr := by
          cases pl with
          | nil => exact absurd rfl hplne
          | cons a r => exact ⟨a, r, rfl⟩
        have hplt : ∀ z ∈ pl, z < kept.length := fun z hz => by
          obtain ⟨_, e⟩ := groups_get hpl
          rw [e] at hz
          have := (List.getElem?_eq_some_iff.mp (mem_group.mp hz)).1
          omega
        have hpll : pl.length ≤ 100 := by
          obtain ⟨_, e⟩ := groups_get hpl
          rw [e]
          have := List.length_filter_le (fun z => (rowF kept o)[z]? == some m) (List.range (rowF kept o).length)
          rw [List.length_range, hGl] at this
          rw [hGl]
          omega
        have hp0 : p0 < kept.length := hplt p0 (by rw [ep]; exact List.mem_cons_self)
        have hhd : pl.headD 0 = p0 := by rw [ep]; rfl
        have hpo : ∀ {z : Nat}, z ∈ pl → atI ((presOdds o kept).map eF) (z : Int) = some (eF (pOdd o kept (kept.getD z 0))) := fun {z} hz => by
          have hz2 := hplt z hz
          refine atI_mapg ?_
          unfold presOdds
          rw [List.getElem?_map, List.getElem?_eq_getElem hz2]
          simp [hz2]
        refine eg_name ?_
        walk_at "zz"
        refine o_ixT (d := .int (p0 : Nat)) (by rw [atI0, ep]; rfl) ?_
        walk_at "zz"
        refine o_ixT (atI_eN hp0) ?_
        walk_at "zz"
        refine o_inT ?_
        walk_at "zz"
        · intro hz
          have e1 : kept.getD p0 0 ∈ cs := by have := of_decide_eq_true hz; rwa [nI_mem] at this
          walk_at "zz"
          refine ev_lcP (own := [11]) (by simp) (ei_tup (ev_var rfl ⟨true, _, rfl, ?_⟩))
          refine ⟨fun z => pl[z]?.map fun y => Dt.int (kept.getD y 0 : Nat), by rw [eN_len]; omega, ?_, ?_⟩
          · intro B2 z d hz hf
            obtain ⟨y, hy, rfl⟩ := eN_at hf
            refine eg_name ?_
            walk_at "zz"
            refine o_ixT (atI_eN (hplt y (List.mem_of_getElem? hy))) ?_
            refine ⟨List.Sublist.refl _, ?_⟩
            dsimp only
            rw [hy]
            rfl
          · intro p3
            rw [fmI, ← eN_map]
            walk_at "zz"
            refine o_tupL List.mem_cons_self ?_
            walk_at "zz"
            refine ev_lcP (own := [11]) (by simp) (ei_tup (ev_var rfl ⟨true, _, rfl, ?_⟩))
            refine ⟨fun z => pl[z]?.map fun y => eF (pOdd o kept (kept.getD y 0)), by rw [eN_len]; omega, ?_, ?_⟩
            · intro B2 z d hz hf
              obtain ⟨y, hy, rfl⟩ := eN_at hf
              refine eg_name ?_
              walk_at "zz"
              refine o_ixT (hpo (List.mem_of_getElem? hy)) ?_
              refine ⟨List.Sublist.refl _, ?_⟩
              dsimp only
              rw [hy]
              rfl
            · intro p4
              rw [fmI]
              walk_at "zz"
              refine o_tupL List.mem_cons_self ?_
              walk_at "zz"
              have hlen2 : ((rowsU obs kept cs i ++ rowsT kept cs i o ((groups (rowF kept o)).take m)).map rowD).length < 1000000 := by
                rw [List.length_map, List.length_append]
                have a1 : (rowsT kept cs i o ((groups (rowF kept o)).take m)).length ≤ _ := rowsT_len
                rw [List.length_take] at a1
                omega
              refine o_append (p := 3) rfl hlen2 ?_
              refine ⟨_, _, ?_, ?_, rfl, rfl⟩
              · walk_at "zle"
              · rw [take_snoc hpl, rowsT_yes (by rw [hhd]; exact e1), ← List.append_assoc, List.map_append]
                have e5 : (List.map rowD [rowP kept i o pl]) = [Dt.tup true [.int (i : Nat), .tup true (eN (pl.map fun y => kept.getD y 0)), .tup true (pl.map fun y => eF (pOdd o kept (kept.getD y 0)))]] := by
                  unfold rowP rowD eQ
                  simp only [List.map_cons, List.map_nil, List.map_map]
                  rfl
                rw [e5]
                exact (List.sublist_cons_self _ _).trans (List.sublist_cons_self _ _)
        · intro hz
          have e1 : ¬ kept.getD p0 0 ∈ cs := by have := of_decide_eq_false hz; rwa [nI_mem] at this
          walk_at "zz"
          refine ⟨_, _, ?_, List.Sublist.refl _, rfl, ?_⟩
          · walk_at "zle"
          · rw [take_snoc hpl, rowsT_no (by rw [hhd]; exact e1)]
      · rintro δ' M' ⟨rfl, rfl⟩
        rw [List.length_map, List.take_length]
        have e6 : rowsU obs kept cs i ++ rowsT kept cs i o (groups (rowF kept o)) = rowsU obs kept cs (i + 1) := by
          rw [rowsU_succ, hoA]; rfl
        refine ⟨_, _, ?_, List.sublist_cons_self _ _, rfl, by rw [e6], ?_⟩
        · walk_at "zle"
        · rw [← e6, List.length_append]
          have a1 : (rowsT kept cs i o (groups (rowF kept o))).length ≤ _ := rowsT_len
          omega
  · rintro δ' M' ⟨rfl, rfl, _⟩
    walk_at "zz"
    rw [List.length_map, hl]
    exact WkM.of (q p1)
⟩)
end Zy
set_option Elab.async false
set_option linter.all false
set_option maxRecDepth 100000
set_option maxHeartbeats 4000000
namespace Zy
open PySem PySem.Spec PyProof.Rows L2
open C8 (fnBody fnArgs fnScope clsBody scC fnScope_by)

local macro_rules | `(tactic| walk_at "zmem") => `(tactic| repeat (first | exact List.mem_cons_self | assumption | refine List.mem_cons_of_mem _ ?_))
local macro_rules | `(tactic| walk_at "z1") => `(tactic| first
  | (with_reducible refine ss_seq ?_) | (with_reducible refine ss_next ?_) | (with_reducible refine ss_ret ?_) | (with_reducible refine ss_set ?_) | (with_reducible refine ss_if ?_)
  | (with_reducible refine ss_drop ?_) | (with_reducible refine ss_par ?_) | (with_reducible refine ss_par3 ?_)
  | (with_reducible refine et_test ?_) | (with_reducible refine et_B ?_) | (with_reducible refine et_and ?_) | (with_reducible refine et_or ?_) | (with_reducible refine et_not2 ?_) | (with_reducible refine et_yes ?_)
  | (with_reducible refine ev_op ?_) | (with_reducible refine ev_un ?_) | (with_reducible refine isi_ii ?_) | (with_reducible refine isi_ib ?_) | (with_reducible refine isi_tt ?_) | (with_reducible refine isi_ss ?_)
  | (with_reducible refine ev_cb ?_) | (with_reducible refine ev_call ?_) | (with_reducible refine ev_chain ?_)
  | (with_reducible refine ev_and ?_) | (with_reducible refine ev_or ?_) | (with_reducible refine ev_not2 ?_) | (with_reducible refine ev_if ?_) | (with_reducible refine ev_int ?_) | (with_reducible refine ev_bl ?_) | (with_reducible refine ev_non ?_) | (with_reducible refine ev_str ?_)
  | (with_reducible refine ea_nil ?_) | (with_reducible refine ea_cons ?_)
  | ((with_reducible refine' ev_var ?_ ?_); rotate_left; exact rfl) | ((with_reducible refine' o_ixT ?_ ?_); rotate_left; exact rfl) | (with_reducible refine zo_lenT ?_) | (with_reducible refine zo_lenS ?_) | ((with_reducible refine' zo_lenL ?_ ?_); rotate_left 2; (walk_at "zmem")) | (with_reducible refine ev_tup ?_) | (with_reducible refine ev_lst ?_)
  | (with_reducible refine o_I0 ?_) | (with_reducible refine o_B0 ?_) | (with_reducible refine o_neg ?_) | (with_reducible refine o_eqI ?_) | (with_reducible refine o_neI ?_)
  | (with_reducible refine fun (hq : true = false) => Bool.noConfusion hq) | (with_reducible refine fun (hq : false = true) => Bool.noConfusion hq) | (with_reducible refine fun (_ : true = true) => ?_) | (with_reducible refine fun (_ : false = false) => ?_)
  | (with_reducible refine ⟨_, rfl, ?_⟩) | (with_reducible refine ⟨_, _, rfl, ?_⟩) | (with_reducible refine ⟨_, _, _, rfl, ?_⟩) | (with_reducible refine ⟨fun (_ : true = true) => ?_, fun (hq : true = false) => Bool.noConfusion hq⟩) | (with_reducible refine ⟨fun (hq : false = true) => Bool.noConfusion hq, fun (_ : false = false) => ?_⟩) | (with_reducible refine ⟨Nat.le_of_ble_eq_true rfl, ?_⟩) | ((with_reducible refine ⟨fun hq => absurd hq ?_, fun _ => ?_⟩); (simp <;> omega)) | ((with_reducible refine ⟨fun _ => ?_, fun hq => absurd hq ?_⟩); rotate_left; (simp <;> omega)) | (with_reducible refine And.intro (?_ : _ = true → _) (?_ : _ = false → _)) | (with_reducible refine ev_bm ?_) | (with_reducible refine ss_fld ?_) | (with_reducible refine ev_fld ?_) | (with_reducible refine ev_prop ?_) | (with_reducible refine ev_meth ?_) | (with_reducible refine ev_make ?_) | ((with_reducible refine' And.intro (tyD_of ?_) ?_); rotate_left 2; (walk_at "zmem")))
local macro_rules | `(tactic| walk_at "zz") => `(tactic| repeat (walk_at "z1"))
local macro_rules | `(tactic| walk_at "zle") => `(tactic| repeat (first | exact trivial | refine And.intro rfl ?_ | exact LeD.refl _))
abbrev F_steps_from : Spec := fun ds M Q => ∃ (h : Nat) (a : Addr) (w : Bool) (rs : List Rw), ds = [.int (h : Int), .adr a] ∧ (⟨a, w, .lst (rs.map rowD)⟩ : Cell) ∈ M ∧ (∀ r ∈ rs, RwOk r) ∧ rs.length ≤ 36 ∧ ∀ a2, Q (.adr a2) (⟨a2, true, .lst ((stepsF rs h).map stD)⟩ :: M)
theorem sc_steps_from : FnScope ["here", "rows", "steps", "number", "part", "odds", "own", "other", "odd"] ["here", "rows"] (fnScope (stT 43)) := fnScope_by (by decide +kernel)
theorem d_steps_from {P : Program} {w : World} {K : PySem.W.Frag} {mg : Str → Option Value} {base : Heap} {f CO CP CR dQ : Addr} {tk : Tok} {es : Array DictEntry} {nn : Nat} (bi : Bi mg) (gMC : mg "MOST_CASES" = some (.int 12 tk)) (gCO : mg "Observer" = some (.ref CO)) (gQ : mg "QUESTIONS" = some (.ref dQ)) (kq : KDict K w dQ es nn)  (c_over : DefR P w K mg base 3 "over" (Pm K F_over)) (gm : mg "steps_from" = some (.ref f)) (Fn : FnP K "steps_from" "steps_from" (stT 43) f) : DefR P w K mg base 4 "steps_from" (Pm K F_steps_from) :=
 def_of (F := F_steps_from) gm Fn sc_steps_from (fun _ _ _ _ _ _ us hl => match us, hl with | [_, _], _ => rfl) (fun ds M Q h => by obtain ⟨_, _, _, _, rfl, _⟩ := h; rfl) (fun cdv A outer s H E hr => ⟨_, (pss_cons (ps_set (i := 2) sc_steps_from.nd rfl (by first | exact Or.inl rfl | exact Or.inr rfl) (pe_lst pa_nil))
 (pss_cons (ps_for PassesOwn.never rfl (zpi_list K (pv 1)) (zpg_tup K (n := 3) rfl (pgs_cons (pg_name (i := 3) sc_steps_from.nd rfl (by first | exact Or.inl rfl | exact Or.inr rfl)) (pgs_cons (pg_name (i := 4) sc_steps_from.nd rfl (by first | exact Or.inl rfl | exact Or.inr rfl)) (pgs_cons (pg_name (i := 5) sc_steps_from.nd rfl (by first | exact Or.inl rfl | exact Or.inr rfl)) pgs_nil))))
 (pss_one (ps_if (pt_cmpR (zop_in_seq K) (pv 0) (pv 4) (by rfl))
 (pss_cons (ps_set (i := 6) sc_steps_from.nd rfl (by first | exact Or.inl rfl | exact Or.inr rfl) (pe_ix (zix_tup K) (pv 5) (zpe_tix K rfl (pv 4) (pa_cons (pv 0) pa_nil)) (fun _ _ => rfl)))
 (pss_one (ps_for PassesOwn.never rfl (zpi_zipA K rfl bi.zip (pa_cons (pv 4) (pa_cons (pv 5) pa_nil))) (zpg_tup K (n := 2) rfl (pgs_cons (pg_name (i := 7) sc_steps_from.nd rfl (by first | exact Or.inl rfl | exact Or.inr rfl)) (pgs_cons (pg_name (i := 8) sc_steps_from.nd rfl (by first | exact Or.inl rfl | exact Or.inr rfl)) pgs_nil)))
 (pss_one (ps_if (pt_cmpR op_ne (pv 7) (pv 0) (nomark _))
 (pss_one (ps_expr (zpe_bm K F.plainAttrs_list F.slot_list_append F.type_list_append mt_append (pv 2) (pa_cons (pe_tupF (pa_cons (pv 3) (pa_cons (pv 7) (pa_cons (pe_cD c_over hr (by decide) rfl (pa_cons (pv 8) (pa_cons (pv 6) pa_nil))) pa_nil)))) pa_nil))))
 pss_nil)))))
 pss_nil)))
 (pss_one (ps_ret (pv 2))))), fun B ds M Q0 hF => by

  obtain ⟨h, a, w, rs, rfl, hc, hok, hrl, q⟩ := hF
  walk_at "zz"
  intro p1
  walk_at "zz"
  refine ss_for (own := [3] ++ ([4] ++ ([5] ++ []))) (ei_list (ev_var rfl ⟨a, w, _, rfl, List.mem_cons_of_mem _ hc, ?_⟩))
  refine ⟨fun i δ' M' => δ' = [some (.int (h : Int)), some (.adr a), some (.adr p1), none, none, none, none, none, none] ∧ M' = ⟨p1, true, .lst ((stepsF (rs.take i) h).map stD)⟩ :: M, ?_, ⟨rfl, rfl⟩, ?_, ?_⟩
  · rintro i δ' M' _ ⟨rfl, rfl⟩; exact ⟨w, List.mem_cons_of_mem _ hc⟩
  · rintro i d δ' M' hi hf ⟨rfl, rfl⟩
    obtain ⟨r, hr, rfl⟩ := get_map hf
    have hrm := List.mem_of_getElem? hr
    have k := hok r hrm
    have kl := k.ln
    have hl0 : (stepsF (rs.take i) h).length ≤ 9 * 36 := by
      have a1 := stepsF_len (h := h) (rs := rs.take i) fun x hx => hok x (List.mem_of_mem_take hx)
      have a2 : (rs.take i).length ≤ 36 := by rw [List.length_take]; omega
      omega
    refine eg_tup rfl (egs_cons (eg_name (egs_cons (eg_name (egs_cons (eg_name (egs_nil ?_)))))))
    walk_at "zz"
    refine o_inT ?_
    walk_at "zz"
    · intro hz
      have e1 : h ∈ r.part := by have := of_decide_eq_true hz; rwa [nI_mem] at this
      have hidx := List.idxOf_lt_length_iff.mpr e1
      walk_at "zz"
      refine ev_tix (ev_var rfl ⟨nI r.part, rfl, ?_⟩)
      walk_at "zz"
      refine ⟨nI_mem.mpr e1, ?_⟩
      rw [idx_nI]
      refine o_ixT (d := eF (r.q h)) (by rw [atI_nat, List.getElem?_map, List.getElem?_map, List.getElem?_eq_getElem hidx, List.getElem_idxOf]; rfl) ?_
      walk_at "zz"
      refine ss_for (own := [7] ++ ([8] ++ [])) (ei_zipT ?_)
      walk_at "zz"
      refine ⟨true, true, _, _, rfl, by simp, ?_⟩
      refine ⟨fun m δ' M' => δ' = [some (.int (h : Int)), some (.adr a), some (.adr p1), some (.int (r.num : Int)), some (eT r.part), some (eQ (r.part.map r.q)), some (eF (r.q h)), none, none] ∧ M' = ⟨p1, true, .lst ((stepsF (rs.take i) h ++ ((r.part.take m).filter fun x => !decide (x = h)).map fun x => (⟨r.num, x, r.q x / r.q h⟩ : Step)).map stD)⟩ :: M, fun _ _ _ _ _ => trivial, ⟨rfl, by simp⟩, ?_, ?_⟩
      · rintro m d δ' M' hm hf ⟨rfl, rfl⟩
        obtain ⟨x, hx, rfl⟩ := zip_at hf
        have hxm := List.mem_of_getElem? hx
        refine eg_tup rfl (egs_cons (eg_name (egs_cons (eg_name (egs_nil ?_)))))
        walk_at "zz"
        · intro hz
          have hz2 := (Bool.not_eq_true' _).mp hz
          have e2 : ¬ x = h := by have := of_decide_eq_false hz2; omega
          walk_at "zz"
          refine ⟨_, _, 100, 100, rfl, (k.q0 x hxm).2, (k.q0 h e1).2, by omega, (k.q0 h e1).1, ?_⟩
          walk_at "zz"
          have hlen2 : ((stepsF (rs.take i) h ++ ((r.part.take m).filter fun x => !decide (x = h)).map fun x => (⟨r.num, x, r.q x / r.q h⟩ : Step)).map stD).length < 1000000 := by
            rw [List.length_map, List.length_append, List.length_map]
            have a1 := List.length_filter_le (fun x => !decide (x = h)) (r.part.take m)
            rw [List.length_take] at a1
            omega
          refine o_append (p := 0) rfl hlen2 ?_
          refine ⟨_, _, ?_, List.Sublist.refl _, rfl, ?_⟩
          · walk_at "zle"
          · simp only [take_snoc hx, List.filter_append, List.map_append, List.append_assoc, List.filter_cons, decide_eq_false e2]
            rfl
        · intro hz
          have hz2 := (Bool.not_eq_false' _).mp hz
          have e2 : x = h := by have := of_decide_eq_true hz2; omega
          walk_at "zz"
          refine ⟨_, _, ?_, List.Sublist.refl _, rfl, ?_⟩
          · walk_at "zle"
          · rw [take_snoc hx, List.filter_append, List.map_append, List.filter_cons, decide_eq_true e2]
            simp
      · rintro δ' M' ⟨rfl, rfl⟩
        refine ⟨_, _, ?_, List.Sublist.refl _, rfl, ?_⟩
        · walk_at "zle"
        · rw [eN_len, List.take_length, take_snoc hr, stepsF_snoc]
          unfold stepsR
          rw [if_pos e1]
    · intro hz
      have e1 : ¬ h ∈ r.part := by have := of_decide_eq_false hz; rwa [nI_mem] at this
      walk_at "zz"
      refine ⟨_, _, ?_, List.Sublist.refl _, rfl, ?_⟩
      · walk_at "zle"
      · rw [take_snoc hr, stepsF_snoc]
        unfold stepsR
        rw [if_neg e1, List.append_nil]
  · rintro δ' M' ⟨rfl, rfl⟩
    walk_at "zz"
    rw [List.length_map, List.take_length]
    exact WkM.of (q p1)
⟩)
abbrev F_backwards : Spec := fun ds M Q => ∃ (b : Bool) (wk : List (Nat × Nat × Nat)), ds = [.tup b (wk.map wkD)] ∧ wk.length ≤ 100 ∧ Q (.tup true ((wk.reverse.map fun t => (t.1, t.2.2, t.2.1)).map wkD)) M
theorem sc_backwards : FnScope ["walk", "step"] ["walk"] (fnScope (stT 45)) := fnScope_by (by decide +kernel)
theorem d_backwards {P : Program} {w : World} {K : PySem.W.Frag} {mg : Str → Option Value} {base : Heap} {f CO CP CR dQ : Addr} {tk : Tok} {es : Array DictEntry} {nn : Nat} (bi : Bi mg) (gMC : mg "MOST_CASES" = some (.int 12 tk)) (gCO : mg "Observer" = some (.ref CO)) (gQ : mg "QUESTIONS" = some (.ref dQ)) (kq : KDict K w dQ es nn)   (gm : mg "backwards" = some (.ref f)) (Fn : FnP K "backwards" "backwards" (stT 45) f) : DefR P w K mg base 1 "backwards" (Pm K F_backwards) :=
 def_of (F := F_backwards) gm Fn sc_backwards (fun _ _ _ _ _ _ us hl => match us, hl with | [_], _ => rfl) (fun ds M Q h => by obtain ⟨_, _, rfl, _⟩ := h; rfl) (fun cdv A outer s H E hr => ⟨_, (pss_one (ps_ret (pe_callTy (zcall_tupF K) rfl bi.tuple zb_tuple (pa_cons (pe_lc rfl sc_backwards.nd (zpi_tup K (zpe_revT K (pv 0))) (blkOk_by (own := [("step", 1)]) (by kernel_rfl)) (fun _ _ _ _ _ => (pg_name (i := 1) sc_backwards.nd rfl (by first | exact Or.inl rfl | exact Or.inr rfl))) (fun _ _ _ _ _ => pts_nil) (fun _ _ _ _ _ => (pe_tupF (pa_cons (pe_ix (zix_tup K) (pv 1) pe_int (fun _ _ => rfl)) (pa_cons (pe_ix (zix_tup K) (pv 1) pe_int (fun _ _ => rfl)) (pa_cons (pe_ix (zix_tup K) (pv 1) pe_int (fun _ _ => rfl)) pa_nil)))))) pa_nil)))), fun B ds M Q0 hF => by

  obtain ⟨b, wk, rfl, hl, q⟩ := hF
  walk_at "zz"
  refine ev_lcP (own := [1]) (by simp) (ei_tup (ev_revT (ev_var rfl ⟨b, _, rfl, ?_⟩)))
  refine ⟨true, _, rfl, ?_⟩
  rw [← List.map_reverse]
  refine ⟨fun z => wk.reverse[z]?.map fun t => wkD (t.1, t.2.2, t.2.1), by rw [List.length_map, List.length_reverse]; omega, ?_, ?_⟩
  · intro B2 z d hz hf
    obtain ⟨t, ht, rfl⟩ := get_map hf
    refine eg_name ?_
    walk_at "zz"
    refine ⟨List.Sublist.refl _, ?_⟩
    dsimp only
    rw [ht]
    rfl
  · intro p1
    rw [List.length_map, fm_map]
    walk_at "zz"
    refine o_tupL List.mem_cons_self ?_
    refine ⟨M, List.sublist_cons_self _ _, ?_⟩
    rw [List.map_map] at q
    exact q
⟩)
end Zy
set_option Elab.async false
set_option linter.all false
set_option maxRecDepth 100000
set_option maxHeartbeats 4000000
namespace Zy
open PySem PySem.Spec PyProof.Rows L2
open C8 (fnBody fnArgs fnScope clsBody scC fnScope_by)

local macro_rules | `(tactic| walk_at "zmem") => `(tactic| repeat (first | exact List.mem_cons_self | assumption | refine List.mem_cons_of_mem _ ?_))
local macro_rules | `(tactic| walk_at "z1") => `(tactic| first
  | (with_reducible refine ss_seq ?_) | (with_reducible refine ss_next ?_) | (with_reducible refine ss_ret ?_) | (with_reducible refine ss_set ?_) | (with_reducible refine ss_if ?_)
  | (with_reducible refine ss_drop ?_) | (with_reducible refine ss_par ?_) | (with_reducible refine ss_par3 ?_)
  | (with_reducible refine et_test ?_) | (with_reducible refine et_B ?_) | (with_reducible refine et_and ?_) | (with_reducible refine et_or ?_) | (with_reducible refine et_not2 ?_) | (with_reducible refine et_yes ?_)
  | (with_reducible refine ev_op ?_) | (with_reducible refine ev_un ?_) | (with_reducible refine isi_ii ?_) | (with_reducible refine isi_ib ?_) | (with_reducible refine isi_tt ?_) | (with_reducible refine isi_ss ?_)
  | (with_reducible refine ev_cb ?_) | (with_reducible refine ev_call ?_) | (with_reducible refine ev_chain ?_)
  | (with_reducible refine ev_and ?_) | (with_reducible refine ev_or ?_) | (with_reducible refine ev_not2 ?_) | (with_reducible refine ev_if ?_) | (with_reducible refine ev_int ?_) | (with_reducible refine ev_bl ?_) | (with_reducible refine ev_non ?_) | (with_reducible refine ev_str ?_)
  | (with_reducible refine ea_nil ?_) | (with_reducible refine ea_cons ?_)
  | ((with_reducible refine' ev_var ?_ ?_); rotate_left; exact rfl) | ((with_reducible refine' o_ixT ?_ ?_); rotate_left; exact rfl) | (with_reducible refine zo_lenT ?_) | (with_reducible refine zo_lenS ?_) | ((with_reducible refine' zo_lenL ?_ ?_); rotate_left 2; (walk_at "zmem")) | (with_reducible refine ev_tup ?_) | (with_reducible refine ev_lst ?_)
  | (with_reducible refine o_I0 ?_) | (with_reducible refine o_B0 ?_) | (with_reducible refine o_neg ?_) | (with_reducible refine o_eqI ?_) | (with_reducible refine o_neI ?_)
  | (with_reducible refine fun (hq : true = false) => Bool.noConfusion hq) | (with_reducible refine fun (hq : false = true) => Bool.noConfusion hq) | (with_reducible refine fun (_ : true = true) => ?_) | (with_reducible refine fun (_ : false = false) => ?_)
  | (with_reducible refine ⟨_, rfl, ?_⟩) | (with_reducible refine ⟨_, _, rfl, ?_⟩) | (with_reducible refine ⟨_, _, _, rfl, ?_⟩) | (with_reducible refine ⟨fun (_ : true = true) => ?_, fun (hq : true = false) => Bool.noConfusion hq⟩) | (with_reducible refine ⟨fun (hq : false = true) => Bool.noConfusion hq, fun (_ : false = false) => ?_⟩) | (with_reducible refine ⟨Nat.le_of_ble_eq_true rfl, ?_⟩) | ((with_reducible refine ⟨fun hq => absurd hq ?_, fun _ => ?_⟩); (simp <;> omega)) | ((with_reducible refine ⟨fun _ => ?_, fun hq => absurd hq ?_⟩); rotate_left; (simp <;> omega)) | (with_reducible refine And.intro (?_ : _ = true → _) (?_ : _ = false → _)) | (with_reducible refine ev_bm ?_) | (with_reducible refine ss_fld ?_) | (with_reducible refine ev_fld ?_) | (with_reducible refine ev_prop ?_) | (with_reducible refine ev_meth ?_) | (with_reducible refine ev_make ?_) | ((with_reducible refine' And.intro (tyD_of ?_) ?_); rotate_left 2; (walk_at "zmem")))
local macro_rules | `(tactic| walk_at "zz") => `(tactic| repeat (walk_at "z1"))
local macro_rules | `(tactic| walk_at "zle") => `(tactic| repeat (first | exact trivial | refine And.intro rfl ?_ | exact LeD.refl _))
abbrev F_spread : Spec := fun ds M Q => ∃ (cs : List Nat) (a : Addr) (w : Bool) (rs : List Rw), ds = [eT cs, .adr a] ∧ (⟨a, w, .lst (rs.map rowD)⟩ : Cell) ∈ M ∧ SprOk rs cs ∧ ∀ p R, RFin rs cs R → Q (.adr p) (⟨p, true, .dct (R.map entD)⟩ :: M)
theorem sc_spread : FnScope ["cases", "rows", "reached", "start", "waiting", "here", "weight", "walk", "number", "other", "ratio"] ["cases", "rows"] (fnScope (stT 44)) := fnScope_by (by decide +kernel)
theorem d_spread {P : Program} {w : World} {K : PySem.W.Frag} {mg : Str → Option Value} {base : Heap} {f CO CP CR dQ : Addr} {tk : Tok} {es : Array DictEntry} {nn : Nat} (bi : Bi mg) (gMC : mg "MOST_CASES" = some (.int 12 tk)) (gCO : mg "Observer" = some (.ref CO)) (gQ : mg "QUESTIONS" = some (.ref dQ)) (kq : KDict K w dQ es nn)  (c_steps_from : DefR P w K mg base 4 "steps_from" (Pm K F_steps_from)) (c_times : DefR P w K mg base 3 "times" (Pm K F_times)) (gm : mg "spread" = some (.ref f)) (Fn : FnP K "spread" "spread" (stT 44) f) : DefR P w K mg base 5 "spread" (Pm K F_spread) :=
 def_of (F := F_spread) gm Fn sc_spread (fun _ _ _ _ _ _ us hl => match us, hl with | [_, _], _ => rfl) (fun ds M Q h => by obtain ⟨_, _, _, _, rfl, _⟩ := h; rfl) (fun cdv A outer s H E hr => ⟨_, (pss_cons (ps_set (i := 2) sc_spread.nd rfl (by first | exact Or.inl rfl | exact Or.inr rfl) pe_dnewK)
 (pss_cons (ps_for PassesOwn.never rfl (zpi_tup K (pv 0)) (pg_name (i := 3) sc_spread.nd rfl (by first | exact Or.inl rfl | exact Or.inr rfl))
 (pss_one (ps_if (pt_cmp (pc_dnotin (hu_of hr) (pv 3) (pv 2)) rfl)
 (pss_cons (ps_dput (hu_of hr) (pv 2) (pv 3) (pe_tupF (pa_cons (pv 3) (pa_cons (pe_tupF (pa_cons pe_int (pa_cons pe_int pa_nil))) (pa_cons (pe_tupF pa_nil) pa_nil)))) rfl)
 (pss_cons (ps_set (i := 4) sc_spread.nd rfl (by first | exact Or.inl rfl | exact Or.inr rfl) (pe_lst (pa_cons (pv 3) pa_nil)))
 (pss_one (ps_while PassesOwn.never (pt_cmpR op_gt (pe_callB (zcall_len_seq K) rfl bi.len zb_len (pa_cons (pv 4) pa_nil)) pe_int (nomark _))
 (pss_cons (ps_set (i := 5) sc_spread.nd rfl (by first | exact Or.inl rfl | exact Or.inr rfl) (zpe_bm K F.plainAttrs_list F.slot_list_pop F.type_list_pop mt_popAt (pv 4) (pa_cons pe_int pa_nil)))
 (pss_cons (ps_set (i := 6) sc_spread.nd rfl (by first | exact Or.inl rfl | exact Or.inr rfl) (pe_ix (zix_tup K) (pe_dget (hu_of hr) (pv 2) (pv 5) (fun _ _ => rfl)) pe_int (fun _ _ => rfl)))
 (pss_cons (ps_set (i := 7) sc_spread.nd rfl (by first | exact Or.inl rfl | exact Or.inr rfl) (pe_ix (zix_tup K) (pe_dget (hu_of hr) (pv 2) (pv 5) (fun _ _ => rfl)) pe_int (fun _ _ => rfl)))
 (pss_one (ps_for PassesOwn.never rfl (zpi_list K (pe_cD c_steps_from hr (by decide) rfl (pa_cons (pv 5) (pa_cons (pv 1) pa_nil)))) (zpg_tup K (n := 3) rfl (pgs_cons (pg_name (i := 8) sc_spread.nd rfl (by first | exact Or.inl rfl | exact Or.inr rfl)) (pgs_cons (pg_name (i := 9) sc_spread.nd rfl (by first | exact Or.inl rfl | exact Or.inr rfl)) (pgs_cons (pg_name (i := 10) sc_spread.nd rfl (by first | exact Or.inl rfl | exact Or.inr rfl)) pgs_nil))))
 (pss_one (ps_if (pt_cmp (pc_dnotin (hu_of hr) (pv 9) (pv 2)) rfl)
 (pss_cons (ps_dput (hu_of hr) (pv 2) (pv 9) (pe_tupF (pa_cons (pv 3) (pa_cons (pe_cD c_times hr (by decide) rfl (pa_cons (pv 6) (pa_cons (pv 10) pa_nil))) (pa_cons (pe_op (zop_catF K) (pv 7) (pe_tupF (pa_cons (pe_tupF (pa_cons (pv 8) (pa_cons (pv 5) (pa_cons (pv 9) pa_nil)))) pa_nil))) pa_nil)))) rfl)
 (pss_one (ps_expr (zpe_bm K F.plainAttrs_list F.slot_list_append F.type_list_append mt_append (pv 4) (pa_cons (pv 9) pa_nil)))))
 pss_nil)))))))))))
 pss_nil)))
 (pss_one (ps_ret (pv 2))))), fun B ds M Q0 hF => by

  obtain ⟨cs, a, w, rs, rfl, hc, hs, q⟩ := hF
  have hc9 := hs.c9
  have hhead := head_mem hs.c1
  walk_at "zz"
  refine ev_dict fun pd => ?_
  refine ss_seq (ss_for (own := [3]) (ei_tup (ev_var rfl ⟨true, _, rfl, ?_⟩)))
  refine ⟨fun i δ' M' => ∃ R, δ' = [some (eT cs), some (.adr a), some (.adr pd), none, none, none, none, none, none, none, none] ∧ M' = ⟨pd, true, .dct (R.map entD)⟩ :: M ∧ ((i = 0 ∧ R = []) ∨ RFin rs cs R), fun _ _ _ _ _ => trivial, ⟨[], rfl, rfl, .inl ⟨rfl, rfl⟩⟩, ?_, ?_⟩
  · rintro i d δ' M' hi hf ⟨R, rfl, rfl, hR⟩
    obtain ⟨x, hx, rfl⟩ := eN_at hf
    have hxm := List.mem_of_getElem? hx
    refine eg_name ?_
    refine ss_if (et_B ?_)
    refine ev_dnin (QB := fun _ _ => True) (ev_var rfl (ev_var rfl ⟨_, pd, true, _, rfl, rfl, List.mem_cons_self, _, rfl, ?_⟩))
    rcases hR with ⟨rfl, rfl⟩ | hR
    · refine ⟨fun _ => ?_, fun hq => by cases hq⟩
      have hx0 : x = cs.headD 0 := by
        cases hcs : cs with
        | nil => exact absurd hcs hs.c1
        | cons y r => rw [hcs] at hx; simpa using hx.symm
      subst hx0
      refine ss_seq (ss_dput ?_)
      walk_at "zz"
      refine ⟨_, pd, _, 0, rfl, rfl, rfl, by simp, rfl, ?_⟩
      walk_at "zz"
      intro pw
      refine ss_while (fun k δ' M' => ∃ (R : List Ent) (D W : List Nat), δ' = [some (eT cs), some (.adr a), some (.adr pd), some (.int (cs.headD 0 : Nat)), some (.adr pw), none, none, none, none, none, none] ∧ M' = ⟨pw, true, .lst (eN W)⟩ :: ⟨pd, true, .dct (R.map entD)⟩ :: M ∧ R.map Ent.x = D ++ W ∧ RInv rs cs R ∧ (∀ d ∈ D, ∀ s ∈ stepsF rs d, ∃ e ∈ R, e.x = s.y) ∧ cs.headD 0 ∈ R.map Ent.x ∧ k = cs.length - D.length) (cs.length - 0) ⟨[⟨cs.headD 0, cs.headD 0, 1, []⟩], [], [cs.headD 0], rfl, rfl, rfl, RInv.first hs.c1, fun d hd => (by cases hd), List.mem_cons_self, rfl⟩ ?_
      rintro k δ' M' ⟨R, D, W, rfl, rfl, hDW, hinv, hcl, hhd, rfl⟩
      have hRl := hinv.len
      have hDl : D.length + W.length = R.length := by
        have := congrArg List.length hDW
        rw [List.length_map, List.length_append] at this
        omega
      walk_at "z1"
      walk_at "z1"
      refine ev_cb (ea_cons (ev_var rfl (ea_nil (zo_lenL List.mem_cons_self ?_))))
      walk_at "zz"
      · intro hz
        have hz2 := of_decide_eq_true hz
        rw [eN_len] at hz2
        obtain ⟨h, W', eW⟩ : ∃ h W', W = h :: W' := by
          cases W with
          | nil => simp at hz2
          | cons a r => exact ⟨a, r, rfl⟩
        subst eW
        have hhm : h ∈ R.map Ent.x := by rw [hDW]; simp
        obtain ⟨e0, he0, ex0⟩ := List.mem_map.mp hhm
        obtain ⟨e, he, ex, hfind⟩ := find_ent ⟨e0, he0, ex0⟩
        obtain ⟨ie, hie⟩ := List.getElem?_of_mem he
        have hiel := (List.getElem?_eq_some_iff.mp hie).1
        have ke := hinv.ok ie e hie
        have hv : valD (R.map entD) (h : Int) = some (entV e) := by rw [valD_ent, hfind]; rfl
        walk_at "zz"
        refine o_popAt (p := 0) (d := .int (h : Nat)) (ds := eN W') rfl ?_
        walk_at "zz"
        refine ev_dget (ev_var rfl (ev_var rfl ⟨_, pd, true, _, _, rfl, rfl, List.mem_cons_of_mem _ List.mem_cons_self, hv, ?_⟩))
        walk_at "zz"
        refine ev_dget (ev_var rfl (ev_var rfl ⟨_, pd, true, _, _, rfl, rfl, List.mem_cons_of_mem _ List.mem_cons_self, hv, ?_⟩))
        walk_at "zz"
        refine ss_for (own := [8] ++ ([9] ++ ([10] ++ []))) (ei_list ?_)
        walk_at "zz"
        refine ⟨_, a, w, rs, rfl, List.mem_cons_of_mem _ (List.mem_cons_of_mem _ hc), hs.ok, hs.rl, fun ps => ?_⟩
        refine ⟨ps, true, _, rfl, List.mem_cons_self, ?_⟩
        have hsx : ∀ s ∈ stepsF rs h, s.y ∈ cs ∧ 0 < s.q ∧ Sz 6 s.q := fun s hs2 => hs.st h (by rw [← ex]; exact ke.mem) s hs2
        refine ⟨fun m δ' M' => ∃ (R2 : List Ent) (W2 : List Nat), δ' = [some (eT cs), some (.adr a), some (.adr pd), some (.int (cs.headD 0 : Nat)), some (.adr pw), some (.int (h : Nat)), some (eF e.q), some (.tup true (e.wk.map wkD)), none, none, none] ∧ M' = ⟨ps, true, .lst ((stepsF rs h).map stD)⟩ :: ⟨pw, true, .lst (eN W2)⟩ :: ⟨pd, true, .dct (R2.map entD)⟩ :: M ∧ R2.map Ent.x = D ++ h :: W2 ∧ RInv rs cs R2 ∧ e ∈ R2 ∧ cs.headD 0 ∈ R2.map Ent.x ∧ (∀ d ∈ D, ∀ s ∈ stepsF rs d, ∃ f ∈ R2, f.x = s.y) ∧ ∀ s ∈ (stepsF rs h).take m, ∃ f ∈ R2, f.x = s.y, ?_, ⟨R, W', rfl, rfl, hDW, hinv, he, hhd, hcl, fun s hs2 => (by simp at hs2)⟩, ?_, ?_⟩
        · rintro m δ' M' _ ⟨R2, W2, rfl, rfl, _⟩
          exact ⟨true, List.mem_cons_self⟩
        · rintro m d δ' M' hm hf ⟨R2, W2, rfl, rfl, h1, h2, h3, h6, h4, h5⟩
          obtain ⟨st, hst, rfl⟩ := get_map hf
          have hstm := List.mem_of_getElem? hst
          obtain ⟨t1, t2, t3⟩ := hsx st hstm
          have hR2 := h2.len
          refine eg_tup rfl (egs_cons (eg_name (egs_cons (eg_name (egs_cons (eg_name (egs_nil ?_)))))))
          refine ss_if (et_B ?_)
          refine ev_dnin (QB := fun _ _ => True) (ev_var rfl (ev_var rfl ⟨_, pd, true, _, rfl, rfl, List.mem_cons_of_mem _ (List.mem_cons_of_mem _ List.mem_cons_self), _, rfl, ?_⟩))
          rw [valD_ent]
          refine ⟨fun hz => ?_, fun hz => ?_⟩
          · have hn : (R2.find? fun e => decide (e.x = st.y)) = none := by
              cases hfd : R2.find? fun e => decide (e.x = st.y) with
              | none => rfl
              | some f => rw [hfd] at hz; simp at hz
            have hn2 := find_none.mp hn
            refine ss_seq (ss_dput ?_)
            walk_at "zz"
            refine ⟨_, _, 61, 6, rfl, ke.sz.mono (by omega), t3, by omega, ?_⟩
            walk_at "zz"
            refine o_catF (by have := ke.wk; simp; omega) ?_
            walk_at "zz"
            refine ⟨_, pd, _, 2, rfl, rfl, rfl, by rw [List.length_map]; omega, by rw [valD_ent, hn]; rfl, ?_⟩
            walk_at "zz"
            have hW2 : W2.length < 1000 := by
              have := congrArg List.length h1
              rw [List.length_map, List.length_append, List.length_cons] at this
              omega
            refine o_append (p := 1) rfl (by rw [eN_len]; omega) ?_
            refine ⟨_, _, ?_, List.Sublist.refl _, R2 ++ [⟨st.y, e.s, e.q * st.q, e.wk ++ [(st.num, h, st.y)]⟩], W2 ++ [st.y], rfl, ?_, ?_, h2.snoc hs h3 (by rw [ex]; exact hstm) hn2 _, List.mem_append_left _ h3, (by rw [List.map_append]; exact List.mem_append_left _ h6), fun d hd s hs2 => ?_, fun s hs2 => ?_⟩
            · walk_at "zle"
            · rw [eN_snoc, List.map_append, ke.st]
              simp only [List.map_cons, List.map_nil, entD, entV, List.map_append]
              rfl
            · rw [List.map_append, h1]; simp
            · obtain ⟨f, hf1, hf2⟩ := h4 d hd s hs2
              exact ⟨f, List.mem_append_left _ hf1, hf2⟩
            · rw [take_snoc hst] at hs2
              rcases List.mem_append.mp hs2 with hs3 | hs3
              · obtain ⟨f, hf1, hf2⟩ := h5 s hs3
                exact ⟨f, List.mem_append_left _ hf1, hf2⟩
              · have : s = st := by simpa using hs3
                subst this
                exact ⟨_, List.mem_append_right _ List.mem_cons_self, rfl⟩
          · walk_at "zz"
            refine ⟨_, _, ?_, List.Sublist.refl _, R2, W2, rfl, rfl, h1, h2, h3, h6, h4, fun s hs2 => ?_⟩
            · walk_at "zle"
            · rw [take_snoc hst] at hs2
              rcases List.mem_append.mp hs2 with hs3 | hs3
              · exact h5 s hs3
              · have : s = st := by simpa using hs3
                subst this
                cases hfd : R2.find? fun e => decide (e.x = s.y) with
                | none => rw [hfd] at hz; simp at hz
                | some f => exact ⟨f, List.mem_of_find?_eq_some hfd, by simpa using List.find?_some hfd⟩
        · rintro δ' M' ⟨R2, W2, rfl, rfl, h1, h2, h3, h6, h4, h5⟩
          rw [List.length_map, List.take_length] at h5
          refine ⟨_, _, ?_, List.sublist_cons_self _ _, cs.length - (D ++ [h]).length, ?_, R2, D ++ [h], W2, rfl, rfl, by rw [h1]; simp, h2, fun d hd => ?_, h6, rfl⟩
          · walk_at "zle"
          · rw [List.length_append, List.length_singleton]
            rw [List.length_cons] at hDl
            omega
          · rcases List.mem_append.mp hd with hd | hd
            · exact h4 d hd
            · have : d = h := by simpa using hd
              subst this
              exact h5
      · intro hz
        have hz2 := of_decide_eq_false hz
        rw [eN_len] at hz2
        have eW : W = [] := by
          cases W with
          | nil => rfl
          | cons a r => simp at hz2
        subst eW
        rw [List.append_nil] at hDW
        refine ⟨_, _, ?_, List.sublist_cons_self _ _, R, rfl, rfl, .inr ⟨hinv, ?_⟩⟩
        · walk_at "zle"
        · refine hs.co (fun y => ∃ e ∈ R, e.x = y) ?_ ?_
          · obtain ⟨e, he, ex⟩ := List.mem_map.mp hhd
            exact ⟨e, he, ex⟩
          · rintro y hy ⟨e, he, rfl⟩ s hs2
            have hD : e.x ∈ D := by rw [← hDW]; exact List.mem_map_of_mem he
            exact hcl _ hD s hs2
    · refine ⟨fun hq => ?_, fun _ => ?_⟩
      · exfalso
        obtain ⟨e, he, ex, hfd⟩ := find_ent (hR.all x hxm)
        rw [valD_ent, hfd] at hq
        cases hq
      · walk_at "zz"
        refine ⟨_, _, ?_, List.Sublist.refl _, R, rfl, rfl, .inr hR⟩
        walk_at "zle"
  · rintro δ' M' ⟨R, rfl, rfl, hR⟩
    have hR2 : RFin rs cs R := by
      rcases hR with ⟨e, _⟩ | hR
      · exfalso
        rw [eN_len] at e
        have := hs.c1
        cases cs with
        | nil => exact this rfl
        | cons a r => simp at e
      · exact hR
    walk_at "zz"
    exact WkM.of (q pd R hR2)
⟩)
abbrev F_contradiction : Spec := fun ds M Q => ∃ (p : Addr) (w : Bool) (a : Addr) (w2 : Bool) (rs : List Rw) (R : List Ent), ds = [.adr p, .adr a] ∧ (⟨p, w, .dct (R.map entD)⟩ : Cell) ∈ M ∧ (⟨a, w2, .lst (rs.map rowD)⟩ : Cell) ∈ M ∧ (∀ r ∈ rs, RwOk r) ∧ (∀ r ∈ rs, ∀ x ∈ r.part, ∃ e ∈ R, e.x = x) ∧ (∀ e ∈ R, Sz 61 e.q ∧ e.wk.length ≤ 20) ∧ (Agree rs R → Q .non M) ∧ ∀ wk : List (Nat × Nat × Nat), ¬ Agree rs R → Q (.tup true (wk.map wkD)) M
theorem sc_contradiction : FnScope ["reached", "rows", "number", "part", "odds", "first", "other", "odd", "weight"] ["reached", "rows"] (fnScope (stT 46)) := fnScope_by (by decide +kernel)
theorem d_contradiction {P : Program} {w : World} {K : PySem.W.Frag} {mg : Str → Option Value} {base : Heap} {f CO CP CR dQ : Addr} {tk : Tok} {es : Array DictEntry} {nn : Nat} (bi : Bi mg) (gMC : mg "MOST_CASES" = some (.int 12 tk)) (gCO : mg "Observer" = some (.ref CO)) (gQ : mg "QUESTIONS" = some (.ref dQ)) (kq : KDict K w dQ es nn)  (c_times : DefR P w K mg base 3 "times" (Pm K F_times)) (c_over : DefR P w K mg base 3 "over" (Pm K F_over)) (c_backwards : DefR P w K mg base 1 "backwards" (Pm K F_backwards)) (gm : mg "contradiction" = some (.ref f)) (Fn : FnP K "contradiction" "contradiction" (stT 46) f) : DefR P w K mg base 4 "contradiction" (Pm K F_contradiction) :=
 def_of (F := F_contradiction) gm Fn sc_contradiction (fun _ _ _ _ _ _ us hl => match us, hl with | [_, _], _ => rfl) (fun ds M Q h => by obtain ⟨_, _, _, _, _, _, rfl, _⟩ := h; rfl) (fun cdv A outer s H E hr => ⟨_, (pss_cons (ps_for PassesOwn.never rfl (zpi_list K (pv 1)) (zpg_tup K (n := 3) rfl (pgs_cons (pg_name (i := 2) sc_contradiction.nd rfl (by first | exact Or.inl rfl | exact Or.inr rfl)) (pgs_cons (pg_name (i := 3) sc_contradiction.nd rfl (by first | exact Or.inl rfl | exact Or.inr rfl)) (pgs_cons (pg_name (i := 4) sc_contradiction.nd rfl (by first | exact Or.inl rfl | exact Or.inr rfl)) pgs_nil))))
 (pss_cons (ps_set (i := 5) sc_contradiction.nd rfl (by first | exact Or.inl rfl | exact Or.inr rfl) (pe_dget (hu_of hr) (pv 0) (pe_ix (zix_tup K) (pv 3) pe_int (fun _ _ => rfl)) (fun _ _ => rfl)))
 (pss_one (ps_for PassesOwn.never rfl (zpi_zipA K rfl bi.zip (pa_cons (pv 3) (pa_cons (pv 4) pa_nil))) (zpg_tup K (n := 2) rfl (pgs_cons (pg_name (i := 6) sc_contradiction.nd rfl (by first | exact Or.inl rfl | exact Or.inr rfl)) (pgs_cons (pg_name (i := 7) sc_contradiction.nd rfl (by first | exact Or.inl rfl | exact Or.inr rfl)) pgs_nil)))
 (pss_cons (ps_set (i := 8) sc_contradiction.nd rfl (by first | exact Or.inl rfl | exact Or.inr rfl) (pe_cD c_times hr (by decide) rfl (pa_cons (pe_ix (zix_tup K) (pv 5) pe_int (fun _ _ => rfl)) (pa_cons (pe_cD c_over hr (by decide) rfl (pa_cons (pv 7) (pa_cons (pe_ix (zix_tup K) (pv 4) pe_int (fun _ _ => rfl)) pa_nil))) pa_nil))))
 (pss_one (ps_if (pt_cmpR (zop_neD K hr.units) (pv 8) (pe_ix (zix_tup K) (pe_dget (hu_of hr) (pv 0) (pv 6) (fun _ _ => rfl)) pe_int (fun _ _ => rfl)) (nomark _))
 (pss_one (ps_ret (pe_op (zop_catF K) (pe_op (zop_catF K) (pe_ix (zix_tup K) (pv 5) pe_int (fun _ _ => rfl)) (pe_tupF (pa_cons (pe_tupF (pa_cons (pv 2) (pa_cons (pe_ix (zix_tup K) (pv 3) pe_int (fun _ _ => rfl)) (pa_cons (pv 6) pa_nil)))) pa_nil))) (pe_cD c_backwards hr (by decide) rfl (pa_cons (pe_ix (zix_tup K) (pe_dget (hu_of hr) (pv 0) (pv 6) (fun _ _ => rfl)) pe_int (fun _ _ => rfl)) pa_nil)))))
 pss_nil)))))))
 (pss_one (ps_ret pe_non))), fun B ds M Q0 hF => by

  obtain ⟨p, w, a, w2, rs, R, rfl, hc, hc2, hok, hall, hsz, qy, qn⟩ := hF
  have look : ∀ {x : Nat}, (∃ e ∈ R, e.x = x) → ∃ e, e ∈ R ∧ valD (R.map entD) (x : Int) = some (entV e) ∧ wtR R x = e.q := fun {x} h => by
    obtain ⟨e, he, ex, hf⟩ := find_ent h
    exact ⟨e, he, by rw [valD_ent, hf]; rfl, wtR_of hf⟩
  refine ss_seq (ss_for (own := [2] ++ ([3] ++ ([4] ++ []))) (ei_list (ev_var rfl ⟨a, w2, _, rfl, hc2, ?_⟩)))
  refine ⟨fun i δ' M' => M' = M ∧ δ' = [some (.adr p), some (.adr a), none, none, none, none, none, none, none] ∧ Agree (rs.take i) R, ?_, ⟨rfl, rfl, fun r hr => (by simp at hr)⟩, ?_, ?_⟩
  · rintro i δ' M' _ ⟨rfl, _, _⟩; exact ⟨w2, hc2⟩
  · rintro i d δ' M' hi hf ⟨rfl, rfl, hag⟩
    obtain ⟨r, hr, rfl⟩ := get_map hf
    have hrm := List.mem_of_getElem? hr
    have k := hok r hrm
    obtain ⟨p0, pr, ep⟩ : ∃ p0 pr, r.part = p0 :: pr := by
      cases h : r.part with
      | nil => exact absurd h k.ne
      | cons a r => exact ⟨a, r, rfl⟩
    have hp0 : p0 ∈ r.part := by rw [ep]; exact List.mem_cons_self
    have hhd : r.part.headD 0 = p0 := by rw [ep]; rfl
    obtain ⟨e0, he0, hv0, hw0⟩ := look (hall r hrm p0 hp0)
    refine eg_tup rfl (egs_cons (eg_name (egs_cons (eg_name (egs_cons (eg_name (egs_nil ?_)))))))
    refine ss_seq (ss_set (ev_dget (ev_var rfl (ev_op (ev_var rfl (ev_int (o_ixT (d := .int (p0 : Nat)) (by rw [atI0, ep]; rfl) ⟨_, p, w, _, _, rfl, rfl, hc, hv0, ?_⟩)))))))
    refine ss_for (own := [6] ++ ([7] ++ [])) (ei_zipT ?_)
    walk_at "zz"
    refine ⟨true, true, _, _, rfl, by simp, ?_⟩
    refine ⟨fun m δ' M2 => M2 = M' ∧ δ' = [some (.adr p), some (.adr a), some (.int (r.num : Int)), some (eT r.part), some (eQ (r.part.map r.q)), some (entV e0), none, none, none] ∧ ∀ x ∈ r.part.take m, wtR R p0 * (r.q x / r.q p0) = wtR R x, fun _ _ _ _ _ => trivial, ⟨rfl, rfl, fun x hx => (by simp at hx)⟩, ?_, ?_⟩
    · rintro m d δ' M2 hm hf ⟨rfl, rfl, hin⟩
      obtain ⟨x, hx, rfl⟩ := zip_at hf
      have hxm := List.mem_of_getElem? hx
      obtain ⟨e, he, hv, hw⟩ := look (hall r hrm x hxm)
      have z0 := hsz e0 he0
      have z1 := hsz e he
      refine eg_tup rfl (egs_cons (eg_name (egs_cons (eg_name (egs_nil ?_)))))
      walk_at "zz"
      refine o_ixT (d := eF (r.q p0)) (by rw [atI0, ep]; rfl) ?_
      walk_at "zz"
      refine ⟨_, _, 100, 100, rfl, (k.q0 x hxm).2, (k.q0 p0 hp0).2, by omega, (k.q0 p0 hp0).1, ?_⟩
      walk_at "zz"
      refine ⟨_, _, 61, 200, rfl, z0.1, ((k.q0 x hxm).2.div (k.q0 p0 hp0).2 (num_pos.mpr (k.q0 p0 hp0).1)), by omega, ?_⟩
      walk_at "zz"
      refine ev_dget (ev_var rfl (ev_var rfl ⟨_, p, w, _, _, rfl, rfl, hc, hv, ?_⟩))
      walk_at "zz"
      refine o_neF ?_
      walk_at "zz"
      · intro hz
        have hne : ¬ e0.q * (r.q x / r.q p0) = e.q := of_decide_eq_false ((Bool.not_eq_true' _).mp hz)
        have hna : ¬ Agree rs R := fun h => by
          have := h r hrm x hxm
          rw [hhd, hw0, hw] at this
          exact hne this
        walk_at "zz"
        refine o_ixT (d := .int (p0 : Nat)) (by rw [atI0, ep]; rfl) ?_
        walk_at "zz"
        refine o_catF (by have := z0.2; simp; omega) ?_
        walk_at "zz"
        refine ev_dget (ev_var rfl (ev_var rfl ⟨_, p, w, _, _, rfl, rfl, hc, hv, ?_⟩))
        walk_at "zz"
        refine ⟨by omega, ?_⟩
        refine o_catF (by have := z0.2; have := z1.2; simp; omega) ?_
        have := qn (e0.wk ++ [(r.num, p0, x)] ++ e.wk.reverse.map fun t => (t.1, t.2.2, t.2.1)) hna
        rw [List.map_append, List.map_append] at this
        exact WkM.of this
      · intro hz
        have he2 : e0.q * (r.q x / r.q p0) = e.q := of_decide_eq_true ((Bool.not_eq_false' _).mp hz)
        walk_at "zz"
        refine ⟨_, _, ?_, List.Sublist.refl _, rfl, rfl, fun y hy => ?_⟩
        · walk_at "zle"
        · rw [take_snoc hx] at hy
          rcases List.mem_append.mp hy with hy | hy
          · exact hin y hy
          · have : y = x := by simpa using hy
            subst this
            rw [hw0, hw]; exact he2
    · rintro δ' M2 ⟨rfl, rfl, hin⟩
      rw [eN_len, List.take_length] at hin
      refine ⟨_, _, ?_, List.Sublist.refl _, rfl, rfl, fun r2 hr2 => ?_⟩
      · walk_at "zle"
      · rw [take_snoc hr] at hr2
        rcases List.mem_append.mp hr2 with h | h
        · exact hag r2 h
        · have : r2 = r := by simpa using h
          subst this
          intro x hx
          rw [hhd]
          exact hin x hx
  · rintro δ' M' ⟨rfl, rfl, hag⟩
    rw [List.length_map, List.take_length] at hag
    walk_at "zz"
    exact WkM.of (qy hag)
⟩)
abbrev F_source (CO CP CR : Addr) : Spec := fun ds M Q => ∃ (r : Addr) (n : Nat) (obs : List Ob) (kept : List Nat) (p : Addr) (os : List Addr) (c : Bool) (b : Dt) (k : Nat) (cs : List Nat), ds = [.adr r, .int (k : Int)] ∧ RoomX CO CP CR M r n obs kept p os c b ∧ (regionsF obs kept)[k]? = some cs ∧ SprOk (rowsP obs kept cs) cs ∧ (∀ r ∈ rowsP obs kept cs, ∀ x ∈ r.part, x ∈ cs) ∧ (∀ u : Nat → Rat, (∀ x ∈ cs, 0 < u x ∧ Sz 61 (u x)) → ConS (rowsP obs kept cs) cs u → Q (.tup true [.str "source", eQ (cs.map fun x => u x / rsum (cs.map u))]) M) ∧ ∀ wk : List (Nat × Nat × Nat), (¬ ∃ u : Nat → Rat, (∀ x ∈ cs, 0 < u x) ∧ ConS (rowsP obs kept cs) cs u) → Q (.tup true [.str "walk", .tup true (wk.map wkD)]) M
theorem sc_source : FnScope ["room", "region", "cases", "rows", "reached", "walk", "case"] ["room", "region"] (fnScope (stT 47)) := fnScope_by (by decide +kernel)
theorem d_source {P : Program} {w : World} {K : PySem.W.Frag} {mg : Str → Option Value} {base : Heap} {f CO CP CR dQ : Addr} {tk : Tok} {es : Array DictEntry} {nn : Nat} (bi : Bi mg) (gMC : mg "MOST_CASES" = some (.int 12 tk)) (gCO : mg "Observer" = some (.ref CO)) (gQ : mg "QUESTIONS" = some (.ref dQ)) (kq : KDict K w dQ es nn) (hCO : Cls K CO) (na_ol : NoAttr K CO "own_labels") (na_op : NoAttr K CO "own_parts") (na_oo : NoAttr K CO "own_odds") (hCP : Cls K CP) (na_k : NoAttr K CP "kept") (na_b : NoAttr K CP "before") (hCR : Cls K CR) (na_w : NoAttr K CR "watchers") (na_s : NoAttr K CR "size") (na_p : NoAttr K CR "presence") (c_region_cases : DefR P w K mg base 8 "region_cases" (Pm K (F_region_cases CO CP CR))) (c_present_parts : DefR P w K mg base 6 "present_parts" (Pm K (F_present_parts CO CP CR))) (c_spread : DefR P w K mg base 5 "spread" (Pm K F_spread)) (c_contradiction : DefR P w K mg base 4 "contradiction" (Pm K F_contradiction)) (c_shares : DefR P w K mg base 5 "shares" (Pm K F_shares)) (gm : mg "source" = some (.ref f)) (Fn : FnP K "source" "source" (stT 47) f) : DefR P w K mg base 9 "source" (Pm K (F_source CO CP CR)) :=
 def_of (F := (F_source CO CP CR)) gm Fn sc_source (fun _ _ _ _ _ _ us hl => match us, hl with | [_, _], _ => rfl) (fun ds M Q h => by obtain ⟨_, _, _, _, _, _, _, _, _, _, rfl, _⟩ := h; rfl) (fun cdv A outer s H E hr => ⟨_, (pss_cons (ps_set (i := 2) sc_source.nd rfl (by first | exact Or.inl rfl | exact Or.inr rfl) (pe_cD c_region_cases hr (by decide) rfl (pa_cons (pv 0) (pa_cons (pv 1) pa_nil))))
 (pss_cons (ps_set (i := 3) sc_source.nd rfl (by first | exact Or.inl rfl | exact Or.inr rfl) (pe_cD c_present_parts hr (by decide) rfl (pa_cons (pv 0) (pa_cons (pv 2) pa_nil))))
 (pss_cons (ps_set (i := 4) sc_source.nd rfl (by first | exact Or.inl rfl | exact Or.inr rfl) (pe_cD c_spread hr (by decide) rfl (pa_cons (pv 2) (pa_cons (pv 3) pa_nil))))
 (pss_cons (ps_set (i := 5) sc_source.nd rfl (by first | exact Or.inl rfl | exact Or.inr rfl) (pe_cD c_contradiction hr (by decide) rfl (pa_cons (pv 4) (pa_cons (pv 3) pa_nil))))
 (pss_cons (ps_if (pt_cmpR op_notN (pv 5) pe_non (nomark _))
 (pss_one (ps_ret (pe_tupF (pa_cons pe_str (pa_cons (pv 5) pa_nil)))))
 pss_nil)
 (pss_one (ps_ret (pe_tupF (pa_cons pe_str (pa_cons (pe_cD c_shares hr (by decide) rfl (pa_cons (pe_lc rfl sc_source.nd (zpi_tup K (pv 2)) (blkOk_by (own := [("case", 6)]) (by kernel_rfl)) (fun _ _ _ _ _ => (pg_name (i := 6) sc_source.nd rfl (by first | exact Or.inl rfl | exact Or.inr rfl))) (fun _ _ _ _ _ => pts_nil) (fun _ _ _ _ _ => (pe_ix (zix_tup K) (pe_dget (hu_of hr) (pv 4) (pv 6) (fun _ _ => rfl)) pe_int (fun _ _ => rfl)))) pa_nil)) pa_nil)))))))))), fun B ds M Q0 hF => by

  obtain ⟨r, n, obs, kept, p, os, c, b, k, cs, rfl, hx, hk, hs, hcov, qy, qn⟩ := hF
  have hc9 := hs.c9
  walk_at "zz"
  refine ⟨r, n, obs, kept, p, os, c, b, k, cs, rfl, hx, hk, ?_⟩
  walk_at "zz"
  refine ⟨r, n, obs, kept, p, os, c, b, cs, rfl, hx, fun pr => ?_⟩
  walk_at "zz"
  refine ⟨cs, pr, true, rowsP obs kept cs, rfl, List.mem_cons_self, hs, fun pd R hR => ?_⟩
  have hRl := hR.inv.len
  walk_at "zz"
  refine ⟨pd, true, pr, true, rowsP obs kept cs, R, rfl, List.mem_cons_self, List.mem_cons_of_mem _ List.mem_cons_self, hs.ok, fun r hr x hx => hR.all x (hcov r hr x hx), fun e he => ?_, fun hag => ?_, fun wk hna => ?_⟩
  · obtain ⟨i, hi⟩ := List.getElem?_of_mem he
    have hil := (List.getElem?_eq_some_iff.mp hi).1
    have ke := hR.inv.ok i e hi
    have := ke.wk
    exact ⟨ke.sz.mono (by omega), by omega⟩
  · have hu := agree_con (cs := cs) hs.ok hag
    have hp : ∀ x ∈ cs, 0 < wtR R x ∧ Sz 61 (wtR R x) := fun x hx => ⟨(hR.wt hx hc9).1, (hR.wt hx hc9).2.1⟩
    walk_at "zz"
    refine o_notN (b := false) (.inl ⟨rfl, rfl⟩) ?_
    walk_at "zz"
    refine ev_lcP (own := [6]) (by simp) (ei_tup (ev_var rfl ⟨true, _, rfl, ?_⟩))
    refine ⟨fun z => cs[z]?.map fun x => eF (wtR R x), by rw [eN_len]; omega, ?_, ?_⟩
    · intro B2 z d hz hf
      obtain ⟨x, hx2, rfl⟩ := eN_at hf
      obtain ⟨e, he, ex, hfd⟩ := find_ent (hR.all x (List.mem_of_getElem? hx2))
      refine eg_name ?_
      walk_at "zz"
      refine ev_dget (ev_var rfl (ev_var rfl ⟨_, pd, true, _, entV e, rfl, rfl, List.mem_cons_self, by rw [valD_ent, hfd]; rfl, ?_⟩))
      walk_at "zz"
      refine ⟨List.Sublist.refl _, ?_⟩
      dsimp only
      rw [hx2, Option.map_some, wtR_of hfd]
    · intro pl
      have e3 : (List.range (eN cs).length).filterMap (fun z => cs[z]?.map fun x => eF (wtR R x)) = (cs.map (wtR R)).map eF := by
        rw [fmI, List.map_map]; rfl
      rw [e3]
      walk_at "zz"
      refine ⟨pl, true, cs.map (wtR R), 61, rfl, List.mem_cons_self, fun q hq => ?_, fun q hq => ?_, ?_, ?_⟩
      · obtain ⟨x, hx2, rfl⟩ := List.mem_map.mp hq
        exact (hp x hx2).2
      · obtain ⟨x, hx2, rfl⟩ := List.mem_map.mp hq
        exact (hp x hx2).1
      · rw [List.length_map]
        have : (cs.length + 1) * (61 + 1) ≤ 10 * 62 := Nat.mul_le_mul (by omega) (by omega)
        omega
      · walk_at "zz"
        refine ⟨M, ((List.sublist_cons_self _ _).trans (List.sublist_cons_self _ _)).trans (List.sublist_cons_self _ _), ?_⟩
        have := qy (wtR R) hp hu
        unfold eQ at this
        rw [List.map_map] at this ⊢
        exact this
  · walk_at "zz"
    refine o_notN (b := true) (.inr ⟨rfl, true, _, rfl⟩) ?_
    walk_at "zz"
    refine ⟨M, (List.sublist_cons_self _ _).trans (List.sublist_cons_self _ _), qn wk ?_⟩
    rintro ⟨u, hp, hu⟩
    exact hna (con_agree hs hcov hR hu hp)
⟩)
end Zy
set_option Elab.async false
set_option linter.all false
set_option maxRecDepth 100000
set_option maxHeartbeats 4000000
namespace Zy
open PySem PySem.Spec PyProof.Rows L2
section
variable {K : PySem.W.Frag} {B : Hp} {M : Mem} {δ : Dl} {Q : Dt → Mem → Prop} {te : TE} {ts : TS} {N : Dl → Mem → Prop} {Rt : Dt → Mem → Prop}
/-! ### the supply -/
abbrev supL (a : Addr) (x y z : Int) : Cell := ⟨a, true, .lst [.int x, .int y, .int z]⟩
theorem ms_recell {H : Hp} {M : Mem} {i : Nat} {a : Addr} {o o' : MO} (m : MS K B H M) (hi : M[i]? = some ⟨a, true, o⟩) (ho : OH K H a o') : MS K B H (M.set i ⟨a, true, o'⟩) :=
  m.change hi (fun _ _ _ e => e) (Tu.refl H) ho
/-- a list that is just made becomes the supply -/
theorem ev_supp (h : Ev K B te δ M fun d M' => ∃ (p : Addr) (x y z : Int) (M1 : Mem), M' = supL p x y z :: M1 ∧ 0 ≤ x ∧ 0 ≤ y ∧ y < 2147483648 ∧ Q d (⟨p, true, .sup⟩ :: M1)) : Ev K B te δ M Q := fun σ H m s R k =>
  h σ H m s R fun v H' d M' t tv m' ⟨p, x, y, z, M1, e, h1, h2, h3, q⟩ => by
    subst e
    refine k v H' d _ t tv ?_ q
    have hc := m'.at_ _ List.mem_cons_self
    obtain ⟨vs, hl, hs⟩ := hc
    have ev := TVs.ints (ns := [x, y, z]) hs
    subst ev
    exact ms_recell (i := 0) m' rfl ⟨x, y, z, hl, h1, h2, h3⟩
/-- the supply opened; it is closed at the end -/
theorem ss_sup {i : Nat} {a : Addr} (hi : M[i]? = some ⟨a, true, .sup⟩) (h : ∀ x y z : Int, 0 ≤ x → 0 ≤ y → y < 2147483648 → SS K B ts δ (M.set i (supL a x y z)) (fun _ _ => False) fun d M' =>
      ∃ x y z : Int, 0 ≤ x ∧ 0 ≤ y ∧ y < 2147483648 ∧ M' = M.set i (supL a x y z) ∧ Rt d M) : SS K B ts δ M N Rt := fun σ H m s D k1 k2 => by
  obtain ⟨x, y, z, hl, h1, h2, h3⟩ := m.at_ _ (List.mem_of_getElem? hi)
  have m1 : MS K B H (M.set i (supL a x y z)) := ms_recell m hi ⟨_, hl, TVs.of_ints (ns := [x, y, z])⟩
  refine h x y z h1 h2 h3 σ H m1 s D (fun _ _ _ _ _ _ _ z => z.elim) fun v H' d M' t tv m' ⟨x', y', z', a1, a2, a3, e, q⟩ => k2 v H' d M t tv ?_ q
  subst e
  have hlt := (List.getElem?_eq_some_iff.mp hi).1
  have hi2 : (M.set i (supL a x' y' z'))[i]? = some ⟨a, true, .lst [.int x', .int y', .int z']⟩ := List.getElem?_set_self hlt
  obtain ⟨vs, hl2, hs2⟩ := m'.at_ _ (List.mem_of_getElem? hi2)
  have ev := TVs.ints (ns := [x', y', z']) hs2
  subst ev
  have r := ms_recell m' hi2 (o' := .sup) ⟨x', y', z', hl2, a1, a2, a3⟩
  rwa [List.set_set, zset_self hi] at r

/-! ### a comprehension whose items make objects -/
theorem ev_lcG {wi : TI} {g : TG} {tt : TT} {own vs : List Nat} (hv : ∀ i ∈ own, i ∈ vs) (h : EvI K B wi δ M fun n f C M1 => ∃ Iv : Nat → List Dt → Mem → Prop, n ≤ 100000 ∧ (∀ i acc M', Iv i acc M' → (∀ c ∈ M', c.w = true) ∧ C M') ∧ Iv 0 [] M1 ∧
      (∀ B' i d acc M', i < n → f i = some d → acc.length ≤ i → Iv i acc M' → EG K B' own g d (wipeL δ vs) M' fun δ2 M2 => EvT K B' tt δ2 M2 fun b M3 =>
        (b = true → Ev K B' te δ2 M3 fun y M4 => WkM (Iv (i + 1) (acc ++ [y])) M4) ∧ (b = false → WkM (Iv (i + 1) acc) M3)) ∧ ∀ p acc M', acc.length ≤ n → Iv n acc M' → Q (.adr p) (⟨p, true, .lst acc⟩ :: M')) :
    Ev K B (tLc wi g tt te vs) δ M Q := fun σ H m s R k => by
  refine h σ H m s _ fun J H1 n f C M1 t1 m1 c1 w ⟨Iv, hn, hC, h0, hs, hd⟩ => ?_
  intro D hD
  have bD : B D = none := m1.base hD
  refine ⟨fun i k H' => k = n - i ∧ i ≤ n ∧ ∃ acc accV M', Tu H1 H' ∧ MS K B H' M' ∧ H' D = some (.lst accV) ∧ TVs K H' accV acc ∧ acc.length ≤ i ∧ Iv i acc M' ∧ ∀ c ∈ M', c.a ≠ D,
    ⟨n, by simp, Nat.zero_le _, [], [], M1, Tu.new hD, m1.grow (Evl.Ex.new hD), upd_same, .nil, Nat.le_refl _, h0, m1.fresh hD⟩, ?_⟩
  rintro i k' H2 ⟨rfl, hi, acc, accV, M2, t2, m2, hD2, tv2, l2, i2, ne2⟩
  obtain ⟨hw2, c2⟩ := hC i acc M2 i2
  by_cases hlt : i < n
  · refine .inr ⟨w.goes i H2 M2 hlt t2 m2 c2, fun H' => ∃ acc accV M', Tu H1 H' ∧ MS K B H' M' ∧ H' D = some (.lst accV) ∧ TVs K H' accV acc ∧ acc.length ≤ i + 1 ∧ Iv (i + 1) acc M' ∧ ∀ c ∈ M', c.a ≠ D, fun H' z => ⟨n - (i + 1), by omega, rfl, hlt, z⟩, fun x H3 y => ?_⟩
    obtain ⟨d, fd, tv, e3⟩ := w.yields i H2 x H3 M2 hlt t2 m2 c2 y
    have m3 := m2.grow e3
    have hD3 := e3 _ _ hD2
    have mB : MS K (fun b => if b = D then some (.lst accV) else B b) H3 M2 := ⟨fun b o e => by
      by_cases hb : b = D
      · subst hb
        have e' : some (HO.lst accV) = some o := by simpa using e
        rw [← e']
        exact hD3
      · have e' : B b = some o := by simpa [hb] using e
        exact m3.ex b o e', fun c hc w' => by
        have := ne2 c hc
        simp only [this, if_false]
        exact m3.own c hc w', m3.at_, m3.nd⟩
    have sW : RS K H3 (wipe σ vs) (wipeL δ vs) := (s.mono ((t1.trans t2).trans e3.tu)).wipe vs
    have neD : ∀ {H' : Hp} {M' : Mem}, MS K (fun b => if b = D then some (.lst accV) else B b) H' M' → (∀ c ∈ M', c.w = true) → ∀ c ∈ M', c.a ≠ D := fun {H' M'} m' hw c hc e => by
      have := m'.own c hc (hw c hc)
      rw [e] at this
      simp at this
    have back : ∀ {H' : Hp} {M' : Mem} {vs' : List V}, MS K (fun b => if b = D then some (.lst accV) else B b) H' M' → (∀ c ∈ M', c.w = true) → MS K B (upd H' D (.lst vs')) M' := fun {H' M' vs'} m' hw => by
      have hD' : H' D = some (.lst accV) := m'.ex D _ (by simp)
      have tD : Tu H' (upd H' D (.lst vs')) := Tu.write hD' rfl
      refine ⟨fun b o e => ?_, fun c hc w' => ?_, fun c hc => ?_, m'.nd⟩
      · have hb : b ≠ D := fun z => by rw [z, bD] at e; cases e
        rw [upd_ne hb]
        exact m'.ex b o (by simp only [hb, if_false]; exact e)
      · have hb := neD m' hw c hc
        have := m'.own c hc w'
        simpa only [hb, if_false] using this
      · exact (m'.at_ c hc).keep (upd_ne (neD m' hw c hc)) tD
    have back0 : ∀ {H' : Hp} {M' : Mem}, MS K (fun b => if b = D then some (.lst accV) else B b) H' M' → (∀ c ∈ M', c.w = true) → MS K B H' M' := fun {H' M'} m' hw => by
      refine ⟨fun b o e => ?_, fun c hc w' => ?_, m'.at_, m'.nd⟩
      · have hb : b ≠ D := fun z => by rw [z, bD] at e; cases e
        exact m'.ex b o (by simp only [hb, if_false]; exact e)
      · have hb := neD m' hw c hc
        have := m'.own c hc w'
        simpa only [hb, if_false] using this
    refine hs _ i d acc M2 hlt fd l2 i2 x _ H3 mB sW tv _ fun σ4 H4 δ4 M4 t4 m4 s4 w4 q4 => ?_
    refine ⟨(w4 vs hv).trans wipe_idem, ?_⟩
    refine q4 σ4 H4 m4 s4 _ fun b H5 M5 t5 m5 q5 => ?_
    cases b with
    | true =>
      show te σ4 H5 _
      refine q5.1 rfl σ4 H5 m5 (s4.mono t5) _ fun y' H6 d6 M6 t6 tv6 m6 ⟨M7, u7, i7⟩ => ?_
      have hD6 : H6 D = some (.lst accV) := m6.ex D _ (by simp)
      have tD : Tu H6 (upd H6 D (.lst (accV ++ [y']))) := Tu.write hD6 rfl
      have tt6 : Tu H3 H6 := (t4.trans t5).trans t6
      have hw7 := (hC _ _ _ i7).1
      refine ⟨accV, hD6, by rw [tv2.length]; exact lt_line (by omega), acc ++ [d6], accV ++ [y'], M7, (((t2.trans e3.tu).trans tt6).trans tD), back (m6.sub u7) hw7, upd_same, ?_, by rw [List.length_append]; show acc.length + 1 ≤ i + 1; omega, i7, neD (m6.sub u7) hw7⟩
      exact (((tv2.mono e3.tu).mono tt6).append (.cons tv6 .nil)).mono tD
    | false =>
      show ∃ acc accV M', _
      obtain ⟨M7, u7, i7⟩ := q5.2 rfl
      have hD5 : H5 D = some (.lst accV) := m5.ex D _ (by simp)
      have tt5 : Tu H3 H5 := t4.trans t5
      have hw7 := (hC _ _ _ i7).1
      exact ⟨acc, accV, M7, ((t2.trans e3.tu).trans tt5), back0 (m5.sub u7) hw7, hD5, (tv2.mono e3.tu).mono tt5, by omega, i7, neD (m5.sub u7) hw7⟩
  · have e : i = n := by omega
    subst e
    refine .inl ⟨w.stops H2 M2 t2 m2 c2, k _ H2 _ (⟨D, true, .lst acc⟩ :: M2) (t1.trans t2) (.adr D) ?_ (hd D acc M2 l2 i2)⟩
    refine ⟨m2.ex, fun c hc w' => ?_, fun c hc => ?_, ?_⟩
    · rcases List.mem_cons.mp hc with rfl | hc
      · exact bD
      · exact m2.own c hc w'
    · rcases List.mem_cons.mp hc with rfl | hc
      · exact ⟨accV, hD2, tv2⟩
      · exact m2.at_ c hc
    · rw [List.map_cons, List.nodup_cons]
      refine ⟨fun hm => ?_, m2.nd⟩
      obtain ⟨c, hc, e'⟩ := List.mem_map.mp hm
      exact ne2 c hc e'
end
abbrev obD (o : Ob) : Dt := .tup true [eT o.lab, eQ o.odds]
end Zy
set_option Elab.async false
set_option linter.all false
set_option maxRecDepth 100000
set_option maxHeartbeats 4000000
namespace Zy
open PySem PySem.Spec PyProof.Rows L2
open C8 (fnBody fnArgs fnScope clsBody scC fnScope_by)

local macro_rules | `(tactic| walk_at "zmem") => `(tactic| repeat (first | exact List.mem_cons_self | assumption | refine List.mem_cons_of_mem _ ?_))
local macro_rules | `(tactic| walk_at "z1") => `(tactic| first
  | (with_reducible refine ss_seq ?_) | (with_reducible refine ss_next ?_) | (with_reducible refine ss_ret ?_) | (with_reducible refine ss_set ?_) | (with_reducible refine ss_if ?_)
  | (with_reducible refine ss_drop ?_) | (with_reducible refine ss_par ?_) | (with_reducible refine ss_par3 ?_)
  | (with_reducible refine et_test ?_) | (with_reducible refine et_B ?_) | (with_reducible refine et_and ?_) | (with_reducible refine et_or ?_) | (with_reducible refine et_not2 ?_) | (with_reducible refine et_yes ?_)
  | (with_reducible refine ev_op ?_) | (with_reducible refine ev_un ?_) | (with_reducible refine isi_ii ?_) | (with_reducible refine isi_ib ?_) | (with_reducible refine isi_tt ?_) | (with_reducible refine isi_ss ?_)
  | (with_reducible refine ev_cb ?_) | (with_reducible refine ev_call ?_) | (with_reducible refine ev_chain ?_)
  | (with_reducible refine ev_and ?_) | (with_reducible refine ev_or ?_) | (with_reducible refine ev_not2 ?_) | (with_reducible refine ev_if ?_) | (with_reducible refine ev_int ?_) | (with_reducible refine ev_bl ?_) | (with_reducible refine ev_non ?_) | (with_reducible refine ev_str ?_)
  | (with_reducible refine ea_nil ?_) | (with_reducible refine ea_cons ?_)
  | ((with_reducible refine' ev_var ?_ ?_); rotate_left; exact rfl) | ((with_reducible refine' o_ixT ?_ ?_); rotate_left; exact rfl) | (with_reducible refine zo_lenT ?_) | (with_reducible refine zo_lenS ?_) | ((with_reducible refine' zo_lenL ?_ ?_); rotate_left 2; (walk_at "zmem")) | (with_reducible refine ev_tup ?_) | (with_reducible refine ev_lst ?_)
  | (with_reducible refine o_I0 ?_) | (with_reducible refine o_B0 ?_) | (with_reducible refine o_neg ?_) | (with_reducible refine o_eqI ?_) | (with_reducible refine o_neI ?_)
  | (with_reducible refine fun (hq : true = false) => Bool.noConfusion hq) | (with_reducible refine fun (hq : false = true) => Bool.noConfusion hq) | (with_reducible refine fun (_ : true = true) => ?_) | (with_reducible refine fun (_ : false = false) => ?_)
  | (with_reducible refine ⟨_, rfl, ?_⟩) | (with_reducible refine ⟨_, _, rfl, ?_⟩) | (with_reducible refine ⟨_, _, _, rfl, ?_⟩) | (with_reducible refine ⟨fun (_ : true = true) => ?_, fun (hq : true = false) => Bool.noConfusion hq⟩) | (with_reducible refine ⟨fun (hq : false = true) => Bool.noConfusion hq, fun (_ : false = false) => ?_⟩) | (with_reducible refine ⟨Nat.le_of_ble_eq_true rfl, ?_⟩) | ((with_reducible refine ⟨fun hq => absurd hq ?_, fun _ => ?_⟩); (simp <;> omega)) | ((with_reducible refine ⟨fun _ => ?_, fun hq => absurd hq ?_⟩); rotate_left; (simp <;> omega)) | (with_reducible refine And.intro (?_ : _ = true → _) (?_ : _ = false → _)) | (with_reducible refine ev_bm ?_) | (with_reducible refine ss_fld ?_) | (with_reducible refine ev_fld ?_) | (with_reducible refine ev_prop ?_) | (with_reducible refine ev_meth ?_) | (with_reducible refine ev_make ?_) | ((with_reducible refine' And.intro (tyD_of ?_) ?_); rotate_left 2; (walk_at "zmem")))
local macro_rules | `(tactic| walk_at "zz") => `(tactic| repeat (walk_at "z1"))
local macro_rules | `(tactic| walk_at "zle") => `(tactic| repeat (first | exact trivial | refine And.intro rfl ?_ | exact LeD.refl _))
abbrev F__law_cell : Spec := fun ds M Q => ∃ (ns : List Int) (k : Nat), ds = [.scr ns, .int (k : Int)] ∧ ∀ c : Int, Q (.int c) M
theorem sc__law_cell : FnScope ["_law_script", "_law_index"] ["_law_script", "_law_index"] (fnScope (stT 77)) := fnScope_by (by decide +kernel)
theorem d__law_cell {P : Program} {w : World} {K : PySem.W.Frag} {mg : Str → Option Value} {base : Heap} {f CO CP CR dQ : Addr} {tk : Tok} {es : Array DictEntry} {nn : Nat} (bi : Bi mg) (gMC : mg "MOST_CASES" = some (.int 12 tk)) (gCO : mg "Observer" = some (.ref CO)) (gQ : mg "QUESTIONS" = some (.ref dQ)) (kq : KDict K w dQ es nn)   (gm : mg "_law_cell" = some (.ref f)) (Fn : FnP K "_law_cell" "_law_cell" (stT 77) f) : DefR P w K mg base 1 "_law_cell" (Pm K F__law_cell) :=
 def_of (F := F__law_cell) gm Fn sc__law_cell (fun _ _ _ _ _ _ us hl => match us, hl with | [_, _], _ => rfl) (fun ds M Q h => by obtain ⟨_, _, rfl, _⟩ := h; rfl) (fun cdv A outer s H E hr => ⟨_, (pss_cons (ps_if (pt_cmpR op_lt (pv 1) (pe_callB (zcall_len_seq K) rfl bi.len zb_len (pa_cons (pv 0) pa_nil)) (nomark _))
 (pss_one (ps_ret (pe_ix (zix_list K) (pv 0) (pv 1) (fun _ _ => rfl))))
 pss_nil)
 (pss_one (ps_ret pe_int))), fun B ds M Q0 hF => by

  obtain ⟨ns, k, rfl, q⟩ := hF
  walk_at "zz"
  · intro hz
    have h := of_decide_eq_true hz
    have hk : k < ns.length := by omega
    walk_at "zz"
    refine o_ixS (j := ns[k]) (atI_get (List.getElem?_eq_getElem hk)) ?_
    exact WkM.of (q _)
  · intro hz
    walk_at "zz"
    exact WkM.of (q 0)
⟩)
abbrev F__law_source : Spec := fun ds M Q => ∃ c : Int, ds = [.int c] ∧ ∀ p, Q (.adr p) (⟨p, true, .sup⟩ :: M)
theorem sc__law_source : FnScope ["_law_cell_here"] ["_law_cell_here"] (fnScope (stT 78)) := fnScope_by (by decide +kernel)
theorem d__law_source {P : Program} {w : World} {K : PySem.W.Frag} {mg : Str → Option Value} {base : Heap} {f CO CP CR dQ : Addr} {tk : Tok} {es : Array DictEntry} {nn : Nat} (bi : Bi mg) (gMC : mg "MOST_CASES" = some (.int 12 tk)) (gCO : mg "Observer" = some (.ref CO)) (gQ : mg "QUESTIONS" = some (.ref dQ)) (kq : KDict K w dQ es nn)   (gm : mg "_law_source" = some (.ref f)) (Fn : FnP K "_law_source" "_law_source" (stT 78) f) : DefR P w K mg base 1 "_law_source" (Pm K F__law_source) :=
 def_of (F := F__law_source) gm Fn sc__law_source (fun _ _ _ _ _ _ us hl => match us, hl with | [_], _ => rfl) (fun ds M Q h => by obtain ⟨_, rfl, _⟩ := h; rfl) (fun cdv A outer s H E hr => ⟨_, (pss_one (ps_ret (pe_lst (pa_cons (pe_callB (call_max2 rfl) rfl bi.max zb_max (pa_cons pe_int (pa_cons (pe_op op_sub (pv 0) (pe_op op_pow pe_int pe_int)) pa_nil))) (pa_cons (pe_op op_add (pe_op op_mod (pv 0) pe_int) pe_int) (pa_cons pe_int pa_nil)))))), fun B ds M Q0 hF => by

  obtain ⟨c, rfl, q⟩ := hF
  walk_at "z1"
  refine ev_supp ?_
  walk_at "zz"
  refine o_I (C := CPow) ⟨by decide, by decide, by decide⟩ ?_
  walk_at "zz"
  refine o_max2 ?_
  walk_at "zz"
  refine o_I (C := fun _ j => 0 < j) (by decide) ?_
  walk_at "zz"
  intro p
  refine ⟨p, _, _, _, M, rfl, ?_, ?_, ?_, WkM.of (q p)⟩
  · split <;> omega
  · have := Int.emod_nonneg c (show (2147483629 : Int) ≠ 0 by decide)
    show (0 : Int) ≤ c % 2147483629 + 1
    omega
  · have := Int.emod_lt_of_pos c (show (0 : Int) < 2147483629 by decide)
    show c % 2147483629 + 1 < 2147483648
    omega
⟩)
abbrev F__law_draw : Spec := fun ds M Q => ∃ (a : Addr) (many i : Nat), ds = [.adr a, .int (many : Int)] ∧ M[i]? = some ⟨a, true, .sup⟩ ∧ 1 ≤ many ∧ many ≤ 1000 ∧ ∀ r : Nat, r < many → Q (.int (r : Int)) M
theorem sc__law_draw : FnScope ["_law_supply", "_law_many", "_law_mixed", "_law_found"] ["_law_supply", "_law_many"] (fnScope (stT 79)) := fnScope_by (by decide +kernel)
theorem d__law_draw {P : Program} {w : World} {K : PySem.W.Frag} {mg : Str → Option Value} {base : Heap} {f CO CP CR dQ : Addr} {tk : Tok} {es : Array DictEntry} {nn : Nat} (bi : Bi mg) (gMC : mg "MOST_CASES" = some (.int 12 tk)) (gCO : mg "Observer" = some (.ref CO)) (gQ : mg "QUESTIONS" = some (.ref dQ)) (kq : KDict K w dQ es nn)   (gm : mg "_law_draw" = some (.ref f)) (Fn : FnP K "_law_draw" "_law_draw" (stT 79) f) : DefR P w K mg base 1 "_law_draw" (Pm K F__law_draw) :=
 def_of (F := F__law_draw) gm Fn sc__law_draw (fun _ _ _ _ _ _ us hl => match us, hl with | [_, _], _ => rfl) (fun ds M Q h => by obtain ⟨_, _, _, rfl, _⟩ := h; rfl) (fun cdv A outer s H E hr => ⟨_, (pss_cons (ps_if (pt_cmpR op_gt (pe_ix (zix_list K) (pv 0) pe_int (fun _ _ => rfl)) pe_int (nomark _))
 (pss_cons (ps_set (i := 3) sc__law_draw.nd rfl (by first | exact Or.inl rfl | exact Or.inr rfl) (pe_op op_mod (pe_ix (zix_list K) (pv 0) pe_int (fun _ _ => rfl)) (pv 1)))
 (pss_cons (ps_asg (pe_op op_fdivW (pe_ix (zix_list K) (pv 0) pe_int (fun _ _ => rfl)) (pv 1)) (pg_sub (pv 0) pe_int set_list))
 (pss_one (ps_ret (pv 3)))))
 pss_nil)
 (pss_cons (ps_asg (pe_op op_add (pe_ix (zix_list K) (pv 0) pe_int (fun _ _ => rfl)) pe_int) (pg_sub (pv 0) pe_int set_list))
 (pss_cons (ps_asg (pe_op op_mod (pe_op op_add (pe_op op_add (pe_op op_mul (pe_ix (zix_list K) (pv 0) pe_int (fun _ _ => rfl)) pe_int) (pe_op op_mul pe_int (pe_ix (zix_list K) (pv 0) pe_int (fun _ _ => rfl)))) pe_int) pe_int) (pg_sub (pv 0) pe_int set_list))
 (pss_cons (ps_set (i := 2) sc__law_draw.nd rfl (by first | exact Or.inl rfl | exact Or.inr rfl) (pe_op op_mod (pe_op op_add (pe_op op_add (pe_op op_mul (pe_ix (zix_list K) (pv 0) pe_int (fun _ _ => rfl)) (pe_ix (zix_list K) (pv 0) pe_int (fun _ _ => rfl))) (pe_op op_mul pe_int (pe_ix (zix_list K) (pv 0) pe_int (fun _ _ => rfl)))) pe_int) pe_int))
 (pss_cons (ps_set (i := 2) sc__law_draw.nd rfl (by first | exact Or.inl rfl | exact Or.inr rfl) (pe_op op_mod (pe_op op_add (pe_op op_mul (pv 2) (pv 2)) (pe_op op_mul pe_int (pv 2))) pe_int))
 (pss_one (ps_ret (pe_op op_mod (pe_op op_fdivW (pv 2) pe_int) (pv 1))))))))), fun B ds M Q0 hF => by

  obtain ⟨a, many, i, rfl, hi, h1, h2, q⟩ := hF
  refine ss_sup hi fun x y z hx hy hy2 => ?_
  have hlt := (List.getElem?_eq_some_iff.mp hi).1
  have hm : ∀ {x y z : Int}, (M.set i (supL a x y z))[i]? = some (supL a x y z) := fun {x y z} => List.getElem?_set_self hlt
  have hmem : ∀ {x y z : Int}, supL a x y z ∈ M.set i (supL a x y z) := fun {x y z} => List.mem_of_getElem? hm
  have hmod : ∀ u : Int, ∃ r : Nat, r < many ∧ u % (many : Int) = r := fun u => by
    have a1 := Int.emod_nonneg u (show (many : Int) ≠ 0 by omega)
    have a2 := Int.emod_lt_of_pos u (show (0 : Int) < many by omega)
    exact ⟨(u % (many : Int)).toNat, by omega, by omega⟩
  have hlog : (many : Int).natAbs.log2 < 9000 := Nat.lt_of_lt_of_le (log2_lt (n := 10) (by simp; omega) (by decide)) (by decide)
  walk_at "zz"
  refine o_ixL hmem (d := .int x) rfl ?_
  walk_at "zz"
  · intro hz
    walk_at "zz"
    refine o_ixL hmem (d := .int x) rfl ?_
    walk_at "zz"
    refine o_I (C := fun _ j => 0 < j) (by omega) ?_
    walk_at "z1"
    refine ss_asg (own := []) (ev_op (ev_op (ev_var rfl (ev_int (o_ixL hmem (d := .int x) rfl (ev_var rfl (o_I (C := CDivW) ⟨by omega, hlog⟩ ?_)))))))
    refine eg_subL (ev_var rfl (ev_int ⟨a, 0, _, 0, i, rfl, rfl, hm, rfl, ?_⟩))
    walk_at "zz"
    obtain ⟨r, hr, er⟩ := hmod x
    refine ⟨x / many, y, z, Int.ediv_nonneg hx (by omega), hy, hy2, by rw [List.set_set]; rfl, WkM.of ?_⟩
    have := q r hr
    rw [← er] at this
    exact this
  · intro hz
    walk_at "zz"
    refine ss_asg (own := []) (ev_op (ev_op (ev_var rfl (ev_int (o_ixL hmem (d := .int z) rfl (ev_int (o_I0 ?_)))))))
    refine eg_subL (ev_var rfl (ev_int ⟨a, 2, _, 2, i, rfl, rfl, hm, rfl, ?_⟩))
    rw [List.set_set]
    show SS K B _ _ (M.set i (supL a x y (z + 1))) _ _
    walk_at "z1"
    refine ss_asg (own := []) ?_
    walk_at "zz"
    refine o_ixL hmem (d := .int y) rfl ?_
    walk_at "zz"
    refine o_I (C := CMul) (.inr ⟨by decide, by decide⟩) ?_
    walk_at "zz"
    refine o_ixL hmem (d := .int (z + 1)) rfl ?_
    refine o_I (C := CMul) (.inl ⟨by decide, by decide⟩) ?_
    walk_at "zz"
    refine o_I (C := fun _ j => 0 < j) (by decide) ?_
    refine eg_subL (ev_var rfl (ev_int ⟨a, 1, _, 1, i, rfl, rfl, hm, rfl, ?_⟩))
    rw [List.set_set]
    have b1 := Int.emod_nonneg (y * 48271 + 1009 * (z + 1) + 7) (show (2147483647 : Int) ≠ 0 by decide)
    have b2 := Int.emod_lt_of_pos (y * 48271 + 1009 * (z + 1) + 7) (show (0 : Int) < 2147483647 by decide)
    generalize hy' : (y * 48271 + 1009 * (z + 1) + 7) % 2147483647 = y' at b1 b2
    show SS K B _ _ (M.set i (supL a x y' (z + 1))) _ _
    walk_at "zz"
    refine o_ixL hmem (d := .int y') rfl ?_
    walk_at "zz"
    refine o_ixL hmem (d := .int y') rfl ?_
    refine o_I (C := CMul) (.inl ⟨by omega, by omega⟩) ?_
    walk_at "zz"
    refine o_ixL hmem (d := .int y') rfl ?_
    refine o_I (C := CMul) (.inl ⟨by decide, by decide⟩) ?_
    walk_at "zz"
    refine o_I (C := fun _ j => 0 < j) (by decide) ?_
    have c1 := Int.emod_nonneg (y' * y' + 69621 * y' + 11) (show (2147483629 : Int) ≠ 0 by decide)
    have c2 := Int.emod_lt_of_pos (y' * y' + 69621 * y' + 11) (show (0 : Int) < 2147483629 by decide)
    generalize hw' : (y' * y' + 69621 * y' + 11) % 2147483629 = w' at c1 c2
    walk_at "zz"
    refine o_I (C := CMul) (.inl ⟨by omega, by omega⟩) ?_
    walk_at "zz"
    refine o_I (C := CMul) (.inl ⟨by decide, by decide⟩) ?_
    walk_at "zz"
    refine o_I (C := fun _ j => 0 < j) (by decide) ?_
    walk_at "zz"
    refine o_I (C := CDivW) ⟨by decide, by decide⟩ ?_
    walk_at "zz"
    refine o_I (C := fun _ j => 0 < j) (by omega) ?_
    obtain ⟨r, hr, er⟩ := hmod ((w' * w' + 40014 * w') % 2147483587 / 16)
    refine ⟨x, y', z + 1, hx, b1, by omega, rfl, WkM.of ?_⟩
    have := q r hr
    rw [← er] at this
    exact this
⟩)
end Zy
set_option Elab.async false
set_option linter.all false
set_option maxRecDepth 100000
set_option maxHeartbeats 4000000
namespace Zy
open PySem PySem.Spec PyProof.Rows L2
open C8 (fnBody fnArgs fnScope clsBody scC fnScope_by)

local macro_rules | `(tactic| walk_at "zmem") => `(tactic| repeat (first | exact List.mem_cons_self | assumption | refine List.mem_cons_of_mem _ ?_))
local macro_rules | `(tactic| walk_at "z1") => `(tactic| first
  | (with_reducible refine ss_seq ?_) | (with_reducible refine ss_next ?_) | (with_reducible refine ss_ret ?_) | (with_reducible refine ss_set ?_) | (with_reducible refine ss_if ?_)
  | (with_reducible refine ss_drop ?_) | (with_reducible refine ss_par ?_) | (with_reducible refine ss_par3 ?_)
  | (with_reducible refine et_test ?_) | (with_reducible refine et_B ?_) | (with_reducible refine et_and ?_) | (with_reducible refine et_or ?_) | (with_reducible refine et_not2 ?_) | (with_reducible refine et_yes ?_)
  | (with_reducible refine ev_op ?_) | (with_reducible refine ev_un ?_) | (with_reducible refine isi_ii ?_) | (with_reducible refine isi_ib ?_) | (with_reducible refine isi_tt ?_) | (with_reducible refine isi_ss ?_)
  | (with_reducible refine ev_cb ?_) | (with_reducible refine ev_call ?_) | (with_reducible refine ev_chain ?_)
  | (with_reducible refine ev_and ?_) | (with_reducible refine ev_or ?_) | (with_reducible refine ev_not2 ?_) | (with_reducible refine ev_if ?_) | (with_reducible refine ev_int ?_) | (with_reducible refine ev_bl ?_) | (with_reducible refine ev_non ?_) | (with_reducible refine ev_str ?_)
  | (with_reducible refine ea_nil ?_) | (with_reducible refine ea_cons ?_)
  | ((with_reducible refine' ev_var ?_ ?_); rotate_left; exact rfl) | ((with_reducible refine' o_ixT ?_ ?_); rotate_left; exact rfl) | (with_reducible refine zo_lenT ?_) | (with_reducible refine zo_lenS ?_) | ((with_reducible refine' zo_lenL ?_ ?_); rotate_left 2; (walk_at "zmem")) | (with_reducible refine ev_tup ?_) | (with_reducible refine ev_lst ?_)
  | (with_reducible refine o_I0 ?_) | (with_reducible refine o_B0 ?_) | (with_reducible refine o_neg ?_) | (with_reducible refine o_eqI ?_) | (with_reducible refine o_neI ?_)
  | (with_reducible refine fun (hq : true = false) => Bool.noConfusion hq) | (with_reducible refine fun (hq : false = true) => Bool.noConfusion hq) | (with_reducible refine fun (_ : true = true) => ?_) | (with_reducible refine fun (_ : false = false) => ?_)
  | (with_reducible refine ⟨_, rfl, ?_⟩) | (with_reducible refine ⟨_, _, rfl, ?_⟩) | (with_reducible refine ⟨_, _, _, rfl, ?_⟩) | (with_reducible refine ⟨fun (_ : true = true) => ?_, fun (hq : true = false) => Bool.noConfusion hq⟩) | (with_reducible refine ⟨fun (hq : false = true) => Bool.noConfusion hq, fun (_ : false = false) => ?_⟩) | (with_reducible refine ⟨Nat.le_of_ble_eq_true rfl, ?_⟩) | ((with_reducible refine ⟨fun hq => absurd hq ?_, fun _ => ?_⟩); (simp <;> omega)) | ((with_reducible refine ⟨fun _ => ?_, fun hq => absurd hq ?_⟩); rotate_left; (simp <;> omega)) | (with_reducible refine And.intro (?_ : _ = true → _) (?_ : _ = false → _)) | (with_reducible refine ev_bm ?_) | (with_reducible refine ss_fld ?_) | (with_reducible refine ev_fld ?_) | (with_reducible refine ev_prop ?_) | (with_reducible refine ev_meth ?_) | (with_reducible refine ev_make ?_) | ((with_reducible refine' And.intro (tyD_of ?_) ?_); rotate_left 2; (walk_at "zmem")))
local macro_rules | `(tactic| walk_at "zz") => `(tactic| repeat (walk_at "z1"))
local macro_rules | `(tactic| walk_at "zle") => `(tactic| repeat (first | exact trivial | refine And.intro rfl ?_ | exact LeD.refl _))
abbrev F__law_choose : Spec := fun ds M Q => ∃ (a p : Addr) (w : Bool) (ns : List Nat) (i : Nat), ds = [.adr a, .adr p] ∧ M[i]? = some ⟨a, true, .sup⟩ ∧ (⟨p, w, .lst (eN ns)⟩ : Cell) ∈ M ∧ ns ≠ [] ∧ ns.length ≤ 100 ∧ ∀ x ∈ ns, Q (.int (x : Nat)) M
theorem sc__law_choose : FnScope ["_law_supply", "_law_values"] ["_law_supply", "_law_values"] (fnScope (stT 80)) := fnScope_by (by decide +kernel)
theorem d__law_choose {P : Program} {w : World} {K : PySem.W.Frag} {mg : Str → Option Value} {base : Heap} {f CO CP CR dQ : Addr} {tk : Tok} {es : Array DictEntry} {nn : Nat} (bi : Bi mg) (gMC : mg "MOST_CASES" = some (.int 12 tk)) (gCO : mg "Observer" = some (.ref CO)) (gQ : mg "QUESTIONS" = some (.ref dQ)) (kq : KDict K w dQ es nn)  (c__law_draw : DefR P w K mg base 1 "_law_draw" (Pm K F__law_draw)) (gm : mg "_law_choose" = some (.ref f)) (Fn : FnP K "_law_choose" "_law_choose" (stT 80) f) : DefR P w K mg base 2 "_law_choose" (Pm K F__law_choose) :=
 def_of (F := F__law_choose) gm Fn sc__law_choose (fun _ _ _ _ _ _ us hl => match us, hl with | [_, _], _ => rfl) (fun ds M Q h => by obtain ⟨_, _, _, _, _, rfl, _⟩ := h; rfl) (fun cdv A outer s H E hr => ⟨_, (pss_one (ps_ret (pe_ix (zix_list K) (pv 1) (pe_cD c__law_draw hr (by decide) rfl (pa_cons (pv 0) (pa_cons (pe_callB (zcall_len_seq K) rfl bi.len zb_len (pa_cons (pv 1) pa_nil)) pa_nil))) (fun _ _ => rfl)))), fun B ds M Q0 hF => by

  obtain ⟨a, p, w, ns, i, rfl, hi, hc, hne, hl, q⟩ := hF
  have h0 : 0 < ns.length := by cases ns with
    | nil => exact absurd rfl hne
    | cons a r => simp
  walk_at "z1"
  walk_at "z1"
  walk_at "z1"
  walk_at "z1"
  walk_at "z1"
  walk_at "z1"
  walk_at "z1"
  refine ev_cb (ea_cons (ev_var rfl (ea_nil (zo_lenL hc ?_))))
  rw [eN_len]
  refine ea_nil ⟨a, ns.length, i, rfl, hi, h0, by omega, fun r hr => ?_⟩
  refine o_ixL hc (d := .int (ns[r] : Nat)) (by rw [atI_nat, eN_get, List.getElem?_eq_getElem hr]; rfl) ?_
  exact WkM.of (q _ (List.getElem_mem hr))
⟩)
abbrev F__law_divisor : Spec := fun ds M Q => ∃ a b : Nat, ds = [.int (a : Int), .int (b : Int)] ∧ Q (.int (Nat.gcd a b : Nat)) M
theorem sc__law_divisor : FnScope ["_law_one", "_law_other"] ["_law_one", "_law_other"] (fnScope (stT 82)) := fnScope_by (by decide +kernel)
theorem d__law_divisor {P : Program} {w : World} {K : PySem.W.Frag} {mg : Str → Option Value} {base : Heap} {f CO CP CR dQ : Addr} {tk : Tok} {es : Array DictEntry} {nn : Nat} (bi : Bi mg) (gMC : mg "MOST_CASES" = some (.int 12 tk)) (gCO : mg "Observer" = some (.ref CO)) (gQ : mg "QUESTIONS" = some (.ref dQ)) (kq : KDict K w dQ es nn)   (gm : mg "_law_divisor" = some (.ref f)) (Fn : FnP K "_law_divisor" "_law_divisor" (stT 82) f) : DefR P w K mg base 1 "_law_divisor" (Pm K F__law_divisor) :=
 def_of (F := F__law_divisor) gm Fn sc__law_divisor (fun _ _ _ _ _ _ us hl => match us, hl with | [_, _], _ => rfl) (fun ds M Q h => by obtain ⟨_, _, rfl, _⟩ := h; rfl) (fun cdv A outer s H E hr => ⟨_, (pss_cons (ps_while PassesOwn.never (pt_cmpR op_ne (pv 1) pe_int (nomark _))
 (pss_one (ps_par (i := 0) (j := 1) rfl sc__law_divisor.nd rfl rfl (by decide) rfl rfl (pa_cons (pv 1) (pa_cons (pe_op op_mod (pv 0) (pv 1)) pa_nil)) rfl)))
 (pss_one (ps_ret (pe_callB call_abs rfl bi.abs zb_abs (pa_cons (pv 0) pa_nil))))), fun B ds M Q0 hF => by

  obtain ⟨a, b, rfl, q⟩ := hF
  refine ss_seq (ss_while (fun n δ' M' => M' = M ∧ ∃ x y : Nat, y = n ∧ δ' = [some (.int (x : Int)), some (.int (y : Int))] ∧ Nat.gcd x y = Nat.gcd a b) b ⟨rfl, a, b, rfl, rfl, rfl⟩ ?_)
  rintro n δ' M' ⟨rfl, x, y, hn, rfl, e⟩
  subst hn
  walk_at "zz"
  · intro hz
    have hy0 : ¬ (y : Int) = 0 := of_decide_eq_false ((Bool.not_eq_true' _).mp hz)
    have hy : 0 < y := by omega
    walk_at "zz"
    refine o_I (C := fun _ j => 0 < j) (by omega) ?_
    walk_at "zz"
    refine Wk.of ⟨x % y, Nat.mod_lt _ hy, rfl, y, x % y, rfl, ?_, ?_⟩
    · show [some (Dt.int (y : Int)), some (Dt.int ((x : Int) % (y : Int)))] = _
      rw [Int.natCast_emod]
    · rw [← e, Nat.gcd_comm y, ← Nat.gcd_rec, Nat.gcd_comm]
  · intro hz
    have hy0 : (y : Int) = 0 := of_decide_eq_true ((Bool.not_eq_false' _).mp hz)
    have : y = 0 := by omega
    subst this
    rw [Nat.gcd_zero_right] at e
    walk_at "zz"
    refine o_abs ?_
    rw [if_neg (by omega), e]
    exact WkM.of q
⟩)
abbrev F__law_fraction : Spec := fun ds M Q => ∃ a b : Nat, ds = [.int (a : Int), .int (b : Int)] ∧ 0 < b ∧ b < 2 ^ 8990 ∧ Q (eF (mkRat a b)) M
theorem sc__law_fraction : FnScope ["_law_top", "_law_bottom", "_law_divisor_here"] ["_law_top", "_law_bottom"] (fnScope (stT 83)) := fnScope_by (by decide +kernel)
theorem d__law_fraction {P : Program} {w : World} {K : PySem.W.Frag} {mg : Str → Option Value} {base : Heap} {f CO CP CR dQ : Addr} {tk : Tok} {es : Array DictEntry} {nn : Nat} (bi : Bi mg) (gMC : mg "MOST_CASES" = some (.int 12 tk)) (gCO : mg "Observer" = some (.ref CO)) (gQ : mg "QUESTIONS" = some (.ref dQ)) (kq : KDict K w dQ es nn)  (c__law_divisor : DefR P w K mg base 1 "_law_divisor" (Pm K F__law_divisor)) (gm : mg "_law_fraction" = some (.ref f)) (Fn : FnP K "_law_fraction" "_law_fraction" (stT 83) f) : DefR P w K mg base 2 "_law_fraction" (Pm K F__law_fraction) :=
 def_of (F := F__law_fraction) gm Fn sc__law_fraction (fun _ _ _ _ _ _ us hl => match us, hl with | [_, _], _ => rfl) (fun ds M Q h => by obtain ⟨_, _, rfl, _⟩ := h; rfl) (fun cdv A outer s H E hr => ⟨_, (pss_cons (ps_set (i := 2) sc__law_fraction.nd rfl (by first | exact Or.inl rfl | exact Or.inr rfl) (pe_cD c__law_divisor hr (by decide) rfl (pa_cons (pv 0) (pa_cons (pv 1) pa_nil))))
 (pss_cons (ps_if (pt_cmpR op_lt (pv 1) pe_int (nomark _))
 (pss_one (ps_set (i := 2) sc__law_fraction.nd rfl (by first | exact Or.inl rfl | exact Or.inr rfl) (pe_op op_sub pe_int (pv 2))))
 pss_nil)
 (pss_one (ps_ret (pe_tupF (pa_cons (pe_op op_fdivW (pv 0) (pv 2)) (pa_cons (pe_op op_fdivW (pv 1) (pv 2)) pa_nil))))))), fun B ds M Q0 hF => by

  obtain ⟨a, b, rfl, hb, hb2, q⟩ := hF
  have hg : 0 < Nat.gcd a b := Nat.gcd_pos_of_pos_right _ hb
  have hl : (Nat.gcd a b).log2 < 9000 := by
    have : Nat.gcd a b ≤ b := Nat.gcd_le_right _ hb
    exact Nat.lt_of_lt_of_le (log2_lt (n := 8990) (by omega) (by decide)) (by decide)
  walk_at "zz"
  refine o_I (C := CDivW) ⟨by omega, by simpa using hl⟩ ?_
  walk_at "zz"
  refine o_I (C := CDivW) ⟨by omega, by simpa using hl⟩ ?_
  walk_at "zz"
  refine WkM.of ?_
  have e1 : (mkRat a b).num = (a : Int) / (Nat.gcd a b : Nat) := by
    rw [Rat.num_mkRat, if_neg (by omega), Nat.gcd_comm]
    rfl
  have e2 : ((mkRat a b).den : Int) = (b : Int) / (Nat.gcd a b : Nat) := by
    rw [Rat.den_mkRat, if_neg (by omega), Nat.gcd_comm, Int.natCast_ediv]
    rfl
  rw [← e1, ← e2]
  exact q
⟩)
abbrev F__law_add : Spec := fun ds M Q => ∃ (p q : Rat) (m n : Nat), ds = [eF p, eF q] ∧ Sz m p ∧ Sz n q ∧ m + n ≤ 8990 ∧ 0 ≤ p ∧ 0 ≤ q ∧ Q (eF (p + q)) M
theorem sc__law_add : FnScope ["_law_one", "_law_other"] ["_law_one", "_law_other"] (fnScope (stT 84)) := fnScope_by (by decide +kernel)
theorem d__law_add {P : Program} {w : World} {K : PySem.W.Frag} {mg : Str → Option Value} {base : Heap} {f CO CP CR dQ : Addr} {tk : Tok} {es : Array DictEntry} {nn : Nat} (bi : Bi mg) (gMC : mg "MOST_CASES" = some (.int 12 tk)) (gCO : mg "Observer" = some (.ref CO)) (gQ : mg "QUESTIONS" = some (.ref dQ)) (kq : KDict K w dQ es nn)  (c__law_fraction : DefR P w K mg base 2 "_law_fraction" (Pm K F__law_fraction)) (gm : mg "_law_add" = some (.ref f)) (Fn : FnP K "_law_add" "_law_add" (stT 84) f) : DefR P w K mg base 3 "_law_add" (Pm K F__law_add) :=
 def_of (F := F__law_add) gm Fn sc__law_add (fun _ _ _ _ _ _ us hl => match us, hl with | [_, _], _ => rfl) (fun ds M Q h => by obtain ⟨_, _, _, _, rfl, _⟩ := h; rfl) (fun cdv A outer s H E hr => ⟨_, (pss_one (ps_ret (pe_cD c__law_fraction hr (by decide) rfl (pa_cons (pe_op op_add (pe_op op_mulW (pe_ix (zix_tup K) (pv 0) pe_int (fun _ _ => rfl)) (pe_ix (zix_tup K) (pv 1) pe_int (fun _ _ => rfl))) (pe_op op_mulW (pe_ix (zix_tup K) (pv 1) pe_int (fun _ _ => rfl)) (pe_ix (zix_tup K) (pv 0) pe_int (fun _ _ => rfl)))) (pa_cons (pe_op op_mulW (pe_ix (zix_tup K) (pv 0) pe_int (fun _ _ => rfl)) (pe_ix (zix_tup K) (pv 1) pe_int (fun _ _ => rfl))) pa_nil))))), fun B ds M Q0 hF => by

  obtain ⟨p, q, m, n, rfl, hp, hq, hmn, hp0, hq0, qq⟩ := hF
  have c1 : ∀ {a b : Nat}, a < 2 ^ m → b < 2 ^ n → a.log2 + b.log2 < 1000000 := fun {a b} h1 h2 => by
    have l1 : a.log2 < m + 1 := log2_lt (Nat.lt_of_lt_of_le h1 (Nat.pow_le_pow_right (by decide) (by omega))) (by omega)
    have l2 : b.log2 < n + 1 := log2_lt (Nat.lt_of_lt_of_le h2 (Nat.pow_le_pow_right (by decide) (by omega))) (by omega)
    omega
  have c2 : p.den * q.den < 2 ^ 8990 := Nat.lt_of_lt_of_le (pow_mul_lt hp.2 hq.2) (Nat.pow_le_pow_right (by decide) hmn)
  have pd := p.den_pos
  have qd := q.den_pos
  walk_at "zz"

  have hpn : 0 ≤ p.num := Rat.num_nonneg.mpr hp0

  have hqn : 0 ≤ q.num := Rat.num_nonneg.mpr hq0
  refine o_I (C := CMulW) (by exact c1 hp.1 hq.2) ?_
  walk_at "zz"
  refine o_I (C := CMulW) (by show _ + _ < _; rw [Nat.add_comm]; exact c1 hp.2 hq.1) ?_
  refine o_I0 ?_
  walk_at "z1"
  walk_at "z1"
  walk_at "z1"
  walk_at "z1"
  walk_at "z1"
  walk_at "z1"
  walk_at "z1"
  walk_at "z1"
  walk_at "z1"
  walk_at "z1"
  refine o_I (C := CMulW) (by exact c1 hp.2 hq.2) ?_
  have e1 : p.num * (q.den : Int) + q.num * (p.den : Int) = ((p.num.natAbs * q.den + q.num.natAbs * p.den : Nat) : Int) := by
    rw [Int.natCast_add, Int.natCast_mul, Int.natCast_mul, Int.natAbs_of_nonneg hpn, Int.natAbs_of_nonneg hqn]
  have e2 : (p.den : Int) * (q.den : Int) = ((p.den * q.den : Nat) : Int) := by rw [Int.natCast_mul]
  refine ea_nil ?_
  rw [e1, e2]
  refine ⟨_, _, rfl, Nat.mul_pos pd qd, c2, WkM.of ?_⟩
  rw [← e1, ← Rat.add_def']
  exact qq
⟩)
theorem mk_div {p q : Rat} (h0n : 0 < q.num) : mkRat (p.num * q.den) (p.den * q.num.natAbs) = p / q := by
  have hi : q⁻¹ = mkRat q.den q.num.natAbs := by
    refine Rat.ext ?_ ?_
    · rw [Rat.num_inv, Int.sign_eq_one_of_pos h0n, Rat.num_mkRat, if_neg (by omega), Int.one_mul]
      have e1 : Nat.gcd (q.den : Int).natAbs q.num.natAbs = 1 := by
        rw [Nat.gcd_comm]; exact q.reduced
      rw [Nat.gcd_comm, e1]
      simp
    · rw [Rat.den_inv, if_neg (by omega), Rat.den_mkRat, if_neg (by omega)]
      have e1 : Nat.gcd q.num.natAbs (q.den : Int).natAbs = 1 := q.reduced
      rw [e1]
      simp
  rw [← Rat.mkRat_mul_mkRat, Rat.mkRat_self, ← hi, Rat.div_def]
abbrev F__law_over : Spec := fun ds M Q => ∃ (p q : Rat) (m n : Nat), ds = [eF p, eF q] ∧ Sz m p ∧ Sz n q ∧ m + n ≤ 8990 ∧ 0 ≤ p ∧ 0 < q ∧ Q (eF (p / q)) M
theorem sc__law_over : FnScope ["_law_one", "_law_other"] ["_law_one", "_law_other"] (fnScope (stT 85)) := fnScope_by (by decide +kernel)
theorem d__law_over {P : Program} {w : World} {K : PySem.W.Frag} {mg : Str → Option Value} {base : Heap} {f CO CP CR dQ : Addr} {tk : Tok} {es : Array DictEntry} {nn : Nat} (bi : Bi mg) (gMC : mg "MOST_CASES" = some (.int 12 tk)) (gCO : mg "Observer" = some (.ref CO)) (gQ : mg "QUESTIONS" = some (.ref dQ)) (kq : KDict K w dQ es nn)  (c__law_fraction : DefR P w K mg base 2 "_law_fraction" (Pm K F__law_fraction)) (gm : mg "_law_over" = some (.ref f)) (Fn : FnP K "_law_over" "_law_over" (stT 85) f) : DefR P w K mg base 3 "_law_over" (Pm K F__law_over) :=
 def_of (F := F__law_over) gm Fn sc__law_over (fun _ _ _ _ _ _ us hl => match us, hl with | [_, _], _ => rfl) (fun ds M Q h => by obtain ⟨_, _, _, _, rfl, _⟩ := h; rfl) (fun cdv A outer s H E hr => ⟨_, (pss_one (ps_ret (pe_cD c__law_fraction hr (by decide) rfl (pa_cons (pe_op op_mulW (pe_ix (zix_tup K) (pv 0) pe_int (fun _ _ => rfl)) (pe_ix (zix_tup K) (pv 1) pe_int (fun _ _ => rfl))) (pa_cons (pe_op op_mulW (pe_ix (zix_tup K) (pv 0) pe_int (fun _ _ => rfl)) (pe_ix (zix_tup K) (pv 1) pe_int (fun _ _ => rfl))) pa_nil))))), fun B ds M Q0 hF => by

  obtain ⟨p, q, m, n, rfl, hp, hq, hmn, hp0, hq0, qq⟩ := hF
  have c1 : ∀ {a b : Nat}, a < 2 ^ m → b < 2 ^ n → a.log2 + b.log2 < 1000000 := fun {a b} h1 h2 => by
    have l1 : a.log2 < m + 1 := log2_lt (Nat.lt_of_lt_of_le h1 (Nat.pow_le_pow_right (by decide) (by omega))) (by omega)
    have l2 : b.log2 < n + 1 := log2_lt (Nat.lt_of_lt_of_le h2 (Nat.pow_le_pow_right (by decide) (by omega))) (by omega)
    omega
  have c2 : p.den * q.den < 2 ^ 8990 := Nat.lt_of_lt_of_le (pow_mul_lt hp.2 hq.2) (Nat.pow_le_pow_right (by decide) hmn)
  have pd := p.den_pos
  have qd := q.den_pos
  walk_at "zz"

  have hpn : 0 ≤ p.num := Rat.num_nonneg.mpr hp0

  have h0n : 0 < q.num := num_pos.mpr hq0
  refine o_I (C := CMulW) (by exact c1 hp.1 hq.2) ?_
  walk_at "zz"
  refine o_I (C := CMulW) (by exact c1 hp.2 hq.1) ?_
  have e1 : p.num * (q.den : Int) = ((p.num.natAbs * q.den : Nat) : Int) := by
    rw [Int.natCast_mul, Int.natAbs_of_nonneg hpn]
  have e2 : (p.den : Int) * q.num = ((p.den * q.num.natAbs : Nat) : Int) := by rw [Int.natCast_mul, Int.natAbs_of_nonneg (by omega)]
  refine ea_nil ?_
  rw [e1, e2]
  refine ⟨_, _, rfl, Nat.mul_pos pd (by omega), Nat.lt_of_lt_of_le (pow_mul_lt hp.2 hq.1) (Nat.pow_le_pow_right (by decide) hmn), WkM.of ?_⟩
  rw [← e1, mk_div h0n]
  exact qq
⟩)
abbrev F__law_sum : Spec := fun ds M Q => ∃ (a : Addr) (w : Bool) (qs : List Rat) (n : Nat), ds = [.adr a] ∧ (⟨a, w, .lst (qs.map eF)⟩ : Cell) ∈ M ∧ (∀ q ∈ qs, Sz n q) ∧ (∀ q ∈ qs, 0 < q) ∧ (qs.length + 1) * (n + 1) ≤ 8000 ∧ Q (eF (rsum qs)) M
theorem sc__law_sum : FnScope ["_law_values", "_law_found", "_law_value"] ["_law_values"] (fnScope (stT 86)) := fnScope_by (by decide +kernel)
theorem d__law_sum {P : Program} {w : World} {K : PySem.W.Frag} {mg : Str → Option Value} {base : Heap} {f CO CP CR dQ : Addr} {tk : Tok} {es : Array DictEntry} {nn : Nat} (bi : Bi mg) (gMC : mg "MOST_CASES" = some (.int 12 tk)) (gCO : mg "Observer" = some (.ref CO)) (gQ : mg "QUESTIONS" = some (.ref dQ)) (kq : KDict K w dQ es nn)  (c__law_add : DefR P w K mg base 3 "_law_add" (Pm K F__law_add)) (gm : mg "_law_sum" = some (.ref f)) (Fn : FnP K "_law_sum" "_law_sum" (stT 86) f) : DefR P w K mg base 4 "_law_sum" (Pm K F__law_sum) :=
 def_of (F := F__law_sum) gm Fn sc__law_sum (fun _ _ _ _ _ _ us hl => match us, hl with | [_], _ => rfl) (fun ds M Q h => by obtain ⟨_, _, _, _, rfl, _⟩ := h; rfl) (fun cdv A outer s H E hr => ⟨_, (pss_cons (ps_set (i := 1) sc__law_sum.nd rfl (by first | exact Or.inl rfl | exact Or.inr rfl) (pe_tupF (pa_cons pe_int (pa_cons pe_int pa_nil))))
 (pss_cons (ps_for PassesOwn.never rfl (zpi_list K (pv 0)) (pg_name (i := 2) sc__law_sum.nd rfl (by first | exact Or.inl rfl | exact Or.inr rfl))
 (pss_one (ps_set (i := 1) sc__law_sum.nd rfl (by first | exact Or.inl rfl | exact Or.inr rfl) (pe_cD c__law_add hr (by decide) rfl (pa_cons (pv 1) (pa_cons (pv 2) pa_nil))))))
 (pss_one (ps_ret (pv 1))))), fun B ds M Q0 hF => by

  obtain ⟨a, w, qs, n, rfl, hc, hs, hpos, hn, q⟩ := hF
  walk_at "zz"
  refine ss_for (own := [2]) (ei_list (ev_var rfl ⟨a, w, _, rfl, hc, ?_⟩))
  refine ⟨fun i δ' M' => M' = M ∧ δ' = [some (.adr a), some (eF (rsum (qs.take i))), none] ∧ Sz (i * (n + 1) + 1) (rsum (qs.take i)) ∧ 0 ≤ rsum (qs.take i), ?_, ⟨rfl, rfl, sz0, by show (0 : Rat) ≤ 0; decide⟩, ?_, ?_⟩
  · rintro i δ' M' _ ⟨rfl, _, _⟩; exact ⟨w, hc⟩
  · rintro i d δ' M' hi hf ⟨rfl, rfl, hz, hnn⟩
    obtain ⟨x, hx, rfl⟩ := get_map hf
    have hxm := List.mem_of_getElem? hx
    have hxs := hs x hxm
    have hil : i + 1 ≤ qs.length := by rw [List.length_map] at hi; omega
    have hmul : (i + 1) * (n + 1) ≤ (qs.length + 1) * (n + 1) := Nat.mul_le_mul_right _ (by omega)
    have hsp : (i + 1) * (n + 1) = i * (n + 1) + (n + 1) := Nat.succ_mul _ _
    have hx0 : 0 ≤ x := Rat.le_of_lt (hpos x hxm)
    refine eg_name ?_
    walk_at "zz"
    refine ⟨_, _, i * (n + 1) + 1, n, rfl, hz, hxs, by omega, hnn, hx0, ?_⟩
    have e := rsum_take hx
    rw [← e]
    refine ⟨_, _, ?_, List.Sublist.refl _, rfl, rfl, ?_, ?_⟩
    · walk_at "zle"
    · rw [e]
      exact (hz.add hxs).mono (by omega)
    · rw [e]
      exact Rat.add_nonneg hnn hx0
  · rintro δ' M' ⟨rfl, rfl, _⟩
    walk_at "zz"
    rw [List.length_map, List.take_length]
    exact WkM.of q
⟩)
abbrev F__law_canonical : Spec := fun ds M Q => ∃ (a : Addr) (w : Bool) (ks : List Nat), ds = [.adr a] ∧ (⟨a, w, .lst (eN ks)⟩ : Cell) ∈ M ∧ ks.length ≤ 1000 ∧ Q (eT (relab ks)) M
theorem sc__law_canonical : FnScope ["_law_keys", "_law_key", "_law_seen", "_law_found"] ["_law_keys"] (fnScope (stT 88)) := fnScope_by (by decide +kernel)
theorem d__law_canonical {P : Program} {w : World} {K : PySem.W.Frag} {mg : Str → Option Value} {base : Heap} {f CO CP CR dQ : Addr} {tk : Tok} {es : Array DictEntry} {nn : Nat} (bi : Bi mg) (gMC : mg "MOST_CASES" = some (.int 12 tk)) (gCO : mg "Observer" = some (.ref CO)) (gQ : mg "QUESTIONS" = some (.ref dQ)) (kq : KDict K w dQ es nn)   (gm : mg "_law_canonical" = some (.ref f)) (Fn : FnP K "_law_canonical" "_law_canonical" (stT 88) f) : DefR P w K mg base 1 "_law_canonical" (Pm K F__law_canonical) :=
 def_of (F := F__law_canonical) gm Fn sc__law_canonical (fun _ _ _ _ _ _ us hl => match us, hl with | [_], _ => rfl) (fun ds M Q h => by obtain ⟨_, _, _, rfl, _⟩ := h; rfl) (fun cdv A outer s H E hr => ⟨_, (pss_cons (ps_par (i := 2) (j := 3) rfl sc__law_canonical.nd rfl rfl (by decide) rfl rfl (pa_cons (pe_lst pa_nil) (pa_cons (pe_lst pa_nil) pa_nil)) rfl)
 (pss_cons (ps_for PassesOwn.never rfl (zpi_list K (pv 0)) (pg_name (i := 1) sc__law_canonical.nd rfl (by first | exact Or.inl rfl | exact Or.inr rfl))
 (pss_cons (ps_if (pt_cmpR (zop_notIn_seq K) (pv 1) (pv 2) (by rfl))
 (pss_one (ps_expr (zpe_bm K F.plainAttrs_list F.slot_list_append F.type_list_append mt_append (pv 2) (pa_cons (pv 1) pa_nil))))
 pss_nil)
 (pss_one (ps_expr (zpe_bm K F.plainAttrs_list F.slot_list_append F.type_list_append mt_append (pv 3) (pa_cons (zpe_bm K F.plainAttrs_list F.slot_list_index F.type_list_index (zmt_index K) (pv 2) (pa_cons (pv 1) pa_nil)) pa_nil))))))
 (pss_one (ps_ret (pe_callTy (zcall_tupF K) rfl bi.tuple zb_tuple (pa_cons (pv 3) pa_nil)))))), fun B ds M Q0 hF => by

  obtain ⟨a, w, ks, rfl, hc, hl, q⟩ := hF
  walk_at "zz"
  intro p1
  walk_at "zz"
  intro p2
  walk_at "zz"
  have hc2 : ∀ (x y : Cell), (⟨a, w, .lst (eN ks)⟩ : Cell) ∈ (x :: y :: M : Mem) := fun x y => List.mem_cons_of_mem _ (List.mem_cons_of_mem _ hc)
  refine ss_for (own := [1]) (ei_list (ev_var rfl ⟨a, w, _, rfl, hc2 _ _, ?_⟩))
  refine ⟨fun i δ' M' => δ' = [some (.adr a), none, some (.adr p1), some (.adr p2)] ∧ M' = ⟨p2, true, .lst (eN (relF (ks.take i)).2)⟩ :: ⟨p1, true, .lst (eN (relF (ks.take i)).1)⟩ :: M, ?_, ⟨rfl, rfl⟩, ?_, ?_⟩
  · rintro i δ' M' _ ⟨rfl, rfl⟩; exact ⟨w, hc2 _ _⟩
  · rintro i d δ' M' hi hf ⟨rfl, rfl⟩
    obtain ⟨x, hx, rfl⟩ := eN_at hf
    have hil : i < ks.length := by rw [eN_len] at hi; exact hi
    have hr : relF (ks.take (i + 1)) = relS (relF (ks.take i)) x := by rw [take_snoc hx, relF_snoc]
    have hlen : (relF (ks.take i)).1.length ≤ i ∧ (relF (ks.take i)).2.length = i := by
      have g := relF_len (ks.take i)
      rw [List.length_take] at g
      omega
    refine eg_name ?_
    walk_at "zz"
    refine o_ninL (List.mem_cons_of_mem _ List.mem_cons_self) ?_
    walk_at "zz"
    · intro hz
      have hn : x ∉ (relF (ks.take i)).1 := by
        have := (Bool.not_eq_true' _).mp hz
        have := of_decide_eq_false this
        rwa [nI_mem] at this
      walk_at "zz"
      refine o_append (p := 1) rfl (by rw [eN_len]; omega) ?_
      have e1 : eN (relF (ks.take i)).1 ++ [Dt.int (x : Int)] = eN (relF (ks.take (i + 1))).1 := by
        rw [hr, ← eN_snoc]; unfold relS; simp [hn]
      have e2 : (relF (ks.take (i + 1))).2 = (relF (ks.take i)).2 ++ [(relF (ks.take (i + 1))).1.idxOf x] := by
        rw [hr]; rfl
      have hin : x ∈ (relF (ks.take (i + 1))).1 := by rw [hr]; unfold relS; simp [hn]
      rw [e1]
      walk_at "zz"
      refine o_indexL (List.mem_cons_of_mem _ List.mem_cons_self) (nI_mem.mpr hin) ?_
      rw [idx_nI]
      walk_at "zz"
      refine o_append (p := 0) rfl (by rw [eN_len]; omega) ?_
      rw [← eN_snoc, ← e2]
      refine ⟨_, _, ?_, List.Sublist.refl _, rfl, rfl⟩
      walk_at "zle"
    · intro hz
      have hn : x ∈ (relF (ks.take i)).1 := by
        have := (Bool.not_eq_false' _).mp hz
        have := of_decide_eq_true this
        rwa [nI_mem] at this
      walk_at "zz"
      have e1 : (relF (ks.take (i + 1))).1 = (relF (ks.take i)).1 := by
        rw [hr]; unfold relS; simp [hn]
      have e2 : (relF (ks.take (i + 1))).2 = (relF (ks.take i)).2 ++ [(relF (ks.take (i + 1))).1.idxOf x] := by
        rw [hr]; rfl
      rw [← e1] at hn ⊢
      refine o_indexL (List.mem_cons_of_mem _ List.mem_cons_self) (nI_mem.mpr hn) ?_
      rw [idx_nI]
      walk_at "zz"
      refine o_append (p := 0) rfl (by rw [eN_len]; omega) ?_
      rw [← eN_snoc, ← e2]
      refine ⟨_, _, ?_, List.Sublist.refl _, rfl, rfl⟩
      walk_at "zle"
  · rintro δ' M' ⟨rfl, rfl⟩
    walk_at "zz"
    refine o_tupL List.mem_cons_self ?_
    rw [eN_len, List.take_length]
    exact ⟨M, (List.sublist_cons_self _ _).trans (List.sublist_cons_self _ _), q⟩
⟩)
end Zy
set_option Elab.async false
set_option linter.all false
set_option maxRecDepth 100000
set_option maxHeartbeats 4000000
namespace Zy
open PySem PySem.Spec PyProof.Rows L2
open C8 (fnBody fnArgs fnScope clsBody scC fnScope_by)

local macro_rules | `(tactic| walk_at "zmem") => `(tactic| repeat (first | exact List.mem_cons_self | assumption | refine List.mem_cons_of_mem _ ?_))
local macro_rules | `(tactic| walk_at "z1") => `(tactic| first
  | (with_reducible refine ss_seq ?_) | (with_reducible refine ss_next ?_) | (with_reducible refine ss_ret ?_) | (with_reducible refine ss_set ?_) | (with_reducible refine ss_if ?_)
  | (with_reducible refine ss_drop ?_) | (with_reducible refine ss_par ?_) | (with_reducible refine ss_par3 ?_)
  | (with_reducible refine et_test ?_) | (with_reducible refine et_B ?_) | (with_reducible refine et_and ?_) | (with_reducible refine et_or ?_) | (with_reducible refine et_not2 ?_) | (with_reducible refine et_yes ?_)
  | (with_reducible refine ev_op ?_) | (with_reducible refine ev_un ?_) | (with_reducible refine isi_ii ?_) | (with_reducible refine isi_ib ?_) | (with_reducible refine isi_tt ?_) | (with_reducible refine isi_ss ?_)
  | (with_reducible refine ev_cb ?_) | (with_reducible refine ev_call ?_) | (with_reducible refine ev_chain ?_)
  | (with_reducible refine ev_and ?_) | (with_reducible refine ev_or ?_) | (with_reducible refine ev_not2 ?_) | (with_reducible refine ev_if ?_) | (with_reducible refine ev_int ?_) | (with_reducible refine ev_bl ?_) | (with_reducible refine ev_non ?_) | (with_reducible refine ev_str ?_)
  | (with_reducible refine ea_nil ?_) | (with_reducible refine ea_cons ?_)
  | ((with_reducible refine' ev_var ?_ ?_); rotate_left; exact rfl) | ((with_reducible refine' o_ixT ?_ ?_); rotate_left; exact rfl) | (with_reducible refine zo_lenT ?_) | (with_reducible refine zo_lenS ?_) | ((with_reducible refine' zo_lenL ?_ ?_); rotate_left 2; (walk_at "zmem")) | (with_reducible refine ev_tup ?_) | (with_reducible refine ev_lst ?_)
  | (with_reducible refine o_I0 ?_) | (with_reducible refine o_B0 ?_) | (with_reducible refine o_neg ?_) | (with_reducible refine o_eqI ?_) | (with_reducible refine o_neI ?_)
  | (with_reducible refine fun (hq : true = false) => Bool.noConfusion hq) | (with_reducible refine fun (hq : false = true) => Bool.noConfusion hq) | (with_reducible refine fun (_ : true = true) => ?_) | (with_reducible refine fun (_ : false = false) => ?_)
  | (with_reducible refine ⟨_, rfl, ?_⟩) | (with_reducible refine ⟨_, _, rfl, ?_⟩) | (with_reducible refine ⟨_, _, _, rfl, ?_⟩) | (with_reducible refine ⟨fun (_ : true = true) => ?_, fun (hq : true = false) => Bool.noConfusion hq⟩) | (with_reducible refine ⟨fun (hq : false = true) => Bool.noConfusion hq, fun (_ : false = false) => ?_⟩) | (with_reducible refine ⟨Nat.le_of_ble_eq_true rfl, ?_⟩) | ((with_reducible refine ⟨fun hq => absurd hq ?_, fun _ => ?_⟩); (simp <;> omega)) | ((with_reducible refine ⟨fun _ => ?_, fun hq => absurd hq ?_⟩); rotate_left; (simp <;> omega)) | (with_reducible refine And.intro (?_ : _ = true → _) (?_ : _ = false → _)) | (with_reducible refine ev_bm ?_) | (with_reducible refine ss_fld ?_) | (with_reducible refine ev_fld ?_) | (with_reducible refine ev_prop ?_) | (with_reducible refine ev_meth ?_) | (with_reducible refine ev_make ?_) | ((with_reducible refine' And.intro (tyD_of ?_) ?_); rotate_left 2; (walk_at "zmem")))
local macro_rules | `(tactic| walk_at "zz") => `(tactic| repeat (walk_at "z1"))
local macro_rules | `(tactic| walk_at "zle") => `(tactic| repeat (first | exact trivial | refine And.intro rfl ?_ | exact LeD.refl _))
abbrev F__law_labels : Spec := fun ds M Q => ∃ (a : Addr) (size most i : Nat), ds = [.adr a, .int (size : Int), .int (most : Int)] ∧ M[i]? = some ⟨a, true, .sup⟩ ∧ 1 ≤ size ∧ size ≤ 9 ∧ 1 ≤ most ∧ most ≤ 100 ∧ ∀ ls : List Nat, ls.length = size → rgs 0 ls → Q (eT ls) M
theorem sc__law_labels : FnScope ["_law_supply", "_law_size", "_law_most", "_law_found"] ["_law_supply", "_law_size", "_law_most"] (fnScope (stT 87)) := fnScope_by (by decide +kernel)
theorem d__law_labels {P : Program} {w : World} {K : PySem.W.Frag} {mg : Str → Option Value} {base : Heap} {f CO CP CR dQ : Addr} {tk : Tok} {es : Array DictEntry} {nn : Nat} (bi : Bi mg) (gMC : mg "MOST_CASES" = some (.int 12 tk)) (gCO : mg "Observer" = some (.ref CO)) (gQ : mg "QUESTIONS" = some (.ref dQ)) (kq : KDict K w dQ es nn)  (c__law_draw : DefR P w K mg base 1 "_law_draw" (Pm K F__law_draw)) (gm : mg "_law_labels" = some (.ref f)) (Fn : FnP K "_law_labels" "_law_labels" (stT 87) f) : DefR P w K mg base 2 "_law_labels" (Pm K F__law_labels) :=
 def_of (F := F__law_labels) gm Fn sc__law_labels (fun _ _ _ _ _ _ us hl => match us, hl with | [_, _, _], _ => rfl) (fun ds M Q h => by obtain ⟨_, _, _, _, rfl, _⟩ := h; rfl) (fun cdv A outer s H E hr => ⟨_, (pss_cons (ps_set (i := 3) sc__law_labels.nd rfl (by first | exact Or.inl rfl | exact Or.inr rfl) (pe_lst (pa_cons pe_int pa_nil)))
 (pss_cons (ps_while PassesOwn.never (pt_cmpR op_lt (pe_callB (zcall_len_seq K) rfl bi.len zb_len (pa_cons (pv 3) pa_nil)) (pv 1) (nomark _))
 (pss_one (ps_expr (zpe_bm K F.plainAttrs_list F.slot_list_append F.type_list_append mt_append (pv 3) (pa_cons (pe_cD c__law_draw hr (by decide) rfl (pa_cons (pv 0) (pa_cons (pe_callB (call_min2 rfl) rfl bi.min zb_min (pa_cons (pe_op op_add (pe_callB (zcr_max K rfl) rfl bi.max zb_max (pa_cons (pv 3) pa_nil)) pe_int) (pa_cons (pv 2) pa_nil))) pa_nil))) pa_nil)))))
 (pss_one (ps_ret (pe_callTy (zcall_tupF K) rfl bi.tuple zb_tuple (pa_cons (pv 3) pa_nil)))))), fun B ds M Q0 hF => by

  obtain ⟨a, size, most, i, rfl, hi, h1, h2, h3, h4, q⟩ := hF
  walk_at "zz"
  intro p1
  walk_at "z1"
  refine ss_while (fun n δ' M' => ∃ ls : List Nat, δ' = [some (.adr a), some (.int (size : Int)), some (.int (most : Int)), some (.adr p1)] ∧ M' = ⟨p1, true, .lst (eN ls)⟩ :: M ∧ rgs 0 ls ∧ ls ≠ [] ∧ ls.length ≤ size ∧ n = size - ls.length) (size - 1) ⟨[0], rfl, rfl, ⟨Nat.le_refl _, trivial⟩, by simp, h1, rfl⟩ ?_
  rintro n δ' M' ⟨ls, rfl, rfl, hr, hne, hl, rfl⟩
  refine et_test (ev_op (ev_cb (ea_cons (ev_var rfl (ea_nil (zo_lenL List.mem_cons_self ?_))))))
  rw [eN_len]
  walk_at "zz"
  · intro hz
    have hz2 := of_decide_eq_true hz
    walk_at "zz"
    have hl0 : 0 < (nI ls).length := by rw [nI_len]; cases ls with
      | nil => exact absurd rfl hne
      | cons a r => simp
    refine o_maxL List.mem_cons_self hl0 fun x hx hmx => ?_
    obtain ⟨m, hm, e⟩ := List.mem_map.mp hx
    subst e
    have hmm : m = maxN ls := by
      have a1 := le_maxN m hm
      have a2 : maxN ls ≤ m := maxN_le fun y hy => by
        have := hmx (y : Int) (nI_mem.mpr hy)
        omega
      omega
    have hml : m < size := by
      have := rgs_lt hr m hm
      omega
    walk_at "zz"
    refine o_min2 ?_
    have emin : (if (most : Int) < (m : Int) + 2 then (most : Int) else (m : Int) + 2) = ((min (m + 2) most : Nat) : Int) := by
      split <;> omega
    rw [emin]
    refine ea_nil ⟨a, min (m + 2) most, i + 1, rfl, hi, by omega, by omega, fun v hv => ?_⟩
    walk_at "zz"
    refine o_append (p := 0) rfl (by rw [eN_len]; omega) ?_
    rw [← eN_snoc]
    have hu := rgs0_max hr hne
    refine ⟨_, _, LeD.refl _, List.Sublist.refl _, _, ?_, ls ++ [v], rfl, rfl, rgs_snoc hr (by rw [hu]; omega), by simp, by rw [List.length_append, List.length_singleton]; omega, rfl⟩
    rw [List.length_append, List.length_singleton]
    omega
  · intro hz
    have hz2 := of_decide_eq_false hz
    walk_at "zz"
    refine o_tupL List.mem_cons_self ?_
    exact ⟨M, List.sublist_cons_self _ _, q ls (by omega) hr⟩
⟩)
abbrev F__law_odds : Spec := fun ds M Q => ∃ (o : Ob) (n : Nat), ds = [eT o.lab, eT o.w] ∧ ObOk n o ∧ Q (eQ o.odds) M
theorem sc__law_odds : FnScope ["_law_labels_here", "_law_weights_here", "_law_found", "_law_x", "_law_whole", "_law_y"] ["_law_labels_here", "_law_weights_here"] (fnScope (stT 89)) := fnScope_by (by decide +kernel)
theorem d__law_odds {P : Program} {w : World} {K : PySem.W.Frag} {mg : Str → Option Value} {base : Heap} {f CO CP CR dQ : Addr} {tk : Tok} {es : Array DictEntry} {nn : Nat} (bi : Bi mg) (gMC : mg "MOST_CASES" = some (.int 12 tk)) (gCO : mg "Observer" = some (.ref CO)) (gQ : mg "QUESTIONS" = some (.ref dQ)) (kq : KDict K w dQ es nn)  (c__law_fraction : DefR P w K mg base 2 "_law_fraction" (Pm K F__law_fraction)) (gm : mg "_law_odds" = some (.ref f)) (Fn : FnP K "_law_odds" "_law_odds" (stT 89) f) : DefR P w K mg base 3 "_law_odds" (Pm K F__law_odds) :=
 def_of (F := F__law_odds) gm Fn sc__law_odds (fun _ _ _ _ _ _ us hl => match us, hl with | [_, _], _ => rfl) (fun ds M Q h => by obtain ⟨_, _, rfl, _⟩ := h; rfl) (fun cdv A outer s H E hr => ⟨_, (pss_cons (ps_set (i := 2) sc__law_odds.nd rfl (by first | exact Or.inl rfl | exact Or.inr rfl) (pe_lst pa_nil))
 (pss_cons (ps_for PassesOwn.never rfl (pi_range1 rfl bi.range (pa_cons (pe_callB (zcall_len_seq K) rfl bi.len zb_len (pa_cons (pv 0) pa_nil)) pa_nil)) (pg_name (i := 3) sc__law_odds.nd rfl (by first | exact Or.inl rfl | exact Or.inr rfl))
 (pss_cons (ps_set (i := 4) sc__law_odds.nd rfl (by first | exact Or.inl rfl | exact Or.inr rfl) (pe_callB (zcr_sum K rfl) rfl bi.sum zb_sum (pa_cons (pe_lc rfl sc__law_odds.nd (pi_range1 rfl bi.range (pa_cons (pe_callB (zcall_len_seq K) rfl bi.len zb_len (pa_cons (pv 0) pa_nil)) pa_nil)) (blkOk_by (own := [("_law_y", 5)]) (by kernel_rfl)) (fun _ _ _ _ _ => (pg_name (i := 5) sc__law_odds.nd rfl (by first | exact Or.inl rfl | exact Or.inr rfl))) (fun _ _ _ _ _ => (pts_one (pt_cmpR op_eq (pe_ix (zix_tup K) (pv 0) (pv 5) (fun _ _ => rfl)) (pe_ix (zix_tup K) (pv 0) (pv 3) (fun _ _ => rfl)) (nomark _)))) (fun _ _ _ _ _ => (pe_ix (zix_tup K) (pv 1) (pv 5) (fun _ _ => rfl)))) pa_nil)))
 (pss_one (ps_expr (zpe_bm K F.plainAttrs_list F.slot_list_append F.type_list_append mt_append (pv 2) (pa_cons (pe_cD c__law_fraction hr (by decide) rfl (pa_cons (pe_ix (zix_tup K) (pv 1) (pv 3) (fun _ _ => rfl)) (pa_cons (pv 4) pa_nil))) pa_nil))))))
 (pss_one (ps_ret (pe_callTy (zcall_tupF K) rfl bi.tuple zb_tuple (pa_cons (pv 2) pa_nil)))))), fun B ds M Q0 hF => by

  obtain ⟨o, n, rfl, hok, q⟩ := hF
  have hll := hok.ll
  have hn9 := hok.n2
  have gl : ∀ {x : Nat}, x < n → atI (eN o.lab) (x : Int) = some (Dt.int (o.l x : Nat)) := fun {x} h => atI_eN (by rw [hok.ll]; exact h)
  have gw : ∀ {x : Nat}, x < n → atI (eN o.w) (x : Int) = some (Dt.int (o.v x : Nat)) := fun {x} h => atI_eN (by rw [hok.lw]; exact h)
  walk_at "zz"
  intro p1
  walk_at "z1"
  refine ss_for (own := [3]) (ei_rng (ea_cons (ev_cb (ea_cons (ev_var rfl (ea_nil (zo_lenT (ea_nil ⟨_, rfl, by rw [eN_len]; omega, ?_⟩))))))))
  rw [eN_len]
  refine ⟨fun i δ' M' => δ' = [some (eT o.lab), some (eT o.w), some (.adr p1), none, none, none] ∧ M' = ⟨p1, true, .lst (((List.range i).map o.odd).map eF)⟩ :: M, fun _ _ _ _ _ => trivial, ⟨rfl, rfl⟩, ?_, ?_⟩
  · rintro x d δ' M' hx hf ⟨rfl, rfl⟩
    have hd := (Option.some.inj hf).symm
    subst hd
    have hxn : x < n := by omega
    refine eg_name ?_
    walk_at "zz"
    refine ev_lcP (own := [5]) (by simp) (ei_rng (ea_cons (ev_cb (ea_cons (ev_var rfl (ea_nil (zo_lenT (ea_nil ⟨_, rfl, by rw [eN_len]; omega, ?_⟩))))))))
    rw [eN_len]
    refine ⟨fun y => if (o.l y == o.l x) = true then some (Dt.int (o.v y : Nat)) else none, by omega, ?_, ?_⟩
    · intro B' y d hy hf
      have hd := (Option.some.inj hf).symm
      subst hd
      have hyn : y < n := by omega
      refine eg_name ?_
      walk_at "zz"
      refine o_ixT (gl hyn) ?_
      walk_at "zz"
      refine o_ixT (gl hxn) ?_
      walk_at "zz"
      · intro hz
        have e : o.l y = o.l x := by have := of_decide_eq_true hz; omega
        walk_at "zz"
        refine o_ixT (gw hyn) ?_
        refine ⟨List.Sublist.refl _, ?_⟩
        dsimp only
        rw [if_pos (by simpa using e)]
      · intro hz
        have e : ¬ o.l y = o.l x := by have := of_decide_eq_false hz; omega
        refine ⟨List.Sublist.refl _, ?_⟩
        dsimp only
        rw [if_neg (by simpa using e)]
    · intro p2
      have e3 : (List.range o.lab.length).filterMap (fun y => if (o.l y == o.l x) = true then some (Dt.int (o.v y : Nat)) else none) = eN ((o.part x).map o.v) := by
        rw [fm_if, eN_map]; rfl
      rw [e3]
      walk_at "zz"
      refine o_sumL List.mem_cons_self ?_
      have es : (nI ((o.part x).map o.v)).sum = ((((o.part x).map o.v).sum : Nat) : Int) := by
        generalize (o.part x).map o.v = l
        unfold nI
        induction l with
        | nil => rfl
        | cons a r ih => rw [List.map_cons, List.sum_cons, List.sum_cons, ih]; omega
      rw [es]
      have hsum := hok.sum hxn
      walk_at "zz"
      refine o_ixT (gw hxn) ?_
      walk_at "zz"
      refine ⟨hsum.1, Nat.lt_of_lt_of_le hsum.2 (Nat.pow_le_pow_right (by decide) (by decide)), ?_⟩
      have eo : mkRat ((o.v x : Nat) : Int) (((o.part x).map o.v).sum) = o.odd x := by rw [Rat.mkRat_eq_div]; rfl
      rw [eo]
      walk_at "zz"
      refine o_append (p := 1) rfl (by simp; omega) ?_
      refine ⟨_, _, ?_, ?_, rfl, rfl⟩
      · walk_at "zle"
      · rw [List.range_succ, List.map_append, List.map_append]
        exact List.sublist_cons_self _ _
  · rintro δ' M' ⟨rfl, rfl⟩
    walk_at "zz"
    refine o_tupL List.mem_cons_self ?_
    exact ⟨M, List.sublist_cons_self _ _, q⟩
⟩)
abbrev F__law_weights : Spec := fun ds M Q => ∃ (a : Addr) (size i : Nat), ds = [.adr a, .int (size : Int)] ∧ M[i]? = some ⟨a, true, .sup⟩ ∧ size ≤ 9 ∧ ∀ ws : List Nat, ws.length = size → (∀ x ∈ ws, 1 ≤ x ∧ x ≤ 40) → Q (eT ws) M
theorem sc__law_weights : FnScope ["_law_supply", "_law_size", "_law_most", "_law_x"] ["_law_supply", "_law_size"] (fnScope (stT 90)) := fnScope_by (by decide +kernel)
theorem d__law_weights {P : Program} {w : World} {K : PySem.W.Frag} {mg : Str → Option Value} {base : Heap} {f CO CP CR dQ : Addr} {tk : Tok} {es : Array DictEntry} {nn : Nat} (bi : Bi mg) (gMC : mg "MOST_CASES" = some (.int 12 tk)) (gCO : mg "Observer" = some (.ref CO)) (gQ : mg "QUESTIONS" = some (.ref dQ)) (kq : KDict K w dQ es nn)  (c__law_choose : DefR P w K mg base 2 "_law_choose" (Pm K F__law_choose)) (c__law_draw : DefR P w K mg base 1 "_law_draw" (Pm K F__law_draw)) (gm : mg "_law_weights" = some (.ref f)) (Fn : FnP K "_law_weights" "_law_weights" (stT 90) f) : DefR P w K mg base 3 "_law_weights" (Pm K F__law_weights) :=
 def_of (F := F__law_weights) gm Fn sc__law_weights (fun _ _ _ _ _ _ us hl => match us, hl with | [_, _], _ => rfl) (fun ds M Q h => by obtain ⟨_, _, _, rfl, _⟩ := h; rfl) (fun cdv A outer s H E hr => ⟨_, (pss_cons (ps_set (i := 2) sc__law_weights.nd rfl (by first | exact Or.inl rfl | exact Or.inr rfl) (pe_cD c__law_choose hr (by decide) rfl (pa_cons (pv 0) (pa_cons (pe_lst (pa_cons pe_int (pa_cons pe_int (pa_cons pe_int (pa_cons pe_int (pa_cons pe_int pa_nil)))))) pa_nil))))
 (pss_one (ps_ret (pe_callTy (zcall_tupF K) rfl bi.tuple zb_tuple (pa_cons (pe_lc rfl sc__law_weights.nd (pi_range1 rfl bi.range (pa_cons (pv 1) pa_nil)) (blkOk_by (own := [("_law_x", 3)]) (by kernel_rfl)) (fun _ _ _ _ _ => (pg_name (i := 3) sc__law_weights.nd rfl (by first | exact Or.inl rfl | exact Or.inr rfl))) (fun _ _ _ _ _ => pts_nil) (fun _ _ _ _ _ => (pe_op op_add pe_int (pe_cD c__law_draw hr (by decide) rfl (pa_cons (pv 0) (pa_cons (pv 2) pa_nil)))))) pa_nil))))), fun B ds M Q0 hF => by

  obtain ⟨a, size, i, rfl, hi, h1, q⟩ := hF
  walk_at "zz"
  intro p1
  refine ea_nil ⟨a, p1, true, [1, 2, 3, 9, 40], i + 1, rfl, hi, List.mem_cons_self, by simp, by simp, fun most hm => ?_⟩
  have hmost : 1 ≤ most ∧ most ≤ 40 := by
    simp at hm
    omega
  walk_at "zz"
  refine ev_lc (own := [3]) (by simp) (ei_rng (ea_cons (ev_var rfl (ea_nil ⟨size, rfl, by omega, ?_⟩))))
  refine ⟨fun j acc M' => M' = ⟨p1, true, .lst (eN [1, 2, 3, 9, 40])⟩ :: M ∧ ∃ ws : List Nat, acc = eN ws ∧ ws.length = j ∧ ∀ x ∈ ws, 1 ≤ x ∧ x ≤ 40, by omega, ?_, ⟨rfl, [], rfl, rfl, fun x hx => (by cases hx)⟩, ?_, ?_⟩
  · rintro j acc M' ⟨rfl, _⟩
    exact ⟨rfl, trivial⟩
  · rintro B' j d acc M' hj hf _ ⟨rfl, ws, rfl, hwl, hws⟩
    refine eg_name ?_
    walk_at "zz"
    refine ⟨a, most, i + 1, rfl, hi, hmost.1, by omega, fun v hv => ?_⟩
    walk_at "zz"
    refine WkM.of ⟨rfl, ws ++ [1 + v], ?_, by rw [List.length_append]; simp; omega, fun x hx => ?_⟩
    · rw [eN_snoc]
      show eN ws ++ [Dt.int (1 + (v : Int))] = _
      rw [Int.natCast_add]; rfl
    · rcases List.mem_append.mp hx with hx | hx
      · exact hws x hx
      · have : x = 1 + v := by simpa using hx
        omega
  · rintro p acc M' _ ⟨rfl, ws, rfl, hwl, hws⟩
    walk_at "zz"
    refine o_tupL List.mem_cons_self ?_
    exact ⟨M, (List.sublist_cons_self _ _).trans (List.sublist_cons_self _ _), q ws hwl hws⟩
⟩)
abbrev F__law_ring : Spec := fun ds M Q => ∃ (size many k : Nat), ds = [.int (size : Int), .int (many : Int), .int (k : Int)] ∧ 1 ≤ size ∧ size ≤ 9 ∧ 1 ≤ many ∧ ∀ ls : List Nat, ls.length = size → rgs 0 ls → Q (eT ls) M
theorem sc__law_ring : FnScope ["_law_size", "_law_many", "_law_k", "_law_labels_here", "_law_x"] ["_law_size", "_law_many", "_law_k"] (fnScope (stT 91)) := fnScope_by (by decide +kernel)
theorem d__law_ring {P : Program} {w : World} {K : PySem.W.Frag} {mg : Str → Option Value} {base : Heap} {f CO CP CR dQ : Addr} {tk : Tok} {es : Array DictEntry} {nn : Nat} (bi : Bi mg) (gMC : mg "MOST_CASES" = some (.int 12 tk)) (gCO : mg "Observer" = some (.ref CO)) (gQ : mg "QUESTIONS" = some (.ref dQ)) (kq : KDict K w dQ es nn)  (c__law_canonical : DefR P w K mg base 1 "_law_canonical" (Pm K F__law_canonical)) (gm : mg "_law_ring" = some (.ref f)) (Fn : FnP K "_law_ring" "_law_ring" (stT 91) f) : DefR P w K mg base 2 "_law_ring" (Pm K F__law_ring) :=
 def_of (F := F__law_ring) gm Fn sc__law_ring (fun _ _ _ _ _ _ us hl => match us, hl with | [_, _, _], _ => rfl) (fun ds M Q h => by obtain ⟨_, _, _, rfl, _⟩ := h; rfl) (fun cdv A outer s H E hr => ⟨_, (pss_cons (ps_set (i := 3) sc__law_ring.nd rfl (by first | exact Or.inl rfl | exact Or.inr rfl) (pe_listRg rfl rfl bi.list (prg_1 rfl bi.range (pv 0))))
 (pss_cons (ps_for PassesOwn.never rfl (pi_range1 rfl bi.range (pa_cons (pv 0) pa_nil)) (pg_name (i := 4) sc__law_ring.nd rfl (by first | exact Or.inl rfl | exact Or.inr rfl))
 (pss_one (ps_if (PW.pt (pw_and (pt_cmpR op_eq (pe_op op_mod (pv 4) (pv 1)) (pv 2) (nomark _)) (pw_and (pt_cmpR op_eq (pe_ix (zix_list K) (pv 3) (pv 4) (fun _ _ => rfl)) (pv 4) (nomark _)) (pw_and1 (pt_cmpR op_eq (pe_ix (zix_list K) (pv 3) (pe_op op_mod (pe_op op_add (pv 4) pe_int) (pv 0)) (fun _ _ => rfl)) (pe_op op_mod (pe_op op_add (pv 4) pe_int) (pv 0)) (nomark _))))))
 (pss_one (ps_asg (pv 4) (pg_sub (pv 3) (pe_op op_mod (pe_op op_add (pv 4) pe_int) (pv 0)) set_list)))
 pss_nil)))
 (pss_one (ps_ret (pe_cD c__law_canonical hr (by decide) rfl (pa_cons (pv 3) pa_nil)))))), fun B ds M Q0 hF => by

  obtain ⟨size, many, k, rfl, h1, h2, h3, q⟩ := hF
  walk_at "z1"
  refine ss_set (ev_listRg (ev_var rfl ⟨size, rfl, by omega, fun p1 => ?_⟩))
  rw [eN_range]
  walk_at "z1"
  refine ss_for (own := [4]) (ei_rng (ea_cons (ev_var rfl (ea_nil ⟨size, rfl, by omega, ?_⟩))))
  refine ⟨fun i δ' M' => ∃ ls : List Nat, δ' = [some (.int (size : Int)), some (.int (many : Int)), some (.int (k : Int)), some (.adr p1), none] ∧ M' = ⟨p1, true, .lst (eN ls)⟩ :: M ∧ ls.length = size, fun _ _ _ _ _ => trivial, ⟨List.range size, rfl, rfl, List.length_range⟩, ?_, ?_⟩
  · rintro x d δ' M' hx hf ⟨ls, rfl, rfl, hl⟩
    have hd := (Option.some.inj hf).symm
    subst hd
    have hm : (x + 1) % size < size := Nat.mod_lt _ (by omega)
    have em : ((x : Int) + 1) % (size : Int) = (((x + 1) % size : Nat) : Int) := by rw [Int.natCast_emod, Int.natCast_add]; rfl
    have fin : ∀ (δ2 : Dl), LeD [some (.int (size : Int)), some (.int (many : Int)), some (.int (k : Int)), some (.adr p1), none] δ2 → Wk (fun δ' M' => ∃ ls : List Nat, δ' = [some (.int (size : Int)), some (.int (many : Int)), some (.int (k : Int)), some (.adr p1), none] ∧ M' = ⟨p1, true, .lst (eN ls)⟩ :: M ∧ ls.length = size) δ2 (⟨p1, true, .lst (eN ls)⟩ :: M) := fun δ2 h => ⟨_, _, h, List.Sublist.refl _, ls, rfl, rfl, hl⟩
    refine eg_name ?_
    walk_at "zz"
    refine o_I (C := fun _ j => 0 < j) (by omega) ?_
    walk_at "zz"
    · intro hz
      walk_at "zz"
      refine o_ixL List.mem_cons_self (atI_eN (by omega)) ?_
      walk_at "zz"
      · intro hz2
        walk_at "zz"
        refine o_I (C := fun _ j => 0 < j) (by omega) ?_
        rw [em]
        refine o_ixL List.mem_cons_self (atI_eN (by omega)) ?_
        walk_at "zz"
        refine o_I (C := fun _ j => 0 < j) (by omega) ?_
        rw [em]
        walk_at "zz"
        · intro hz3
          refine ss_asg (own := []) (ev_var rfl ?_)
          refine eg_subL (ev_var rfl (ev_op (ev_op (ev_var rfl (ev_int (o_I0 (ev_var rfl (o_I (C := fun _ j => 0 < j) (by omega) ?_))))))))
          rw [em]
          refine ⟨p1, _, _, (x + 1) % size, 0, rfl, rfl, rfl, ?_, ?_⟩
          · unfold ixN
            rw [if_pos (by omega), if_pos (by rw [eN_len]; omega)]
            rfl
          · refine ⟨_, _, ?_, List.Sublist.refl _, ls.set ((x + 1) % size) x, rfl, ?_, by rw [List.length_set]; exact hl⟩
            · walk_at "zle"
            · show ⟨p1, true, .lst ((eN ls).set _ _)⟩ :: M = _
              unfold eN nI
              rw [List.map_set, List.map_set]
        · intro hz3
          walk_at "zz"
          refine fin _ ?_
          walk_at "zle"
      · intro hz2
        walk_at "zz"
        refine fin _ ?_
        walk_at "zle"
    · intro hz
      walk_at "zz"
      refine fin _ ?_
      walk_at "zle"
  · rintro δ' M' ⟨ls, rfl, rfl, hl⟩
    walk_at "zz"
    refine ⟨p1, true, ls, rfl, List.mem_cons_self, by omega, ?_⟩
    exact ⟨M, List.sublist_cons_self _ _, q _ (by rw [relab_len]; exact hl) (relab_rgs ls).1⟩
⟩)
end Zy
set_option Elab.async false
set_option linter.all false
set_option maxRecDepth 100000
set_option maxHeartbeats 4000000
namespace Zy
open PySem PySem.Spec PyProof.Rows L2
open C8 (fnBody fnArgs fnScope clsBody scC fnScope_by)

local macro_rules | `(tactic| walk_at "zmem") => `(tactic| repeat (first | exact List.mem_cons_self | assumption | refine List.mem_cons_of_mem _ ?_))
local macro_rules | `(tactic| walk_at "z1") => `(tactic| first
  | (with_reducible refine ss_seq ?_) | (with_reducible refine ss_next ?_) | (with_reducible refine ss_ret ?_) | (with_reducible refine ss_set ?_) | (with_reducible refine ss_if ?_)
  | (with_reducible refine ss_drop ?_) | (with_reducible refine ss_par ?_) | (with_reducible refine ss_par3 ?_)
  | (with_reducible refine et_test ?_) | (with_reducible refine et_B ?_) | (with_reducible refine et_and ?_) | (with_reducible refine et_or ?_) | (with_reducible refine et_not2 ?_) | (with_reducible refine et_yes ?_)
  | (with_reducible refine ev_op ?_) | (with_reducible refine ev_un ?_) | (with_reducible refine isi_ii ?_) | (with_reducible refine isi_ib ?_) | (with_reducible refine isi_tt ?_) | (with_reducible refine isi_ss ?_)
  | (with_reducible refine ev_cb ?_) | (with_reducible refine ev_call ?_) | (with_reducible refine ev_chain ?_)
  | (with_reducible refine ev_and ?_) | (with_reducible refine ev_or ?_) | (with_reducible refine ev_not2 ?_) | (with_reducible refine ev_if ?_) | (with_reducible refine ev_int ?_) | (with_reducible refine ev_bl ?_) | (with_reducible refine ev_non ?_) | (with_reducible refine ev_str ?_)
  | (with_reducible refine ea_nil ?_) | (with_reducible refine ea_cons ?_)
  | ((with_reducible refine' ev_var ?_ ?_); rotate_left; exact rfl) | ((with_reducible refine' o_ixT ?_ ?_); rotate_left; exact rfl) | (with_reducible refine zo_lenT ?_) | (with_reducible refine zo_lenS ?_) | ((with_reducible refine' zo_lenL ?_ ?_); rotate_left 2; (walk_at "zmem")) | (with_reducible refine ev_tup ?_) | (with_reducible refine ev_lst ?_)
  | (with_reducible refine o_I0 ?_) | (with_reducible refine o_B0 ?_) | (with_reducible refine o_neg ?_) | (with_reducible refine o_eqI ?_) | (with_reducible refine o_neI ?_)
  | (with_reducible refine fun (hq : true = false) => Bool.noConfusion hq) | (with_reducible refine fun (hq : false = true) => Bool.noConfusion hq) | (with_reducible refine fun (_ : true = true) => ?_) | (with_reducible refine fun (_ : false = false) => ?_)
  | (with_reducible refine ⟨_, rfl, ?_⟩) | (with_reducible refine ⟨_, _, rfl, ?_⟩) | (with_reducible refine ⟨_, _, _, rfl, ?_⟩) | (with_reducible refine ⟨fun (_ : true = true) => ?_, fun (hq : true = false) => Bool.noConfusion hq⟩) | (with_reducible refine ⟨fun (hq : false = true) => Bool.noConfusion hq, fun (_ : false = false) => ?_⟩) | (with_reducible refine ⟨Nat.le_of_ble_eq_true rfl, ?_⟩) | ((with_reducible refine ⟨fun hq => absurd hq ?_, fun _ => ?_⟩); (simp <;> omega)) | ((with_reducible refine ⟨fun _ => ?_, fun hq => absurd hq ?_⟩); rotate_left; (simp <;> omega)) | (with_reducible refine And.intro (?_ : _ = true → _) (?_ : _ = false → _)) | (with_reducible refine ev_bm ?_) | (with_reducible refine ss_fld ?_) | (with_reducible refine ev_fld ?_) | (with_reducible refine ev_prop ?_) | (with_reducible refine ev_meth ?_) | (with_reducible refine ev_make ?_) | ((with_reducible refine' And.intro (tyD_of ?_) ?_); rotate_left 2; (walk_at "zmem")))
local macro_rules | `(tactic| walk_at "zz") => `(tactic| repeat (walk_at "z1"))
local macro_rules | `(tactic| walk_at "zle") => `(tactic| repeat (first | exact trivial | refine And.intro rfl ?_ | exact LeD.refl _))
section
variable {K : PySem.W.Frag} {B : Hp} {M : Mem} {δ : Dl} {ts us : TS} {N : Dl → Mem → Prop} {Rt : Dt → Mem → Prop}
theorem ss_cut (P : Dl → Mem → Prop) (h1 : SS K B ts δ M (Wk P) Rt) (h2 : ∀ δ' M', P δ' M' → SS K B us δ' M' N Rt) : SS K B (tSeq ts us) δ M N Rt := fun σ H m s D k1 k2 =>
  h1 σ H m s { D with nx := us D } (fun σ' H' δ' M' t m' s' ⟨δ2, M2, l, u, p⟩ => h2 δ2 M2 p σ' H' (m'.sub u) (s'.weak l) D (fun σ2 H2 δ3 M3 t2 => k1 σ2 H2 δ3 M3 (t.trans t2)) fun v H2 d M3 t2 => k2 v H2 d M3 (t.trans t2)) k2
end
abbrev F__law_rows : Spec := fun ds M Q => ∃ (a : Addr) (size i : Nat), ds = [.adr a, .int (size : Int), .int 4] ∧ M[i]? = some ⟨a, true, .sup⟩ ∧ 2 ≤ size ∧ size ≤ 9 ∧ ∀ (p : Addr) (obs : List Ob), 1 ≤ obs.length → obs.length ≤ 4 → (∀ o ∈ obs, ObOk size o) → Q (.adr p) (⟨p, true, .lst (obs.map obD)⟩ :: M)
theorem sc__law_rows : FnScope ["_law_supply", "_law_size", "_law_most", "_law_k", "_law_shape", "_law_way", "_law_many", "_law_shared", "_law_second", "_law_found", "_law_labels_here", "_law_weights_here", "_law_x"] ["_law_supply", "_law_size", "_law_most"] (fnScope (stT 92)) := fnScope_by (by decide +kernel)
theorem d__law_rows {P : Program} {w : World} {K : PySem.W.Frag} {mg : Str → Option Value} {base : Heap} {f CO CP CR dQ : Addr} {tk : Tok} {es : Array DictEntry} {nn : Nat} (bi : Bi mg) (gMC : mg "MOST_CASES" = some (.int 12 tk)) (gCO : mg "Observer" = some (.ref CO)) (gQ : mg "QUESTIONS" = some (.ref dQ)) (kq : KDict K w dQ es nn)  (c__law_draw : DefR P w K mg base 1 "_law_draw" (Pm K F__law_draw)) (c__law_weights : DefR P w K mg base 3 "_law_weights" (Pm K F__law_weights)) (c__law_labels : DefR P w K mg base 2 "_law_labels" (Pm K F__law_labels)) (c__law_choose : DefR P w K mg base 2 "_law_choose" (Pm K F__law_choose)) (c__law_canonical : DefR P w K mg base 1 "_law_canonical" (Pm K F__law_canonical)) (c__law_ring : DefR P w K mg base 2 "_law_ring" (Pm K F__law_ring)) (c__law_odds : DefR P w K mg base 3 "_law_odds" (Pm K F__law_odds)) (gm : mg "_law_rows" = some (.ref f)) (Fn : FnP K "_law_rows" "_law_rows" (stT 92) f) : DefR P w K mg base 4 "_law_rows" (Pm K F__law_rows) :=
 def_of (F := F__law_rows) gm Fn sc__law_rows (fun _ _ _ _ _ _ us hl => match us, hl with | [_, _, _], _ => rfl) (fun ds M Q h => by obtain ⟨_, _, _, rfl, _⟩ := h; rfl) (fun cdv A outer s H E hr => ⟨_, (pss_cons (ps_par3 (i := 4) (j := 5) (l := 6) rfl sc__law_rows.nd rfl rfl rfl (by decide) (by decide) (by decide) rfl rfl rfl (pa_cons (pe_cD c__law_draw hr (by decide) rfl (pa_cons (pv 0) (pa_cons pe_int pa_nil))) (pa_cons (pe_cD c__law_draw hr (by decide) rfl (pa_cons (pv 0) (pa_cons pe_int pa_nil))) (pa_cons (pe_op op_add pe_int (pe_cD c__law_draw hr (by decide) rfl (pa_cons (pv 0) (pa_cons (pv 2) pa_nil)))) pa_nil))) rfl)
 (pss_cons (ps_par3 (i := 7) (j := 8) (l := 9) rfl sc__law_rows.nd rfl rfl rfl (by decide) (by decide) (by decide) rfl rfl rfl (pa_cons (pe_cD c__law_weights hr (by decide) rfl (pa_cons (pv 0) (pa_cons (pv 1) pa_nil))) (pa_cons (pe_cD c__law_weights hr (by decide) rfl (pa_cons (pv 0) (pa_cons (pv 1) pa_nil))) (pa_cons (pe_lst pa_nil) pa_nil))) rfl)
 (pss_cons (ps_for PassesOwn.never rfl (pi_range1 rfl bi.range (pa_cons (pv 6) pa_nil)) (pg_name (i := 3) sc__law_rows.nd rfl (by first | exact Or.inl rfl | exact Or.inr rfl))
 (pss_cons (ps_set (i := 10) sc__law_rows.nd rfl (by first | exact Or.inl rfl | exact Or.inr rfl) (pe_cD c__law_labels hr (by decide) rfl (pa_cons (pv 0) (pa_cons (pv 1) (pa_cons (pe_cD c__law_choose hr (by decide) rfl (pa_cons (pv 0) (pa_cons (pe_lst (pa_cons (pv 1) (pa_cons (pv 1) (pa_cons pe_int (pa_cons pe_int pa_nil))))) pa_nil))) pa_nil)))))
 (pss_cons (ps_if (pt_cmpR op_eq (pv 4) pe_int (nomark _))
 (pss_one (ps_set (i := 10) sc__law_rows.nd rfl (by first | exact Or.inl rfl | exact Or.inr rfl) (pe_cD c__law_canonical hr (by decide) rfl (pa_cons (pe_lc rfl sc__law_rows.nd (pi_range1 rfl bi.range (pa_cons (pv 1) pa_nil)) (blkOk_by (own := [("_law_x", 12)]) (by kernel_rfl)) (fun _ _ _ _ _ => (pg_name (i := 12) sc__law_rows.nd rfl (by first | exact Or.inl rfl | exact Or.inr rfl))) (fun _ _ _ _ _ => pts_nil) (fun _ _ _ _ _ => (pe_callB (call_min2 rfl) rfl bi.min zb_min (pa_cons (pv 12) (pa_cons (pe_cD c__law_draw hr (by decide) rfl (pa_cons (pv 0) (pa_cons (pv 1) pa_nil))) pa_nil))))) pa_nil))))
 pss_nil)
 (pss_cons (ps_if (pt_cmpR op_eq (pv 4) pe_int (nomark _))
 (pss_one (ps_set (i := 10) sc__law_rows.nd rfl (by first | exact Or.inl rfl | exact Or.inr rfl) (pe_cD c__law_ring hr (by decide) rfl (pa_cons (pv 1) (pa_cons (pe_callB (call_max2 rfl) rfl bi.max zb_max (pa_cons pe_int (pa_cons (pv 6) pa_nil))) (pa_cons (pv 3) pa_nil))))))
 pss_nil)
 (pss_cons (ps_set (i := 11) sc__law_rows.nd rfl (by first | exact Or.inl rfl | exact Or.inr rfl) (pv 7))
 (pss_cons (ps_if (PW.pt (pw_or (PW.pt (pw_and (pt_cmpR op_eq (pv 5) pe_int (nomark _)) (pw_and1 (pt_cmpR op_eq (pv 3) (pe_op op_sub (pv 6) pe_int) (nomark _))))) (pw_or1 (PW.pt (pw_and (pt_cmpR op_eq (pv 5) pe_int (nomark _)) (pw_and1 (pt_cmpR op_eq (pe_cD c__law_draw hr (by decide) rfl (pa_cons (pv 0) (pa_cons pe_int pa_nil))) pe_int (nomark _))))))))
 (pss_one (ps_set (i := 11) sc__law_rows.nd rfl (by first | exact Or.inl rfl | exact Or.inr rfl) (pv 8)))
 pss_nil)
 (pss_cons (ps_if (pt_cmpR op_eq (pv 5) pe_int (nomark _))
 (pss_one (ps_set (i := 11) sc__law_rows.nd rfl (by first | exact Or.inl rfl | exact Or.inr rfl) (pe_cD c__law_weights hr (by decide) rfl (pa_cons (pv 0) (pa_cons (pv 1) pa_nil)))))
 pss_nil)
 (pss_one (ps_expr (zpe_bm K F.plainAttrs_list F.slot_list_append F.type_list_append mt_append (pv 9) (pa_cons (pe_tupF (pa_cons (pv 10) (pa_cons (pe_cD c__law_odds hr (by decide) rfl (pa_cons (pv 10) (pa_cons (pv 11) pa_nil))) pa_nil))) pa_nil)))))))))))
 (pss_one (ps_ret (pv 9)))))), fun B ds M Q0 hF => by

  obtain ⟨a, size, i, rfl, hi, h2, h9, q⟩ := hF
  refine ss_seq (ss_par3 ?_)
  walk_at "zz"
  refine ⟨a, 4, i, rfl, hi, by omega, by omega, fun shape _ => ?_⟩
  walk_at "zz"
  refine ⟨a, 5, i, rfl, hi, by omega, by omega, fun way _ => ?_⟩
  walk_at "zz"
  refine ⟨a, 4, i, rfl, hi, by omega, by omega, fun m0 hm0 => ?_⟩
  walk_at "zz"
  refine ⟨a, size, i, rfl, hi, h9, fun w1 hw1 hb1 => ?_⟩
  walk_at "zz"
  refine ⟨a, size, i, rfl, hi, h9, fun w2 hw2 hb2 => ?_⟩
  walk_at "zz"
  intro p1
  walk_at "zz"
  refine ss_for (own := [3]) (ei_rng (ea_cons (ev_var rfl (ea_nil ⟨1 + m0, by rw [Int.natCast_add]; rfl, by omega, ?_⟩))))
  refine ⟨fun j δ' M' => δ' = [some (.adr a), some (.int (size : Int)), some (.int 4), none, some (.int (shape : Int)), some (.int (way : Int)), some (.int (1 + (m0 : Int))), some (eT w1), some (eT w2), some (.adr p1), none, none, none] ∧ ∃ obs : List Ob, M' = ⟨p1, true, .lst (obs.map obD)⟩ :: M ∧ obs.length = j ∧ ∀ o ∈ obs, ObOk size o, fun _ _ _ _ _ => trivial, ⟨rfl, [], rfl, rfl, fun o ho => (by cases ho)⟩, ?_, ?_⟩
  · rintro j d δ' M' hj hf ⟨rfl, obs, rfl, hol, hob⟩
    have hd := (Option.some.inj hf).symm
    subst hd
    refine eg_name ?_
    have hX : ∀ {Y : Cell}, (Y :: M : Mem)[i + 1]? = some ⟨a, true, .sup⟩ := fun {Y} => hi
    refine ss_cut (fun δ' M' => ∃ ls : List Nat, δ' = [some (.adr a), some (.int (size : Int)), some (.int 4), some (.int (j : Nat)), some (.int (shape : Int)), some (.int (way : Int)), some (.int (1 + (m0 : Int))), some (eT w1), some (eT w2), some (.adr p1), some (eT ls), none, none] ∧ M' = ⟨p1, true, .lst (obs.map obD)⟩ :: M ∧ ls.length = size ∧ rgs 0 ls) ?_ ?_
    · walk_at "zz"
      intro p2
      refine ea_nil ⟨a, p2, true, [size, size, 2, 3], i + 2, rfl, hi, List.mem_cons_self, by simp, by simp, fun most hm => ?_⟩
      have hmost : 1 ≤ most ∧ most ≤ 100 := by
        simp at hm
        omega
      refine ea_nil ⟨a, size, most, i + 2, rfl, hi, by omega, h9, hmost.1, hmost.2, fun ls hl hr => ?_⟩
      refine ⟨_, _, ?_, List.sublist_cons_self _ _, ls, rfl, rfl, hl, hr⟩
      walk_at "zle"
    rintro δ' M' ⟨ls, rfl, rfl, hl, hr⟩
    refine ss_cut (fun δ' M' => ∃ ls : List Nat, δ' = [some (.adr a), some (.int (size : Int)), some (.int 4), some (.int (j : Nat)), some (.int (shape : Int)), some (.int (way : Int)), some (.int (1 + (m0 : Int))), some (eT w1), some (eT w2), some (.adr p1), some (eT ls), none, none] ∧ M' = ⟨p1, true, .lst (obs.map obD)⟩ :: M ∧ ls.length = size ∧ rgs 0 ls) ?_ ?_
    · walk_at "zz"
      · intro _
        walk_at "zz"
        refine ev_lc (own := [12]) (by simp) (ei_rng (ea_cons (ev_var rfl (ea_nil ⟨size, rfl, by omega, ?_⟩))))
        refine ⟨fun m acc M' => M' = ⟨p1, true, .lst (obs.map obD)⟩ :: M ∧ ∃ ks : List Nat, acc = eN ks ∧ ks.length = m, by omega, ?_, ⟨rfl, [], rfl, rfl⟩, ?_, ?_⟩
        · rintro m acc M' ⟨rfl, _⟩
          exact ⟨rfl, trivial⟩
        · rintro B' m d acc M' hm hf _ ⟨rfl, ks, rfl, hkl⟩
          have hd := (Option.some.inj hf).symm
          subst hd
          refine eg_name ?_
          walk_at "zz"
          refine ⟨a, size, i + 1, rfl, hi, by omega, by omega, fun v hv => ?_⟩
          walk_at "zz"
          refine o_min2 ?_
          refine WkM.of ⟨rfl, ks ++ [min m v], ?_, by rw [List.length_append, hkl]; rfl⟩
          rw [eN_snoc, show (if (v : Int) < (m : Int) then (v : Int) else (m : Int)) = ((min m v : Nat) : Int) by split <;> omega]
        · rintro p acc M' _ ⟨rfl, ks, rfl, hkl⟩
          walk_at "zz"
          refine ⟨p, true, ks, rfl, List.mem_cons_self, by omega, ?_⟩
          refine ⟨_, _, ?_, List.sublist_cons_self _ _, relab ks, rfl, rfl, by rw [relab_len]; exact hkl, (relab_rgs ks).1⟩
          walk_at "zle"
      · intro _
        walk_at "zz"
        exact Wk.of ⟨ls, rfl, rfl, hl, hr⟩
    rintro δ' M' ⟨ls, rfl, rfl, hl, hr⟩
    refine ss_cut (fun δ' M' => ∃ ls : List Nat, δ' = [some (.adr a), some (.int (size : Int)), some (.int 4), some (.int (j : Nat)), some (.int (shape : Int)), some (.int (way : Int)), some (.int (1 + (m0 : Int))), some (eT w1), some (eT w2), some (.adr p1), some (eT ls), none, none] ∧ M' = ⟨p1, true, .lst (obs.map obD)⟩ :: M ∧ ls.length = size ∧ rgs 0 ls) ?_ ?_
    · walk_at "zz"
      · intro _
        walk_at "zz"
        refine o_max2 ?_
        rw [show (if (1 + (m0 : Int)) > 2 then (1 + (m0 : Int)) else 2) = ((max 2 (1 + m0) : Nat) : Int) by split <;> omega]
        walk_at "zz"
        refine ⟨by omega, h9, by omega, fun ls hl hr => ?_⟩
        refine ⟨_, _, ?_, List.Sublist.refl _, ls, rfl, rfl, hl, hr⟩
        walk_at "zle"
      · intro _
        walk_at "zz"
        exact Wk.of ⟨ls, rfl, rfl, hl, hr⟩
    rintro δ' M' ⟨ls, rfl, rfl, hl, hr⟩
    refine ss_cut (fun δ' M' => ∃ ws : List Nat, δ' = [some (.adr a), some (.int (size : Int)), some (.int 4), some (.int (j : Nat)), some (.int (shape : Int)), some (.int (way : Int)), some (.int (1 + (m0 : Int))), some (eT w1), some (eT w2), some (.adr p1), some (eT ls), some (eT ws), none] ∧ M' = ⟨p1, true, .lst (obs.map obD)⟩ :: M ∧ ObOk size ⟨ls, ws⟩) ?_ ?_
    · walk_at "zz"
      exact Wk.of ⟨w1, rfl, rfl, ⟨by omega, h9, hl, hw1, hr, hb1⟩⟩
    rintro δ' M' ⟨ws, rfl, rfl, hok⟩
    refine ss_cut (fun δ' M' => ∃ ws : List Nat, δ' = [some (.adr a), some (.int (size : Int)), some (.int 4), some (.int (j : Nat)), some (.int (shape : Int)), some (.int (way : Int)), some (.int (1 + (m0 : Int))), some (eT w1), some (eT w2), some (.adr p1), some (eT ls), some (eT ws), none] ∧ M' = ⟨p1, true, .lst (obs.map obD)⟩ :: M ∧ ObOk size ⟨ls, ws⟩) ?_ ?_
    · have done1 : SS K B (tAsg (tVar 8) (gName 11)) [some (.adr a), some (.int (size : Int)), some (.int 4), some (.int (j : Nat)), some (.int (shape : Int)), some (.int (way : Int)), some (.int (1 + (m0 : Int))), some (eT w1), some (eT w2), some (.adr p1), some (eT ls), some (eT ws), none] (⟨p1, true, .lst (obs.map obD)⟩ :: M) (Wk fun δ' M' => ∃ ws : List Nat, δ' = [some (.adr a), some (.int (size : Int)), some (.int 4), some (.int (j : Nat)), some (.int (shape : Int)), some (.int (way : Int)), some (.int (1 + (m0 : Int))), some (eT w1), some (eT w2), some (.adr p1), some (eT ls), some (eT ws), none] ∧ M' = ⟨p1, true, .lst (obs.map obD)⟩ :: M ∧ ObOk size ⟨ls, ws⟩) (fun d M' => WkM (Q0 d) M') := by
        walk_at "zz"
        exact Wk.of ⟨w2, rfl, rfl, ⟨by omega, h9, hl, hw2, hr, hb2⟩⟩
      have done2 : SS K B tNext [some (.adr a), some (.int (size : Int)), some (.int 4), some (.int (j : Nat)), some (.int (shape : Int)), some (.int (way : Int)), some (.int (1 + (m0 : Int))), some (eT w1), some (eT w2), some (.adr p1), some (eT ls), some (eT ws), none] (⟨p1, true, .lst (obs.map obD)⟩ :: M) (Wk fun δ' M' => ∃ ws : List Nat, δ' = [some (.adr a), some (.int (size : Int)), some (.int 4), some (.int (j : Nat)), some (.int (shape : Int)), some (.int (way : Int)), some (.int (1 + (m0 : Int))), some (eT w1), some (eT w2), some (.adr p1), some (eT ls), some (eT ws), none] ∧ M' = ⟨p1, true, .lst (obs.map obD)⟩ :: M ∧ ObOk size ⟨ls, ws⟩) (fun d M' => WkM (Q0 d) M') := by
        walk_at "zz"
        exact Wk.of ⟨ws, rfl, rfl, hok⟩
      have hdraw : ∀ {X : Dt → Mem → Prop}, (∀ v : Nat, X (.int (v : Int)) (⟨p1, true, .lst (obs.map obD)⟩ :: M)) → F__law_draw [.adr a, .int 2] (⟨p1, true, .lst (obs.map obD)⟩ :: M) X := fun {X} h => ⟨a, 2, i + 1, rfl, hi, by omega, by omega, fun r _ => h r⟩
      refine ss_if (et_or (et_and ?_))
      have et2 : ∀ {QT : Bool → Mem → Prop}, (∀ b, QT b (⟨p1, true, .lst (obs.map obD)⟩ :: M)) → EvT K B (tAnd (tTest (tOp rEq (tVar 5) (tC (.int 2)))) (tTest (tOp rEq (tCallR (Pm K F__law_draw) (tCons (tVar 0) (tCons (tC (.int 2)) tNil))) (tC (.int 1))))) [some (.adr a), some (.int (size : Int)), some (.int 4), some (.int (j : Nat)), some (.int (shape : Int)), some (.int (way : Int)), some (.int (1 + (m0 : Int))), some (eT w1), some (eT w2), some (.adr p1), some (eT ls), some (eT ws), none] (⟨p1, true, .lst (obs.map obD)⟩ :: M) QT := fun {QT} h => by
        refine et_and ?_
        walk_at "zz"
        · intro _
          walk_at "zz"
          refine hdraw fun v => ?_
          walk_at "zz"
          exact h _
        · intro _
          exact h false
      walk_at "zz"
      · intro _
        walk_at "zz"
        · intro e
          exact ⟨fun _ => done1, fun z => by cases z⟩
        · intro _
          exact et2 fun b => ⟨fun _ => done1, fun _ => done2⟩
      · intro _
        exact ⟨fun z => (by cases z), fun _ => et2 fun b => ⟨fun _ => done1, fun _ => done2⟩⟩
    rintro δ' M' ⟨ws, rfl, rfl, hok⟩
    refine ss_cut (fun δ' M' => ∃ ws : List Nat, δ' = [some (.adr a), some (.int (size : Int)), some (.int 4), some (.int (j : Nat)), some (.int (shape : Int)), some (.int (way : Int)), some (.int (1 + (m0 : Int))), some (eT w1), some (eT w2), some (.adr p1), some (eT ls), some (eT ws), none] ∧ M' = ⟨p1, true, .lst (obs.map obD)⟩ :: M ∧ ObOk size ⟨ls, ws⟩) ?_ ?_
    · walk_at "zz"
      · intro _
        walk_at "zz"
        refine ⟨a, size, i + 1, rfl, hi, h9, fun w3 hw3 hb3 => ?_⟩
        exact Wk.of ⟨w3, rfl, rfl, ⟨by omega, h9, hl, hw3, hr, hb3⟩⟩
      · intro _
        walk_at "zz"
        exact Wk.of ⟨ws, rfl, rfl, hok⟩
    rintro δ' M' ⟨ws, rfl, rfl, hok⟩
    walk_at "zz"
    refine ⟨⟨ls, ws⟩, size, rfl, hok, ?_⟩
    walk_at "zz"
    refine o_append (p := 0) rfl (by rw [List.length_map]; omega) ?_
    refine ⟨_, _, ?_, List.Sublist.refl _, rfl, obs ++ [⟨ls, ws⟩], ?_, by rw [List.length_append]; simp; omega, fun o ho => ?_⟩
    · walk_at "zle"
    · rw [List.map_append]; rfl
    · rcases List.mem_append.mp ho with ho | ho
      · exact hob o ho
      · have : o = ⟨ls, ws⟩ := by simpa using ho
        rw [this]; exact hok
  · rintro δ' M' ⟨rfl, obs, rfl, hol, hob⟩
    walk_at "zz"
    exact WkM.of (q p1 obs (by omega) (by omega) hob)
⟩)
end Zy
set_option Elab.async false
set_option linter.all false
set_option maxRecDepth 100000
set_option maxHeartbeats 4000000
namespace Zy
open PySem PySem.Spec PyProof.Rows L2
open C8 (fnBody fnArgs fnScope clsBody scC fnScope_by)

local macro_rules | `(tactic| walk_at "zmem") => `(tactic| repeat (first | exact List.mem_cons_self | assumption | refine List.mem_cons_of_mem _ ?_))
local macro_rules | `(tactic| walk_at "z1") => `(tactic| first
  | (with_reducible refine ss_seq ?_) | (with_reducible refine ss_next ?_) | (with_reducible refine ss_ret ?_) | (with_reducible refine ss_set ?_) | (with_reducible refine ss_if ?_)
  | (with_reducible refine ss_drop ?_) | (with_reducible refine ss_par ?_) | (with_reducible refine ss_par3 ?_)
  | (with_reducible refine et_test ?_) | (with_reducible refine et_B ?_) | (with_reducible refine et_and ?_) | (with_reducible refine et_or ?_) | (with_reducible refine et_not2 ?_) | (with_reducible refine et_yes ?_)
  | (with_reducible refine ev_op ?_) | (with_reducible refine ev_un ?_) | (with_reducible refine isi_ii ?_) | (with_reducible refine isi_ib ?_) | (with_reducible refine isi_tt ?_) | (with_reducible refine isi_ss ?_)
  | (with_reducible refine ev_cb ?_) | (with_reducible refine ev_call ?_) | (with_reducible refine ev_chain ?_)
  | (with_reducible refine ev_and ?_) | (with_reducible refine ev_or ?_) | (with_reducible refine ev_not2 ?_) | (with_reducible refine ev_if ?_) | (with_reducible refine ev_int ?_) | (with_reducible refine ev_bl ?_) | (with_reducible refine ev_non ?_) | (with_reducible refine ev_str ?_)
  | (with_reducible refine ea_nil ?_) | (with_reducible refine ea_cons ?_)
  | ((with_reducible refine' ev_var ?_ ?_); rotate_left; exact rfl) | ((with_reducible refine' o_ixT ?_ ?_); rotate_left; exact rfl) | (with_reducible refine zo_lenT ?_) | (with_reducible refine zo_lenS ?_) | ((with_reducible refine' zo_lenL ?_ ?_); rotate_left 2; (walk_at "zmem")) | (with_reducible refine ev_tup ?_) | (with_reducible refine ev_lst ?_)
  | (with_reducible refine o_I0 ?_) | (with_reducible refine o_B0 ?_) | (with_reducible refine o_neg ?_) | (with_reducible refine o_eqI ?_) | (with_reducible refine o_neI ?_)
  | (with_reducible refine fun (hq : true = false) => Bool.noConfusion hq) | (with_reducible refine fun (hq : false = true) => Bool.noConfusion hq) | (with_reducible refine fun (_ : true = true) => ?_) | (with_reducible refine fun (_ : false = false) => ?_)
  | (with_reducible refine ⟨_, rfl, ?_⟩) | (with_reducible refine ⟨_, _, rfl, ?_⟩) | (with_reducible refine ⟨_, _, _, rfl, ?_⟩) | (with_reducible refine ⟨fun (_ : true = true) => ?_, fun (hq : true = false) => Bool.noConfusion hq⟩) | (with_reducible refine ⟨fun (hq : false = true) => Bool.noConfusion hq, fun (_ : false = false) => ?_⟩) | (with_reducible refine ⟨Nat.le_of_ble_eq_true rfl, ?_⟩) | ((with_reducible refine ⟨fun hq => absurd hq ?_, fun _ => ?_⟩); (simp <;> omega)) | ((with_reducible refine ⟨fun _ => ?_, fun hq => absurd hq ?_⟩); rotate_left; (simp <;> omega)) | (with_reducible refine And.intro (?_ : _ = true → _) (?_ : _ = false → _)) | (with_reducible refine ev_bm ?_) | (with_reducible refine ss_fld ?_) | (with_reducible refine ev_fld ?_) | (with_reducible refine ev_prop ?_) | (with_reducible refine ev_meth ?_) | (with_reducible refine ev_make ?_) | ((with_reducible refine' And.intro (tyD_of ?_) ?_); rotate_left 2; (walk_at "zmem")))
local macro_rules | `(tactic| walk_at "zz") => `(tactic| repeat (walk_at "z1"))
local macro_rules | `(tactic| walk_at "zle") => `(tactic| repeat (first | exact trivial | refine And.intro rfl ?_ | exact LeD.refl _))
theorem rsum_div {l : List Nat} {v : Nat → Nat} {S : Rat} : rsum (l.map fun i => (v i : Rat) / S) = (((l.map v).sum : Nat) : Rat) / S := by
  induction l with
  | nil =>
    show (0 : Rat) = ((0 : Nat) : Rat) / S
    rw [Rat.div_def]
    show (0 : Rat) = (0 : Rat) * S⁻¹
    rw [Rat.zero_mul]
  | cons x r ih =>
    rw [List.map_cons, rsum_cons, ih, List.map_cons, List.sum_cons, Rat.natCast_add, Rat.div_def, Rat.div_def, Rat.div_def, Rat.add_mul]
theorem ob_sum {n : Nat} {o : Ob} (h : ObOk n o) : ∀ p ∈ groups o.lab, rsum (p.map fun i => o.odds.getD i 0) = 1 := fun p hp => by
  have hne : o.lab ≠ [] := fun z => by have := h.ll; rw [z] at this; have := h.n1; simp at *; omega
  have hpn := groups_ne h.rg hne p hp
  obtain ⟨k, hk⟩ := List.getElem?_of_mem hp
  obtain ⟨_, e⟩ := groups_get hk
  have hm : ∀ i ∈ p, i < n ∧ o.l i = k := fun i hi => by
    rw [e] at hi
    have z := mem_group.mp hi
    have := (List.getElem?_eq_some_iff.mp z).1
    refine ⟨by rw [← h.ll]; exact this, ?_⟩
    unfold Ob.l
    rw [List.getD_eq_getElem?_getD, z]; rfl
  have hpart : ∀ i ∈ p, o.part i = p := fun i hi => by
    rw [e]
    unfold Ob.part
    refine List.filter_congr fun j hj => ?_
    have hj2 := List.mem_range.mp hj
    rw [(hm i hi).2]
    unfold Ob.l
    rw [List.getD_eq_getElem?_getD, List.getElem?_eq_getElem hj2]
    simp
  have e2 : (p.map fun i => o.odds.getD i 0) = p.map fun i => (o.v i : Rat) / (((p.map o.v).sum : Nat) : Rat) := by
    refine List.map_congr_left fun i hi => ?_
    rw [List.getD_eq_getElem?_getD, Ob.odds_get (by rw [h.ll]; exact (hm i hi).1)]
    show o.odd i = _
    unfold Ob.odd
    rw [hpart i hi]
  rw [e2, rsum_div]
  obtain ⟨i, hi⟩ : ∃ i, i ∈ p := by
    cases hp2 : p with
    | nil => exact absurd hp2 hpn
    | cons a r => exact ⟨a, List.mem_cons_self⟩
  have hs := (h.sum (hm i hi).1).1
  rw [hpart i hi] at hs
  have h0 : (((p.map o.v).sum : Nat) : Rat) ≠ 0 := fun z => by
    have := natC_pos (a := (p.map o.v).sum) hs
    rw [z] at this
    exact absurd this (by decide)
  rw [Rat.div_def, Rat.mul_inv_cancel _ h0]
theorem asc_range {n : Nat} : ascE n 0 (List.range n) := by
  have g : ∀ m l, l + m = n → ascE n l (List.range' l m) := by
    intro m
    induction m with
    | zero => intro l _; exact trivial
    | succ m ih =>
      intro l h
      rw [List.range'_succ]
      exact ⟨Nat.le_refl _, by omega, ih (l + 1) (by omega)⟩
  have := g n 0 (by omega)
  rwa [← List.range_eq_range'] at this
theorem zp_mono {CO : Addr} {M M' : Mem} {os : List Addr} {obs : List Ob} (h : Paired (fun a o => obC CO a o ∈ M) os obs) (s : ∀ x, x ∈ M → x ∈ M') : Paired (fun a o => obC CO a o ∈ M') os obs := paired_mono h fun _ _ z => s _ z
theorem zp_snoc {α β : Type} {F : α → β → Prop} {x : α} {y : β} : ∀ {l₁ : List α} {l₂ : List β}, Paired F l₁ l₂ → F x y → Paired F (l₁ ++ [x]) (l₂ ++ [y])
  | _, _, .nil, r => .cons r .nil
  | _, _, .cons a t, r => .cons a (zp_snoc t r)
abbrev F__law_room (CO CP CR : Addr) : Spec := fun ds M Q => ∃ (p : Addr) (obs : List Ob) (n : Nat), ds = [.adr p] ∧ (⟨p, true, .lst (obs.map obD)⟩ : Cell) ∈ M ∧ (∀ c ∈ M, c.w = true) ∧ 1 ≤ obs.length ∧ obs.length ≤ 4 ∧ (∀ o ∈ obs, ObOk n o) ∧ ∀ (r : Addr) (os : List Addr) (pp : Addr) (b : Dt) (M1 : Mem), M.Sublist M1 → (∀ c ∈ M1, c.w = true) → RoomX CO CP CR M1 r n obs (List.range n) pp os false b → Q (.adr r) M1
theorem sc__law_room : FnScope ["_law_rows_here", "_law_seen", "_law_labels_here", "_law_odds_here"] ["_law_rows_here"] (fnScope (stT 93)) := fnScope_by (by decide +kernel)
theorem d__law_room {P : Program} {w : World} {K : PySem.W.Frag} {mg : Str → Option Value} {base : Heap} {f CO CP CR dQ : Addr} {tk : Tok} {es : Array DictEntry} {nn : Nat} (bi : Bi mg) (gMC : mg "MOST_CASES" = some (.int 12 tk)) (gCO : mg "Observer" = some (.ref CO)) (gQ : mg "QUESTIONS" = some (.ref dQ)) (kq : KDict K w dQ es nn) (hCO : Cls K CO) (na_ol : NoAttr K CO "own_labels") (na_op : NoAttr K CO "own_parts") (na_oo : NoAttr K CO "own_odds") (hCP : Cls K CP) (na_k : NoAttr K CP "kept") (na_b : NoAttr K CP "before") (hCR : Cls K CR) (na_w : NoAttr K CR "watchers") (na_s : NoAttr K CR "size") (na_p : NoAttr K CR "presence") (hne : CO ≠ CP ∧ CP ≠ CR ∧ CO ≠ CR) (c_new_Observer : MakR P w K mg base 7 CO "Observer" (Pm K (F_Observer___init__ CO))) (c_new_Room : MakR P w K mg base 3 CR "Room" (Pm K (F_Room___init__S CO CP CR))) (gm : mg "_law_room" = some (.ref f)) (Fn : FnP K "_law_room" "_law_room" (stT 93) f) : DefR P w K mg base 9 "_law_room" (Pm K (F__law_room CO CP CR)) :=
 def_of (F := (F__law_room CO CP CR)) gm Fn sc__law_room (fun _ _ _ _ _ _ us hl => match us, hl with | [_], _ => rfl) (fun ds M Q h => by obtain ⟨_, _, _, rfl, _⟩ := h; rfl) (fun cdv A outer s H E hr => ⟨_, (pss_cons (ps_setLc (i := 1) rfl sc__law_room.nd rfl rfl (sw_true rfl rfl rfl rfl) (zpi_list K (pv 0)) (blkOk_by (own := [("_law_labels_here", 2), ("_law_odds_here", 3)]) (by kernel_rfl)) (fun _ _ _ _ _ => (zpg_tup K (n := 2) rfl (pgs_cons (pg_name (i := 2) sc__law_room.nd rfl (by first | exact Or.inl rfl | exact Or.inr rfl)) (pgs_cons (pg_name (i := 3) sc__law_room.nd rfl (by first | exact Or.inl rfl | exact Or.inr rfl)) pgs_nil)))) (fun _ _ _ _ _ => pts_nil) (fun _ _ _ _ _ => (pe_kR c_new_Observer hr (by decide) rfl (pa_cons (pv 2) (pa_cons (pv 3) pa_nil)))))
 (pss_cons (ps_if (pt_cmpR op_eq (pe_callB (zcall_len_seq K) rfl bi.len zb_len (pa_cons (pv 1) pa_nil)) pe_int (nomark _))
 (pss_one (ps_ret (pe_kR c_new_Room hr (by decide) rfl (pa_cons (pe_ix (zix_list K) (pv 1) pe_int (fun _ _ => rfl)) pa_nil))))
 pss_nil)
 (pss_cons (ps_if (pt_cmpR op_eq (pe_callB (zcall_len_seq K) rfl bi.len zb_len (pa_cons (pv 1) pa_nil)) pe_int (nomark _))
 (pss_one (ps_ret (pe_kR c_new_Room hr (by decide) rfl (pa_cons (pe_ix (zix_list K) (pv 1) pe_int (fun _ _ => rfl)) (pa_cons (pe_ix (zix_list K) (pv 1) pe_int (fun _ _ => rfl)) pa_nil)))))
 pss_nil)
 (pss_cons (ps_if (pt_cmpR op_eq (pe_callB (zcall_len_seq K) rfl bi.len zb_len (pa_cons (pv 1) pa_nil)) pe_int (nomark _))
 (pss_one (ps_ret (pe_kR c_new_Room hr (by decide) rfl (pa_cons (pe_ix (zix_list K) (pv 1) pe_int (fun _ _ => rfl)) (pa_cons (pe_ix (zix_list K) (pv 1) pe_int (fun _ _ => rfl)) (pa_cons (pe_ix (zix_list K) (pv 1) pe_int (fun _ _ => rfl)) pa_nil))))))
 pss_nil)
 (pss_cons (ps_if (pt_cmpR op_eq (pe_callB (zcall_len_seq K) rfl bi.len zb_len (pa_cons (pv 1) pa_nil)) pe_int (nomark _))
 (pss_one (ps_ret (pe_kR c_new_Room hr (by decide) rfl (pa_cons (pe_ix (zix_list K) (pv 1) pe_int (fun _ _ => rfl)) (pa_cons (pe_ix (zix_list K) (pv 1) pe_int (fun _ _ => rfl)) (pa_cons (pe_ix (zix_list K) (pv 1) pe_int (fun _ _ => rfl)) (pa_cons (pe_ix (zix_list K) (pv 1) pe_int (fun _ _ => rfl)) pa_nil)))))))
 pss_nil)
 (pss_cons (ps_if (pt_cmpR op_eq (pe_callB (zcall_len_seq K) rfl bi.len zb_len (pa_cons (pv 1) pa_nil)) pe_int (nomark _))
 (pss_one (ps_ret (pe_kR c_new_Room hr (by decide) rfl (pa_cons (pe_ix (zix_list K) (pv 1) pe_int (fun _ _ => rfl)) (pa_cons (pe_ix (zix_list K) (pv 1) pe_int (fun _ _ => rfl)) (pa_cons (pe_ix (zix_list K) (pv 1) pe_int (fun _ _ => rfl)) (pa_cons (pe_ix (zix_list K) (pv 1) pe_int (fun _ _ => rfl)) (pa_cons (pe_ix (zix_list K) (pv 1) pe_int (fun _ _ => rfl)) pa_nil))))))))
 pss_nil)
 (pss_one (ps_ret (pe_kR c_new_Room hr (by decide) rfl (pa_cons (pe_ix (zix_list K) (pv 1) pe_int (fun _ _ => rfl)) (pa_cons (pe_ix (zix_list K) (pv 1) pe_int (fun _ _ => rfl)) (pa_cons (pe_ix (zix_list K) (pv 1) pe_int (fun _ _ => rfl)) (pa_cons (pe_ix (zix_list K) (pv 1) pe_int (fun _ _ => rfl)) (pa_cons (pe_ix (zix_list K) (pv 1) pe_int (fun _ _ => rfl)) (pa_cons (pe_ix (zix_list K) (pv 1) pe_int (fun _ _ => rfl)) pa_nil))))))))))))))), fun B ds M Q0 hF => by

  obtain ⟨p, obs, n, rfl, hc, hw, h1, h4, hok, q⟩ := hF
  have hn1 : 1 ≤ n := by
    have : 0 < obs.length := h1
    exact (hok _ (List.getElem_mem this)).n1
  walk_at "z1"
  walk_at "z1"
  refine ev_lcG (own := [2] ++ ([3] ++ [])) (by simp) (ei_list (ev_var rfl ⟨p, true, _, rfl, hc, ?_⟩))
  refine ⟨fun i acc M' => ∃ os : List Addr, acc = os.map .adr ∧ Paired (fun a o => obC CO a o ∈ M') os (obs.take i) ∧ M.Sublist M' ∧ ∀ c ∈ M', c.w = true, by rw [List.length_map]; omega, ?_, ⟨[], rfl, .nil, List.Sublist.refl _, hw⟩, ?_, ?_⟩
  · rintro i acc M' ⟨os, _, _, hsub, hw'⟩
    exact ⟨hw', true, hsub.subset hc⟩
  · rintro B' i d acc M' hi hf _ ⟨os, rfl, hp, hsub, hw'⟩
    obtain ⟨o, ho, rfl⟩ := get_map hf
    have k := hok o (List.mem_of_getElem? ho)
    refine eg_tup rfl (egs_cons (eg_name (egs_cons (eg_name (egs_nil ?_)))))
    walk_at "zz"
    intro x
    refine ⟨x, o.lab, o.odds, 9, M', rfl, rfl, k.rg, by rw [k.ll]; exact k.n1, by rw [k.ll]; have := k.n2; omega, Ob.odds_len, fun z hz => ?_, by omega, ob_sum k, ?_⟩
    · unfold Ob.odds at hz
      obtain ⟨y, hy, rfl⟩ := List.mem_map.mp hz
      have hyn : y < n := by rw [← k.ll]; exact List.mem_range.mp hy
      exact ⟨k.odd_pos hyn, k.odd_sz hyn⟩
    · refine ⟨rfl, WkM.of ⟨os ++ [x], by simp, ?_, hsub.trans (List.sublist_cons_self _ _), fun c hc => ?_⟩⟩
      · rw [take_snoc ho]
        exact zp_snoc (zp_mono hp fun _ z => List.mem_cons_of_mem _ z) List.mem_cons_self
      · rcases List.mem_cons.mp hc with rfl | hc
        · rfl
        · exact hw' c hc
  · rintro pl acc M' _ ⟨os, rfl, hp, hsub, hw'⟩
    rw [List.length_map, List.take_length] at hp
    have hM1 : ∀ (x pp : Addr) (b : Dt), M.Sublist (prC CP pp b b :: rmC CR x os n pp :: ⟨pl, true, .lst (os.map .adr)⟩ :: M') := fun x pp b => ((hsub.trans (List.sublist_cons_self _ _)).trans (List.sublist_cons_self _ _)).trans (List.sublist_cons_self _ _)
    have hMw : ∀ (x pp : Addr) (b : Dt), ∀ c ∈ (prC CP pp b b :: rmC CR x os n pp :: ⟨pl, true, .lst (os.map .adr)⟩ :: M' : Mem), c.w = true := fun x pp b c hc => by
      rcases List.mem_cons.mp hc with rfl | hc
      · rfl
      rcases List.mem_cons.mp hc with rfl | hc
      · rfl
      rcases List.mem_cons.mp hc with rfl | hc
      · rfl
      exact hw' c hc
    have hroom : ∀ (x pp : Addr), RoomX CO CP CR (prC CP pp (.tup false (eN (List.range n))) (.tup false (eN (List.range n))) :: rmC CR x os n pp :: ⟨pl, true, .lst (os.map .adr)⟩ :: M') x n obs (List.range n) pp os false (.tup false (eN (List.range n))) := fun x pp =>
      ⟨List.mem_cons_of_mem _ List.mem_cons_self, List.mem_cons_self, zp_mono hp fun _ z => List.mem_cons_of_mem _ (List.mem_cons_of_mem _ (List.mem_cons_of_mem _ z)), hok, h1, h4, asc_range, fun z => by
        have := congrArg List.length z
        rw [List.length_range] at this
        simp at this
        omega, hne⟩
    have hp' : Paired (fun a o => obC CO a o ∈ (⟨pl, true, .lst (os.map .adr)⟩ :: M' : Mem)) os obs := zp_mono hp fun _ z => List.mem_cons_of_mem _ z
    have fin : ∀ x, F_Room___init__S CO CP CR (.adr x :: os.map .adr) (⟨x, true, .ins CR []⟩ :: ⟨pl, true, .lst (os.map .adr)⟩ :: M') fun d M2 => d = .non ∧ WkM (Q0 (.adr x)) M2 := fun x =>
      ⟨x, os, obs, n, _, rfl, rfl, hp', hok, h1, h4, fun pp => ⟨rfl, WkM.of (q x os pp _ _ (hM1 x pp _) (hMw x pp _) (hroom x pp))⟩⟩
    have hl := zp_len hp
    have hc1 : (⟨pl, true, .lst (os.map .adr)⟩ : Cell) ∈ (⟨pl, true, .lst (os.map .adr)⟩ :: M' : Mem) := List.mem_cons_self
    clear hroom hMw hM1 hp'
    match os, hl, fin, hc1 with
    | [], hl, _, _ => exfalso; simp at hl; omega
    | [x1], hl, fin, hc1 =>
      walk_at "zz"
      refine o_ixL hc1 (d := .adr x1) rfl ?_
      walk_at "zz"
      exact fun x => fin x
    | [x1, x2], hl, fin, hc1 =>
      walk_at "zz"
      refine o_ixL hc1 (d := .adr x1) rfl ?_
      walk_at "zz"
      refine o_ixL hc1 (d := .adr x2) rfl ?_
      walk_at "zz"
      exact fun x => fin x
    | [x1, x2, x3], hl, fin, hc1 =>
      walk_at "zz"
      refine o_ixL hc1 (d := .adr x1) rfl ?_
      walk_at "zz"
      refine o_ixL hc1 (d := .adr x2) rfl ?_
      walk_at "zz"
      refine o_ixL hc1 (d := .adr x3) rfl ?_
      walk_at "zz"
      exact fun x => fin x
    | [x1, x2, x3, x4], hl, fin, hc1 =>
      walk_at "zz"
      refine o_ixL hc1 (d := .adr x1) rfl ?_
      walk_at "zz"
      refine o_ixL hc1 (d := .adr x2) rfl ?_
      walk_at "zz"
      refine o_ixL hc1 (d := .adr x3) rfl ?_
      walk_at "zz"
      refine o_ixL hc1 (d := .adr x4) rfl ?_
      walk_at "zz"
      exact fun x => fin x
    | _ :: _ :: _ :: _ :: _ :: _, hl, _, _ => exfalso; simp at hl; omega
⟩)
def ansL (obs : List Ob) (K : List Nat) (c2 : Bool) : List Dt := [.tup c2 (eN K), .tup true ((regionsF obs K).map eT)] ++ obs.map fun o => eQ (presOdds o K)
abbrev F__law_answers (CO CP CR : Addr) : Spec := fun ds M Q => ∃ (r : Addr) (n : Nat) (obs : List Ob) (kept : List Nat) (p : Addr) (os : List Addr) (c : Bool) (b : Dt) (evs : List (List Nat)) (i : Nat), ds = [.adr r, .tup true (evs.map eT), .int (obs.length : Int)] ∧ RoomX CO CP CR M r n obs kept p os c b ∧ M[i]? = some (prC CP p (.tup c (eN kept)) b) ∧ evs.length ≤ 10 ∧ (∀ e ∈ evs, ascE n 0 e) ∧ evs.foldl cutE kept ≠ [] ∧ ∀ (p2 : Addr) (c2 : Bool), Q (.adr p2) (⟨p2, true, .lst (ansL obs (evs.foldl cutE kept) c2)⟩ :: M.set i (prC CP p (.tup c (eN kept)) (.tup c (eN kept))))
theorem sc__law_answers : FnScope ["_law_room_here", "_law_events", "_law_many", "_law_found", "_law_at"] ["_law_room_here", "_law_events", "_law_many"] (fnScope (stT 94)) := fnScope_by (by decide +kernel)
theorem d__law_answers {P : Program} {w : World} {K : PySem.W.Frag} {mg : Str → Option Value} {base : Heap} {f CO CP CR dQ : Addr} {tk : Tok} {es : Array DictEntry} {nn : Nat} (bi : Bi mg) (gMC : mg "MOST_CASES" = some (.int 12 tk)) (gCO : mg "Observer" = some (.ref CO)) (gQ : mg "QUESTIONS" = some (.ref dQ)) (kq : KDict K w dQ es nn) (hCO : Cls K CO) (na_ol : NoAttr K CO "own_labels") (na_op : NoAttr K CO "own_parts") (na_oo : NoAttr K CO "own_odds") (hCP : Cls K CP) (na_k : NoAttr K CP "kept") (na_b : NoAttr K CP "before") (hCR : Cls K CR) (na_w : NoAttr K CR "watchers") (na_s : NoAttr K CR "size") (na_p : NoAttr K CR "presence") (c_m_supposed : MetR P w K mg base 11 CR "supposed" (Pm K (F_Room_supposedS CO CP CR))) (gm : mg "_law_answers" = some (.ref f)) (Fn : FnP K "_law_answers" "_law_answers" (stT 94) f) : DefR P w K mg base 12 "_law_answers" (Pm K (F__law_answers CO CP CR)) :=
 def_of (F := (F__law_answers CO CP CR)) gm Fn sc__law_answers (fun _ _ _ _ _ _ us hl => match us, hl with | [_, _, _], _ => rfl) (fun ds M Q h => by obtain ⟨_, _, _, _, _, _, _, _, _, _, rfl, _⟩ := h; rfl) (fun cdv A outer s H E hr => ⟨_, (pss_cons (ps_set (i := 3) sc__law_answers.nd rfl (by first | exact Or.inl rfl | exact Or.inr rfl) (pe_lst (pa_cons (pe_mR c_m_supposed hr (by decide) (pv 0) (pa_cons (pv 1) (pa_cons pe_str pa_nil))) (pa_cons (pe_mR c_m_supposed hr (by decide) (pv 0) (pa_cons (pv 1) (pa_cons pe_str pa_nil))) pa_nil))))
 (pss_one (ps_ret (pe_op op_cat (pv 3) (pe_lc rfl sc__law_answers.nd (pi_range1 rfl bi.range (pa_cons (pv 2) pa_nil)) (blkOk_by (own := [("_law_at", 4)]) (by kernel_rfl)) (fun _ _ _ _ _ => (pg_name (i := 4) sc__law_answers.nd rfl (by first | exact Or.inl rfl | exact Or.inr rfl))) (fun _ _ _ _ _ => pts_nil) (fun _ _ _ _ _ => (pe_mR c_m_supposed hr (by decide) (pv 0) (pa_cons (pv 1) (pa_cons pe_str (pa_cons (pv 4) pa_nil)))))))))), fun B ds M Q0 hF => by

  obtain ⟨r, n, obs, kept, p, os, c, b, evs, i, rfl, hx, hi, hev, hea, hne, q⟩ := hF
  have ho2 := hx.o2
  generalize hM2 : M.set i (prC CP p (.tup c (eN kept)) (.tup c (eN kept))) = M2 at q
  have hi2 : M2[i]? = some (prC CP p (.tup c (eN kept)) (.tup c (eN kept))) := by
    rw [← hM2, List.getElem?_set_self (List.getElem?_eq_some_iff.mp hi).1]
  have hx2 : RoomX CO CP CR M2 r n obs kept p os c (.tup c (eN kept)) := by rw [← hM2]; exact hx.set hi hx.ka hx.kn
  have hs2 : M2.set i (prC CP p (.tup c (eN kept)) (.tup c (eN kept))) = M2 := zset_self hi2
  walk_at "zz"
  refine ⟨⟨true, _, hx.rm, by rfl⟩, ?_⟩
  walk_at "zz"
  refine ⟨r, n, obs, kept, p, os, c, b, evs, "cases", [], i, rfl, hx, hi, hev, hea, hne, .inl ⟨rfl, rfl, fun c2 => ?_⟩⟩
  rw [hM2]
  walk_at "zz"
  refine ⟨⟨true, _, hx2.rm, by rfl⟩, ?_⟩
  walk_at "zz"
  refine ⟨r, n, obs, kept, p, os, c, _, evs, "regions", [], i, rfl, hx2, hi2, hev, hea, hne, .inr (.inl ⟨rfl, rfl, ?_⟩)⟩
  rw [hs2]
  walk_at "zz"
  intro p1
  have hx3 : ∀ {Y : Cell}, RoomX CO CP CR (Y :: M2) r n obs kept p os c (.tup c (eN kept)) := fun {Y} => hx2.sub fun x h => List.mem_cons_of_mem _ h
  walk_at "zz"
  refine ev_lcP (own := [4]) (by simp) (ei_rng (ea_cons (ev_var rfl (ea_nil ⟨obs.length, rfl, by omega, ?_⟩))))
  refine ⟨fun j => obs[j]?.map fun o => eQ (presOdds o (evs.foldl cutE kept)), by omega, ?_, ?_⟩
  · intro B' j d hj hf
    have hd := (Option.some.inj hf).symm
    subst hd
    obtain ⟨o, ho⟩ : ∃ o, obs[j]? = some o := ⟨obs[j], List.getElem?_eq_getElem hj⟩
    refine eg_name ?_
    walk_at "zz"
    refine ⟨⟨true, _, hx3.rm, by rfl⟩, ?_⟩
    walk_at "zz"
    refine ⟨r, n, obs, kept, p, os, c, _, evs, "present_odds", [.int (j : Nat)], i + 1, rfl, hx3, hi2, hev, hea, hne, .inr (.inr ⟨j, o, rfl, rfl, ho, ?_⟩)⟩
    have hs3 : ∀ {Y : Cell}, (Y :: M2 : Mem).set (i + 1) (prC CP p (.tup c (eN kept)) (.tup c (eN kept))) = Y :: M2 := fun {Y} => by
      show Y :: M2.set i _ = _
      rw [hs2]
    rw [hs3]
    refine ⟨List.Sublist.refl _, ?_⟩
    dsimp only
    rw [ho]
    rfl
  · intro p2
    rw [fm_map]
    refine o_catL (List.mem_cons_of_mem _ List.mem_cons_self) List.mem_cons_self (by simp; omega) fun p3 => ?_
    refine ⟨⟨p3, true, .lst (ansL obs (evs.foldl cutE kept) c2)⟩ :: M2, ?_, q p3 c2⟩
    refine List.Sublist.cons₂ _ ?_
    exact (List.sublist_cons_self _ _).trans (List.sublist_cons_self _ _)
⟩)
abbrev F__law_kept : Spec := fun ds M Q => ∃ (g cut : List Nat) (v : Nat → Rat), ds = [eQ (g.map v), eT g, eT cut] ∧ g.length ≤ 9 ∧ cut.length ≤ 9 ∧ (∀ x ∈ cut, x ∈ g) ∧ (∀ x ∈ g, 0 < v x ∧ Sz 700 (v x)) ∧ Q (eQ (cut.map fun x => v x / rsum (cut.map v))) M
theorem sc__law_kept : FnScope ["_law_spring", "_law_region", "_law_cut", "_law_values", "_law_whole", "_law_x", "_law_value"] ["_law_spring", "_law_region", "_law_cut"] (fnScope (stT 95)) := fnScope_by (by decide +kernel)
theorem d__law_kept {P : Program} {w : World} {K : PySem.W.Frag} {mg : Str → Option Value} {base : Heap} {f CO CP CR dQ : Addr} {tk : Tok} {es : Array DictEntry} {nn : Nat} (bi : Bi mg) (gMC : mg "MOST_CASES" = some (.int 12 tk)) (gCO : mg "Observer" = some (.ref CO)) (gQ : mg "QUESTIONS" = some (.ref dQ)) (kq : KDict K w dQ es nn)  (c__law_sum : DefR P w K mg base 4 "_law_sum" (Pm K F__law_sum)) (c__law_over : DefR P w K mg base 3 "_law_over" (Pm K F__law_over)) (gm : mg "_law_kept" = some (.ref f)) (Fn : FnP K "_law_kept" "_law_kept" (stT 95) f) : DefR P w K mg base 5 "_law_kept" (Pm K F__law_kept) :=
 def_of (F := F__law_kept) gm Fn sc__law_kept (fun _ _ _ _ _ _ us hl => match us, hl with | [_, _, _], _ => rfl) (fun ds M Q h => by obtain ⟨_, _, _, rfl, _⟩ := h; rfl) (fun cdv A outer s H E hr => ⟨_, (pss_cons (ps_setLc (i := 3) rfl sc__law_kept.nd rfl rfl (sw_true rfl rfl rfl rfl) (zpi_tup K (pv 2)) (blkOk_by (own := [("_law_x", 5)]) (by kernel_rfl)) (fun _ _ _ _ _ => (pg_name (i := 5) sc__law_kept.nd rfl (by first | exact Or.inl rfl | exact Or.inr rfl))) (fun _ _ _ _ _ => pts_nil) (fun _ _ _ _ _ => (pe_ix (zix_tup K) (pv 0) (zpe_tix K rfl (pv 1) (pa_cons (pv 5) pa_nil)) (fun _ _ => rfl))))
 (pss_cons (ps_set (i := 4) sc__law_kept.nd rfl (by first | exact Or.inl rfl | exact Or.inr rfl) (pe_cD c__law_sum hr (by decide) rfl (pa_cons (pv 3) pa_nil)))
 (pss_one (ps_ret (pe_callTy (zcall_tupF K) rfl bi.tuple zb_tuple (pa_cons (pe_lc rfl sc__law_kept.nd (zpi_list K (pv 3)) (blkOk_by (own := [("_law_value", 6)]) (by kernel_rfl)) (fun _ _ _ _ _ => (pg_name (i := 6) sc__law_kept.nd rfl (by first | exact Or.inl rfl | exact Or.inr rfl))) (fun _ _ _ _ _ => pts_nil) (fun _ _ _ _ _ => (pe_cD c__law_over hr (by decide) rfl (pa_cons (pv 6) (pa_cons (pv 4) pa_nil))))) pa_nil)))))), fun B ds M Q0 hF => by

  obtain ⟨g, cut, v, rfl, hg, hc9, hin, hv, q⟩ := hF
  walk_at "zz"
  refine ev_lcP (own := [5]) (by simp) (ei_tup (ev_var rfl ⟨true, _, rfl, ?_⟩))
  refine ⟨fun z => cut[z]?.map fun x => eF (v x), by rw [eN_len]; omega, ?_, ?_⟩
  · intro B2 z d hz hf
    obtain ⟨x, hx, rfl⟩ := eN_at hf
    have hxg := hin x (List.mem_of_getElem? hx)
    have hidx := List.idxOf_lt_length_iff.mpr hxg
    refine eg_name ?_
    walk_at "zz"
    refine ev_tix (ev_var rfl ⟨nI g, rfl, ?_⟩)
    walk_at "zz"
    refine ⟨nI_mem.mpr hxg, ?_⟩
    rw [idx_nI]
    refine o_ixT (d := eF (v x)) (by rw [atI_nat, List.getElem?_map, List.getElem?_map, List.getElem?_eq_getElem hidx, List.getElem_idxOf]; rfl) ?_
    refine ⟨List.Sublist.refl _, ?_⟩
    dsimp only
    rw [hx]
    rfl
  · intro p1
    have e3 : (List.range (eN cut).length).filterMap (fun z => cut[z]?.map fun x => eF (v x)) = (cut.map v).map eF := by
      rw [fmI, List.map_map]; rfl
    rw [e3]
    have hm : ∀ z ∈ cut.map v, 0 < z ∧ Sz 700 z := fun z hz => by
      obtain ⟨x, hx, rfl⟩ := List.mem_map.mp hz
      exact hv x (hin x hx)
    have hb : ((cut.map v).length + 1) * (700 + 1) ≤ 8000 := by
      rw [List.length_map]
      have : (cut.length + 1) * (700 + 1) ≤ 10 * 701 := Nat.mul_le_mul (by omega) (by omega)
      omega
    have hsum : Sz 6310 (rsum (cut.map v)) := (rsum_sz fun z hz => (hm z hz).2).mono (by
      rw [List.length_map]
      have : cut.length * (700 + 1) ≤ 9 * 701 := Nat.mul_le_mul (by omega) (by omega)
      omega)
    walk_at "zz"
    refine ⟨p1, true, cut.map v, 700, rfl, List.mem_cons_self, fun z hz => (hm z hz).2, fun z hz => (hm z hz).1, hb, ?_⟩
    walk_at "zz"
    refine ev_lcP (own := [6]) (by simp) (ei_list (ev_var rfl ⟨p1, true, _, rfl, List.mem_cons_self, ?_⟩))
    refine ⟨fun z => (cut.map v)[z]?.map fun y => eF (y / rsum (cut.map v)), by rw [List.length_map, List.length_map]; omega, ?_, ?_⟩
    · intro B2 z d hz hf
      obtain ⟨y, hy, rfl⟩ := get_map hf
      have hym := List.mem_of_getElem? hy
      refine eg_name ?_
      walk_at "zz"
      refine ⟨_, _, 700, 6310, rfl, (hm y hym).2, hsum, by omega, Rat.le_of_lt (hm y hym).1, rsum_pos (fun z hz => (hm z hz).1) (List.ne_nil_of_mem hym), ?_⟩
      refine ⟨List.Sublist.refl _, ?_⟩
      dsimp only
      rw [hy]
      rfl
    · intro p2
      rw [List.length_map, fm_map]
      walk_at "zz"
      refine o_tupL List.mem_cons_self ?_
      refine ⟨M, (List.sublist_cons_self _ _).trans (List.sublist_cons_self _ _), ?_⟩
      unfold eQ at q
      rw [List.map_map] at q ⊢
      exact q
⟩)
end Zy
set_option Elab.async false
set_option linter.all false
set_option maxRecDepth 100000
set_option maxHeartbeats 4000000
namespace Zy
open PySem PySem.Spec PyProof.Rows L2
/-! ### what repr shows is short -/
structure PI (d L : Nat) (p : PyData) : Prop where
  sh : p.showable = true
  hd : p.hasDict = false
  dp : p.depth ≤ d
  ln : p.shown.length ≤ L
theorem PI.mono {d d' L L' : Nat} {p : PyData} (h : PI d L p) (h1 : d ≤ d') (h2 : L ≤ L') : PI d' L' p := ⟨h.sh, h.hd, Nat.le_trans h.dp h1, Nat.le_trans h.ln h2⟩
theorem pi_int {i : Int} (h : i.natAbs < 2 ^ 1900) : PI 0 1921 (.int i) := by
  have hl : i.natAbs.log2 < 1920 := Nat.lt_of_lt_of_le (log2_lt h (by decide)) (by decide)
  refine ⟨by simp [PyData.showable, hl], rfl, Nat.le_refl _, ?_⟩
  have := int_text_length_le (k := 1920) (by decide) hl
  show (Str.ofString (toString i)).length ≤ 1921
  rw [PySem.ofString_length]
  exact this
theorem pi_all {d L : Nat} : ∀ {ps : List PyData}, (∀ p ∈ ps, PI d L p) → PyData.showableAll ps = true ∧ PyData.hasDictAll ps = false ∧ PyData.depthAll ps ≤ d ∧ ((PyData.shownAll ps).map (·.length)).sum ≤ ps.length * L ∧ (PyData.shownAll ps).length = ps.length
  | [], _ => ⟨rfl, rfl, Nat.zero_le _, Nat.zero_le _, rfl⟩
  | p :: r, h => by
    have h1 := h p List.mem_cons_self
    obtain ⟨a1, a2, a3, a4, a5⟩ := pi_all fun q hq => h q (List.mem_cons_of_mem _ hq)
    refine ⟨?_, ?_, ?_, ?_, ?_⟩
    · simp only [PyData.showableAll, h1.sh, a1, Bool.and_self]
    · simp only [PyData.hasDictAll, h1.hd, a2, Bool.or_self]
    · have := h1.dp
      simp only [PyData.depthAll]
      omega
    · have := h1.ln
      simp only [PyData.shownAll, List.map_cons, List.sum_cons, List.length_cons]
      rw [Nat.succ_mul]
      omega
    · simp only [PyData.shownAll, List.length_cons, a5]
theorem pi_list {d L k : Nat} {ps : List PyData} (h : ∀ p ∈ ps, PI d L p) (hk : ps.length ≤ k) : PI (d + 1) (k * (L + 2) + 3) (.list ps) := by
  obtain ⟨a1, a2, a3, a4, a5⟩ := pi_all h
  refine ⟨by simpa [PyData.showable] using a1, by simpa [PyData.hasDict] using a2, by simp only [PyData.depth]; omega, ?_⟩
  have := listText_len_le (PyData.shownAll ps)
  simp only [PyData.shown]
  have e : ps.length * (L + 2) ≤ k * (L + 2) := Nat.mul_le_mul_right _ hk
  rw [Nat.mul_add] at e
  omega
theorem pi_tuple {d L k : Nat} {ps : List PyData} (h : ∀ p ∈ ps, PI d L p) (hk : ps.length ≤ k) : PI (d + 1) (k * (L + 2) + 3) (.tuple ps) := by
  obtain ⟨a1, a2, a3, a4, a5⟩ := pi_all h
  refine ⟨by simpa [PyData.showable] using a1, by simpa [PyData.hasDict] using a2, by simp only [PyData.depth]; omega, ?_⟩
  have := tupleText_len_le (PyData.shownAll ps)
  simp only [PyData.shown]
  have e : ps.length * (L + 2) ≤ k * (L + 2) := Nat.mul_le_mul_right _ hk
  rw [Nat.mul_add] at e
  omega
/-! ### the program's data, read whole -/
def pN (ks : List Nat) : PyData := .tuple (ks.map fun k => .int (k : Nat))
def pF (q : Rat) : PyData := .tuple [.int q.num, .int (q.den : Int)]
def pQ (qs : List Rat) : PyData := .tuple (qs.map pF)
def pG (gs : List (List Nat)) : PyData := .tuple (gs.map pN)
theorem pyds_map {M : Mem} {α : Type} {f : α → Dt} {g : α → PyData} : ∀ {l : List α}, (∀ x ∈ l, PyD M (f x) (g x)) → PyDs M (l.map f) (l.map g)
  | [], _ => .nil
  | x :: r, h => .cons (h x List.mem_cons_self) (pyds_map fun y hy => h y (List.mem_cons_of_mem _ hy))
theorem py_N {M : Mem} {b : Bool} {ks : List Nat} : PyD M (.tup b (eN ks)) (pN ks) := by
  unfold eN nI
  rw [List.map_map]
  exact .tup (pyds_map fun x _ => .int _)
theorem py_F {M : Mem} {q : Rat} : PyD M (eF q) (pF q) := .tup (.cons (.int _) (.cons (.int _) .nil))
theorem py_Q {M : Mem} {qs : List Rat} : PyD M (eQ qs) (pQ qs) := .tup (pyds_map fun _ _ => py_F)
theorem py_G {M : Mem} {gs : List (List Nat)} : PyD M (.tup true (gs.map eT)) (pG gs) := .tup (pyds_map fun _ _ => py_N)
theorem pi_N {ks : List Nat} (hl : ks.length ≤ 9) (hx : ∀ x ∈ ks, x < 100) : PI 1 20000 (pN ks) :=
  (pi_tuple (k := 9) (fun p hp => by
    obtain ⟨x, hx1, rfl⟩ := List.mem_map.mp hp
    have h1 := hx x hx1
    have h2 : (2 : Nat) ^ 7 ≤ 2 ^ 1900 := Nat.pow_le_pow_right (by decide) (by decide)
    have h3 : (2 : Nat) ^ 7 = 128 := by decide
    refine pi_int ?_
    show ((x : Nat) : Int).natAbs < 2 ^ 1900
    rw [Int.natAbs_natCast]
    omega) (by rw [List.length_map]; exact hl)).mono (by omega) (by omega)
theorem pi_F {q : Rat} (h : Sz 1900 q) : PI 1 4000 (pF q) :=
  (pi_tuple (k := 2) (fun p hp => by
    rcases List.mem_cons.mp hp with rfl | hp
    · exact pi_int h.1
    rcases List.mem_cons.mp hp with rfl | hp
    · exact pi_int (by simpa using h.2)
    · cases hp) (Nat.le_refl _)).mono (by omega) (by omega)
theorem pi_Q {qs : List Rat} (hl : qs.length ≤ 9) (h : ∀ q ∈ qs, Sz 1900 q) : PI 2 40000 (pQ qs) :=
  (pi_tuple (k := 9) (fun p hp => by
    obtain ⟨q, hq, rfl⟩ := List.mem_map.mp hp
    exact pi_F (h q hq)) (by rw [List.length_map]; exact hl)).mono (by omega) (by omega)
theorem pi_G {gs : List (List Nat)} (hl : gs.length ≤ 9) (h : ∀ g ∈ gs, g.length ≤ 9 ∧ ∀ x ∈ g, x < 100) : PI 2 200000 (pG gs) :=
  (pi_tuple (k := 9) (fun p hp => by
    obtain ⟨g, hg, rfl⟩ := List.mem_map.mp hp
    exact pi_N (h g hg).1 (h g hg).2) (by rw [List.length_map]; exact hl)).mono (by omega) (by omega)
/-! ### answers -/
def pA (obs : List Ob) (K : List Nat) : List PyData := [pN K, pG (regionsF obs K)] ++ obs.map fun o => pQ (presOdds o K)
theorem pyds_app {M : Mem} : ∀ {a b : List Dt} {p q : List PyData}, PyDs M a p → PyDs M b q → PyDs M (a ++ b) (p ++ q)
  | _, _, _, _, .nil, h => h
  | _, _, _, _, .cons r t, h => .cons r (pyds_app t h)
theorem py_A {M : Mem} {obs : List Ob} {K : List Nat} {c : Bool} : PyDs M (ansL obs K c) (pA obs K) :=
  pyds_app (.cons py_N (.cons py_G .nil)) (pyds_map fun _ _ => py_Q)
section
variable {n : Nat} {obs : List Ob} {K : List Nat}
theorem pi_K (h : RmOk n obs K) : PI 2 200000 (pN K) := (pi_N h.kl fun x hx => by have := h.kn' hx; have := h.n9; omega).mono (by omega) (by omega)
theorem regs_len (h : RmOk n obs K) : (regionsF obs K).length ≤ 9 := by
  unfold regionsF
  rw [List.length_map, groups_len]
  have h3 : ∀ x ∈ relab (joinG K.length (obs.map (rowF K))), x ≤ K.length - 1 := fun x hx => by
    have := relab_lt _ x hx
    rw [joinG_len] at this
    omega
  have := maxN_le h3
  have := h.k1
  have := h.kl
  omega
theorem pi_R (h : RmOk n obs K) : PI 2 200000 (pG (regionsF obs K)) := pi_G (regs_len h) fun g hg => by
  obtain ⟨k, hk⟩ := List.getElem?_of_mem hg
  have r := reg_ok h hk
  exact ⟨r.len h, fun x hx => by have := h.kn' (r.sub x hx); have := h.n9; omega⟩
theorem pi_P (h : RmOk n obs K) : ∀ o ∈ obs, PI 2 200000 (pQ (presOdds o K)) := fun o ho =>
  (pi_Q (by unfold presOdds; rw [List.length_map]; exact h.kl) fun q hq => by
    unfold presOdds at hq
    obtain ⟨x, hx, rfl⟩ := List.mem_map.mp hq
    exact (pOdd_ok h ho hx).2.mono (by omega)).mono (by omega) (by omega)
theorem pi_A (h : RmOk n obs K) : PI 3 2000000 (.list (pA obs K)) :=
  (pi_list (k := 6) (L := 200000) (d := 2) (fun p hp => by
    unfold pA at hp
    rcases List.mem_append.mp hp with hp | hp
    · rcases List.mem_cons.mp hp with rfl | hp
      · exact pi_K h
      rcases List.mem_cons.mp hp with rfl | hp
      · exact pi_R h
      · cases hp
    · obtain ⟨o, ho, rfl⟩ := List.mem_map.mp hp
      exact pi_P h o ho) (by unfold pA; have := h.o2; simp; omega)).mono (by omega) (by omega)
theorem pi_A2 (h : RmOk n obs K) : PI 3 2000000 (.list [pN K, pG (regionsF obs K)]) :=
  (pi_list (k := 2) (L := 200000) (d := 2) (fun p hp => by
    rcases List.mem_cons.mp hp with rfl | hp
    · exact pi_K h
    rcases List.mem_cons.mp hp with rfl | hp
    · exact pi_R h
    · cases hp) (Nat.le_refl _)).mono (by omega) (by omega)
end
theorem RoomX.rmOk {CO CP CR : Addr} {M : Mem} {r : Addr} {n : Nat} {obs : List Ob} {kept : List Nat} {p : Addr} {os : List Addr} {c : Bool} {b : Dt} (h : RoomX CO CP CR M r n obs kept p os c b) : RmOk n obs kept := ⟨h.ok, h.o1, h.o2, h.ka, h.kn⟩
theorem line2 : 2000000 ≤ sizeLine := by decide
/-- repr's rule for such data -/
theorem o_reprI {K : PySem.W.Frag} {B : Hp} {M : Mem} {Q : Dt → Mem → Prop} {d : Dt} {p : PyData} (hd : isRef d = true) (h : PyD M d p) (hp : PI 3 2000000 p) (q : Q (.str p.shown) M) : OpC K B (rRepr K) [d] M Q :=
  o_repr hd h hp.sh hp.hd (Nat.le_trans hp.dp (by decide)) (Nat.le_trans hp.ln line2) q
end Zy
set_option Elab.async false
set_option linter.all false
set_option maxRecDepth 100000
set_option maxHeartbeats 4000000
namespace Zy
open PySem PySem.Spec PyProof.Rows L2
open C8 (fnBody fnArgs fnScope clsBody scC fnScope_by)

local macro_rules | `(tactic| walk_at "zmem") => `(tactic| repeat (first | exact List.mem_cons_self | assumption | refine List.mem_cons_of_mem _ ?_))
local macro_rules | `(tactic| walk_at "z1") => `(tactic| first
  | (with_reducible refine ss_seq ?_) | (with_reducible refine ss_next ?_) | (with_reducible refine ss_ret ?_) | (with_reducible refine ss_set ?_) | (with_reducible refine ss_if ?_)
  | (with_reducible refine ss_drop ?_) | (with_reducible refine ss_par ?_) | (with_reducible refine ss_par3 ?_)
  | (with_reducible refine et_test ?_) | (with_reducible refine et_B ?_) | (with_reducible refine et_and ?_) | (with_reducible refine et_or ?_) | (with_reducible refine et_not2 ?_) | (with_reducible refine et_yes ?_)
  | (with_reducible refine ev_op ?_) | (with_reducible refine ev_un ?_) | (with_reducible refine isi_ii ?_) | (with_reducible refine isi_ib ?_) | (with_reducible refine isi_tt ?_) | (with_reducible refine isi_ss ?_)
  | (with_reducible refine ev_cb ?_) | (with_reducible refine ev_call ?_) | (with_reducible refine ev_chain ?_)
  | (with_reducible refine ev_and ?_) | (with_reducible refine ev_or ?_) | (with_reducible refine ev_not2 ?_) | (with_reducible refine ev_if ?_) | (with_reducible refine ev_int ?_) | (with_reducible refine ev_bl ?_) | (with_reducible refine ev_non ?_) | (with_reducible refine ev_str ?_)
  | (with_reducible refine ea_nil ?_) | (with_reducible refine ea_cons ?_)
  | ((with_reducible refine' ev_var ?_ ?_); rotate_left; exact rfl) | ((with_reducible refine' o_ixT ?_ ?_); rotate_left; exact rfl) | (with_reducible refine zo_lenT ?_) | (with_reducible refine zo_lenS ?_) | ((with_reducible refine' zo_lenL ?_ ?_); rotate_left 2; (walk_at "zmem")) | (with_reducible refine ev_tup ?_) | (with_reducible refine ev_lst ?_)
  | (with_reducible refine o_I0 ?_) | (with_reducible refine o_B0 ?_) | (with_reducible refine o_neg ?_) | (with_reducible refine o_eqI ?_) | (with_reducible refine o_neI ?_)
  | (with_reducible refine fun (hq : true = false) => Bool.noConfusion hq) | (with_reducible refine fun (hq : false = true) => Bool.noConfusion hq) | (with_reducible refine fun (_ : true = true) => ?_) | (with_reducible refine fun (_ : false = false) => ?_)
  | (with_reducible refine ⟨_, rfl, ?_⟩) | (with_reducible refine ⟨_, _, rfl, ?_⟩) | (with_reducible refine ⟨_, _, _, rfl, ?_⟩) | (with_reducible refine ⟨fun (_ : true = true) => ?_, fun (hq : true = false) => Bool.noConfusion hq⟩) | (with_reducible refine ⟨fun (hq : false = true) => Bool.noConfusion hq, fun (_ : false = false) => ?_⟩) | (with_reducible refine ⟨Nat.le_of_ble_eq_true rfl, ?_⟩) | ((with_reducible refine ⟨fun hq => absurd hq ?_, fun _ => ?_⟩); (simp <;> omega)) | ((with_reducible refine ⟨fun _ => ?_, fun hq => absurd hq ?_⟩); rotate_left; (simp <;> omega)) | (with_reducible refine And.intro (?_ : _ = true → _) (?_ : _ = false → _)) | (with_reducible refine ev_bm ?_) | (with_reducible refine ss_fld ?_) | (with_reducible refine ev_fld ?_) | (with_reducible refine ev_prop ?_) | (with_reducible refine ev_meth ?_) | (with_reducible refine ev_make ?_) | ((with_reducible refine' And.intro (tyD_of ?_) ?_); rotate_left 2; (walk_at "zmem")))
local macro_rules | `(tactic| walk_at "zz") => `(tactic| repeat (walk_at "z1"))
local macro_rules | `(tactic| walk_at "zle") => `(tactic| repeat (first | exact trivial | refine And.intro rfl ?_ | exact LeD.refl _))
abbrev F__law_is_equal : Spec := fun ds M Q => ∃ (d1 d2 : Dt) (p : PyData), ds = [d1, d2] ∧ isRef d1 = true ∧ isRef d2 = true ∧ PyD M d1 p ∧ PyD M d2 p ∧ PI 3 2000000 p ∧ Q (.bl true) M
theorem sc__law_is_equal : FnScope ["_law_actual", "_law_due"] ["_law_actual", "_law_due"] (fnScope (stT 81)) := fnScope_by (by decide +kernel)
theorem d__law_is_equal {P : Program} {w : World} {K : PySem.W.Frag} {mg : Str → Option Value} {base : Heap} {f CO CP CR dQ : Addr} {tk : Tok} {es : Array DictEntry} {nn : Nat} (bi : Bi mg) (gMC : mg "MOST_CASES" = some (.int 12 tk)) (gCO : mg "Observer" = some (.ref CO)) (gQ : mg "QUESTIONS" = some (.ref dQ)) (kq : KDict K w dQ es nn)   (gm : mg "_law_is_equal" = some (.ref f)) (Fn : FnP K "_law_is_equal" "_law_is_equal" (stT 81) f) : DefG P w K mg base 1 "_law_is_equal" (Pm K F__law_is_equal) :=
 defG_of (F := F__law_is_equal) gm Fn sc__law_is_equal (fun _ _ _ _ _ _ us hl => match us, hl with | [_, _], _ => rfl) (fun ds M Q h => by obtain ⟨_, _, _, rfl, _⟩ := h; rfl) (fun cdv A outer s H E hgd hr => ⟨_, (pss_one (ps_ret (pe_cmpR op_eq (pe_callB (zcall_repr K hgd hr.units) rfl bi.repr zb_repr (pa_cons (pv 0) pa_nil)) (pe_callB (zcall_repr K hgd hr.units) rfl bi.repr zb_repr (pa_cons (pv 1) pa_nil)) (nomark _)))), fun B ds M Q0 hF => by

  obtain ⟨d1, d2, p, rfl, h1, h2, p1, p2, hp, q⟩ := hF
  walk_at "zz"
  refine o_reprI h1 p1 hp ?_
  walk_at "zz"
  refine o_reprI h2 p2 hp ?_
  refine o_eqS ?_
  rw [decide_eq_true rfl]
  exact WkM.of q
⟩)
inductive Spr where
  | src (g : List Nat) (v : Nat → Rat)
  | walk (wk : List (Nat × Nat × Nat))
abbrev sprD : Spr → Dt
  | .src g v => .tup true [.str "source", eQ (g.map v)]
  | .walk wk => .tup true [.str "walk", .tup true (wk.map wkD)]
def SprOf (obs : List Ob) (g : List Nat) : Spr → Prop
  | .src g' v => g' = g ∧ ConO obs g v ∧ ∀ x ∈ g, 0 < v x ∧ Sz 700 (v x)
  | .walk _ => True
theorem zipM_at {regs : List (List Nat)} {spr : List Spr} {i : Nat} {d : Dt} (h : (fun i => (regs.map eT)[i]?.bind fun d => (spr.map sprD)[i]?.map fun e => Dt.tup false [d, e]) i = some d) : ∃ g s, regs[i]? = some g ∧ spr[i]? = some s ∧ d = .tup false [eT g, sprD s] := by
  have h' : (regs.map eT)[i]?.bind (fun d => (spr.map sprD)[i]?.map fun e => Dt.tup false [d, e]) = some d := h
  obtain ⟨z, hz, e⟩ := Option.bind_eq_some_iff.mp h'
  obtain ⟨g, hg, rfl⟩ := get_map hz
  obtain ⟨y, hy, e2⟩ := Option.map_eq_some_iff.mp e
  obtain ⟨s, hs, rfl⟩ := get_map hy
  exact ⟨g, s, hg, hs, e2.symm⟩
abbrev F__law_follows (CO CP CR : Addr) : Spec := fun ds M Q => ∃ (r : Addr) (n : Nat) (obs : List Ob) (kept : List Nat) (p : Addr) (os : List Addr) (c : Bool) (b : Dt) (sp : Addr) (regs : List (List Nat)) (spr : List Spr), ds = [.adr r, .tup true (regs.map eT), .adr sp] ∧ RoomX CO CP CR M r n obs kept p os c b ∧ (⟨sp, true, .lst (spr.map sprD)⟩ : Cell) ∈ M ∧ regs.length = spr.length ∧ regs.length ≤ 100 ∧ (∀ g ∈ regs, RegOk obs (List.range n) g) ∧ (∀ (i : Nat) (g : List Nat) (s : Spr), regs[i]? = some g → spr[i]? = some s → SprOf obs g s) ∧ Q (.bl true) M
theorem sc__law_follows : FnScope ["_law_room_here", "_law_regions", "_law_springs", "_law_at", "_law_cut", "_law_region", "_law_spring"] ["_law_room_here", "_law_regions", "_law_springs"] (fnScope (stT 96)) := fnScope_by (by decide +kernel)
theorem d__law_follows {P : Program} {w : World} {K : PySem.W.Frag} {mg : Str → Option Value} {base : Heap} {f CO CP CR dQ : Addr} {tk : Tok} {es : Array DictEntry} {nn : Nat} (bi : Bi mg) (gMC : mg "MOST_CASES" = some (.int 12 tk)) (gCO : mg "Observer" = some (.ref CO)) (gQ : mg "QUESTIONS" = some (.ref dQ)) (kq : KDict K w dQ es nn) (hCO : Cls K CO) (na_ol : NoAttr K CO "own_labels") (na_op : NoAttr K CO "own_parts") (na_oo : NoAttr K CO "own_odds") (hCP : Cls K CP) (na_k : NoAttr K CP "kept") (na_b : NoAttr K CP "before") (hCR : Cls K CR) (na_w : NoAttr K CR "watchers") (na_s : NoAttr K CR "size") (na_p : NoAttr K CR "presence") (c_get_regions : PrpR P w K mg base 6 CR "regions" (Pm K (F_Room_regions CO CP CR))) (c__law_is_equal : DefG P w K mg base 1 "_law_is_equal" (Pm K F__law_is_equal)) (c_source : DefR P w K mg base 9 "source" (Pm K (F_source CO CP CR))) (c__law_kept : DefR P w K mg base 5 "_law_kept" (Pm K F__law_kept)) (gm : mg "_law_follows" = some (.ref f)) (Fn : FnP K "_law_follows" "_law_follows" (stT 96) f) : DefG P w K mg base 10 "_law_follows" (Pm K (F__law_follows CO CP CR)) :=
 defG_of (F := (F__law_follows CO CP CR)) gm Fn sc__law_follows (fun _ _ _ _ _ _ us hl => match us, hl with | [_, _, _], _ => rfl) (fun ds M Q h => by obtain ⟨_, _, _, _, _, _, _, _, _, _, _, rfl, _⟩ := h; rfl) (fun cdv A outer s H E hgd hr => ⟨_, (pss_cons (ps_for PassesOwn.never rfl (pi_range1 rfl bi.range (pa_cons (pe_callB (zcall_len_seq K) rfl bi.len zb_len (pa_cons (pe_pR c_get_regions hr (by decide) (pv 0)) pa_nil)) pa_nil)) (pg_name (i := 3) sc__law_follows.nd rfl (by first | exact Or.inl rfl | exact Or.inr rfl))
 (pss_cons (ps_set (i := 4) sc__law_follows.nd rfl (by first | exact Or.inl rfl | exact Or.inr rfl) (pe_ix (zix_tup K) (pe_pR c_get_regions hr (by decide) (pv 0)) (pv 3) (fun _ _ => rfl)))
 (pss_one (ps_for PassesOwn.never rfl (zpi_zipM K rfl bi.zip (pa_cons (pv 1) (pa_cons (pv 2) pa_nil))) (zpg_tup K (n := 2) rfl (pgs_cons (pg_name (i := 5) sc__law_follows.nd rfl (by first | exact Or.inl rfl | exact Or.inr rfl)) (pgs_cons (pg_name (i := 6) sc__law_follows.nd rfl (by first | exact Or.inl rfl | exact Or.inr rfl)) pgs_nil)))
 (pss_one (ps_if (PW.pt (pw_and (pt_cmpR (zop_in_seq K) (pe_ix (zix_tup K) (pv 4) pe_int (fun _ _ => rfl)) (pv 5) (by rfl)) (pw_and1 (pt_cmpR op_eq (pe_ix (zix_tup K) (pv 6) pe_int (fun _ _ => rfl)) pe_str (nomark _)))))
 (pss_one (ps_if (pt_not (pt_val (pe_cG c__law_is_equal hgd hr (by decide) rfl (pa_cons (pe_cD c_source hr (by decide) rfl (pa_cons (pv 0) (pa_cons (pv 3) pa_nil))) (pa_cons (pe_tupF (pa_cons pe_str (pa_cons (pe_cD c__law_kept hr (by decide) rfl (pa_cons (pe_ix (zix_tup K) (pv 6) pe_int (fun _ _ => rfl)) (pa_cons (pv 5) (pa_cons (pv 4) pa_nil)))) pa_nil))) pa_nil)))))
 (pss_one (ps_ret pe_bl))
 pss_nil))
 pss_nil))))))
 (pss_one (ps_ret pe_bl))), fun B ds M Q0 hF => by

  obtain ⟨r, n, obs, kept, p, os, c, b, sp, regs, spr, rfl, hx, hsp, hll, hl100, hreg, hspr, q⟩ := hF
  have hR := hx.rmOk
  have hRl := regs_len hR
  refine ss_seq (ss_for (own := [3]) (ei_rng ?_))
  walk_at "zz"
  refine ⟨⟨true, _, hx.rm⟩, r, n, obs, kept, p, os, c, b, rfl, hx, ?_⟩
  walk_at "zz"
  refine ⟨by rw [List.length_map]; omega, ?_⟩
  refine ⟨fun i δ' M' => M' = M ∧ δ' = [some (.adr r), some (.tup true (regs.map eT)), some (.adr sp), none, none, none, none], fun _ _ _ _ _ => trivial, ⟨rfl, rfl⟩, ?_, ?_⟩
  · rintro i d δ' M' hi hf ⟨rfl, rfl⟩
    have hd := (Option.some.inj hf).symm
    subst hd
    rw [List.length_map] at hi
    obtain ⟨cut, hcut⟩ : ∃ cut, (regionsF obs kept)[i]? = some cut := ⟨(regionsF obs kept)[i], List.getElem?_eq_getElem hi⟩
    have g2 := reg_ok hR hcut
    obtain ⟨c0, cr, ec⟩ : ∃ c0 cr, cut = c0 :: cr := by
      cases cut with
      | nil => exact absurd rfl g2.ne
      | cons a r => exact ⟨a, r, rfl⟩
    refine eg_name ?_
    walk_at "zz"
    refine ⟨⟨true, _, hx.rm⟩, r, n, obs, kept, p, os, c, b, rfl, hx, ?_⟩
    walk_at "zz"
    refine o_ixT (d := eT cut) (atI_mapg hcut) ?_
    walk_at "zz"
    refine ss_for (own := [5] ++ ([6] ++ [])) (ei_zipM (ea_cons (ev_var rfl (ea_cons (ev_var rfl (ea_nil ⟨true, sp, true, regs.map eT, spr.map sprD, rfl, hsp, by rw [List.length_map, List.length_map]; exact hll, ?_⟩))))))
    refine ⟨fun m δ' M2 => M2 = M' ∧ δ' = [some (.adr r), some (.tup true (regs.map eT)), some (.adr sp), some (.int (i : Nat)), some (eT cut), none, none], ?_, ⟨rfl, rfl⟩, ?_, ?_⟩
    · rintro m δ' M2 _ ⟨rfl, _⟩
      exact ⟨true, hsp⟩
    · rintro m d δ' M2 hm hf ⟨rfl, rfl⟩
      obtain ⟨g, s, hg, hs, rfl⟩ := zipM_at hf
      have g1 := hreg g (List.mem_of_getElem? hg)
      have sok := hspr m g s hg hs
      have fin : ∀ (δ2 : Dl), LeD [some (.adr r), some (.tup true (regs.map eT)), some (.adr sp), some (.int (i : Nat)), some (eT cut), none, none] δ2 → Wk (fun δ' M3 => M3 = M2 ∧ δ' = [some (.adr r), some (.tup true (regs.map eT)), some (.adr sp), some (.int (i : Nat)), some (eT cut), none, none]) δ2 M2 := fun δ2 h => ⟨_, _, h, List.Sublist.refl _, rfl, rfl⟩
      refine eg_tup rfl (egs_cons (eg_name (egs_cons (eg_name (egs_nil ?_)))))
      walk_at "zz"
      refine o_ixT (d := .int (c0 : Nat)) (by rw [atI0, ec]; rfl) ?_
      walk_at "zz"
      refine o_inT ?_
      walk_at "zz"
      · intro hz
        have hin : c0 ∈ g := by have := of_decide_eq_true hz; rwa [nI_mem] at this
        cases s with
        | walk wk =>
          refine et_test (ev_op (ev_op (ev_var rfl (ev_int (o_ixT (d := .str "walk") rfl (ev_str (o_eqS ?_)))))))
          rw [decide_eq_false (by decide)]
          walk_at "zz"
          refine fin _ ?_
          walk_at "zle"
        | src g' v =>
          obtain ⟨rfl, hv, hvp⟩ := sok
          have hsub : ∀ x ∈ cut, x ∈ g' := cut_in (fun x hx2 => List.mem_range.mpr (hR.kn' hx2)) g1 g2 (by rw [ec]; exact hin)
          have hvc : ConO obs cut v := fun o ho x hx y hy e => hv o ho x (hsub x hx) y (hsub y hy) e
          have hg9 : g'.length ≤ 9 := by
            have h0 : RmOk n obs (List.range n) := ⟨hx.ok, hx.o1, hx.o2, asc_range, fun z => by
              have := congrArg List.length z
              rw [List.length_range] at this
              have := hR.kn' (g2.sub c0 (by rw [ec]; exact List.mem_cons_self))
              simp at *
              omega⟩
            exact g1.len h0
          refine et_test (ev_op (ev_op (ev_var rfl (ev_int (o_ixT (d := .str "source") rfl (ev_str (o_eqS ?_)))))))
          rw [decide_eq_true rfl]
          walk_at "zz"
          refine ⟨r, n, obs, kept, p, os, c, b, i, cut, rfl, hx, hcut, spr_ok hR g2, cov_ok hR g2, fun u hu hcon => ?_, fun wk hno => ?_⟩
          · walk_at "zz"
            refine ⟨hg9, g2.len hR, hsub, hvp, ?_⟩
            have hone := source_one hR g2 (conO_of hR g2 hcon) hvc (fun x hx => (hu x hx).1) (fun x hx => (hvp x (hsub x hx)).1)
            have e5 : (cut.map fun x => v x / rsum (cut.map v)) = cut.map fun x => u x / rsum (cut.map u) := List.map_congr_left fun x hx => (hone x hx).symm
            rw [e5]
            walk_at "zz"
            refine ⟨_, _, .tuple [.str "source", pQ (cut.map fun x => u x / rsum (cut.map u))], rfl, rfl, rfl, .tup (.cons (.str _) (.cons py_Q .nil)), .tup (.cons (.str _) (.cons py_Q .nil)), ?_, ?_⟩
            · have hsu : ∀ z ∈ cut.map u, 0 < z ∧ Sz 61 z := fun z hz => by
                obtain ⟨x, hx, rfl⟩ := List.mem_map.mp hz
                exact hu x hx
              have hc9 := g2.len hR
              have hs1 : 0 < rsum (cut.map u) := rsum_pos (fun z hz => (hsu z hz).1) (fun z => g2.ne (List.map_eq_nil_iff.mp z))
              have hs2 : Sz 560 (rsum (cut.map u)) := (rsum_sz fun z hz => (hsu z hz).2).mono (by
                rw [List.length_map]
                have : cut.length * (61 + 1) ≤ 9 * 62 := Nat.mul_le_mul (by omega) (by omega)
                omega)
              have hq : PI 2 40000 (pQ (cut.map fun x => u x / rsum (cut.map u))) := pi_Q (by rw [List.length_map]; exact hc9) fun z hz => by
                obtain ⟨x, hx, rfl⟩ := List.mem_map.mp hz
                exact ((hu x hx).2.div hs2 (num_pos.mpr hs1)).mono (by omega)
              exact (pi_tuple (k := 2) (d := 2) (L := 40000) (fun p hp => by
                rcases List.mem_cons.mp hp with rfl | hp
                · exact ⟨rfl, rfl, Nat.zero_le _, by show (reprText "source").length ≤ 40000; decide +kernel⟩
                rcases List.mem_cons.mp hp with rfl | hp
                · exact hq
                · cases hp) (Nat.le_refl _)).mono (by omega) (by omega)
            · walk_at "zz"
              refine fin _ ?_
              walk_at "zle"
          · exfalso
            exact hno ⟨v, fun x hx => (hvp x (hsub x hx)).1, conS_of hR g2 hvc⟩
      · intro hz
        walk_at "zz"
        refine fin _ ?_
        walk_at "zle"
    · rintro δ' M2 ⟨rfl, rfl⟩
      refine ⟨_, _, ?_, List.Sublist.refl _, rfl, rfl⟩
      walk_at "zle"
  · rintro δ' M' ⟨rfl, rfl⟩
    walk_at "zz"
    exact WkM.of q
⟩)
end Zy
set_option Elab.async false
set_option linter.all false
set_option maxRecDepth 100000
set_option maxHeartbeats 4000000
namespace Zy
open PySem PySem.Spec PyProof.Rows L2
open C8 (fnBody fnArgs fnScope clsBody scC fnScope_by)

local macro_rules | `(tactic| walk_at "zmem") => `(tactic| repeat (first | exact List.mem_cons_self | assumption | refine List.mem_cons_of_mem _ ?_))
local macro_rules | `(tactic| walk_at "z1") => `(tactic| first
  | (with_reducible refine ss_seq ?_) | (with_reducible refine ss_next ?_) | (with_reducible refine ss_ret ?_) | (with_reducible refine ss_set ?_) | (with_reducible refine ss_if ?_)
  | (with_reducible refine ss_drop ?_) | (with_reducible refine ss_par ?_) | (with_reducible refine ss_par3 ?_)
  | (with_reducible refine et_test ?_) | (with_reducible refine et_B ?_) | (with_reducible refine et_and ?_) | (with_reducible refine et_or ?_) | (with_reducible refine et_not2 ?_) | (with_reducible refine et_yes ?_)
  | (with_reducible refine ev_op ?_) | (with_reducible refine ev_un ?_) | (with_reducible refine isi_ii ?_) | (with_reducible refine isi_ib ?_) | (with_reducible refine isi_tt ?_) | (with_reducible refine isi_ss ?_)
  | (with_reducible refine ev_cb ?_) | (with_reducible refine ev_call ?_) | (with_reducible refine ev_chain ?_)
  | (with_reducible refine ev_and ?_) | (with_reducible refine ev_or ?_) | (with_reducible refine ev_not2 ?_) | (with_reducible refine ev_if ?_) | (with_reducible refine ev_int ?_) | (with_reducible refine ev_bl ?_) | (with_reducible refine ev_non ?_) | (with_reducible refine ev_str ?_)
  | (with_reducible refine ea_nil ?_) | (with_reducible refine ea_cons ?_)
  | ((with_reducible refine' ev_var ?_ ?_); rotate_left; exact rfl) | ((with_reducible refine' o_ixT ?_ ?_); rotate_left; exact rfl) | (with_reducible refine zo_lenT ?_) | (with_reducible refine zo_lenS ?_) | ((with_reducible refine' zo_lenL ?_ ?_); rotate_left 2; (walk_at "zmem")) | (with_reducible refine ev_tup ?_) | (with_reducible refine ev_lst ?_)
  | (with_reducible refine o_I0 ?_) | (with_reducible refine o_B0 ?_) | (with_reducible refine o_neg ?_) | (with_reducible refine o_eqI ?_) | (with_reducible refine o_neI ?_)
  | (with_reducible refine fun (hq : true = false) => Bool.noConfusion hq) | (with_reducible refine fun (hq : false = true) => Bool.noConfusion hq) | (with_reducible refine fun (_ : true = true) => ?_) | (with_reducible refine fun (_ : false = false) => ?_)
  | (with_reducible refine ⟨_, rfl, ?_⟩) | (with_reducible refine ⟨_, _, rfl, ?_⟩) | (with_reducible refine ⟨_, _, _, rfl, ?_⟩) | (with_reducible refine ⟨fun (_ : true = true) => ?_, fun (hq : true = false) => Bool.noConfusion hq⟩) | (with_reducible refine ⟨fun (hq : false = true) => Bool.noConfusion hq, fun (_ : false = false) => ?_⟩) | (with_reducible refine ⟨Nat.le_of_ble_eq_true rfl, ?_⟩) | ((with_reducible refine ⟨fun hq => absurd hq ?_, fun _ => ?_⟩); (simp <;> omega)) | ((with_reducible refine ⟨fun _ => ?_, fun hq => absurd hq ?_⟩); rotate_left; (simp <;> omega)) | (with_reducible refine And.intro (?_ : _ = true → _) (?_ : _ = false → _)) | (with_reducible refine ev_bm ?_) | (with_reducible refine ss_fld ?_) | (with_reducible refine ev_fld ?_) | (with_reducible refine ev_prop ?_) | (with_reducible refine ev_meth ?_) | (with_reducible refine ev_make ?_) | ((with_reducible refine' And.intro (tyD_of ?_) ?_); rotate_left 2; (walk_at "zmem")))
local macro_rules | `(tactic| walk_at "zz") => `(tactic| repeat (walk_at "z1"))
local macro_rules | `(tactic| walk_at "zle") => `(tactic| repeat (first | exact trivial | refine And.intro rfl ?_ | exact LeD.refl _))
theorem asc_up {n : Nat} : ∀ {l : Nat} {ks : List Nat}, ascE n l ks → ascE (n + 1) l ks
  | _, [], _ => trivial
  | _, _ :: _, ⟨h1, h2, h3⟩ => ⟨h1, by omega, asc_up h3⟩
theorem asc_snoc {n : Nat} : ∀ {l : Nat} {ks : List Nat}, ascE n l ks → (h : l ≤ n := by omega) → ascE (n + 1) l (ks ++ [n])
  | _, [], _, h => ⟨h, by omega, trivial⟩
  | _, _ :: _, ⟨h1, h2, h3⟩, _ => ⟨h1, by omega, asc_snoc h3 (by omega)⟩
theorem asc_ext {n : Nat} : ∀ {l : Nat} {a b : List Nat}, ascE n l a → ascE n l b → (∀ x, x ∈ a ↔ x ∈ b) → a = b
  | _, [], [], _, _, _ => rfl
  | _, [], y :: r, _, _, h => absurd ((h y).mpr List.mem_cons_self) (by simp)
  | _, y :: r, [], _, _, h => absurd ((h y).mp List.mem_cons_self) (by simp)
  | l, y :: r, z :: t, ⟨a1, a2, a3⟩, ⟨b1, b2, b3⟩, h => by
    have hy := (h y).mp List.mem_cons_self
    have hz := (h z).mpr List.mem_cons_self
    have e : y = z := by
      rcases List.mem_cons.mp hy with e | hy
      · exact e
      · rcases List.mem_cons.mp hz with e | hz
        · exact e.symm
        · have := (asc_lt a3 z hz).1
          have := (asc_lt b3 y hy).1
          omega
    subst e
    congr 1
    refine asc_ext a3 b3 fun x => ?_
    constructor
    · intro hx
      rcases List.mem_cons.mp ((h x).mp (List.mem_cons_of_mem _ hx)) with e | hx2
      · have := (asc_lt a3 x hx).1; omega
      · exact hx2
    · intro hx
      rcases List.mem_cons.mp ((h x).mpr (List.mem_cons_of_mem _ hx)) with e | hx2
      · have := (asc_lt b3 x hx).1; omega
      · exact hx2
theorem folds_mem : ∀ {evs : List (List Nat)} {ks : List Nat} {x : Nat}, x ∈ evs.foldl cutE ks ↔ x ∈ ks ∧ ∀ e ∈ evs, x ∈ e
  | [], ks, x => by simp
  | e :: r, ks, x => by
    rw [List.foldl_cons, folds_mem]
    unfold cutE
    simp only [List.mem_filter, decide_eq_true_eq, List.mem_cons, forall_eq_or_imp]
    constructor
    · rintro ⟨⟨a, b⟩, c⟩; exact ⟨a, b, c⟩
    · rintro ⟨a, b, c⟩; exact ⟨⟨a, b⟩, c⟩
abbrev F_law (CO CP CR : Addr) : Spec := fun ds M Q => ∃ ns : List Int, ds = [.scr ns] ∧ M = [] ∧ Q (.bl true) []
theorem sc_law : FnScope ["_law_script", "_law_k", "_law_supply", "_law_size", "_law_rows_here", "_law_one", "_law_two", "_law_both", "_law_due", "_law_events", "_law_regions", "_law_springs", "_law_room_here", "_law_kept_here", "_law_at", "_law_x"] ["_law_script"] (fnScope (stT 97)) := fnScope_by (by decide +kernel)
theorem d_law {P : Program} {w : World} {K : PySem.W.Frag} {mg : Str → Option Value} {base : Heap} {f CO CP CR dQ : Addr} {tk : Tok} {es : Array DictEntry} {nn : Nat} (bi : Bi mg) (gMC : mg "MOST_CASES" = some (.int 12 tk)) (gCO : mg "Observer" = some (.ref CO)) (gQ : mg "QUESTIONS" = some (.ref dQ)) (kq : KDict K w dQ es nn) (hCO : Cls K CO) (na_ol : NoAttr K CO "own_labels") (na_op : NoAttr K CO "own_parts") (na_oo : NoAttr K CO "own_odds") (hCP : Cls K CP) (na_k : NoAttr K CP "kept") (na_b : NoAttr K CP "before") (hCR : Cls K CR) (na_w : NoAttr K CR "watchers") (na_s : NoAttr K CR "size") (na_p : NoAttr K CR "presence") (c__law_source : DefR P w K mg base 1 "_law_source" (Pm K F__law_source)) (c__law_cell : DefR P w K mg base 1 "_law_cell" (Pm K F__law_cell)) (c__law_rows : DefR P w K mg base 4 "_law_rows" (Pm K F__law_rows)) (c__law_room : DefR P w K mg base 9 "_law_room" (Pm K (F__law_room CO CP CR))) (c__law_draw : DefR P w K mg base 1 "_law_draw" (Pm K F__law_draw)) (c__law_answers : DefR P w K mg base 12 "_law_answers" (Pm K (F__law_answers CO CP CR))) (c__law_is_equal : DefG P w K mg base 1 "_law_is_equal" (Pm K F__law_is_equal)) (c_get_cases : PrpR P w K mg base 1 CR "cases" (Pm K (F_Room_cases CO CP CR))) (c_get_regions : PrpR P w K mg base 6 CR "regions" (Pm K (F_Room_regions CO CP CR))) (c_source : DefR P w K mg base 9 "source" (Pm K (F_source CO CP CR))) (c_m_assign_cases : MetR P w K mg base 6 CR "assign_cases" (Pm K (F_Room_assign_cases CO CP CR))) (c__law_follows : DefG P w K mg base 10 "_law_follows" (Pm K (F__law_follows CO CP CR))) (gm : mg "law" = some (.ref f)) (Fn : FnP K "law" "law" (stT 97) f) : DefG P w K mg base 13 "law" (Pm K (F_law CO CP CR)) :=
 defG_of (F := (F_law CO CP CR)) gm Fn sc_law (fun _ _ _ _ _ _ us hl => match us, hl with | [_], _ => rfl) (fun ds M Q h => by obtain ⟨_, rfl, _⟩ := h; rfl) (fun cdv A outer s H E hgd hr => ⟨_, (pss_cons (ps_for PassesOwn.never rfl (pi_range1 rfl bi.range (pa_cons (pe_callB (call_max2 rfl) rfl bi.max zb_max (pa_cons pe_int (pa_cons (pe_callB (call_min2 rfl) rfl bi.min zb_min (pa_cons (pe_callB (zcall_len_seq K) rfl bi.len zb_len (pa_cons (pv 0) pa_nil)) (pa_cons pe_int pa_nil))) pa_nil))) pa_nil)) (pg_name (i := 1) sc_law.nd rfl (by first | exact Or.inl rfl | exact Or.inr rfl))
 (pss_cons (ps_set (i := 2) sc_law.nd rfl (by first | exact Or.inl rfl | exact Or.inr rfl) (pe_cD c__law_source hr (by decide) rfl (pa_cons (pe_cD c__law_cell hr (by decide) rfl (pa_cons (pv 0) (pa_cons (pv 1) pa_nil))) pa_nil)))
 (pss_one (ps_for PassesOwn.never rfl (zpi_tup K (pe_tupF (pa_cons pe_int (pa_cons pe_int (pa_cons pe_int (pa_cons pe_int pa_nil)))))) (pg_name (i := 3) sc_law.nd rfl (by first | exact Or.inl rfl | exact Or.inr rfl))
 (pss_cons (ps_set (i := 4) sc_law.nd rfl (by first | exact Or.inl rfl | exact Or.inr rfl) (pe_cD c__law_rows hr (by decide) rfl (pa_cons (pv 2) (pa_cons (pv 3) (pa_cons pe_int pa_nil)))))
 (pss_cons (ps_asg (pe_tupF (pa_cons (pe_cD c__law_room hr (by decide) rfl (pa_cons (pv 4) pa_nil)) (pa_cons (pe_cD c__law_draw hr (by decide) rfl (pa_cons (pv 2) (pa_cons (pv 3) pa_nil))) pa_nil))) (zpg_tup K (n := 2) rfl (pgs_cons (pg_name (i := 12) sc_law.nd rfl (by first | exact Or.inl rfl | exact Or.inr rfl)) (pgs_cons (pg_name (i := 13) sc_law.nd rfl (by first | exact Or.inl rfl | exact Or.inr rfl)) pgs_nil))))
 (pss_cons (ps_set (i := 5) sc_law.nd rfl (by first | exact Or.inl rfl | exact Or.inr rfl) (pe_callTy (zcall_tupF K) rfl bi.tuple zb_tuple (pa_cons (pe_lc rfl sc_law.nd (pi_range1 rfl bi.range (pa_cons (pv 3) pa_nil)) (blkOk_by (own := [("_law_x", 15)]) (by kernel_rfl)) (fun _ _ _ _ _ => (pg_name (i := 15) sc_law.nd rfl (by first | exact Or.inl rfl | exact Or.inr rfl))) (fun _ _ _ _ _ => (pts_one (PW.pt (pw_or (pt_cmpR op_eq (pv 15) (pv 13) (nomark _)) (pw_or1 (pt_cmpR op_gt (pe_cD c__law_draw hr (by decide) rfl (pa_cons (pv 2) (pa_cons pe_int pa_nil))) pe_int (nomark _))))))) (fun _ _ _ _ _ => (pv 15))) pa_nil)))
 (pss_cons (ps_set (i := 6) sc_law.nd rfl (by first | exact Or.inl rfl | exact Or.inr rfl) (pe_callTy (zcall_tupF K) rfl bi.tuple zb_tuple (pa_cons (pe_lc rfl sc_law.nd (pi_range1 rfl bi.range (pa_cons (pv 3) pa_nil)) (blkOk_by (own := [("_law_x", 15)]) (by kernel_rfl)) (fun _ _ _ _ _ => (pg_name (i := 15) sc_law.nd rfl (by first | exact Or.inl rfl | exact Or.inr rfl))) (fun _ _ _ _ _ => (pts_one (PW.pt (pw_or (pt_cmpR op_eq (pv 15) (pv 13) (nomark _)) (pw_or1 (pt_cmpR op_gt (pe_cD c__law_draw hr (by decide) rfl (pa_cons (pv 2) (pa_cons pe_int pa_nil))) pe_int (nomark _))))))) (fun _ _ _ _ _ => (pv 15))) pa_nil)))
 (pss_cons (ps_set (i := 7) sc_law.nd rfl (by first | exact Or.inl rfl | exact Or.inr rfl) (pe_callTy (zcall_tupF K) rfl bi.tuple zb_tuple (pa_cons (pe_lc rfl sc_law.nd (zpi_tup K (pv 5)) (blkOk_by (own := [("_law_x", 15)]) (by kernel_rfl)) (fun _ _ _ _ _ => (pg_name (i := 15) sc_law.nd rfl (by first | exact Or.inl rfl | exact Or.inr rfl))) (fun _ _ _ _ _ => (pts_one (pt_cmpR (zop_in_seq K) (pv 15) (pv 6) (by rfl)))) (fun _ _ _ _ _ => (pv 15))) pa_nil)))
 (pss_cons (ps_set (i := 8) sc_law.nd rfl (by first | exact Or.inl rfl | exact Or.inr rfl) (pe_cD c__law_answers hr (by decide) rfl (pa_cons (pv 12) (pa_cons (pe_tupF (pa_cons (pv 7) pa_nil)) (pa_cons (pe_callB (zcall_len_seq K) rfl bi.len zb_len (pa_cons (pv 4) pa_nil)) pa_nil)))))
 (pss_cons (ps_for PassesOwn.never rfl (zpi_list K (pe_lst (pa_cons (pe_tupF (pa_cons (pv 5) (pa_cons (pv 6) pa_nil))) (pa_cons (pe_tupF (pa_cons (pv 6) (pa_cons (pv 5) pa_nil))) (pa_cons (pe_tupF (pa_cons (pv 5) (pa_cons (pv 5) (pa_cons (pv 6) (pa_cons (pv 7) pa_nil))))) pa_nil))))) (pg_name (i := 9) sc_law.nd rfl (by first | exact Or.inl rfl | exact Or.inr rfl))
 (pss_one (ps_if (pt_not (pt_val (pe_cG c__law_is_equal hgd hr (by decide) rfl (pa_cons (pe_cD c__law_answers hr (by decide) rfl (pa_cons (pv 12) (pa_cons (pv 9) (pa_cons (pe_callB (zcall_len_seq K) rfl bi.len zb_len (pa_cons (pv 4) pa_nil)) pa_nil)))) (pa_cons (pv 8) pa_nil)))))
 (pss_one (ps_ret pe_bl))
 pss_nil)))
 (pss_cons (ps_if (pt_not (pt_val (pe_cG c__law_is_equal hgd hr (by decide) rfl (pa_cons (pe_pR c_get_cases hr (by decide) (pv 12)) (pa_cons (pe_tupRg rfl rfl bi.tuple (prg_1 rfl bi.range (pv 3))) pa_nil)))))
 (pss_one (ps_ret pe_bl))
 pss_nil)
 (pss_cons (ps_set (i := 10) sc_law.nd rfl (by first | exact Or.inl rfl | exact Or.inr rfl) (pe_pR c_get_regions hr (by decide) (pv 12)))
 (pss_cons (ps_setLc (i := 11) rfl sc_law.nd rfl rfl (sw_true rfl rfl rfl rfl) (pi_range1 rfl bi.range (pa_cons (pe_callB (zcall_len_seq K) rfl bi.len zb_len (pa_cons (pv 10) pa_nil)) pa_nil)) (blkOk_by (own := [("_law_at", 14)]) (by kernel_rfl)) (fun _ _ _ _ _ => (pg_name (i := 14) sc_law.nd rfl (by first | exact Or.inl rfl | exact Or.inr rfl))) (fun _ _ _ _ _ => pts_nil) (fun _ _ _ _ _ => (pe_cD c_source hr (by decide) rfl (pa_cons (pv 12) (pa_cons (pv 14) pa_nil)))))
 (pss_cons (ps_expr (pe_mR c_m_assign_cases hr (by decide) (pv 12) (pa_cons (pv 7) pa_nil)))
 (pss_cons (ps_if (pt_not (pt_val (pe_cG c__law_is_equal hgd hr (by decide) rfl (pa_cons (pe_cD c__law_answers hr (by decide) rfl (pa_cons (pv 12) (pa_cons (pe_tupF pa_nil) (pa_cons (pe_callB (zcall_len_seq K) rfl bi.len zb_len (pa_cons (pv 4) pa_nil)) pa_nil)))) (pa_cons (pv 8) pa_nil)))))
 (pss_one (ps_ret pe_bl))
 pss_nil)
 (pss_cons (ps_if (pt_not (pt_val (pe_cG c__law_is_equal hgd hr (by decide) rfl (pa_cons (pe_lst (pa_cons (pe_pR c_get_cases hr (by decide) (pv 12)) (pa_cons (pe_pR c_get_regions hr (by decide) (pv 12)) pa_nil))) (pa_cons (pe_slice (zsl_list K) (pv 8) po_none (po_some pe_int)) pa_nil)))))
 (pss_one (ps_ret pe_bl))
 pss_nil)
 (pss_one (ps_if (pt_not (pt_val (pe_cG c__law_follows hgd hr (by decide) rfl (pa_cons (pv 12) (pa_cons (pv 10) (pa_cons (pv 11) pa_nil))))))
 (pss_one (ps_ret pe_bl))
 pss_nil)))))))))))))))))))
 (pss_one (ps_ret pe_bl))), fun B ds M Q0 hF => by

  obtain ⟨ns, rfl, rfl, q⟩ := hF
  refine ss_seq (ss_for (own := [1]) (ei_rng ?_))
  walk_at "zz"
  refine o_min2 ?_
  walk_at "zz"
  refine o_max2 ?_
  rw [show (if (if (3 : Int) < (ns.length : Int) then (3 : Int) else (ns.length : Int)) > 1 then (if (3 : Int) < (ns.length : Int) then (3 : Int) else (ns.length : Int)) else 1) = ((max 1 (min ns.length 3) : Nat) : Int) by split <;> split at * <;> omega]
  refine ea_nil ⟨_, rfl, by omega, ?_⟩
  refine ⟨fun i δ' M' => M' = [] ∧ δ' = some (.scr ns) :: List.replicate 15 none, fun _ _ _ _ _ => trivial, ⟨rfl, rfl⟩, ?_, ?_⟩
  rotate_left
  · rintro δ' M' ⟨rfl, rfl⟩
    walk_at "zz"
    exact WkM.of q
  rintro k d δ' M' hk hf ⟨rfl, rfl⟩
  have hd := (Option.some.inj hf).symm
  subst hd
  refine eg_name ?_
  walk_at "zz"
  intro cv
  walk_at "zz"
  intro ps
  walk_at "zz"
  refine ss_for (own := [3]) (ei_tup (ev_tup ?_))
  walk_at "zz"
  have hw0 : ∀ c ∈ ([⟨ps, true, .sup⟩] : Mem), c.w = true := fun c hc => by
    rcases List.mem_cons.mp hc with rfl | hc
    · rfl
    · cases hc
  refine ⟨fun i δ' M2 => M2 = [⟨ps, true, .sup⟩] ∧ δ' = some (.scr ns) :: some (.int (k : Nat)) :: some (.adr ps) :: List.replicate 13 none, fun _ _ _ _ _ => trivial, ⟨rfl, rfl⟩, ?_, ?_⟩
  rotate_left
  · rintro δ' M2 ⟨rfl, rfl⟩
    refine ⟨_, _, ?_, List.sublist_cons_self _ _, rfl, rfl⟩
    walk_at "zle"
  rintro i d δ' M2 hi hf ⟨rfl, rfl⟩
  obtain ⟨s, hs, rfl⟩ := eN_at (ks := [2, 4, 6, 9]) hf
  have hs9 : 2 ≤ s ∧ s ≤ 9 := by
    have := List.mem_of_getElem? hs
    simp at this
    omega
  clear hs hi hf
  refine eg_name ?_
  -- the rows and the room
  refine ss_seq (ss_set ?_)
  walk_at "zz"
  refine ⟨ps, s, 0, rfl, rfl, hs9.1, hs9.2, fun pr obs ho1 ho4 hok => ?_⟩
  have hw1 : ∀ c ∈ (⟨pr, true, .lst (obs.map obD)⟩ :: [⟨ps, true, .sup⟩] : Mem), c.w = true := fun c hc => by
    rcases List.mem_cons.mp hc with rfl | hc
    · rfl
    · exact hw0 c hc
  refine ss_cut (fun δ' M2 => ∃ (r : Addr) (os : List Addr) (pp : Addr) (b : Dt) (kv : Nat), δ' = [some (.scr ns), some (.int (k : Nat)), some (.adr ps), some (.int (s : Nat)), some (.adr pr), none, none, none, none, none, none, none, some (.adr r), some (.int (kv : Nat)), none, none] ∧ kv < s ∧ RoomX CO CP CR M2 r s obs (List.range s) pp os false b ∧ (⟨ps, true, .sup⟩ : Cell) ∈ M2 ∧ (⟨pr, true, .lst (obs.map obD)⟩ : Cell) ∈ M2) ?_ ?_
  · refine ss_asg (own := [12] ++ ([13] ++ [])) ?_
    walk_at "zz"
    refine ⟨pr, obs, s, rfl, List.mem_cons_self, hw1, ho1, ho4, hok, fun r os pp b M1 hsub hwM hroom => ?_⟩
    have hsup : (⟨ps, true, .sup⟩ : Cell) ∈ M1 := hsub.subset (List.mem_cons_of_mem _ List.mem_cons_self)
    obtain ⟨is, his⟩ := List.getElem?_of_mem hsup
    walk_at "zz"
    refine ⟨ps, s, is, rfl, his, by omega, by omega, fun kv hkv => ?_⟩
    walk_at "zz"
    refine eg_tup rfl (egs_cons (eg_name (egs_cons (eg_name (egs_nil ?_)))))
    refine ⟨_, _, ?_, List.Sublist.refl _, r, os, pp, b, kv, rfl, hkv, hroom, hsup, hsub.subset List.mem_cons_self⟩
    walk_at "zle"
  rintro δ' M2 ⟨r, os, pp, b, kv, rfl, hkv, hroom, hsup, hrows⟩
  obtain ⟨is, his⟩ := List.getElem?_of_mem hsup
  have hR0 := hroom.rmOk
  -- one, two
  have hcomp : ∀ (B' : Hp) (δ2 : Dl) (Q2 : Dt → Mem → Prop), δ2[2]? = some (some (.adr ps)) → δ2[3]? = some (some (.int (s : Nat))) → δ2[13]? = some (some (.int (kv : Nat))) → δ2.length = 16 →
      (∀ (ks : List Nat) (p : Addr), ascE s 0 ks → kv ∈ ks → Q2 (.adr p) (⟨p, true, .lst (eN ks)⟩ :: M2)) →
      Ev K B' (tLc (iRng1 (tCons (tVar 3) tNil)) (gName 15) (tOr (tTest (tOp rEq (tVar 15) (tVar 13))) (tTest (tOp (rI0 fun i j => V.bl (decide (j < i))) (tCallR (Pm K F__law_draw) (tCons (tVar 2) (tCons (tC (V.int 3)) tNil))) (tC (V.int 0))))) (tVar 15) [15]) δ2 M2 Q2 := fun B' δ2 Q2 g2 g3 g13 gl hQ => by
    refine ev_lc (own := [15]) (by simp) (ei_rng (ea_cons (ev_var g3 (ea_nil ⟨s, rfl, by omega, ?_⟩))))
    refine ⟨fun m acc M3 => M2 = M3 ∧ ∃ ks : List Nat, acc = eN ks ∧ ascE m 0 ks ∧ (kv < m → kv ∈ ks), by omega, ?_, ⟨rfl, [], rfl, trivial, fun z => absurd z (by omega)⟩, ?_, ?_⟩
    · rintro m acc M3 ⟨rfl, _⟩
      exact ⟨rfl, trivial⟩
    · rintro B3 m d acc M3 hm hf _ ⟨rfl, ks, rfl, hka, hkk⟩
      have hd := (Option.some.inj hf).symm
      subst hd
      have w2 : ((wipeL δ2 [15]).set 15 (some (.int (m : Nat))))[2]? = some (some (.adr ps)) := by
        simp only [wipeL, List.set_set]
        rw [List.getElem?_set_ne (by omega)]; exact g2
      have w13 : ((wipeL δ2 [15]).set 15 (some (.int (m : Nat))))[13]? = some (some (.int (kv : Nat))) := by
        simp only [wipeL, List.set_set]
        rw [List.getElem?_set_ne (by omega)]; exact g13
      have w15 : ((wipeL δ2 [15]).set 15 (some (.int (m : Nat))))[15]? = some (some (.int (m : Nat))) := by
        simp only [wipeL, List.set_set]
        rw [List.getElem?_set_self (by omega)]
      have yes : WkM (fun M3 => M2 = M3 ∧ ∃ ks' : List Nat, eN ks ++ [Dt.int (m : Nat)] = eN ks' ∧ ascE (m + 1) 0 ks' ∧ (kv < m + 1 → kv ∈ ks')) M2 := by
        refine WkM.of ⟨rfl, ks ++ [m], eN_snoc.symm, asc_snoc hka, fun z => ?_⟩
        by_cases e : kv = m
        · rw [e]; simp
        · exact List.mem_append_left _ (hkk (by omega))
      refine eg_name ?_
      refine et_or (et_test (ev_op (ev_var w15 (ev_var w13 (o_eqI ⟨_, rfl, ?_⟩)))))
      refine ⟨fun _ => ⟨fun _ => ev_var w15 yes, fun z => (by cases z)⟩, fun hz => ?_⟩
      have hne : ¬ m = kv := by have := of_decide_eq_false hz; omega
      refine et_test (ev_op (ev_call (ea_cons (ev_var w2 (ea_cons (ev_int (ea_nil ⟨ps, 3, is, rfl, his, by omega, by omega, fun v hv => ?_⟩)))))))
      refine ev_int (o_B0 ⟨_, rfl, ?_⟩)
      refine ⟨fun _ => ev_var w15 yes, fun _ => WkM.of ⟨rfl, ks, rfl, asc_up hka, fun z => hkk (by omega)⟩⟩
    · rintro p acc M3 _ ⟨rfl, ks, rfl, hka, hkk⟩
      exact hQ ks p hka (hkk hkv)
  refine ss_cut (fun δ' M3 => ∃ one : List Nat, δ' = [some (.scr ns), some (.int (k : Nat)), some (.adr ps), some (.int (s : Nat)), some (.adr pr), some (eT one), none, none, none, none, none, none, some (.adr r), some (.int (kv : Nat)), none, none] ∧ M3 = M2 ∧ ascE s 0 one ∧ kv ∈ one) ?_ ?_
  · refine ss_set (ev_cb (ea_cons ?_))
    refine hcomp _ _ _ ?_ ?_ ?_ ?_ fun ks p h1 h2 => ea_nil (o_tupL List.mem_cons_self ?_)
    · rfl
    · rfl
    · rfl
    · rfl
    refine ⟨_, _, ?_, List.sublist_cons_self _ _, ks, rfl, rfl, h1, h2⟩
    walk_at "zle"
  rintro δ' M3 ⟨one, rfl, rfl, h1a, h1k⟩
  refine ss_cut (fun δ' M4 => ∃ two : List Nat, δ' = [some (.scr ns), some (.int (k : Nat)), some (.adr ps), some (.int (s : Nat)), some (.adr pr), some (eT one), some (eT two), none, none, none, none, none, some (.adr r), some (.int (kv : Nat)), none, none] ∧ M4 = M3 ∧ ascE s 0 two ∧ kv ∈ two) ?_ ?_
  · refine ss_set (ev_cb (ea_cons ?_))
    refine hcomp _ _ _ ?_ ?_ ?_ ?_ fun ks p h1 h2 => ea_nil (o_tupL List.mem_cons_self ?_)
    · rfl
    · rfl
    · rfl
    · rfl
    refine ⟨_, _, ?_, List.sublist_cons_self _ _, ks, rfl, rfl, h1, h2⟩
    walk_at "zle"
  rintro δ' M4 ⟨two, rfl, rfl, h2a, h2k⟩
  have h1l := asc_len h1a (Nat.zero_le _)
  refine ss_cut (fun δ' M5 => ∃ both : List Nat, δ' = [some (.scr ns), some (.int (k : Nat)), some (.adr ps), some (.int (s : Nat)), some (.adr pr), some (eT one), some (eT two), some (eT both), none, none, none, none, some (.adr r), some (.int (kv : Nat)), none, none] ∧ M5 = M4 ∧ both = cutE one two) ?_ ?_
  · walk_at "zz"
    refine ev_lcP (own := [15]) (by simp) (ei_tup (ev_var rfl ⟨true, _, rfl, ?_⟩))
    refine ⟨fun y => one[y]?.bind fun x => if decide (x ∈ two) = true then some (Dt.int (x : Nat)) else none, by rw [eN_len]; omega, ?_, ?_⟩
    · intro B' y d hy hf
      obtain ⟨x, hx1, rfl⟩ := eN_at hf
      refine eg_name ?_
      walk_at "zz"
      refine o_inT ?_
      walk_at "zz"
      · intro hz
        have e1 : x ∈ two := by have := of_decide_eq_true hz; rwa [nI_mem] at this
        walk_at "zz"
        refine ⟨List.Sublist.refl _, ?_⟩
        dsimp only
        rw [hx1, Option.bind_some, if_pos (by simpa using e1)]
      · intro hz
        have e1 : x ∉ two := by have := of_decide_eq_false hz; rwa [nI_mem] at this
        refine ⟨List.Sublist.refl _, ?_⟩
        dsimp only
        rw [hx1, Option.bind_some, if_neg (by simpa using e1)]
    · intro p2
      have e3 : (List.range (eN one).length).filterMap (fun y => one[y]?.bind fun x => if decide (x ∈ two) = true then some (Dt.int (x : Nat)) else none) = eN (cutE one two) := by
        rw [eN_len, fm_filter, fm_if]
        unfold cutE
        rw [← eN_map (f := fun x => x), List.map_id']
      rw [e3]
      walk_at "zz"
      refine o_tupL List.mem_cons_self ?_
      refine ⟨_, _, ?_, List.sublist_cons_self _ _, _, rfl, rfl, rfl⟩
      walk_at "zle"
  rintro δ' M5 ⟨both, rfl, rfl, hboth⟩
  have hba : ascE s 0 both := by rw [hboth]; exact asc_filter h1a
  have hbm : ∀ x, x ∈ both ↔ x ∈ one ∧ x ∈ two := fun x => by rw [hboth]; unfold cutE; simp
  have hbk : kv ∈ both := (hbm kv).mpr ⟨h1k, h2k⟩
  have hbn : both ≠ [] := List.ne_nil_of_mem hbk
  have hRb : RmOk s obs both := ⟨hR0.ok, hR0.o1, hR0.o2, hba, hbn⟩
  have hfold : ∀ {evs : List (List Nat)}, (∀ x, x < s → ((∀ e ∈ evs, x ∈ e) ↔ x ∈ both)) → evs.foldl cutE (List.range s) = both := fun {evs} h => by
    refine asc_ext (asc_folds asc_range) hba fun x => ?_
    rw [folds_mem, List.mem_range]
    constructor
    · rintro ⟨a, b⟩; exact (h x a).mp b
    · intro a
      have hx := (asc_lt hba x a).2
      exact ⟨hx, (h x hx).mpr a⟩
  obtain ⟨ip, hip⟩ := hroom.at_
  -- due
  generalize hMb : M5.set ip (prC CP pp (.tup false (eN (List.range s))) (.tup false (eN (List.range s)))) = Mb
  have hib : Mb[ip]? = some (prC CP pp (.tup false (eN (List.range s))) (.tup false (eN (List.range s)))) := by
    rw [← hMb, List.getElem?_set_self (List.getElem?_eq_some_iff.mp hip).1]
  have hroomb : RoomX CO CP CR Mb r s obs (List.range s) pp os false (.tup false (eN (List.range s))) := by rw [← hMb]; exact hroom.set hip hR0.ka hR0.kn
  have hsb : Mb.set ip (prC CP pp (.tup false (eN (List.range s))) (.tup false (eN (List.range s)))) = Mb := zset_self hib
  have hrowsb : (⟨pr, true, .lst (obs.map obD)⟩ : Cell) ∈ Mb := by
    rw [← hMb]
    exact mem_set_ne hrows hip fun e => by cases congrArg Cell.o e
  have hsupb : (⟨ps, true, .sup⟩ : Cell) ∈ Mb := by
    rw [← hMb]
    exact mem_set_ne hsup hip fun e => by cases congrArg Cell.o e
  have hK1 : [both].foldl cutE (List.range s) = both := hfold fun x hx => by simp
  refine ss_cut (fun δ' M6 => ∃ (pd : Addr) (c2 : Bool), δ' = [some (.scr ns), some (.int (k : Nat)), some (.adr ps), some (.int (s : Nat)), some (.adr pr), some (eT one), some (eT two), some (eT both), some (.adr pd), none, none, none, some (.adr r), some (.int (kv : Nat)), none, none] ∧ M6 = ⟨pd, true, .lst (ansL obs both c2)⟩ :: Mb) ?_ ?_
  · walk_at "zz"
    rw [List.length_map]
    refine ⟨r, s, obs, List.range s, pp, os, false, b, [both], ip, rfl, hroom, hip, by simp, fun e he => by
      have : e = both := by simpa using he
      rw [this]; exact hba, by rw [hK1]; exact hbn, fun p2 c2 => ?_⟩
    rw [hK1, hMb]
    refine ⟨_, _, ?_, List.Sublist.refl _, p2, c2, rfl, rfl⟩
    walk_at "zle"
  rintro δ' M6 ⟨pd, c2, rfl, rfl⟩
  -- the events in turn
  have hx2 : ∀ {Y : Cell}, RoomX CO CP CR (Y :: Mb) r s obs (List.range s) pp os false (.tup false (eN (List.range s))) := fun {Y} => hroomb.sub fun x h => List.mem_cons_of_mem _ h
  have hx3 : ∀ {Y Z : Cell}, RoomX CO CP CR (Y :: Z :: Mb) r s obs (List.range s) pp os false (.tup false (eN (List.range s))) := fun {Y Z} => hx2.sub fun x h => List.mem_cons_of_mem _ h
  refine ss_cut (fun δ' M7 => δ' = [some (.scr ns), some (.int (k : Nat)), some (.adr ps), some (.int (s : Nat)), some (.adr pr), some (eT one), some (eT two), some (eT both), some (.adr pd), none, none, none, some (.adr r), some (.int (kv : Nat)), none, none] ∧ M7 = ⟨pd, true, .lst (ansL obs both c2)⟩ :: Mb) ?_ ?_
  · refine ss_for (own := [9]) (ei_list (ev_lst ?_))
    walk_at "zz"
    intro pe
    refine ⟨pe, true, [[one, two], [two, one], [one, one, two, both]].map fun evs => .tup true (evs.map eT), rfl, List.mem_cons_self, ?_⟩
    refine ⟨fun m δ' M7 => δ' = [some (.scr ns), some (.int (k : Nat)), some (.adr ps), some (.int (s : Nat)), some (.adr pr), some (eT one), some (eT two), some (eT both), some (.adr pd), none, none, none, some (.adr r), some (.int (kv : Nat)), none, none] ∧ M7 = ⟨pe, true, .lst ([[one, two], [two, one], [one, one, two, both]].map fun evs => .tup true (evs.map eT))⟩ :: ⟨pd, true, .lst (ansL obs both c2)⟩ :: Mb, ?_, ⟨rfl, rfl⟩, ?_, ?_⟩
    · rintro m δ' M7 _ ⟨_, rfl⟩
      exact ⟨true, List.mem_cons_self⟩
    · rintro m d δ' M7 hm hf ⟨rfl, rfl⟩
      obtain ⟨evs, hev, rfl⟩ := get_map hf
      have hevm := List.mem_of_getElem? hev
      have hcase : evs = [one, two] ∨ evs = [two, one] ∨ evs = [one, one, two, both] := by simpa using hevm
      have hea : ∀ e ∈ evs, ascE s 0 e := fun e he => by
        have : e = one ∨ e = two ∨ e = both := by
          rcases hcase with rfl | rfl | rfl <;> simp at he <;> grind
        rcases this with rfl | rfl | rfl
        · exact h1a
        · exact h2a
        · exact hba
      have hK : evs.foldl cutE (List.range s) = both := hfold fun x hx => by
        rw [hbm]
        rcases hcase with rfl | rfl | rfl
        · simp
        · simp [and_comm]
        · constructor
          · intro h
            exact ⟨h one (by simp), h two (by simp)⟩
          · rintro ⟨a1, a2⟩ e he
            have h3 : e = one ∨ e = two ∨ e = both := by
              simp at he
              grind
            rcases h3 with h3 | h3 | h3
            · rw [h3]; exact a1
            · rw [h3]; exact a2
            · rw [h3]; exact (hbm x).mpr ⟨a1, a2⟩
      have hlen : evs.length ≤ 10 := by rcases hcase with rfl | rfl | rfl <;> simp
      generalize hLE : (⟨pe, true, .lst ([[one, two], [two, one], [one, one, two, both]].map fun evs => .tup true (evs.map eT))⟩ : Cell) = X1
      have hset : (X1 :: ⟨pd, true, .lst (ansL obs both c2)⟩ :: Mb : Mem).set (ip + 2) (prC CP pp (.tup false (eN (List.range s))) (.tup false (eN (List.range s)))) = X1 :: ⟨pd, true, .lst (ansL obs both c2)⟩ :: Mb := by
        show X1 :: ⟨pd, true, .lst (ansL obs both c2)⟩ :: Mb.set ip _ = _
        rw [hsb]
      refine eg_name ?_
      walk_at "zz"
      rw [List.length_map]
      refine ⟨r, s, obs, List.range s, pp, os, false, _, evs, ip + 2, rfl, hx3, hib, hlen, hea, by rw [hK]; exact hbn, fun p2 c3 => ?_⟩
      rw [hK, hset]
      walk_at "zz"
      refine ⟨_, _, .list (pA obs both), rfl, rfl, rfl, .lst List.mem_cons_self py_A, .lst (List.mem_cons_of_mem _ (List.mem_cons_of_mem _ List.mem_cons_self)) py_A, pi_A hRb, ?_⟩
      walk_at "zz"
      refine ⟨_, _, ?_, List.sublist_cons_self _ _, rfl, rfl⟩
      walk_at "zle"
    · rintro δ' M7 ⟨rfl, rfl⟩
      refine ⟨_, _, ?_, List.sublist_cons_self _ _, rfl, rfl⟩
      walk_at "zle"
  rintro δ' M7 ⟨rfl, rfl⟩
  -- all cases are present
  refine ss_cut (fun δ' M7 => δ' = [some (.scr ns), some (.int (k : Nat)), some (.adr ps), some (.int (s : Nat)), some (.adr pr), some (eT one), some (eT two), some (eT both), some (.adr pd), none, none, none, some (.adr r), some (.int (kv : Nat)), none, none] ∧ M7 = ⟨pd, true, .lst (ansL obs both c2)⟩ :: Mb) ?_ ?_
  · walk_at "zz"
    refine ⟨⟨true, _, hx2.rm⟩, r, s, obs, List.range s, pp, os, false, _, rfl, hx2, ?_⟩
    refine ea_cons (ev_tupRg (ev_var rfl ⟨s, rfl, by omega, ?_⟩))
    rw [eN_range]
    refine ea_nil ⟨_, _, pN (List.range s), rfl, rfl, rfl, py_N, py_N, (pi_K hR0).mono (by omega) (by omega), ?_⟩
    walk_at "zz"
    exact Wk.of ⟨rfl, rfl⟩
  rintro δ' M7 ⟨rfl, rfl⟩
  -- the regions, their sources
  refine ss_cut (fun δ' M7 => δ' = [some (.scr ns), some (.int (k : Nat)), some (.adr ps), some (.int (s : Nat)), some (.adr pr), some (eT one), some (eT two), some (eT both), some (.adr pd), none, some (.tup true ((regionsF obs (List.range s)).map eT)), none, some (.adr r), some (.int (kv : Nat)), none, none] ∧ M7 = ⟨pd, true, .lst (ansL obs both c2)⟩ :: Mb) ?_ ?_
  · walk_at "zz"
    refine ⟨⟨true, _, hx2.rm⟩, r, s, obs, List.range s, pp, os, false, _, rfl, hx2, ?_⟩
    exact Wk.of ⟨rfl, rfl⟩
  rintro δ' M7 ⟨rfl, rfl⟩
  have hRl := regs_len hR0
  refine ss_cut (fun δ' M7 => ∃ (psp : Addr) (spr : List Spr), δ' = [some (.scr ns), some (.int (k : Nat)), some (.adr ps), some (.int (s : Nat)), some (.adr pr), some (eT one), some (eT two), some (eT both), some (.adr pd), none, some (.tup true ((regionsF obs (List.range s)).map eT)), some (.adr psp), some (.adr r), some (.int (kv : Nat)), none, none] ∧ M7 = ⟨psp, true, .lst (spr.map sprD)⟩ :: ⟨pd, true, .lst (ansL obs both c2)⟩ :: Mb ∧ spr.length = (regionsF obs (List.range s)).length ∧ ∀ (i : Nat) (g : List Nat) (z : Spr), (regionsF obs (List.range s))[i]? = some g → spr[i]? = some z → SprOf obs g z) ?_ ?_
  · walk_at "z1"
    refine ev_lc (own := [14]) (by simp) (ei_rng ?_)
    walk_at "zz"
    refine ⟨by rw [List.length_map]; omega, ?_⟩
    rw [List.length_map]
    refine ⟨fun m acc M8 => M8 = ⟨pd, true, .lst (ansL obs both c2)⟩ :: Mb ∧ ∃ spr : List Spr, acc = spr.map sprD ∧ spr.length = m ∧ ∀ (i : Nat) (g : List Nat) (z : Spr), (regionsF obs (List.range s))[i]? = some g → spr[i]? = some z → SprOf obs g z, by omega, ?_, ⟨rfl, [], rfl, rfl, fun i g z _ hz => by simp at hz⟩, ?_, ?_⟩
    · rintro m acc M8 ⟨rfl, _⟩
      exact ⟨rfl, trivial⟩
    · rintro B' m d acc M8 hm hf _ ⟨rfl, spr, rfl, hsl, hso⟩
      have hd := (Option.some.inj hf).symm
      subst hd
      obtain ⟨g, hg⟩ : ∃ g, (regionsF obs (List.range s))[m]? = some g := ⟨(regionsF obs (List.range s))[m], List.getElem?_eq_getElem hm⟩
      have gok := reg_ok hR0 hg
      have step : ∀ z : Spr, SprOf obs g z → WkM (fun M8 => M8 = ⟨pd, true, .lst (ansL obs both c2)⟩ :: Mb ∧ ∃ spr' : List Spr, spr.map sprD ++ [sprD z] = spr'.map sprD ∧ spr'.length = m + 1 ∧ ∀ (i : Nat) (g : List Nat) (z : Spr), (regionsF obs (List.range s))[i]? = some g → spr'[i]? = some z → SprOf obs g z) (⟨pd, true, .lst (ansL obs both c2)⟩ :: Mb) := fun z hz => by
        refine WkM.of ⟨rfl, spr ++ [z], by rw [List.map_append]; rfl, by rw [List.length_append, hsl]; rfl, fun i g' z' hg' hz' => ?_⟩
        by_cases hi : i < spr.length
        · rw [List.getElem?_append_left hi] at hz'
          exact hso i g' z' hg' hz'
        · rw [List.getElem?_append_right (by omega)] at hz'
          have e0 : i - spr.length = 0 := by
            cases q : i - spr.length with
            | zero => rfl
            | succ m => rw [q] at hz'; simp at hz'
          rw [e0] at hz'
          have e1 : i = m := by omega
          subst e1
          rw [hg] at hg'
          cases hg'
          have : z' = z := by simpa using hz'.symm
          rw [this]; exact hz
      refine eg_name ?_
      walk_at "zz"
      refine ⟨r, s, obs, List.range s, pp, os, false, _, m, g, rfl, hx2, hg, spr_ok hR0 gok, cov_ok hR0 gok, fun u hu hcon => ?_, fun wk hno => ?_⟩
      · have hc9 := gok.len hR0
        have hsu : ∀ z ∈ g.map u, 0 < z ∧ Sz 61 z := fun z hz => by
          obtain ⟨x, hx, rfl⟩ := List.mem_map.mp hz
          exact hu x hx
        have hs1 : 0 < rsum (g.map u) := rsum_pos (fun z hz => (hsu z hz).1) (fun z => gok.ne (List.map_eq_nil_iff.mp z))
        have hs2 : Sz 560 (rsum (g.map u)) := (rsum_sz fun z hz => (hsu z hz).2).mono (by
          rw [List.length_map]
          have : g.length * (61 + 1) ≤ 9 * 62 := Nat.mul_le_mul (by omega) (by omega)
          omega)
        have hO := conO_of hR0 gok hcon
        exact step (.src g fun x => u x / rsum (g.map u)) ⟨rfl, fun o ho x hx y hy e => by
          have := hO o ho x hx y hy e
          dsimp only
          rw [Rat.div_def, Rat.div_def]
          generalize (rsum (g.map u))⁻¹ = A
          generalize (o.v x : Rat) = p1 at *
          generalize (o.v y : Rat) = p2 at *
          grind, fun x hx => ⟨div_pos' (hu x hx).1 hs1, ((hu x hx).2.div hs2 (num_pos.mpr hs1)).mono (by omega)⟩⟩
      · exact step (.walk wk) trivial
    · rintro psp acc M8 _ ⟨rfl, spr, rfl, hsl, hso⟩
      refine ⟨_, _, ?_, List.Sublist.refl _, psp, spr, rfl, rfl, hsl, hso⟩
      walk_at "zle"
  rintro δ' M7 ⟨psp, spr, rfl, rfl, hsl, hso⟩
  -- the present cases are set
  generalize hMc : Mb.set ip (prC CP pp (.tup true (eN both)) (.tup false (eN (List.range s)))) = Mc
  have hic : Mc[ip]? = some (prC CP pp (.tup true (eN both)) (.tup false (eN (List.range s)))) := by
    rw [← hMc, List.getElem?_set_self (List.getElem?_eq_some_iff.mp hib).1]
  have hroomc : RoomX CO CP CR Mc r s obs both pp os true (.tup false (eN (List.range s))) := by rw [← hMc]; exact hroomb.set hib hba hbn
  have hrowsc : (⟨pr, true, .lst (obs.map obD)⟩ : Cell) ∈ Mc := by
    rw [← hMc]
    exact mem_set_ne hrowsb hib fun e => by cases congrArg Cell.o e
  have hsupc : (⟨ps, true, .sup⟩ : Cell) ∈ Mc := by
    rw [← hMc]
    exact mem_set_ne hsupb hib fun e => by cases congrArg Cell.o e
  refine ss_cut (fun δ' M7 => δ' = [some (.scr ns), some (.int (k : Nat)), some (.adr ps), some (.int (s : Nat)), some (.adr pr), some (eT one), some (eT two), some (eT both), some (.adr pd), none, some (.tup true ((regionsF obs (List.range s)).map eT)), some (.adr psp), some (.adr r), some (.int (kv : Nat)), none, none] ∧ M7 = ⟨psp, true, .lst (spr.map sprD)⟩ :: ⟨pd, true, .lst (ansL obs both c2)⟩ :: Mc) ?_ ?_
  · walk_at "zz"
    refine ⟨⟨true, _, hx3.rm, by rfl⟩, ?_⟩
    walk_at "zz"
    refine ⟨r, s, obs, List.range s, pp, os, false, _, both, true, ip + 2, rfl, hx3, hba, hbn, hib, ?_⟩
    refine ⟨_, _, LeD.refl _, List.Sublist.refl _, rfl, ?_⟩
    show _ :: _ :: Mb.set ip _ = _
    rw [hMc]
  rintro δ' M7 ⟨rfl, rfl⟩
  -- answers of the room as it is now
  generalize hMd : Mc.set ip (prC CP pp (.tup true (eN both)) (.tup true (eN both))) = Md
  have hid : Md[ip]? = some (prC CP pp (.tup true (eN both)) (.tup true (eN both))) := by
    rw [← hMd, List.getElem?_set_self (List.getElem?_eq_some_iff.mp hic).1]
  have hroomd : RoomX CO CP CR Md r s obs both pp os true (.tup true (eN both)) := by rw [← hMd]; exact hroomc.set hic hba hbn
  have hsupd : (⟨ps, true, .sup⟩ : Cell) ∈ Md := by
    rw [← hMd]
    exact mem_set_ne hsupc hic fun e => by cases congrArg Cell.o e
  have hc3 : ∀ {Y Z : Cell}, RoomX CO CP CR (Y :: Z :: Mc) r s obs both pp os true (.tup false (eN (List.range s))) := fun {Y Z} => (hroomc.sub fun x h => List.mem_cons_of_mem _ h : RoomX CO CP CR (Z :: Mc) r s obs both pp os true (.tup false (eN (List.range s)))).sub fun x h => List.mem_cons_of_mem _ h
  have hd3 : ∀ {Y Z : Cell}, RoomX CO CP CR (Y :: Z :: Md) r s obs both pp os true (.tup true (eN both)) := fun {Y Z} => (hroomd.sub fun x h => List.mem_cons_of_mem _ h : RoomX CO CP CR (Z :: Md) r s obs both pp os true (.tup true (eN both))).sub fun x h => List.mem_cons_of_mem _ h
  refine ss_cut (fun δ' M7 => δ' = [some (.scr ns), some (.int (k : Nat)), some (.adr ps), some (.int (s : Nat)), some (.adr pr), some (eT one), some (eT two), some (eT both), some (.adr pd), none, some (.tup true ((regionsF obs (List.range s)).map eT)), some (.adr psp), some (.adr r), some (.int (kv : Nat)), none, none] ∧ M7 = ⟨psp, true, .lst (spr.map sprD)⟩ :: ⟨pd, true, .lst (ansL obs both c2)⟩ :: Md) ?_ ?_
  · walk_at "zz"
    rw [List.length_map]
    refine ⟨r, s, obs, both, pp, os, true, _, [], ip + 2, rfl, hc3, hic, by simp, fun e he => (by cases he), hbn, fun p2 c3 => ?_⟩
    have hset : (⟨psp, true, .lst (spr.map sprD)⟩ :: ⟨pd, true, .lst (ansL obs both c2)⟩ :: Mc : Mem).set (ip + 2) (prC CP pp (.tup true (eN both)) (.tup true (eN both))) = ⟨psp, true, .lst (spr.map sprD)⟩ :: ⟨pd, true, .lst (ansL obs both c2)⟩ :: Md := by
      show ⟨psp, true, .lst (spr.map sprD)⟩ :: ⟨pd, true, .lst (ansL obs both c2)⟩ :: Mc.set ip _ = _
      rw [hMd]
    rw [hset]
    walk_at "zz"
    refine ⟨_, _, .list (pA obs both), rfl, rfl, rfl, .lst List.mem_cons_self py_A, .lst (List.mem_cons_of_mem _ (List.mem_cons_of_mem _ List.mem_cons_self)) py_A, pi_A hRb, ?_⟩
    walk_at "zz"
    refine ⟨_, _, LeD.refl _, List.sublist_cons_self _ _, rfl, rfl⟩
  rintro δ' M7 ⟨rfl, rfl⟩
  refine ss_cut (fun δ' M7 => δ' = [some (.scr ns), some (.int (k : Nat)), some (.adr ps), some (.int (s : Nat)), some (.adr pr), some (eT one), some (eT two), some (eT both), some (.adr pd), none, some (.tup true ((regionsF obs (List.range s)).map eT)), some (.adr psp), some (.adr r), some (.int (kv : Nat)), none, none] ∧ M7 = ⟨psp, true, .lst (spr.map sprD)⟩ :: ⟨pd, true, .lst (ansL obs both c2)⟩ :: Md) ?_ ?_
  · walk_at "zz"
    refine ⟨⟨true, _, hd3.rm⟩, r, s, obs, both, pp, os, true, _, rfl, hd3, ?_⟩
    walk_at "zz"
    refine ⟨⟨true, _, hd3.rm⟩, r, s, obs, both, pp, os, true, _, rfl, hd3, ?_⟩
    walk_at "zz"
    intro p2
    walk_at "zz"
    refine ev_sl (ev_var rfl (eo_none (eo_some (ev_int ⟨_, rfl, ?_⟩))))
    refine o_slL (n := 2) (List.mem_cons_of_mem _ (List.mem_cons_of_mem _ List.mem_cons_self)) (by unfold ansL; simp) fun p3 => ?_
    refine ea_nil ⟨_, _, .list [pN both, pG (regionsF obs both)], rfl, rfl, rfl, .lst (List.mem_cons_of_mem _ List.mem_cons_self) (.cons py_N (.cons py_G .nil)), .lst List.mem_cons_self (.cons py_N (.cons py_G .nil)), pi_A2 hRb, ?_⟩
    walk_at "zz"
    refine ⟨_, _, LeD.refl _, (List.sublist_cons_self _ _).trans (List.sublist_cons_self _ _), rfl, rfl⟩
  rintro δ' M7 ⟨rfl, rfl⟩
  -- the sources that are cut
  walk_at "zz"
  refine ⟨r, s, obs, both, pp, os, true, _, psp, regionsF obs (List.range s), spr, rfl, hd3, List.mem_cons_self, hsl.symm, by omega, fun g hg => ?_, hso, ?_⟩
  · obtain ⟨j, hj⟩ := List.getElem?_of_mem hg
    exact reg_ok hR0 hj
  walk_at "zz"
  refine ⟨_, _, ?_, List.singleton_sublist.mpr (List.mem_cons_of_mem _ (List.mem_cons_of_mem _ hsupd)), rfl, rfl⟩
  walk_at "zle"
⟩)
end Zy
set_option Elab.async false
set_option linter.all false
set_option maxRecDepth 100000
set_option maxHeartbeats 4000000
namespace Zy
open PySem PySem.Spec PyProof.Rows L2
/-! ### the end: a law that asks that nothing is being shown -/
/-- the base: the heap behind the top, what is tracked hidden -/
theorem base_in {s : Shared} {H : Hp} {b : Addr} {o : Obj} (ho : s.heap.get? b = some o) (hH : H b = none) : (hidT s.heap H).get? b = some o := hidT_get ho hH
/-- a table is not the script -/
theorem tab_ne {s : Shared} {H : Hp} {a b : Addr} {arr : Array Value} {ob : Obj} {es : Array DictEntry} {ep : Nat} (hs : s.heap.get? a = some { cls := .type "list", data := .seq arr }) (only : ∀ c, H c ≠ none → c = a) (hb : s.heap.get? b = some ob) (hd : ob.data = .dict es ep) : H b = none := by
  by_cases e : H b = none
  · exact e
  · have := only b e
    subst this
    rw [hs] at hb
    have h2 := Option.some.inj hb
    rw [← h2] at hd
    cases hd
theorem ns_base {s : Shared} {H : Hp} {a b : Addr} {arr : Array Value} {m : Str → Option Value} (hs : s.heap.get? a = some { cls := .type "list", data := .seq arr }) (only : ∀ c, H c ≠ none → c = a) (n : s.heap.Ns b m) : (hidT s.heap H).Ns b m := by
  obtain ⟨ob, es, ep, g1, g2, g3⟩ := n
  exact ⟨ob, es, ep, base_in g1 (tab_ne hs only g1 g2), g2, g3⟩
theorem topG {P : Program} {w : World} {K : PySem.W.Frag} {mg mb : Str → Option Value} {k : Nat} {fa a : Addr} {sp : Sp} {s : Shared} {arr : Array Value} {H : Hp}
    (inK : K.In s.heap) (nsG : s.heap.Ns mainGlobals mg) (nsB : s.heap.Ns builtinsNs mb) (blt : ∀ y : Str, y ≠ "__name__" → mb y = bootBuiltins y) (noL : s.heap.NoLimit) (noG : s.gens = #[])
    (scr : s.heap.get? a = some { cls := .type "list", data := .seq arr }) (room : Room k callerA) (F : ∀ base : Heap, K.In base → base.Ns mainGlobals mg → FnG P w K mg base k fa sp)
    (good : HOk P w H s.heap) (only : ∀ c, H c ≠ none → c = a) (noK : H a ≠ none → K.lookup a = none) (frz : ∀ c, H c = none ∨ ∃ o xs, H c = some (.frz o (.lst xs)))
    (ask : sp [.ref a] H (fun v _ => v = .bl true) fun _ _ _ => False) :
    codeAny (model P w) callerA (.call (.ref fa) ⟨[.ref a], []⟩) (fun q t => q = .ok (.ret (.bool true)) ∧ OldK s.heap t.heap ∧ t.os = s.os ∧ AllBare t.gens) s := by
  have kin : K.In (hidT s.heap H) := by
    intro c o hc
    refine base_in (inK c o hc) ?_
    by_cases e : H c = none
    · exact e
    · have e2 := only c e
      subst e2
      rw [noK e] at hc
      cases hc
  obtain ⟨ml, nl1, nl2⟩ := noL
  have md : Mod K mg (hidT s.heap H) := ⟨kin, ns_base scr only nsG, ⟨mb, ns_base scr only nsB, blt⟩, ⟨ml, ns_base scr only nl1, nl2⟩⟩
  have env : Env0 P w K mg (hidT s.heap H) callerA [] s H := by
    refine ⟨rfl, md, fun c o hc => of_hidT hc, ?_, trivial, ?_, good, .of_eq noG⟩
    · rw [hidT_size]; exact Nat.le_refl _
    · intro c hc
      have hc' : c ∈ ([] : List Addr) := hc
      cases hc'
  refine codeAny_mono (F _ kin (ns_base scr only nsG) callerA [] s H [.ref a] [.ref a] _ _ rfl room env (.cons rfl .nil) ask) ?_
  rintro (er | fl) t ht
  · exact False.elim ht
  cases fl with
  | next => exact ht.elim
  | brk => exact ht.elim
  | cont => exact ht.elim
  | ret u =>
    obtain ⟨v, H2, tos, tb, chg, good2, rel, ev⟩ := ht
    have ev' : v = .bl true := ev
    rw [ev'] at rel
    have eu : u = Value.bool true := rel
    rw [eu]
    refine ⟨rfl, OldK.of_keep ?_, tos, tb⟩
    intro c o hc
    rcases frz c with e | ⟨ob, xs, e⟩
    · refine chg.keep c o hc e ?_ (by simp)
      intro z
      have z' : c ∈ ([] : List Addr) := z
      cases z'
    · have g1 := (good c _ e).1
      have g2 := (good2 c _ (chg.frzs c ob _ e)).1
      rw [g1] at hc
      cases hc
      exact g2
/-- both ways: the script is tracked, or it is an object of the module -/
theorem endG {P : Program} {w : World} {K : PySem.W.Frag} {mg mb : Str → Option Value} {k : Nat} {fa a : Addr} {sp : Sp} {s : Shared} {vals : List Value} {ns : List Int}
    (inK : K.In s.heap) (nsG : s.heap.Ns mainGlobals mg) (nsB : s.heap.Ns builtinsNs mb) (blt : ∀ y : Str, y ≠ "__name__" → mb y = bootBuiltins y) (noL : s.heap.NoLimit) (noG : s.gens = #[])
    (scr : s.heap.get? a = some { cls := .type "list", data := .seq vals.toArray }) (hnts : IntsAre vals ns) (few : ns.length ≤ sizeLine) (room : Room k callerA) (F : ∀ base : Heap, K.In base → base.Ns mainGlobals mg → FnG P w K mg base k fa sp)
    (ask : ∀ H : Hp, SqF K H a (ns.map V.int) → sp [.ref a] H (fun v _ => v = .bl true) fun _ _ _ => False) :
    codeAny (model P w) callerA (.call (.ref fa) ⟨[.ref a], []⟩) (fun q t => q = .ok (.ret (.bool true)) ∧ OldK s.heap t.heap ∧ t.os = s.os ∧ AllBare t.gens) s := by
  have vv := vals_ints hnts
  by_cases hk : K.lookup a = none
  · let o0 : Obj := { cls := .type "list", data := .seq vals.toArray }
    let H0 : Hp := upd (fun _ => none) a (.frz o0 (.lst (ns.map V.int)))
    have at_a : H0 a = some (.frz o0 (.lst (ns.map V.int))) := upd_same
    have off : ∀ c, c ≠ a → H0 c = none := fun c hc => by
      show upd (fun _ => none) a _ c = none
      rw [upd_ne hc]
    refine topG (H := H0) inK nsG nsB blt noL noG scr room F ?_ (fun c hc => ?_) (fun _ => hk) (fun c => ?_) (ask H0 (.inl ⟨o0, at_a⟩))
    · intro c u hu
      by_cases e : c = a
      · subst e
        rw [at_a] at hu
        cases hu
        exact ⟨scr, by rw [List.length_map]; exact few, vals, _, vv, scr⟩
      · rw [off c e] at hu
        cases hu
    · by_cases e : c = a
      · exact e
      · exact absurd (off c e) hc
    · by_cases e : c = a
      · subst e
        exact .inr ⟨_, _, at_a⟩
      · exact .inl (off c e)
  · obtain ⟨o, ho⟩ : ∃ o, K.lookup a = some o := by
      cases q : K.lookup a with
      | none => exact absurd q hk
      | some o => exact ⟨o, rfl⟩
    have ho2 := ho
    have h2 := inK a o ho
    rw [scr] at h2
    cases h2
    refine topG (H := fun _ => none) inK nsG nsB blt noL noG scr room F (fun c u hu => by cases hu) (fun c hc => absurd rfl hc) (fun hc => absurd rfl hc) (fun c => .inl rfl) (ask _ (.inr ⟨_, vals.toArray, _, ho2, rfl, rfl, rfl, ?_, by simpa using vv⟩))
    rw [List.size_toArray, hnts.length]
    exact few
end Zy
set_option Elab.async false
set_option linter.all false
set_option maxRecDepth 100000
set_option maxHeartbeats 4000000
namespace Zf
open PySem PySem.Spec PyProof.Rows L2 Zy Zh
open C8 (fnBody fnArgs fnScope clsBody)
open He (ga ma eqO_ok ba FnW dflB dflB_ok kwdB kwdB_ok)
theorem fun_of {K : PySem.W.Frag} {a : Addr} {d : DefZ} (e : fnA K a = d.val) (c : okA K a d.qual = true) : Zy.FnP K d.name d.qual d.st a := by
  obtain ⟨kp, c2⟩ := ba c
  unfold fnA at e
  cases q : K.lookup a with
  | none =>
    rw [q] at c2
    cases c2
  | some o =>
    obtain ⟨oc, od, dt, osl⟩ := o
    rw [q] at c2 e
    cases dt with
    | func fd =>
      obtain ⟨n1, n2, n3, n4, n5, n6, n7, n8, n9, n10, n11, n12, n13, n14, n15⟩ := fd
      have e2 : (some (n1, n2, n3, n4, n5, n6, n7, n15) : FnW) = some (d.name, d.qual, fnArgs d.st, .stmts (fnBody d.st), fnScope d.st, mainGlobals, [], builtinsNs) := e
      simp only [Option.some.injEq, Prod.mk.injEq] at e2
      obtain ⟨h1, h2, h3, h4, h5, h6, h7, h8⟩ := e2
      subst h1 h2 h3 h4 h5 h6 h7 h8
      have c3 : (PySem.W.codeIn K n13 d.qual && (dflB K n8 [] && kwdB K n9 [])) = true := c2
      obtain ⟨k1, k2⟩ := ba c3
      obtain ⟨k3, k4⟩ := ba k2
      exact ⟨_, ⟨oc, od, n8, n9, n10, n11, n12, n13, n14, osl, rfl, q, k1, dflB_ok k3, kwdB_ok k4⟩, kp⟩
    | _ => cases c2
theorem all_at {α : Type} {p : α → Bool} {l : List α} {x : α} (h : l.all p = true) (i : Nat) (e : l[i]? = some x) : p x = true := List.all_eq_true.mp h x (List.mem_of_getElem? e)
theorem map_at {α β : Type} {f g : α → β} {l : List α} {x : α} (h : l.map f = l.map g) (i : Nat) (e : l[i]? = some x) : f x = g x := by
  have q := congrArg (fun z => z[i]?) h
  simp only [List.getElem?_map, e, Option.map_some] at q
  exact Option.some.inj q
theorem prop_ok {K : PySem.W.Frag} {C f : Str} (h : propB K C f = true) : PropOf K (ga K C) f (pAt K C f) (gAt K C f) := by
  obtain ⟨h1, h⟩ := ba h
  obtain ⟨h2, h⟩ := ba h
  obtain ⟨h3, h⟩ := ba h
  refine ⟨eqO_ok h1, eqO_ok h2, of_decide_eq_true h3, ?_⟩
  split at h
  · rename_i g rest e
    exact ⟨rest, by rw [e, of_decide_eq_true h]⟩
  · cases h
theorem set_ok {K : PySem.W.Frag} {C f : Str} (hc : Cls K (ga K C)) (h : setB K C f = true) : SetOf K (ga K C) f (sAt K C f) := by
  obtain ⟨h1, h⟩ := ba h
  obtain ⟨h2, h⟩ := ba h
  refine ⟨hc.sa, hc.po, pAt K C f, ?_⟩
  split at h
  · rename_i a g rest e
    exact ⟨a, rest, eqO_ok h1, of_decide_eq_true h2, by rw [e, of_decide_eq_true h]⟩
  · cases h
theorem bm_ok {K : PySem.W.Frag} {C m : Str} (me : Meth K (ga K C) m (ma K (ga K C) m)) (h : bmB K C m = true) (cp : PySem.W.copiedNames.contains m = false := by decide) : BMeth K (ga K C) m (ma K (ga K C) m) := by
  obtain ⟨h1, h⟩ := ba h
  obtain ⟨h2, h3⟩ := ba h
  exact ⟨me, eqO_ok h1, of_decide_eq_true h2, cp, h3⟩
theorem ins_ok {K : PySem.W.Frag} {C : Str} (hc : Cls K (ga K C)) (h : insB K C = true) : InsTy K (ga K C) := by
  obtain ⟨h1, h⟩ := ba h
  obtain ⟨h2, h⟩ := ba h
  obtain ⟨h3, h4⟩ := ba h
  exact ⟨hc, eqO_ok h1, eqO_ok h2, of_decide_eq_true h3, of_decide_eq_true h4⟩
theorem ne_ok {K : PySem.W.Frag} (h : neB K = true) : ga K "Observer" ≠ ga K "Presence" ∧ ga K "Presence" ≠ ga K "Room" ∧ ga K "Observer" ≠ ga K "Room" := by
  obtain ⟨h1, h⟩ := ba h
  obtain ⟨h2, h3⟩ := ba h
  refine ⟨fun e => ?_, fun e => ?_, fun e => ?_⟩ <;> simp_all
theorem kd_ok {K : PySem.W.Frag} {w : World} {a : Addr} {es : Array DictEntry} {nn : Nat} (kq : KDict K w a es nn) (h : He.valsB K a qv = true) : ∀ (z : Str) (j : Int), (z, j) ∈ [(("cases" : Str), (0 : Int)), ("regions", 0), ("present_odds", 1)] → KDct K w a z (.int j) := by
  intro z j hm
  have hq : (z, He.Dv.int j) ∈ qv := by
    simp only [List.mem_cons, List.not_mem_nil, or_false, Prod.mk.injEq] at hm
    rcases hm with ⟨rfl, rfl⟩ | ⟨rfl, rfl⟩ | ⟨rfl, rfl⟩
    · exact List.mem_cons_self
    · exact List.mem_cons_of_mem _ List.mem_cons_self
    · exact List.mem_cons_of_mem _ (List.mem_cons_of_mem _ List.mem_cons_self)
  obtain ⟨u, hu, r⟩ := He.valsB_ok h hq
  exact ⟨es, nn, u, kq.at_, kq.lit, hu, r⟩
theorem keep_of {K : PySem.W.Frag} {x qual : Str} {st : Stmt} {f : Addr} (h : FnP K x qual st f) : PySem.W.keepIn K (.ref f) = true := by
  obtain ⟨fd, F⟩ := h
  exact F.kp
theorem law_keeps {P : Program} {w : World} {K : PySem.W.Frag} {h : Heap} {mg : Str → Option Value} {base : Heap} (X : K.In h) (G : h.Ns mainGlobals mg) (c : obsZ K = valZ w) :
    mg "law" = some (.ref (ga K "law")) ∧ FnG P w K mg base 13 (ga K "law") (Pm K (F_law (ga K "Observer") (ga K "Presence") (ga K "Room"))) := by
  obtain ⟨hall, h2⟩ := Prod.mk.inj c
  obtain ⟨hfun, hdic⟩ := Prod.mk.inj h2
  obtain ⟨a_fa, hall⟩ := ba hall
  obtain ⟨a_fg, hall⟩ := ba hall
  obtain ⟨a_fn, hall⟩ := ba hall
  obtain ⟨a_ins, hall⟩ := ba hall
  obtain ⟨a_pr, hall⟩ := ba hall
  obtain ⟨a_set, hall⟩ := ba hall
  obtain ⟨a_bm, hall⟩ := ba hall
  obtain ⟨a_ne, hall⟩ := ba hall
  obtain ⟨a_con, a_val⟩ := ba hall
  obtain ⟨es, nn, kq⟩ := He.dicW_ok hdic
  obtain ⟨tk, gMC⟩ := He.int_ok X G (all_at a_fa 16 rfl : (He.Fa.int "MOST_CASES" 12).ok K = true)
  have bi : Bi mg := ⟨He.free_ok X G (all_at a_fa 0 rfl : (He.Fa.free "len").ok K = true), He.free_ok X G (all_at a_fa 1 rfl : (He.Fa.free "abs").ok K = true), He.free_ok X G (all_at a_fa 2 rfl : (He.Fa.free "isinstance").ok K = true), He.free_ok X G (all_at a_fa 3 rfl : (He.Fa.free "int").ok K = true), He.free_ok X G (all_at a_fa 4 rfl : (He.Fa.free "bool").ok K = true), He.free_ok X G (all_at a_fa 5 rfl : (He.Fa.free "tuple").ok K = true), He.free_ok X G (all_at a_fa 6 rfl : (He.Fa.free "str").ok K = true), He.free_ok X G (all_at a_fa 7 rfl : (He.Fa.free "list").ok K = true), He.free_ok X G (all_at a_fa 8 rfl : (He.Fa.free "range").ok K = true), He.free_ok X G (all_at a_fa 9 rfl : (He.Fa.free "enumerate").ok K = true), He.free_ok X G (all_at a_fa 10 rfl : (He.Fa.free "zip").ok K = true), He.free_ok X G (all_at a_fa 11 rfl : (He.Fa.free "all").ok K = true), He.free_ok X G (all_at a_fa 12 rfl : (He.Fa.free "sum").ok K = true), He.free_ok X G (all_at a_fa 13 rfl : (He.Fa.free "max").ok K = true), He.free_ok X G (all_at a_fa 14 rfl : (He.Fa.free "min").ok K = true), He.free_ok X G (all_at a_fa 15 rfl : (He.Fa.free "repr").ok K = true)⟩
  have gCO : mg "Observer" = some (.ref (ga K "Observer")) := He.glo_ok X G (all_at a_fa 17 rfl)
  have hCO : Cls K (ga K "Observer") := He.cls_ok (all_at a_fa 21 rfl)
  have mk_Observer : Mk K (ga K "Observer") (ma K (ga K "Observer") "__init__") := He.mkr_ok (all_at a_fa 24 rfl)
  have gCP : mg "Presence" = some (.ref (ga K "Presence")) := He.glo_ok X G (all_at a_fa 18 rfl)
  have hCP : Cls K (ga K "Presence") := He.cls_ok (all_at a_fa 22 rfl)
  have mk_Presence : Mk K (ga K "Presence") (ma K (ga K "Presence") "__init__") := He.mkr_ok (all_at a_fa 25 rfl)
  have gCR : mg "Room" = some (.ref (ga K "Room")) := He.glo_ok X G (all_at a_fa 19 rfl)
  have hCR : Cls K (ga K "Room") := He.cls_ok (all_at a_fa 23 rfl)
  have mk_Room : Mk K (ga K "Room") (ma K (ga K "Room") "__init__") := He.mkr_ok (all_at a_fa 26 rfl)
  have gQ : mg "QUESTIONS" = some (.ref (ga K "QUESTIONS")) := He.glo_ok X G (all_at a_fa 20 rfl)
  have na_ol : NoAttr K (ga K "Observer") "own_labels" := He.noat_ok (all_at a_fa 27 rfl)
  have na_op : NoAttr K (ga K "Observer") "own_parts" := He.noat_ok (all_at a_fa 28 rfl)
  have na_oo : NoAttr K (ga K "Observer") "own_odds" := He.noat_ok (all_at a_fa 29 rfl)
  have na_k : NoAttr K (ga K "Presence") "kept" := He.noat_ok (all_at a_fa 30 rfl)
  have na_b : NoAttr K (ga K "Presence") "before" := He.noat_ok (all_at a_fa 31 rfl)
  have na_w : NoAttr K (ga K "Room") "watchers" := He.noat_ok (all_at a_fa 32 rfl)
  have na_s : NoAttr K (ga K "Room") "size" := He.noat_ok (all_at a_fa 33 rfl)
  have na_p : NoAttr K (ga K "Room") "presence" := He.noat_ok (all_at a_fa 34 rfl)
  have me_assign_odds : Meth K (ga K "Observer") "assign_odds" (ma K (ga K "Observer") "assign_odds") := He.meth_ok (all_at a_fa 35 rfl)
  have me___enter__ : Meth K (ga K "Presence") "__enter__" (ma K (ga K "Presence") "__enter__") := He.meth_ok (all_at a_fa 36 rfl)
  have me___exit__ : Meth K (ga K "Presence") "__exit__" (ma K (ga K "Presence") "__exit__") := He.meth_ok (all_at a_fa 37 rfl)
  have me_assign_cases : Meth K (ga K "Room") "assign_cases" (ma K (ga K "Room") "assign_cases") := He.meth_ok (all_at a_fa 38 rfl)
  have me_check_group : Meth K (ga K "Room") "check_group" (ma K (ga K "Room") "check_group") := He.meth_ok (all_at a_fa 39 rfl)
  have me_present_odds : Meth K (ga K "Room") "present_odds" (ma K (ga K "Room") "present_odds") := He.meth_ok (all_at a_fa 40 rfl)
  have me_supposed : Meth K (ga K "Room") "supposed" (ma K (ga K "Room") "supposed") := He.meth_ok (all_at a_fa 41 rfl)
  have me_answer : Meth K (ga K "Room") "answer" (ma K (ga K "Room") "answer") := He.meth_ok (all_at a_fa 42 rfl)
  obtain ⟨uu, con⟩ := He.conB_ok a_con
  have hIO := ins_ok hCO a_ins
  have hne := ne_ok a_ne
  have kd := kd_ok kq a_val
  have hp_Observer_labels : PropOf K (ga K "Observer") "labels" (pAt K "Observer" "labels") (gAt K "Observer" "labels") := prop_ok (all_at (p := fun p : Str × Str => propB K p.1 p.2) (x := ("Observer", "labels")) a_pr 0 rfl)
  have hp_Observer_odds : PropOf K (ga K "Observer") "odds" (pAt K "Observer" "odds") (gAt K "Observer" "odds") := prop_ok (all_at (p := fun p : Str × Str => propB K p.1 p.2) (x := ("Observer", "odds")) a_pr 1 rfl)
  have hp_Room_observers : PropOf K (ga K "Room") "observers" (pAt K "Room" "observers") (gAt K "Room" "observers") := prop_ok (all_at (p := fun p : Str × Str => propB K p.1 p.2) (x := ("Room", "observers")) a_pr 2 rfl)
  have hp_Room_cases : PropOf K (ga K "Room") "cases" (pAt K "Room" "cases") (gAt K "Room" "cases") := prop_ok (all_at (p := fun p : Str × Str => propB K p.1 p.2) (x := ("Room", "cases")) a_pr 3 rfl)
  have hp_Room_regions : PropOf K (ga K "Room") "regions" (pAt K "Room" "regions") (gAt K "Room" "regions") := prop_ok (all_at (p := fun p : Str × Str => propB K p.1 p.2) (x := ("Room", "regions")) a_pr 4 rfl)
  have so := set_ok hCR a_set
  have bm_present_odds := bm_ok me_present_odds a_bm
  have cls_present_odds := hCR
  have Fn_is_integer : FnP K "is_integer" "is_integer" (stT 16) (ga K "is_integer") := fun_of (d := gD 16 "is_integer") (map_at (x := gD 16 "is_integer") hfun 0 rfl) (all_at (p := fun d : DefZ => okA K (d.path K) d.qual) (x := gD 16 "is_integer") a_fn 0 rfl)
  have gm_is_integer : mg "is_integer" = some (.ref (ga K "is_integer")) := He.glo_ok X G (all_at a_fg 0 rfl)
  have Fn_greatest_divisor : FnP K "greatest_divisor" "greatest_divisor" (stT 17) (ga K "greatest_divisor") := fun_of (d := gD 17 "greatest_divisor") (map_at (x := gD 17 "greatest_divisor") hfun 1 rfl) (all_at (p := fun d : DefZ => okA K (d.path K) d.qual) (x := gD 17 "greatest_divisor") a_fn 1 rfl)
  have gm_greatest_divisor : mg "greatest_divisor" = some (.ref (ga K "greatest_divisor")) := He.glo_ok X G (all_at a_fg 1 rfl)
  have Fn_is_valid_fraction : FnP K "is_valid_fraction" "is_valid_fraction" (stT 18) (ga K "is_valid_fraction") := fun_of (d := gD 18 "is_valid_fraction") (map_at (x := gD 18 "is_valid_fraction") hfun 2 rfl) (all_at (p := fun d : DefZ => okA K (d.path K) d.qual) (x := gD 18 "is_valid_fraction") a_fn 2 rfl)
  have gm_is_valid_fraction : mg "is_valid_fraction" = some (.ref (ga K "is_valid_fraction")) := He.glo_ok X G (all_at a_fg 2 rfl)
  have Fn_is_positive : FnP K "is_positive" "is_positive" (stT 19) (ga K "is_positive") := fun_of (d := gD 19 "is_positive") (map_at (x := gD 19 "is_positive") hfun 3 rfl) (all_at (p := fun d : DefZ => okA K (d.path K) d.qual) (x := gD 19 "is_positive") a_fn 3 rfl)
  have gm_is_positive : mg "is_positive" = some (.ref (ga K "is_positive")) := He.glo_ok X G (all_at a_fg 3 rfl)
  have Fn_reduced : FnP K "reduced" "reduced" (stT 20) (ga K "reduced") := fun_of (d := gD 20 "reduced") (map_at (x := gD 20 "reduced") hfun 4 rfl) (all_at (p := fun d : DefZ => okA K (d.path K) d.qual) (x := gD 20 "reduced") a_fn 4 rfl)
  have gm_reduced : mg "reduced" = some (.ref (ga K "reduced")) := He.glo_ok X G (all_at a_fg 4 rfl)
  have Fn_plus : FnP K "plus" "plus" (stT 21) (ga K "plus") := fun_of (d := gD 21 "plus") (map_at (x := gD 21 "plus") hfun 5 rfl) (all_at (p := fun d : DefZ => okA K (d.path K) d.qual) (x := gD 21 "plus") a_fn 5 rfl)
  have gm_plus : mg "plus" = some (.ref (ga K "plus")) := He.glo_ok X G (all_at a_fg 5 rfl)
  have Fn_times : FnP K "times" "times" (stT 23) (ga K "times") := fun_of (d := gD 23 "times") (map_at (x := gD 23 "times") hfun 6 rfl) (all_at (p := fun d : DefZ => okA K (d.path K) d.qual) (x := gD 23 "times") a_fn 6 rfl)
  have gm_times : mg "times" = some (.ref (ga K "times")) := He.glo_ok X G (all_at a_fg 6 rfl)
  have Fn_over : FnP K "over" "over" (stT 24) (ga K "over") := fun_of (d := gD 24 "over") (map_at (x := gD 24 "over") hfun 7 rfl) (all_at (p := fun d : DefZ => okA K (d.path K) d.qual) (x := gD 24 "over") a_fn 7 rfl)
  have gm_over : mg "over" = some (.ref (ga K "over")) := He.glo_ok X G (all_at a_fg 7 rfl)
  have Fn_added : FnP K "added" "added" (stT 25) (ga K "added") := fun_of (d := gD 25 "added") (map_at (x := gD 25 "added") hfun 8 rfl) (all_at (p := fun d : DefZ => okA K (d.path K) d.qual) (x := gD 25 "added") a_fn 8 rfl)
  have gm_added : mg "added" = some (.ref (ga K "added")) := He.glo_ok X G (all_at a_fg 8 rfl)
  have Fn_shares : FnP K "shares" "shares" (stT 26) (ga K "shares") := fun_of (d := gD 26 "shares") (map_at (x := gD 26 "shares") hfun 9 rfl) (all_at (p := fun d : DefZ => okA K (d.path K) d.qual) (x := gD 26 "shares") a_fn 9 rfl)
  have gm_shares : mg "shares" = some (.ref (ga K "shares")) := He.glo_ok X G (all_at a_fg 9 rfl)
  have Fn_is_valid_labels : FnP K "is_valid_labels" "is_valid_labels" (stT 29) (ga K "is_valid_labels") := fun_of (d := gD 29 "is_valid_labels") (map_at (x := gD 29 "is_valid_labels") hfun 10 rfl) (all_at (p := fun d : DefZ => okA K (d.path K) d.qual) (x := gD 29 "is_valid_labels") a_fn 10 rfl)
  have gm_is_valid_labels : mg "is_valid_labels" = some (.ref (ga K "is_valid_labels")) := He.glo_ok X G (all_at a_fg 10 rfl)
  have Fn_is_valid_event : FnP K "is_valid_event" "is_valid_event" (stT 30) (ga K "is_valid_event") := fun_of (d := gD 30 "is_valid_event") (map_at (x := gD 30 "is_valid_event") hfun 11 rfl) (all_at (p := fun d : DefZ => okA K (d.path K) d.qual) (x := gD 30 "is_valid_event") a_fn 11 rfl)
  have gm_is_valid_event : mg "is_valid_event" = some (.ref (ga K "is_valid_event")) := He.glo_ok X G (all_at a_fg 11 rfl)
  have Fn_check_labels : FnP K "check_labels" "check_labels" (stT 31) (ga K "check_labels") := fun_of (d := gD 31 "check_labels") (map_at (x := gD 31 "check_labels") hfun 12 rfl) (all_at (p := fun d : DefZ => okA K (d.path K) d.qual) (x := gD 31 "check_labels") a_fn 12 rfl)
  have gm_check_labels : mg "check_labels" = some (.ref (ga K "check_labels")) := He.glo_ok X G (all_at a_fg 12 rfl)
  have Fn_grouped : FnP K "grouped" "grouped" (stT 32) (ga K "grouped") := fun_of (d := gD 32 "grouped") (map_at (x := gD 32 "grouped") hfun 13 rfl) (all_at (p := fun d : DefZ => okA K (d.path K) d.qual) (x := gD 32 "grouped") a_fn 13 rfl)
  have gm_grouped : mg "grouped" = some (.ref (ga K "grouped")) := He.glo_ok X G (all_at a_fg 13 rfl)
  have Fn_relabelled : FnP K "relabelled" "relabelled" (stT 33) (ga K "relabelled") := fun_of (d := gD 33 "relabelled") (map_at (x := gD 33 "relabelled") hfun 14 rfl) (all_at (p := fun d : DefZ => okA K (d.path K) d.qual) (x := gD 33 "relabelled") a_fn 14 rfl)
  have gm_relabelled : mg "relabelled" = some (.ref (ga K "relabelled")) := He.glo_ok X G (all_at a_fg 14 rfl)
  have Fn_check_partitions : FnP K "check_partitions" "check_partitions" (stT 34) (ga K "check_partitions") := fun_of (d := gD 34 "check_partitions") (map_at (x := gD 34 "check_partitions") hfun 15 rfl) (all_at (p := fun d : DefZ => okA K (d.path K) d.qual) (x := gD 34 "check_partitions") a_fn 15 rfl)
  have gm_check_partitions : mg "check_partitions" = some (.ref (ga K "check_partitions")) := He.glo_ok X G (all_at a_fg 15 rfl)
  have Fn_joined : FnP K "joined" "joined" (stT 35) (ga K "joined") := fun_of (d := gD 35 "joined") (map_at (x := gD 35 "joined") hfun 16 rfl) (all_at (p := fun d : DefZ => okA K (d.path K) d.qual) (x := gD 35 "joined") a_fn 16 rfl)
  have gm_joined : mg "joined" = some (.ref (ga K "joined")) := He.glo_ok X G (all_at a_fg 16 rfl)
  have Fn_are_odds : FnP K "are_odds" "are_odds" (stT 37) (ga K "are_odds") := fun_of (d := gD 37 "are_odds") (map_at (x := gD 37 "are_odds") hfun 17 rfl) (all_at (p := fun d : DefZ => okA K (d.path K) d.qual) (x := gD 37 "are_odds") a_fn 17 rfl)
  have gm_are_odds : mg "are_odds" = some (.ref (ga K "are_odds")) := He.glo_ok X G (all_at a_fg 17 rfl)
  have Fn_region_cases : FnP K "region_cases" "region_cases" (stT 41) (ga K "region_cases") := fun_of (d := gD 41 "region_cases") (map_at (x := gD 41 "region_cases") hfun 18 rfl) (all_at (p := fun d : DefZ => okA K (d.path K) d.qual) (x := gD 41 "region_cases") a_fn 18 rfl)
  have gm_region_cases : mg "region_cases" = some (.ref (ga K "region_cases")) := He.glo_ok X G (all_at a_fg 18 rfl)
  have Fn_present_parts : FnP K "present_parts" "present_parts" (stT 42) (ga K "present_parts") := fun_of (d := gD 42 "present_parts") (map_at (x := gD 42 "present_parts") hfun 19 rfl) (all_at (p := fun d : DefZ => okA K (d.path K) d.qual) (x := gD 42 "present_parts") a_fn 19 rfl)
  have gm_present_parts : mg "present_parts" = some (.ref (ga K "present_parts")) := He.glo_ok X G (all_at a_fg 19 rfl)
  have Fn_steps_from : FnP K "steps_from" "steps_from" (stT 43) (ga K "steps_from") := fun_of (d := gD 43 "steps_from") (map_at (x := gD 43 "steps_from") hfun 20 rfl) (all_at (p := fun d : DefZ => okA K (d.path K) d.qual) (x := gD 43 "steps_from") a_fn 20 rfl)
  have gm_steps_from : mg "steps_from" = some (.ref (ga K "steps_from")) := He.glo_ok X G (all_at a_fg 20 rfl)
  have Fn_spread : FnP K "spread" "spread" (stT 44) (ga K "spread") := fun_of (d := gD 44 "spread") (map_at (x := gD 44 "spread") hfun 21 rfl) (all_at (p := fun d : DefZ => okA K (d.path K) d.qual) (x := gD 44 "spread") a_fn 21 rfl)
  have gm_spread : mg "spread" = some (.ref (ga K "spread")) := He.glo_ok X G (all_at a_fg 21 rfl)
  have Fn_backwards : FnP K "backwards" "backwards" (stT 45) (ga K "backwards") := fun_of (d := gD 45 "backwards") (map_at (x := gD 45 "backwards") hfun 22 rfl) (all_at (p := fun d : DefZ => okA K (d.path K) d.qual) (x := gD 45 "backwards") a_fn 22 rfl)
  have gm_backwards : mg "backwards" = some (.ref (ga K "backwards")) := He.glo_ok X G (all_at a_fg 22 rfl)
  have Fn_contradiction : FnP K "contradiction" "contradiction" (stT 46) (ga K "contradiction") := fun_of (d := gD 46 "contradiction") (map_at (x := gD 46 "contradiction") hfun 23 rfl) (all_at (p := fun d : DefZ => okA K (d.path K) d.qual) (x := gD 46 "contradiction") a_fn 23 rfl)
  have gm_contradiction : mg "contradiction" = some (.ref (ga K "contradiction")) := He.glo_ok X G (all_at a_fg 23 rfl)
  have Fn_source : FnP K "source" "source" (stT 47) (ga K "source") := fun_of (d := gD 47 "source") (map_at (x := gD 47 "source") hfun 24 rfl) (all_at (p := fun d : DefZ => okA K (d.path K) d.qual) (x := gD 47 "source") a_fn 24 rfl)
  have gm_source : mg "source" = some (.ref (ga K "source")) := He.glo_ok X G (all_at a_fg 24 rfl)
  have Fn__law_cell : FnP K "_law_cell" "_law_cell" (stT 77) (ga K "_law_cell") := fun_of (d := gD 77 "_law_cell") (map_at (x := gD 77 "_law_cell") hfun 25 rfl) (all_at (p := fun d : DefZ => okA K (d.path K) d.qual) (x := gD 77 "_law_cell") a_fn 25 rfl)
  have gm__law_cell : mg "_law_cell" = some (.ref (ga K "_law_cell")) := He.glo_ok X G (all_at a_fg 25 rfl)
  have Fn__law_source : FnP K "_law_source" "_law_source" (stT 78) (ga K "_law_source") := fun_of (d := gD 78 "_law_source") (map_at (x := gD 78 "_law_source") hfun 26 rfl) (all_at (p := fun d : DefZ => okA K (d.path K) d.qual) (x := gD 78 "_law_source") a_fn 26 rfl)
  have gm__law_source : mg "_law_source" = some (.ref (ga K "_law_source")) := He.glo_ok X G (all_at a_fg 26 rfl)
  have Fn__law_draw : FnP K "_law_draw" "_law_draw" (stT 79) (ga K "_law_draw") := fun_of (d := gD 79 "_law_draw") (map_at (x := gD 79 "_law_draw") hfun 27 rfl) (all_at (p := fun d : DefZ => okA K (d.path K) d.qual) (x := gD 79 "_law_draw") a_fn 27 rfl)
  have gm__law_draw : mg "_law_draw" = some (.ref (ga K "_law_draw")) := He.glo_ok X G (all_at a_fg 27 rfl)
  have Fn__law_choose : FnP K "_law_choose" "_law_choose" (stT 80) (ga K "_law_choose") := fun_of (d := gD 80 "_law_choose") (map_at (x := gD 80 "_law_choose") hfun 28 rfl) (all_at (p := fun d : DefZ => okA K (d.path K) d.qual) (x := gD 80 "_law_choose") a_fn 28 rfl)
  have gm__law_choose : mg "_law_choose" = some (.ref (ga K "_law_choose")) := He.glo_ok X G (all_at a_fg 28 rfl)
  have Fn__law_is_equal : FnP K "_law_is_equal" "_law_is_equal" (stT 81) (ga K "_law_is_equal") := fun_of (d := gD 81 "_law_is_equal") (map_at (x := gD 81 "_law_is_equal") hfun 29 rfl) (all_at (p := fun d : DefZ => okA K (d.path K) d.qual) (x := gD 81 "_law_is_equal") a_fn 29 rfl)
  have gm__law_is_equal : mg "_law_is_equal" = some (.ref (ga K "_law_is_equal")) := He.glo_ok X G (all_at a_fg 29 rfl)
  have Fn__law_divisor : FnP K "_law_divisor" "_law_divisor" (stT 82) (ga K "_law_divisor") := fun_of (d := gD 82 "_law_divisor") (map_at (x := gD 82 "_law_divisor") hfun 30 rfl) (all_at (p := fun d : DefZ => okA K (d.path K) d.qual) (x := gD 82 "_law_divisor") a_fn 30 rfl)
  have gm__law_divisor : mg "_law_divisor" = some (.ref (ga K "_law_divisor")) := He.glo_ok X G (all_at a_fg 30 rfl)
  have Fn__law_fraction : FnP K "_law_fraction" "_law_fraction" (stT 83) (ga K "_law_fraction") := fun_of (d := gD 83 "_law_fraction") (map_at (x := gD 83 "_law_fraction") hfun 31 rfl) (all_at (p := fun d : DefZ => okA K (d.path K) d.qual) (x := gD 83 "_law_fraction") a_fn 31 rfl)
  have gm__law_fraction : mg "_law_fraction" = some (.ref (ga K "_law_fraction")) := He.glo_ok X G (all_at a_fg 31 rfl)
  have Fn__law_add : FnP K "_law_add" "_law_add" (stT 84) (ga K "_law_add") := fun_of (d := gD 84 "_law_add") (map_at (x := gD 84 "_law_add") hfun 32 rfl) (all_at (p := fun d : DefZ => okA K (d.path K) d.qual) (x := gD 84 "_law_add") a_fn 32 rfl)
  have gm__law_add : mg "_law_add" = some (.ref (ga K "_law_add")) := He.glo_ok X G (all_at a_fg 32 rfl)
  have Fn__law_over : FnP K "_law_over" "_law_over" (stT 85) (ga K "_law_over") := fun_of (d := gD 85 "_law_over") (map_at (x := gD 85 "_law_over") hfun 33 rfl) (all_at (p := fun d : DefZ => okA K (d.path K) d.qual) (x := gD 85 "_law_over") a_fn 33 rfl)
  have gm__law_over : mg "_law_over" = some (.ref (ga K "_law_over")) := He.glo_ok X G (all_at a_fg 33 rfl)
  have Fn__law_sum : FnP K "_law_sum" "_law_sum" (stT 86) (ga K "_law_sum") := fun_of (d := gD 86 "_law_sum") (map_at (x := gD 86 "_law_sum") hfun 34 rfl) (all_at (p := fun d : DefZ => okA K (d.path K) d.qual) (x := gD 86 "_law_sum") a_fn 34 rfl)
  have gm__law_sum : mg "_law_sum" = some (.ref (ga K "_law_sum")) := He.glo_ok X G (all_at a_fg 34 rfl)
  have Fn__law_labels : FnP K "_law_labels" "_law_labels" (stT 87) (ga K "_law_labels") := fun_of (d := gD 87 "_law_labels") (map_at (x := gD 87 "_law_labels") hfun 35 rfl) (all_at (p := fun d : DefZ => okA K (d.path K) d.qual) (x := gD 87 "_law_labels") a_fn 35 rfl)
  have gm__law_labels : mg "_law_labels" = some (.ref (ga K "_law_labels")) := He.glo_ok X G (all_at a_fg 35 rfl)
  have Fn__law_canonical : FnP K "_law_canonical" "_law_canonical" (stT 88) (ga K "_law_canonical") := fun_of (d := gD 88 "_law_canonical") (map_at (x := gD 88 "_law_canonical") hfun 36 rfl) (all_at (p := fun d : DefZ => okA K (d.path K) d.qual) (x := gD 88 "_law_canonical") a_fn 36 rfl)
  have gm__law_canonical : mg "_law_canonical" = some (.ref (ga K "_law_canonical")) := He.glo_ok X G (all_at a_fg 36 rfl)
  have Fn__law_odds : FnP K "_law_odds" "_law_odds" (stT 89) (ga K "_law_odds") := fun_of (d := gD 89 "_law_odds") (map_at (x := gD 89 "_law_odds") hfun 37 rfl) (all_at (p := fun d : DefZ => okA K (d.path K) d.qual) (x := gD 89 "_law_odds") a_fn 37 rfl)
  have gm__law_odds : mg "_law_odds" = some (.ref (ga K "_law_odds")) := He.glo_ok X G (all_at a_fg 37 rfl)
  have Fn__law_weights : FnP K "_law_weights" "_law_weights" (stT 90) (ga K "_law_weights") := fun_of (d := gD 90 "_law_weights") (map_at (x := gD 90 "_law_weights") hfun 38 rfl) (all_at (p := fun d : DefZ => okA K (d.path K) d.qual) (x := gD 90 "_law_weights") a_fn 38 rfl)
  have gm__law_weights : mg "_law_weights" = some (.ref (ga K "_law_weights")) := He.glo_ok X G (all_at a_fg 38 rfl)
  have Fn__law_ring : FnP K "_law_ring" "_law_ring" (stT 91) (ga K "_law_ring") := fun_of (d := gD 91 "_law_ring") (map_at (x := gD 91 "_law_ring") hfun 39 rfl) (all_at (p := fun d : DefZ => okA K (d.path K) d.qual) (x := gD 91 "_law_ring") a_fn 39 rfl)
  have gm__law_ring : mg "_law_ring" = some (.ref (ga K "_law_ring")) := He.glo_ok X G (all_at a_fg 39 rfl)
  have Fn__law_rows : FnP K "_law_rows" "_law_rows" (stT 92) (ga K "_law_rows") := fun_of (d := gD 92 "_law_rows") (map_at (x := gD 92 "_law_rows") hfun 40 rfl) (all_at (p := fun d : DefZ => okA K (d.path K) d.qual) (x := gD 92 "_law_rows") a_fn 40 rfl)
  have gm__law_rows : mg "_law_rows" = some (.ref (ga K "_law_rows")) := He.glo_ok X G (all_at a_fg 40 rfl)
  have Fn__law_room : FnP K "_law_room" "_law_room" (stT 93) (ga K "_law_room") := fun_of (d := gD 93 "_law_room") (map_at (x := gD 93 "_law_room") hfun 41 rfl) (all_at (p := fun d : DefZ => okA K (d.path K) d.qual) (x := gD 93 "_law_room") a_fn 41 rfl)
  have gm__law_room : mg "_law_room" = some (.ref (ga K "_law_room")) := He.glo_ok X G (all_at a_fg 41 rfl)
  have Fn__law_answers : FnP K "_law_answers" "_law_answers" (stT 94) (ga K "_law_answers") := fun_of (d := gD 94 "_law_answers") (map_at (x := gD 94 "_law_answers") hfun 42 rfl) (all_at (p := fun d : DefZ => okA K (d.path K) d.qual) (x := gD 94 "_law_answers") a_fn 42 rfl)
  have gm__law_answers : mg "_law_answers" = some (.ref (ga K "_law_answers")) := He.glo_ok X G (all_at a_fg 42 rfl)
  have Fn__law_kept : FnP K "_law_kept" "_law_kept" (stT 95) (ga K "_law_kept") := fun_of (d := gD 95 "_law_kept") (map_at (x := gD 95 "_law_kept") hfun 43 rfl) (all_at (p := fun d : DefZ => okA K (d.path K) d.qual) (x := gD 95 "_law_kept") a_fn 43 rfl)
  have gm__law_kept : mg "_law_kept" = some (.ref (ga K "_law_kept")) := He.glo_ok X G (all_at a_fg 43 rfl)
  have Fn__law_follows : FnP K "_law_follows" "_law_follows" (stT 96) (ga K "_law_follows") := fun_of (d := gD 96 "_law_follows") (map_at (x := gD 96 "_law_follows") hfun 44 rfl) (all_at (p := fun d : DefZ => okA K (d.path K) d.qual) (x := gD 96 "_law_follows") a_fn 44 rfl)
  have gm__law_follows : mg "_law_follows" = some (.ref (ga K "_law_follows")) := He.glo_ok X G (all_at a_fg 44 rfl)
  have Fn_law : FnP K "law" "law" (stT 97) (ga K "law") := fun_of (d := gD 97 "law") (map_at (x := gD 97 "law") hfun 45 rfl) (all_at (p := fun d : DefZ => okA K (d.path K) d.qual) (x := gD 97 "law") a_fn 45 rfl)
  have gm_law : mg "law" = some (.ref (ga K "law")) := He.glo_ok X G (all_at a_fg 45 rfl)
  have Fn_Observer_assign_odds : FnP K "assign_odds" "Observer.assign_odds" (stM 39 7) (ma K (ga K "Observer") "assign_odds") := fun_of (d := mD 39 7 "Observer" "assign_odds" "Observer.assign_odds") (map_at (x := mD 39 7 "Observer" "assign_odds" "Observer.assign_odds") hfun 46 rfl) (all_at (p := fun d : DefZ => okA K (d.path K) d.qual) (x := mD 39 7 "Observer" "assign_odds" "Observer.assign_odds") a_fn 46 rfl)
  have Fn_Observer___init__ : FnP K "__init__" "Observer.__init__" (stM 39 1) (ma K (ga K "Observer") "__init__") := fun_of (d := mD 39 1 "Observer" "__init__" "Observer.__init__") (map_at (x := mD 39 1 "Observer" "__init__" "Observer.__init__") hfun 47 rfl) (all_at (p := fun d : DefZ => okA K (d.path K) d.qual) (x := mD 39 1 "Observer" "__init__" "Observer.__init__") a_fn 47 rfl)
  have Fn_Observer_labels : FnP K "labels" "Observer.labels" (stM 39 3) (gAt K "Observer" "labels") := fun_of (d := pD 39 3 "Observer" "labels" "Observer.labels") (map_at (x := pD 39 3 "Observer" "labels" "Observer.labels") hfun 48 rfl) (all_at (p := fun d : DefZ => okA K (d.path K) d.qual) (x := pD 39 3 "Observer" "labels" "Observer.labels") a_fn 48 rfl)
  have Fn_Observer_odds : FnP K "odds" "Observer.odds" (stM 39 5) (gAt K "Observer" "odds") := fun_of (d := pD 39 5 "Observer" "odds" "Observer.odds") (map_at (x := pD 39 5 "Observer" "odds" "Observer.odds") hfun 49 rfl) (all_at (p := fun d : DefZ => okA K (d.path K) d.qual) (x := pD 39 5 "Observer" "odds" "Observer.odds") a_fn 49 rfl)
  have Fn_Presence___init__ : FnP K "__init__" "Presence.__init__" (stM 74 0) (ma K (ga K "Presence") "__init__") := fun_of (d := mD 74 0 "Presence" "__init__" "Presence.__init__") (map_at (x := mD 74 0 "Presence" "__init__" "Presence.__init__") hfun 50 rfl) (all_at (p := fun d : DefZ => okA K (d.path K) d.qual) (x := mD 74 0 "Presence" "__init__" "Presence.__init__") a_fn 50 rfl)
  have Fn_Presence___enter__ : FnP K "__enter__" "Presence.__enter__" (stM 74 1) (ma K (ga K "Presence") "__enter__") := fun_of (d := mD 74 1 "Presence" "__enter__" "Presence.__enter__") (map_at (x := mD 74 1 "Presence" "__enter__" "Presence.__enter__") hfun 51 rfl) (all_at (p := fun d : DefZ => okA K (d.path K) d.qual) (x := mD 74 1 "Presence" "__enter__" "Presence.__enter__") a_fn 51 rfl)
  have Fn_Presence___exit__ : FnP K "__exit__" "Presence.__exit__" (stM 74 2) (ma K (ga K "Presence") "__exit__") := fun_of (d := mD 74 2 "Presence" "__exit__" "Presence.__exit__") (map_at (x := mD 74 2 "Presence" "__exit__" "Presence.__exit__") hfun 52 rfl) (all_at (p := fun d : DefZ => okA K (d.path K) d.qual) (x := mD 74 2 "Presence" "__exit__" "Presence.__exit__") a_fn 52 rfl)
  have Fn_Room___init__ : FnP K "__init__" "Room.__init__" (stM 75 1) (ma K (ga K "Room") "__init__") := fun_of (d := mD 75 1 "Room" "__init__" "Room.__init__") (map_at (x := mD 75 1 "Room" "__init__" "Room.__init__") hfun 53 rfl) (all_at (p := fun d : DefZ => okA K (d.path K) d.qual) (x := mD 75 1 "Room" "__init__" "Room.__init__") a_fn 53 rfl)
  have Fn_Room_observers : FnP K "observers" "Room.observers" (stM 75 4) (gAt K "Room" "observers") := fun_of (d := pD 75 4 "Room" "observers" "Room.observers") (map_at (x := pD 75 4 "Room" "observers" "Room.observers") hfun 54 rfl) (all_at (p := fun d : DefZ => okA K (d.path K) d.qual) (x := pD 75 4 "Room" "observers" "Room.observers") a_fn 54 rfl)
  have Fn_Room_cases : FnP K "cases" "Room.cases" (stM 75 5) (gAt K "Room" "cases") := fun_of (d := pD 75 5 "Room" "cases" "Room.cases") (map_at (x := pD 75 5 "Room" "cases" "Room.cases") hfun 55 rfl) (all_at (p := fun d : DefZ => okA K (d.path K) d.qual) (x := pD 75 5 "Room" "cases" "Room.cases") a_fn 55 rfl)
  have Fn_Room_cases_set : FnP K "cases" "Room.cases" (stM 75 6) (sAt K "Room" "cases") := fun_of (d := sD 75 6 "Room" "cases" "Room.cases") (map_at (x := sD 75 6 "Room" "cases" "Room.cases") hfun 56 rfl) (all_at (p := fun d : DefZ => okA K (d.path K) d.qual) (x := sD 75 6 "Room" "cases" "Room.cases") a_fn 56 rfl)
  have Fn_Room_assign_cases : FnP K "assign_cases" "Room.assign_cases" (stM 75 7) (ma K (ga K "Room") "assign_cases") := fun_of (d := mD 75 7 "Room" "assign_cases" "Room.assign_cases") (map_at (x := mD 75 7 "Room" "assign_cases" "Room.assign_cases") hfun 57 rfl) (all_at (p := fun d : DefZ => okA K (d.path K) d.qual) (x := mD 75 7 "Room" "assign_cases" "Room.assign_cases") a_fn 57 rfl)
  have Fn_Room_check_group : FnP K "check_group" "Room.check_group" (stM 75 10) (ma K (ga K "Room") "check_group") := fun_of (d := mD 75 10 "Room" "check_group" "Room.check_group") (map_at (x := mD 75 10 "Room" "check_group" "Room.check_group") hfun 58 rfl) (all_at (p := fun d : DefZ => okA K (d.path K) d.qual) (x := mD 75 10 "Room" "check_group" "Room.check_group") a_fn 58 rfl)
  have Fn_Room_present_odds : FnP K "present_odds" "Room.present_odds" (stM 75 9) (ma K (ga K "Room") "present_odds") := fun_of (d := mD 75 9 "Room" "present_odds" "Room.present_odds") (map_at (x := mD 75 9 "Room" "present_odds" "Room.present_odds") hfun 59 rfl) (all_at (p := fun d : DefZ => okA K (d.path K) d.qual) (x := mD 75 9 "Room" "present_odds" "Room.present_odds") a_fn 59 rfl)
  have Fn_Room_regions : FnP K "regions" "Room.regions" (stM 75 8) (gAt K "Room" "regions") := fun_of (d := pD 75 8 "Room" "regions" "Room.regions") (map_at (x := pD 75 8 "Room" "regions" "Room.regions") hfun 60 rfl) (all_at (p := fun d : DefZ => okA K (d.path K) d.qual) (x := pD 75 8 "Room" "regions" "Room.regions") a_fn 60 rfl)
  have Fn_Room_answer : FnP K "answer" "Room.answer" (stM 75 14) (ma K (ga K "Room") "answer") := fun_of (d := mD 75 14 "Room" "answer" "Room.answer") (map_at (x := mD 75 14 "Room" "answer" "Room.answer") hfun 61 rfl) (all_at (p := fun d : DefZ => okA K (d.path K) d.qual) (x := mD 75 14 "Room" "answer" "Room.answer") a_fn 61 rfl)
  have Fn_Room_supposed : FnP K "supposed" "Room.supposed" (stM 75 13) (ma K (ga K "Room") "supposed") := fun_of (d := mD 75 13 "Room" "supposed" "Room.supposed") (map_at (x := mD 75 13 "Room" "supposed" "Room.supposed") hfun 62 rfl) (all_at (p := fun d : DefZ => okA K (d.path K) d.qual) (x := mD 75 13 "Room" "supposed" "Room.supposed") a_fn 62 rfl)
  have c_is_integer := d_is_integer (P := P) (base := base) (CO := ga K "Observer") (CP := ga K "Presence") (CR := ga K "Room") bi gMC gCO gQ kq gm_is_integer Fn_is_integer
  have c_greatest_divisor := d_greatest_divisor (P := P) (base := base) (CO := ga K "Observer") (CP := ga K "Presence") (CR := ga K "Room") bi gMC gCO gQ kq gm_greatest_divisor Fn_greatest_divisor
  have c_is_valid_fraction := d_is_valid_fraction (P := P) (base := base) (CO := ga K "Observer") (CP := ga K "Presence") (CR := ga K "Room") bi gMC gCO gQ kq c_is_integer c_greatest_divisor gm_is_valid_fraction Fn_is_valid_fraction
  have c_is_positive := d_is_positive (P := P) (base := base) (CO := ga K "Observer") (CP := ga K "Presence") (CR := ga K "Room") bi gMC gCO gQ kq c_is_valid_fraction gm_is_positive Fn_is_positive
  have c_reduced := d_reduced (P := P) (base := base) (CO := ga K "Observer") (CP := ga K "Presence") (CR := ga K "Room") bi gMC gCO gQ kq c_greatest_divisor gm_reduced Fn_reduced
  have c_plus := d_plus (P := P) (base := base) (CO := ga K "Observer") (CP := ga K "Presence") (CR := ga K "Room") bi gMC gCO gQ kq c_reduced gm_plus Fn_plus
  have c_times := d_times (P := P) (base := base) (CO := ga K "Observer") (CP := ga K "Presence") (CR := ga K "Room") bi gMC gCO gQ kq c_reduced gm_times Fn_times
  have c_over := d_over (P := P) (base := base) (CO := ga K "Observer") (CP := ga K "Presence") (CR := ga K "Room") bi gMC gCO gQ kq c_reduced gm_over Fn_over
  have c_added := d_added (P := P) (base := base) (CO := ga K "Observer") (CP := ga K "Presence") (CR := ga K "Room") bi gMC gCO gQ kq c_plus gm_added Fn_added
  have c_shares := d_shares (P := P) (base := base) (CO := ga K "Observer") (CP := ga K "Presence") (CR := ga K "Room") bi gMC gCO gQ kq c_added c_over gm_shares Fn_shares
  have c_is_valid_labels := d_is_valid_labels (P := P) (base := base) (CO := ga K "Observer") (CP := ga K "Presence") (CR := ga K "Room") bi gMC gCO gQ kq c_is_integer gm_is_valid_labels Fn_is_valid_labels
  have c_is_valid_event := d_is_valid_event (P := P) (base := base) (CO := ga K "Observer") (CP := ga K "Presence") (CR := ga K "Room") bi gMC gCO gQ kq c_is_integer gm_is_valid_event Fn_is_valid_event
  have c_check_labels := d_check_labels (P := P) (base := base) (CO := ga K "Observer") (CP := ga K "Presence") (CR := ga K "Room") bi gMC gCO gQ kq c_is_valid_labels gm_check_labels Fn_check_labels
  have c_grouped := d_grouped (P := P) (base := base) (CO := ga K "Observer") (CP := ga K "Presence") (CR := ga K "Room") bi gMC gCO gQ kq gm_grouped Fn_grouped
  have c_relabelled := d_relabelled (P := P) (base := base) (CO := ga K "Observer") (CP := ga K "Presence") (CR := ga K "Room") bi gMC gCO gQ kq gm_relabelled Fn_relabelled
  have c_check_partitions := d_check_partitions (P := P) (base := base) (CO := ga K "Observer") (CP := ga K "Presence") (CR := ga K "Room") bi gMC gCO gQ kq c_check_labels gm_check_partitions Fn_check_partitions
  have r_joined := fn_joined (P := P) (base := base) (CO := ga K "Observer") (CP := ga K "Presence") (CR := ga K "Room") bi gMC gCO gQ kq c_check_partitions c_grouped c_relabelled Fn_joined
  have c_joined : DefR P w K mg base 5 "joined" (Pm K F_joinedS) := ⟨_, gm_joined, keep_of Fn_joined, r_joined⟩
  have c_are_odds := d_are_odds (P := P) (base := base) (CO := ga K "Observer") (CP := ga K "Presence") (CR := ga K "Room") bi gMC gCO gQ kq c_is_positive c_added c_grouped gm_are_odds Fn_are_odds
  have r_Observer_assign_odds := fn_Observer_assign_odds (P := P) (base := base) (CO := ga K "Observer") (CP := ga K "Presence") (CR := ga K "Room") bi gMC gCO gQ kq hCO na_ol na_op na_oo c_are_odds Fn_Observer_assign_odds
  have c_m_assign_odds : MetR P w K mg base 6 (ga K "Observer") "assign_odds" (Pm K (F_Observer_assign_odds (ga K "Observer"))) := ⟨_, hCO, me_assign_odds, r_Observer_assign_odds⟩
  have r_Observer___init__ := fn_Observer___init__ (P := P) (base := base) (CO := ga K "Observer") (CP := ga K "Presence") (CR := ga K "Room") bi gMC gCO gQ kq hCO na_ol na_op na_oo c_check_labels c_grouped c_m_assign_odds Fn_Observer___init__
  have c_new_Observer : MakR P w K mg base 7 (ga K "Observer") "Observer" (Pm K (F_Observer___init__ (ga K "Observer"))) := ⟨_, mk_Observer, gCO, r_Observer___init__⟩
  have c_get_labels := pr_Observer_labels (P := P) (base := base) (CO := ga K "Observer") (CP := ga K "Presence") (CR := ga K "Room") bi gMC gCO gQ kq hCO na_ol na_op na_oo hCO hp_Observer_labels Fn_Observer_labels
  have c_get_odds := pr_Observer_odds (P := P) (base := base) (CO := ga K "Observer") (CP := ga K "Presence") (CR := ga K "Room") bi gMC gCO gQ kq hCO na_ol na_op na_oo hCO hp_Observer_odds Fn_Observer_odds
  have r_Presence___init__ := fn_Presence___init__ (P := P) (base := base) (CO := ga K "Observer") (CP := ga K "Presence") (CR := ga K "Room") bi gMC gCO gQ kq hCP na_k na_b Fn_Presence___init__
  have c_new_Presence : MakR P w K mg base 1 (ga K "Presence") "Presence" (Pm K (F_Presence___init__ (ga K "Presence"))) := ⟨_, mk_Presence, gCP, r_Presence___init__⟩
  have r_Presence___enter__ := fn_Presence___enter__ (P := P) (base := base) (CO := ga K "Observer") (CP := ga K "Presence") (CR := ga K "Room") bi gMC gCO gQ kq hCP na_k na_b Fn_Presence___enter__
  have r_Presence___exit__ := fn_Presence___exit__ (P := P) (base := base) (CO := ga K "Observer") (CP := ga K "Presence") (CR := ga K "Room") bi gMC gCO gQ kq hCP na_k na_b Fn_Presence___exit__
  have c_with : WthR P w K mg base 1 (ga K "Presence") (Pm K (F_Presence___enter__ (ga K "Presence"))) (Pm K (F_Presence___exit__ (ga K "Presence"))) := ⟨_, _, me___enter__.at_, me___enter__.fn, me___exit__.at_, me___exit__.fn, r_Presence___enter__, r_Presence___exit__⟩
  have r_Room___init__ := fn_Room___init__ (P := P) (base := base) (CO := ga K "Observer") (CP := ga K "Presence") (CR := ga K "Room") bi gMC gCO gQ kq hCO na_ol na_op na_oo hCP na_k na_b hCR na_w na_s na_p con hIO c_get_labels c_new_Presence Fn_Room___init__
  have c_new_Room : MakR P w K mg base 3 (ga K "Room") "Room" (Pm K (F_Room___init__S (ga K "Observer") (ga K "Presence") (ga K "Room"))) := ⟨_, mk_Room, gCR, r_Room___init__⟩
  have c_get_observers := pr_Room_observers (P := P) (base := base) (CO := ga K "Observer") (CP := ga K "Presence") (CR := ga K "Room") bi gMC gCO gQ kq hCO na_ol na_op na_oo hCP na_k na_b hCR na_w na_s na_p hCR hp_Room_observers Fn_Room_observers
  have c_get_cases := pr_Room_cases (P := P) (base := base) (CO := ga K "Observer") (CP := ga K "Presence") (CR := ga K "Room") bi gMC gCO gQ kq hCO na_ol na_op na_oo hCP na_k na_b hCR na_w na_s na_p hCR hp_Room_cases Fn_Room_cases
  have r_Room_cases_set := fn_Room_cases_set (P := P) (base := base) (CO := ga K "Observer") (CP := ga K "Presence") (CR := ga K "Room") bi gMC gCO gQ kq hCO na_ol na_op na_oo hCP na_k na_b hCR na_w na_s na_p c_is_valid_event Fn_Room_cases_set
  have c_set_cases : StrR P w K mg base 3 (ga K "Room") "cases" (Pm K (F_Room_cases_set (ga K "Observer") (ga K "Presence") (ga K "Room"))) := ⟨_, so, r_Room_cases_set⟩
  have r_Room_assign_cases := fn_Room_assign_cases (P := P) (base := base) (CO := ga K "Observer") (CP := ga K "Presence") (CR := ga K "Room") bi gMC gCO gQ kq hCO na_ol na_op na_oo hCP na_k na_b hCR na_w na_s na_p c_set_cases Fn_Room_assign_cases
  have c_m_assign_cases : MetR P w K mg base 6 (ga K "Room") "assign_cases" (Pm K (F_Room_assign_cases (ga K "Observer") (ga K "Presence") (ga K "Room"))) := ⟨_, hCR, me_assign_cases, r_Room_assign_cases⟩
  have r_Room_check_group := fn_Room_check_group (P := P) (base := base) (CO := ga K "Observer") (CP := ga K "Presence") (CR := ga K "Room") bi gMC gCO gQ kq hCO na_ol na_op na_oo hCP na_k na_b hCR na_w na_s na_p c_is_integer Fn_Room_check_group
  have c_m_check_group : MetR P w K mg base 2 (ga K "Room") "check_group" (Pm K (F_Room_check_group (ga K "Observer") (ga K "Presence") (ga K "Room"))) := ⟨_, hCR, me_check_group, r_Room_check_group⟩
  have r_Room_present_odds := fn_Room_present_odds (P := P) (base := base) (CO := ga K "Observer") (CP := ga K "Presence") (CR := ga K "Room") bi gMC gCO gQ kq hCO na_ol na_op na_oo hCP na_k na_b hCR na_w na_s na_p c_m_check_group c_get_labels c_get_odds c_over c_added Fn_Room_present_odds
  have c_m_present_odds : MetR P w K mg base 5 (ga K "Room") "present_odds" (Pm K (F_Room_present_odds (ga K "Observer") (ga K "Presence") (ga K "Room"))) := ⟨_, hCR, me_present_odds, r_Room_present_odds⟩
  have fn_present_odds := r_Room_present_odds
  have c_get_regions := pr_Room_regions (P := P) (base := base) (CO := ga K "Observer") (CP := ga K "Presence") (CR := ga K "Room") bi gMC gCO gQ kq hCO na_ol na_op na_oo hCP na_k na_b hCR na_w na_s na_p c_get_labels c_relabelled c_grouped c_joined hCR hp_Room_regions Fn_Room_regions
  have r_Room_answer := fn_Room_answer (P := P) (base := base) (CO := ga K "Observer") (CP := ga K "Presence") (CR := ga K "Room") bi gMC gCO gQ kq hCO na_ol na_op na_oo hCP na_k na_b hCR na_w na_s na_p c_get_cases c_get_regions cls_present_odds bm_present_odds fn_present_odds Fn_Room_answer
  have c_m_answer : MetR P w K mg base 10 (ga K "Room") "answer" (Pm K (F_Room_answer (ga K "Observer") (ga K "Presence") (ga K "Room"))) := ⟨_, hCR, me_answer, r_Room_answer⟩
  have r_Room_supposed := fn_Room_supposed (P := P) (base := base) (CO := ga K "Observer") (CP := ga K "Presence") (CR := ga K "Room") bi gMC gCO gQ kq hCO na_ol na_op na_oo hCP na_k na_b hCR na_w na_s na_p kd c_is_valid_event c_with c_m_answer Fn_Room_supposed
  have c_m_supposed : MetR P w K mg base 11 (ga K "Room") "supposed" (Pm K (F_Room_supposedS (ga K "Observer") (ga K "Presence") (ga K "Room"))) := ⟨_, hCR, me_supposed, r_Room_supposed⟩
  have c_region_cases := d_region_cases (P := P) (base := base) (CO := ga K "Observer") (CP := ga K "Presence") (CR := ga K "Room") bi gMC gCO gQ kq hCO na_ol na_op na_oo hCP na_k na_b hCR na_w na_s na_p c_get_regions c_is_integer gm_region_cases Fn_region_cases
  have c_present_parts := d_present_parts (P := P) (base := base) (CO := ga K "Observer") (CP := ga K "Presence") (CR := ga K "Room") bi gMC gCO gQ kq hCO na_ol na_op na_oo hCP na_k na_b hCR na_w na_s na_p c_get_cases c_get_observers c_m_present_odds c_get_labels c_grouped c_relabelled gm_present_parts Fn_present_parts
  have c_steps_from := d_steps_from (P := P) (base := base) (CO := ga K "Observer") (CP := ga K "Presence") (CR := ga K "Room") bi gMC gCO gQ kq c_over gm_steps_from Fn_steps_from
  have c_backwards := d_backwards (P := P) (base := base) (CO := ga K "Observer") (CP := ga K "Presence") (CR := ga K "Room") bi gMC gCO gQ kq gm_backwards Fn_backwards
  have c_spread := d_spread (P := P) (base := base) (CO := ga K "Observer") (CP := ga K "Presence") (CR := ga K "Room") bi gMC gCO gQ kq c_steps_from c_times gm_spread Fn_spread
  have c_contradiction := d_contradiction (P := P) (base := base) (CO := ga K "Observer") (CP := ga K "Presence") (CR := ga K "Room") bi gMC gCO gQ kq c_times c_over c_backwards gm_contradiction Fn_contradiction
  have c_source := d_source (P := P) (base := base) (CO := ga K "Observer") (CP := ga K "Presence") (CR := ga K "Room") bi gMC gCO gQ kq hCO na_ol na_op na_oo hCP na_k na_b hCR na_w na_s na_p c_region_cases c_present_parts c_spread c_contradiction c_shares gm_source Fn_source
  have c__law_cell := d__law_cell (P := P) (base := base) (CO := ga K "Observer") (CP := ga K "Presence") (CR := ga K "Room") bi gMC gCO gQ kq gm__law_cell Fn__law_cell
  have c__law_source := d__law_source (P := P) (base := base) (CO := ga K "Observer") (CP := ga K "Presence") (CR := ga K "Room") bi gMC gCO gQ kq gm__law_source Fn__law_source
  have c__law_draw := d__law_draw (P := P) (base := base) (CO := ga K "Observer") (CP := ga K "Presence") (CR := ga K "Room") bi gMC gCO gQ kq gm__law_draw Fn__law_draw
  have c__law_choose := d__law_choose (P := P) (base := base) (CO := ga K "Observer") (CP := ga K "Presence") (CR := ga K "Room") bi gMC gCO gQ kq c__law_draw gm__law_choose Fn__law_choose
  have c__law_divisor := d__law_divisor (P := P) (base := base) (CO := ga K "Observer") (CP := ga K "Presence") (CR := ga K "Room") bi gMC gCO gQ kq gm__law_divisor Fn__law_divisor
  have c__law_fraction := d__law_fraction (P := P) (base := base) (CO := ga K "Observer") (CP := ga K "Presence") (CR := ga K "Room") bi gMC gCO gQ kq c__law_divisor gm__law_fraction Fn__law_fraction
  have c__law_add := d__law_add (P := P) (base := base) (CO := ga K "Observer") (CP := ga K "Presence") (CR := ga K "Room") bi gMC gCO gQ kq c__law_fraction gm__law_add Fn__law_add
  have c__law_over := d__law_over (P := P) (base := base) (CO := ga K "Observer") (CP := ga K "Presence") (CR := ga K "Room") bi gMC gCO gQ kq c__law_fraction gm__law_over Fn__law_over
  have c__law_sum := d__law_sum (P := P) (base := base) (CO := ga K "Observer") (CP := ga K "Presence") (CR := ga K "Room") bi gMC gCO gQ kq c__law_add gm__law_sum Fn__law_sum
  have c__law_canonical := d__law_canonical (P := P) (base := base) (CO := ga K "Observer") (CP := ga K "Presence") (CR := ga K "Room") bi gMC gCO gQ kq gm__law_canonical Fn__law_canonical
  have c__law_labels := d__law_labels (P := P) (base := base) (CO := ga K "Observer") (CP := ga K "Presence") (CR := ga K "Room") bi gMC gCO gQ kq c__law_draw gm__law_labels Fn__law_labels
  have c__law_odds := d__law_odds (P := P) (base := base) (CO := ga K "Observer") (CP := ga K "Presence") (CR := ga K "Room") bi gMC gCO gQ kq c__law_fraction gm__law_odds Fn__law_odds
  have c__law_weights := d__law_weights (P := P) (base := base) (CO := ga K "Observer") (CP := ga K "Presence") (CR := ga K "Room") bi gMC gCO gQ kq c__law_choose c__law_draw gm__law_weights Fn__law_weights
  have c__law_ring := d__law_ring (P := P) (base := base) (CO := ga K "Observer") (CP := ga K "Presence") (CR := ga K "Room") bi gMC gCO gQ kq c__law_canonical gm__law_ring Fn__law_ring
  have c__law_rows := d__law_rows (P := P) (base := base) (CO := ga K "Observer") (CP := ga K "Presence") (CR := ga K "Room") bi gMC gCO gQ kq c__law_draw c__law_weights c__law_labels c__law_choose c__law_canonical c__law_ring c__law_odds gm__law_rows Fn__law_rows
  have c__law_room := d__law_room (P := P) (base := base) (CO := ga K "Observer") (CP := ga K "Presence") (CR := ga K "Room") bi gMC gCO gQ kq hCO na_ol na_op na_oo hCP na_k na_b hCR na_w na_s na_p hne c_new_Observer c_new_Room gm__law_room Fn__law_room
  have c__law_answers := d__law_answers (P := P) (base := base) (CO := ga K "Observer") (CP := ga K "Presence") (CR := ga K "Room") bi gMC gCO gQ kq hCO na_ol na_op na_oo hCP na_k na_b hCR na_w na_s na_p c_m_supposed gm__law_answers Fn__law_answers
  have c__law_kept := d__law_kept (P := P) (base := base) (CO := ga K "Observer") (CP := ga K "Presence") (CR := ga K "Room") bi gMC gCO gQ kq c__law_sum c__law_over gm__law_kept Fn__law_kept
  have c__law_is_equal := d__law_is_equal (P := P) (base := base) (CO := ga K "Observer") (CP := ga K "Presence") (CR := ga K "Room") bi gMC gCO gQ kq gm__law_is_equal Fn__law_is_equal
  have c__law_follows := d__law_follows (P := P) (base := base) (CO := ga K "Observer") (CP := ga K "Presence") (CR := ga K "Room") bi gMC gCO gQ kq hCO na_ol na_op na_oo hCP na_k na_b hCR na_w na_s na_p c_get_regions c__law_is_equal c_source c__law_kept gm__law_follows Fn__law_follows
  have c_law := d_law (P := P) (base := base) (CO := ga K "Observer") (CP := ga K "Presence") (CR := ga K "Room") bi gMC gCO gQ kq hCO na_ol na_op na_oo hCP na_k na_b hCR na_w na_s na_p c__law_source c__law_cell c__law_rows c__law_room c__law_draw c__law_answers c__law_is_equal c_get_cases c_get_regions c_source c_m_assign_cases c__law_follows gm_law Fn_law
  obtain ⟨f, h1, h2, h3⟩ := c_law.ex
  have e : f = ga K "law" := by
    have q := h1.symm.trans gm_law
    cases q
    rfl
  subst e
  exact ⟨gm_law, h3⟩
theorem ask_law {K : PySem.W.Frag} {CO CP CR a : Addr} {ns : List Int} {H : Hp} (hS : SqF K H a (ns.map V.int)) : Pm K (F_law CO CP CR) [.ref a] H (fun v _ => v = .bl true) fun _ _ _ => False :=
  ⟨H, [.scr ns], [], fun d _ => d = .bl true, .cons (.scr hS) .nil, ⟨fun _ _ h => h, fun _ hc => absurd hc List.not_mem_nil, fun _ hc => absurd hc List.not_mem_nil, List.nodup_nil⟩, ⟨ns, rfl, rfl, rfl⟩, fun d M' v H' q t tv m' => by
    subst q
    cases tv
    rfl⟩
end Zf
open PySem PySem.W PySem.Calls PyProof.Rows
theorem PySem.Challenge.cw_wagerroom_k73_whole_suppositions_in_turn_holds : PySem.Challenge.rw_wagerroom_k73_whole_suppositions_in_turn.Holds := by
  w_on; o_law
  refine HandSHeadRun.head_any (r := Zh.R) (q := Zh.qvw) (H := Zh.hk) (ob := Zh.ob) (M := 8000) (loose := Zh.names) (d := HandSHeadRun.topDef Zh.R.prog 97) (kwd := []) Zh.ob_eq
    (by kernel_rfl) (fun s => by kernel_rfl) Zh.run (by kernel_rfl) (by kernel_rfl) (by kernel_rfl) (by rfl) (by first | assumption | decide +kernel) (by decide +kernel) ⟨rfl, rfl, rfl, rfl, rfl, by decide +kernel⟩ ?hw ?hc
  case hw => w_witness2
  case hc =>
    refine Att.attach_call (l := PySem.Challenge.rw_wagerroom_k73_whole_suppositions_in_turn) (n := 63) rfl (by kernel_rfl) fun w s₀ s₁ mg mb fa o pm cd doc a vs ns G Y ho hd hcd hmg0 hobj hnts hlen hg => ?_
    obtain ⟨K, KX, c⟩ := Y
    have hmg : mg ("law" : PySem.Str) = some (.ref fa) := by
      have e : (HandSHeadRun.topDef Zh.R.prog 97).name = ("law" : PySem.Str) := by kernel_rfl
      rw [← e]
      exact hmg0
    have e : fa = He.ga K "law" := by
      have q := hmg.symm.trans (Zf.law_keeps (P := Zh.R.prog) (base := s₁.heap) KX G.T.g c).1
      cases q
      rfl
    subst e
    exact Zy.endG KX G.T.g G.T.b G.T.builtins G.T.nolimit hg hobj hnts (Nat.le_trans hlen (by decide)) ⟨rfl, by decide, by decide⟩ (fun base _ _ => (Zf.law_keeps KX G.T.g c).2) fun H hS => Zf.ask_law hS
