import PyProof.Rows.All
import Wide.All
import OpenK.AllK
import Wide.FinOn
import KE.KStateDown
import Lean
import HandS.ForMost
import HandS.Exc
import HandS.WordsExc
import HandS.Defaults
import HandS.Head0
import HandS.Head1
import HandS.Head2
import HandS.HeadEnd
import HandS.HeadHook1
import HandS.HeadHook2
import HandS.IsInst
import HandS.Walk
import HandS.Wide
import HandS.Conv
import HandS.DictComp
import KE.KDictKeyed
import KE.KDictDisplayH
import HandS.TupLen
import HandS.SetKeys
import HandS.Zip
import KE.SortData
import KE.KDictZip
import HandS.SetTxt0
import HandS.Set
import HandS.SetFor
import HandS.Strs
import KE.GoesMore
import PyProof.EnumMake
import HandS.Rev
import HandS.OwnIter
import KE.SortLaws
import HandS.Deep
import HandS.Style
import HandS.Ends
import PyProof.ReprRoads
import PyProof.ReprLen
import PyProof.Rows.RegFStrParts
import PySem.Challenge.RW_sleepmany_k87_whole_fewest_calls
set_option Elab.async false
set_option linter.all false
set_option maxRecDepth 100000
/-! The text by places. -/
namespace L2.K87
open PySem PySem.Spec PyProof.Rows
def top (i : Nat) : Stmt := PySem.Challenge.pw_sleepmany_k87_whole_fewest_calls.main.body.getD i (.Pass ⟨0, 0, 0, 0⟩)
abbrev FnP (K : PySem.W.Frag) (x qual : Str) (st : Stmt) (kws : List (Str × V)) (f : Addr) (fd : FuncData) : Prop := FunD K x qual (defArgs st) (defBody st) (defScope st) [] kws f fd
abbrev sbeat : Stmt := top 1
abbrev swith_calls : Stmt := top 2
abbrev scalled : Stmt := top 3
abbrev sis_whole : Stmt := top 13
abbrev sis_between : Stmt := top 14
abbrev sis_name : Stmt := top 15
abbrev sis_length : Stmt := top 16
abbrev sgroups_of : Stmt := top 18
abbrev sis_standing : Stmt := top 20
abbrev smeets : Stmt := top 22
abbrev slot_of : Stmt := top 23
abbrev scosts_of : Stmt := top 24
abbrev stold_prices : Stmt := top 25
abbrev sprices : Stmt := top 26
abbrev sfewest : Stmt := top 27
abbrev sis_priced : Stmt := top 28
abbrev sis_bounded : Stmt := top 29
abbrev sis_fair : Stmt := top 30
abbrev sBookinit : Stmt := inClass (top 32) 0
abbrev sBooklengths : Stmt := inClass (top 32) 1
abbrev sBooksleep : Stmt := inClass (top 32) 2
abbrev sBooklen : Stmt := inClass (top 32) 3
abbrev sLbag : Stmt := top 34
abbrev sLtake : Stmt := top 35
abbrev sLnames : Stmt := top 36
abbrev sLspans : Stmt := top 37
abbrev sLrests : Stmt := top 38
abbrev sLhall : Stmt := top 39
abbrev sLstand : Stmt := top 40
abbrev sLafter : Stmt := top 41
abbrev sLcalled : Stmt := top 42
abbrev sLstrokes : Stmt := top 43
abbrev sLmeets : Stmt := top 44
abbrev sLwish : Stmt := top 45
abbrev sLwished : Stmt := top 46
abbrev sLlot : Stmt := top 47
abbrev sLcosts : Stmt := top 48
abbrev sLfirst_row : Stmt := top 49
abbrev sLnever_right : Stmt := top 50
abbrev sLno_less : Stmt := top 51
abbrev sLright : Stmt := top 52
abbrev slaw : Stmt := top 53
end L2.K87
set_option Elab.async false
set_option linter.all false
set_option maxRecDepth 100000
set_option maxHeartbeats 0
/-! The head: facts by names, the run. -/
namespace L2.K87
open PySem PySem.Spec PyProof.Rows
def dbeat : He.DefD := ⟨("beat", none), "beat", "beat", defArgs sbeat, defBody sbeat, defScope sbeat, [], []⟩
def dwith_calls : He.DefD := ⟨("with_calls", none), "with_calls", "with_calls", defArgs swith_calls, defBody swith_calls, defScope swith_calls, [], []⟩
def dcalled : He.DefD := ⟨("called", none), "called", "called", defArgs scalled, defBody scalled, defScope scalled, [], []⟩
def dis_whole : He.DefD := ⟨("is_whole", none), "is_whole", "is_whole", defArgs sis_whole, defBody sis_whole, defScope sis_whole, [], []⟩
def dis_between : He.DefD := ⟨("is_between", none), "is_between", "is_between", defArgs sis_between, defBody sis_between, defScope sis_between, [], []⟩
def dis_name : He.DefD := ⟨("is_name", none), "is_name", "is_name", defArgs sis_name, defBody sis_name, defScope sis_name, [], []⟩
def dis_length : He.DefD := ⟨("is_length", none), "is_length", "is_length", defArgs sis_length, defBody sis_length, defScope sis_length, [], []⟩
def dgroups_of : He.DefD := ⟨("groups_of", none), "groups_of", "groups_of", defArgs sgroups_of, defBody sgroups_of, defScope sgroups_of, [], []⟩
def dis_standing : He.DefD := ⟨("is_standing", none), "is_standing", "is_standing", defArgs sis_standing, defBody sis_standing, defScope sis_standing, [], []⟩
def dmeets : He.DefD := ⟨("meets", none), "meets", "meets", defArgs smeets, defBody smeets, defScope smeets, [], []⟩
def dlot_of : He.DefD := ⟨("lot_of", none), "lot_of", "lot_of", defArgs slot_of, defBody slot_of, defScope slot_of, [], []⟩
def dcosts_of : He.DefD := ⟨("costs_of", none), "costs_of", "costs_of", defArgs scosts_of, defBody scosts_of, defScope scosts_of, [], []⟩
def dtold_prices : He.DefD := ⟨("told_prices", none), "told_prices", "told_prices", defArgs stold_prices, defBody stold_prices, defScope stold_prices, [], []⟩
def dprices : He.DefD := ⟨("prices", none), "prices", "prices", defArgs sprices, defBody sprices, defScope sprices, [], [("most", .int 200)]⟩
def dfewest : He.DefD := ⟨("fewest", none), "fewest", "fewest", defArgs sfewest, defBody sfewest, defScope sfewest, [], [("most", .int 200)]⟩
def dis_priced : He.DefD := ⟨("is_priced", none), "is_priced", "is_priced", defArgs sis_priced, defBody sis_priced, defScope sis_priced, [], []⟩
def dis_bounded : He.DefD := ⟨("is_bounded", none), "is_bounded", "is_bounded", defArgs sis_bounded, defBody sis_bounded, defScope sis_bounded, [], []⟩
def dis_fair : He.DefD := ⟨("is_fair", none), "is_fair", "is_fair", defArgs sis_fair, defBody sis_fair, defScope sis_fair, [], []⟩
def dBookinit : He.DefD := ⟨("Book", some "__init__"), "__init__", "Book.__init__", defArgs sBookinit, defBody sBookinit, defScope sBookinit, [], []⟩
def dBooklengths : He.DefD := ⟨("Book", some "lengths"), "lengths", "Book.lengths", defArgs sBooklengths, defBody sBooklengths, defScope sBooklengths, [], []⟩
def dBooksleep : He.DefD := ⟨("Book", some "sleep"), "sleep", "Book.sleep", defArgs sBooksleep, defBody sBooksleep, defScope sBooksleep, [], []⟩
def dBooklen : He.DefD := ⟨("Book", some "__len__"), "__len__", "Book.__len__", defArgs sBooklen, defBody sBooklen, defScope sBooklen, [], []⟩
def dLbag : He.DefD := ⟨("_law_bag", none), "_law_bag", "_law_bag", defArgs sLbag, defBody sLbag, defScope sLbag, [], []⟩
def dLtake : He.DefD := ⟨("_law_take", none), "_law_take", "_law_take", defArgs sLtake, defBody sLtake, defScope sLtake, [], []⟩
def dLnames : He.DefD := ⟨("_law_names", none), "_law_names", "_law_names", defArgs sLnames, defBody sLnames, defScope sLnames, [], []⟩
def dLspans : He.DefD := ⟨("_law_spans", none), "_law_spans", "_law_spans", defArgs sLspans, defBody sLspans, defScope sLspans, [], []⟩
def dLrests : He.DefD := ⟨("_law_rests", none), "_law_rests", "_law_rests", defArgs sLrests, defBody sLrests, defScope sLrests, [], []⟩
def dLhall : He.DefD := ⟨("_law_hall", none), "_law_hall", "_law_hall", defArgs sLhall, defBody sLhall, defScope sLhall, [], []⟩
def dLstand : He.DefD := ⟨("_law_stand", none), "_law_stand", "_law_stand", defArgs sLstand, defBody sLstand, defScope sLstand, [], []⟩
def dLafter : He.DefD := ⟨("_law_after", none), "_law_after", "_law_after", defArgs sLafter, defBody sLafter, defScope sLafter, [], []⟩
def dLcalled : He.DefD := ⟨("_law_called", none), "_law_called", "_law_called", defArgs sLcalled, defBody sLcalled, defScope sLcalled, [], []⟩
def dLstrokes : He.DefD := ⟨("_law_strokes", none), "_law_strokes", "_law_strokes", defArgs sLstrokes, defBody sLstrokes, defScope sLstrokes, [], []⟩
def dLmeets : He.DefD := ⟨("_law_meets", none), "_law_meets", "_law_meets", defArgs sLmeets, defBody sLmeets, defScope sLmeets, [], []⟩
def dLwish : He.DefD := ⟨("_law_wish", none), "_law_wish", "_law_wish", defArgs sLwish, defBody sLwish, defScope sLwish, [], []⟩
def dLwished : He.DefD := ⟨("_law_wished", none), "_law_wished", "_law_wished", defArgs sLwished, defBody sLwished, defScope sLwished, [], []⟩
def dLlot : He.DefD := ⟨("_law_lot", none), "_law_lot", "_law_lot", defArgs sLlot, defBody sLlot, defScope sLlot, [], []⟩
def dLcosts : He.DefD := ⟨("_law_costs", none), "_law_costs", "_law_costs", defArgs sLcosts, defBody sLcosts, defScope sLcosts, [], []⟩
def dLfirst_row : He.DefD := ⟨("_law_first_row", none), "_law_first_row", "_law_first_row", defArgs sLfirst_row, defBody sLfirst_row, defScope sLfirst_row, [], []⟩
def dLnever_right : He.DefD := ⟨("_law_never_right", none), "_law_never_right", "_law_never_right", defArgs sLnever_right, defBody sLnever_right, defScope sLnever_right, [], []⟩
def dLno_less : He.DefD := ⟨("_law_no_less", none), "_law_no_less", "_law_no_less", defArgs sLno_less, defBody sLno_less, defScope sLno_less, [], []⟩
def dLright : He.DefD := ⟨("_law_right", none), "_law_right", "_law_right", defArgs sLright, defBody sLright, defScope sLright, [], []⟩
def dlaw : He.DefD := ⟨("law", none), "law", "law", defArgs slaw, defBody slaw, defScope slaw, [], []⟩
def fns : List He.DefD := [dbeat, dwith_calls, dcalled, dis_whole, dis_between, dis_name, dis_length, dgroups_of, dis_standing, dmeets, dlot_of, dcosts_of, dtold_prices, dprices, dfewest, dis_priced, dis_bounded, dis_fair, dBookinit, dBooklengths, dBooksleep, dBooklen, dLbag, dLtake, dLnames, dLspans, dLrests, dLhall, dLstand, dLafter, dLcalled, dLstrokes, dLmeets, dLwish, dLwished, dLlot, dLcosts, dLfirst_row, dLnever_right, dLno_less, dLright, dlaw]
def fas : List He.Fa := ([.glo "beat", .glo "with_calls", .glo "called", .glo "is_whole", .glo "is_between", .glo "is_name", .glo "is_length", .glo "groups_of", .glo "is_standing", .glo "meets", .glo "lot_of", .glo "costs_of", .glo "told_prices", .glo "prices", .glo "fewest", .glo "is_priced", .glo "is_bounded", .glo "is_fair", .glo "_law_bag", .glo "_law_take", .glo "_law_names", .glo "_law_spans", .glo "_law_rests", .glo "_law_hall", .glo "_law_stand", .glo "_law_after", .glo "_law_called", .glo "_law_strokes", .glo "_law_meets", .glo "_law_wish"] : List He.Fa) ++ ([.glo "_law_wished", .glo "_law_lot", .glo "_law_costs", .glo "_law_first_row", .glo "_law_never_right", .glo "_law_no_less", .glo "_law_right", .glo "law", .glo "Book", .cls "Book", .noat "Book" "rows", .meth "Book" "lengths", .meth "Book" "sleep", .meth "Book" "__len__", .mkr "Book", .str "LETTERS" "abcdefghijklmnopqrstuvwxyz", .int "LONGEST_NAME" 8, .int "MOST_LENGTH" 1000000000, .int "MOST_SLEEPERS" 40, .free "len", .free "isinstance", .free "all", .free "tuple", .free "list", .free "dict", .free "set", .free "sorted", .free "reversed", .free "zip", .free "enumerate"] : List He.Fa) ++ ([.free "range", .free "min", .free "max", .free "sum", .free "abs", .free "int", .free "repr", .free "str", .free "bool"] : List He.Fa)
def loose : List PySem.Str := (["beat", "with_calls", "called", "SleepError", "Wrong", "TooMany", "LETTERS", "LONGEST_NAME", "MOST_LENGTH", "MOST_SLEEPERS", "is_whole", "is_between", "is_name", "is_length", "groups_of", "is_standing", "meets", "lot_of", "costs_of", "told_prices", "prices", "fewest", "is_priced", "is_bounded", "is_fair", "Book", "_law_bag", "_law_take", "_law_names", "_law_spans"] : List PySem.Str) ++ (["_law_rests", "_law_hall", "_law_stand", "_law_after", "_law_called", "_law_strokes", "_law_meets", "_law_wish", "_law_wished", "_law_lot", "_law_costs", "_law_first_row", "_law_never_right", "_law_no_less", "_law_right"] : List PySem.Str)
abbrev HR : PySem.W.OpenRow := PySem.W.OpenLaw.row PySem.Challenge.rw_sleepmany_k87_whole_fewest_calls
abbrev hk : PySem.W.Hook := He.hookD 5 fas fns
def ob (s : PySem.W.SharedT) : He.AlD := He.obsDG 5 fas fns (HandSHeadRun.getT s)
theorem ob_eq (s : PySem.W.SharedT) : ob s = hk.obs s.abs := He.obsDG_eq (HandSHeadRun.getT_eq s)
theorem run (w : World) : HandSHeadRun.RunEq HR (PySem.W.view HR.prog [53]) hk ob 4000 loose w := by
  intro os
  kernel_rfl
end L2.K87
set_option Elab.async false
set_option linter.all false
set_option autoImplicit false
set_option maxRecDepth 100000
/-! Dicts whose keys are standings: tuples of tuples (name, rest). -/
namespace L2.K87
open PySem PySem.Spec PyProof.Rows

/-- a standing -/
abbrev Sg := List (Str × Int)
def nk1 (p : Str × Int) : NestedKey := .tup [.text p.1, .num p.2]
def nk (st : Sg) : NestedKey := .tup (st.map nk1)
theorem nk1_inj {a b : Str × Int} (h : nk1 a = nk1 b) : a = b := by
  unfold nk1 at h
  injection h with h
  injection h with h1 h2
  injection h2 with h2 _
  injection h1 with h1
  injection h2 with h2
  exact Prod.ext h1 h2
theorem nk_inj {a b : Sg} (h : nk a = nk b) : a = b := by
  unfold nk at h
  injection h with h
  exact (List.map_inj_right fun _ _ => nk1_inj).mp h
theorem nk1_depth (p : Str × Int) : (nk1 p).depth ≤ 1 := by
  simp [nk1, NestedKey.depth, NestedKey.depthAll]
theorem nk_depthAll : ∀ st : Sg, NestedKey.depthAll (st.map nk1) ≤ 1
  | [] => by simp [NestedKey.depthAll]
  | p :: r => by
    have h1 := nk1_depth p
    have h2 := nk_depthAll r
    rw [List.map_cons]
    simp only [NestedKey.depthAll]
    omega
theorem nk_depth (st : Sg) : (nk st).depth ≤ 8 := by
  have h := nk_depthAll st
  unfold nk
  simp only [NestedKey.depth]
  omega

/-- the pair (name, rest) at q -/
def PrA (H : Hp) (q : Addr) (p : Str × Int) : Prop := H q = some (.tup [.str p.1, .int p.2])
/-- the standing st at a -/
def StA (H : Hp) (a : Addr) (st : Sg) : Prop := ∃ qs : List Addr, H a = some (.tup (qs.map V.ref)) ∧ Paired (PrA H) qs st
theorem pimp {α β : Type} {F G : α → β → Prop} {l : List α} {m : List β} (h : Paired F l m) (f : ∀ a b, F a b → G a b) : Paired G l m := L2.Paired.mapP h f
/-- tuples stay -/
def Tups (H H' : Hp) : Prop := ∀ b xs, H b = some (.tup xs) → H' b = some (.tup xs)
theorem tps {H H' : Hp} (s : Same H H') : Tups H H' := fun b xs e => s b _ e
theorem Tups.refl (H : Hp) : Tups H H := fun _ _ e => e
theorem Tups.trans {H H1 H2 : Hp} (a : Tups H H1) (b : Tups H1 H2) : Tups H H2 := fun c xs e => b c xs (a c xs e)
theorem PrA.keep {H H' : Hp} {q : Addr} {p : Str × Int} (h : PrA H q p) (s : Tups H H') : PrA H' q p := s _ _ h
theorem StA.keep {H H' : Hp} {a : Addr} {st : Sg} (h : StA H a st) (s : Tups H H') : StA H' a st := by
  obtain ⟨qs, e, r⟩ := h
  exact ⟨qs, s _ _ e, pimp r fun _ _ z => z.keep s⟩
theorem StA.same {H H' : Hp} {a : Addr} {st : Sg} (h : StA H a st) (s : Same H H') : StA H' a st := h.keep (tps s)
theorem StA.inj {H : Hp} {a : Addr} {st su : Sg} (h : StA H a st) (h' : StA H a su) : st = su := by
  obtain ⟨qs, e, r⟩ := h
  obtain ⟨qs', e', r'⟩ := h'
  rw [e] at e'
  have e2 : qs.map V.ref = qs'.map V.ref := by injection e' with e'; injection e'
  have e3 : qs = qs' := (List.map_inj_right fun _ _ z => by injection z).mp e2
  subst e3
  clear e e' e2
  induction r generalizing su with
  | nil => cases r'; rfl
  | @cons q p qs st h1 t ih =>
    cases r' with
    | @cons _ p' _ st' h2 t' =>
      have : p = p' := by
        unfold PrA at h1 h2
        rw [h1] at h2
        injection h2 with h2
        injection h2 with h2
        injection h2 with h3 h4
        injection h4 with h4 _
        injection h3 with h3
        injection h4 with h4
        exact Prod.ext h3 h4
      rw [this, ih t']

section
variable {P : Program} {w : World}
abbrev NKd (P : Program) (w : World) := nestedKind P w
theorem prA_is {H : Hp} {h : Heap} (ok : HOk P w H h) {q : Addr} {p : Str × Int} (e : PrA H q p) : NestedIs h (nk1 p) (.ref q) := by
  obtain ⟨_, its, r, o, h1, h2, n, h3⟩ := (show ObjOk P w H h q (.tup [.str p.1, .int p.2]) from ok q _ e)
  cases r with
  | cons r1 t =>
    cases t with
    | cons r2 t =>
      cases t
      obtain ⟨t1, rfl⟩ := r1
      obtain ⟨t2, rfl⟩ := r2
      exact .tup h1 h2 h3 (.cons (.text _ _) (.cons (.int _ _) .nil))
theorem prs_are {H : Hp} {h : Heap} (ok : HOk P w H h) {qs : List Addr} {st : Sg} (r : Paired (PrA H) qs st) : NestedAll h (st.map nk1) (qs.map Value.ref) := by
  induction r with
  | nil => exact .nil
  | cons h1 t ih => exact .cons (prA_is ok h1) ih
theorem stA_is {H : Hp} {h : Heap} (ok : HOk P w H h) {a : Addr} {st : Sg} (e : StA H a st) : (nestedKind P w).is h (nk st) a := by
  obtain ⟨qs, e, r⟩ := e
  obtain ⟨_, its, rv, o, h1, h2, n, h3⟩ := (show ObjOk P w H h a (.tup (qs.map V.ref)) from ok a _ e)
  have ei := refs_at rv
  subst ei
  exact ⟨.tup h1 h2 h3 (by simpa using prs_are ok r), nk_depth st⟩

/-- what the object at d is: an exact dict of these entries -/
def dnPhi (P : Program) (w : World) (d : Addr) (xs : List (NestedKey × Addr × Value)) : Heap → Prop := fun h =>
  ∃ o es ep, h.get? d = some o ∧ o.ExactDict ∧ o.data = .dict es ep ∧ es.toList = xs.map (entryOfKey (nestedKind P w)) ∧ (xs.map (·.1)).Nodup
abbrev dnO (P : Program) (w : World) (d : Addr) (xs : List (NestedKey × Addr × Value)) : HO := .ext (dnPhi P w d xs)
abbrev KN (H : Hp) : List (Sg × V) → List (NestedKey × Addr × Value) → Prop := Paired fun p q => q.1 = nk p.1 ∧ StA H q.2.1 p.1 ∧ RelV p.2 q.2.2
theorem KN.keep {H H' : Hp} {kvs : List (Sg × V)} {xs : List (NestedKey × Addr × Value)} (r : KN H kvs xs) (s : Tups H H') : KN H' kvs xs := L2.Paired.mapP r fun _ _ z => ⟨z.1, z.2.1.keep s, z.2.2⟩
theorem KN.val {H : Hp} {kvs : List (Sg × V)} {xs : List (NestedKey × Addr × Value)} (r : KN H kvs xs) (k : Sg) : RelO (valV kvs k) ((atKey xs (nk k)).map (·.2)) := by
  induction r with
  | nil => exact True.intro
  | @cons p q ps qs h t ih =>
    obtain ⟨h1, _, h2⟩ := h
    by_cases e : p.1 = k
    · have e' : q.1 = nk k := h1.trans (by rw [e])
      have b : atKey (q :: qs) (nk k) = some q.2 := by simp [atKey, List.find?_cons, e']
      rw [valV_pos e, b]
      exact h2
    · have e' : ¬ q.1 = nk k := fun z => e (nk_inj (h1.symm.trans z))
      have b : atKey (q :: qs) (nk k) = atKey qs (nk k) := by simp [atKey, List.find?_cons, e']
      rw [valV_neg e, b]
      exact ih
theorem KN.repl {H : Hp} {kvs : List (Sg × V)} {xs : List (NestedKey × Addr × Value)} (r : KN H kvs xs) (k : Sg) {y : V} {u : Value} (ry : RelV y u) :
    KN H (kvs.map fun kv => if kv.1 = k then (kv.1, y) else kv) (xs.map (putAt (nk k) u)) := by
  induction r with
  | nil => exact .nil
  | @cons p q ps qs h t ih =>
    rw [List.map_cons, List.map_cons]
    refine .cons ?_ ih
    obtain ⟨h1, h2, h3⟩ := h
    unfold putAt
    by_cases e : p.1 = k
    · rw [if_pos e, if_pos (h1.trans (by rw [e]))]
      exact ⟨h1, h2, ry⟩
    · rw [if_neg e, if_neg (fun z => e (nk_inj (h1.symm.trans z)))]
      exact ⟨h1, h2, h3⟩
theorem KN.put {H : Hp} {kvs : List (Sg × V)} {xs : List (NestedKey × Addr × Value)} (r : KN H kvs xs) (k : Sg) {b : Addr} {y : V} {u : Value} (hb : StA H b k) (ry : RelV y u) :
    KN H (putK kvs k y) (storedH xs (nk k) b u) := by
  have e : (kvs.any fun kv => decide (kv.1 = k)) = (atKey xs (nk k)).isSome := by
    rw [valV_any, (r.val k).isSome_eq, Option.isSome_map]
  unfold putK storedH
  rw [e]
  by_cases q : (atKey xs (nk k)).isSome = true
  · rw [if_pos q, if_pos q]
    exact r.repl k ry
  · rw [if_neg q, if_neg q]
    exact Paired.snoc r ⟨rfl, hb, ry⟩
theorem KN.nd {H : Hp} {kvs : List (Sg × V)} {xs : List (NestedKey × Addr × Value)} (r : KN H kvs xs) (h : (xs.map (·.1)).Nodup) : (kvs.map (·.1)).Nodup := by
  have e : xs.map (·.1) = (kvs.map (·.1)).map nk := by
    clear h
    induction r with
    | nil => rfl
    | cons h t ih => rw [List.map_cons, List.map_cons, List.map_cons, ih, h.1]
  rw [e] at h
  exact List.Pairwise.of_map nk (fun a b n z => n (by rw [z])) h

/-- at d stands a dict whose entries, by standings, are kvs -/
structure DN (P : Program) (w : World) (H : Hp) (d : Addr) (kvs : List (Sg × V)) : Prop where
  len : kvs.length ≤ sizeLine
  nsys : (d == sysModules) = false
  at_ : ∃ xs, H d = some (dnO P w d xs) ∧ KN H kvs xs
/-- the same, locked as o while a loop walks it -/
structure DF (P : Program) (w : World) (H : Hp) (d : Addr) (o : Obj) (kvs : List (Sg × V)) : Prop where
  len : kvs.length ≤ sizeLine
  nsys : (d == sysModules) = false
  at_ : ∃ xs, H d = some (.frz o (dnO P w d xs)) ∧ KN H kvs xs
/-- to be read -/
def DR (P : Program) (w : World) (H : Hp) (d : Addr) (kvs : List (Sg × V)) : Prop := DN P w H d kvs ∨ ∃ o, DF P w H d o kvs
theorem DN.keep {H H' : Hp} {d : Addr} {kvs : List (Sg × V)} (h : DN P w H d kvs) (s : Tups H H') (e : H' d = H d) : DN P w H' d kvs := by
  obtain ⟨l, z, xs, h1, r⟩ := h
  exact ⟨l, z, xs, by rw [e]; exact h1, r.keep s⟩
theorem DN.same {H H' : Hp} {d : Addr} {kvs : List (Sg × V)} (h : DN P w H d kvs) (s : Same H H') : DN P w H' d kvs := by
  obtain ⟨l, z, xs, h1, r⟩ := h
  exact ⟨l, z, xs, s _ _ h1, r.keep (tps s)⟩
theorem DF.keep {H H' : Hp} {d : Addr} {o : Obj} {kvs : List (Sg × V)} (h : DF P w H d o kvs) (s : Tups H H') (e : H' d = H d) : DF P w H' d o kvs := by
  obtain ⟨l, z, xs, h1, r⟩ := h
  exact ⟨l, z, xs, by rw [e]; exact h1, r.keep s⟩
theorem DF.same {H H' : Hp} {d : Addr} {o : Obj} {kvs : List (Sg × V)} (h : DF P w H d o kvs) (s : Same H H') : DF P w H' d o kvs := by
  obtain ⟨l, z, xs, h1, r⟩ := h
  exact ⟨l, z, xs, s _ _ h1, r.keep (tps s)⟩
theorem DR.same {H H' : Hp} {d : Addr} {kvs : List (Sg × V)} (h : DR P w H d kvs) (s : Same H H') : DR P w H' d kvs := by
  rcases h with h | ⟨o, h⟩
  · exact .inl (h.same s)
  · exact .inr ⟨o, h.same s⟩
theorem DN.rd {H : Hp} {d : Addr} {kvs : List (Sg × V)} (h : DN P w H d kvs) : DR P w H d kvs := .inl h
theorem DF.rd {H : Hp} {d : Addr} {o : Obj} {kvs : List (Sg × V)} (h : DF P w H d o kvs) : DR P w H d kvs := .inr ⟨o, h⟩
/-- locked, and let go -/
theorem DN.lock {H : Hp} {d : Addr} {kvs : List (Sg × V)} (h : DN P w H d kvs) : ∃ u, H d = some u ∧ Mut (some u) ∧ ∀ o, DF P w (upd H d (.frz o u)) d o kvs := by
  obtain ⟨l, z, xs, h1, r⟩ := h
  refine ⟨_, h1, True.intro, fun o => ⟨l, z, xs, upd_same, r.keep fun b ys e => ?_⟩⟩
  rw [upd_ne (ne_of e h1 (fun z => nomatch z))]
  exact e
theorem dr_at {H : Hp} {h : Heap} {d : Addr} {kvs : List (Sg × V)} (ok : HOk P w H h) (e : DR P w H d kvs) : kvs.length ≤ sizeLine ∧ (d == sysModules) = false ∧ (kvs.map (·.1)).Nodup ∧ ∃ xs, KN H kvs xs ∧ h.DictOfH (nestedKind P w) d xs := by
  have core : ∀ xs, KN H kvs xs → dnPhi P w d xs h → (kvs.map (·.1)).Nodup ∧ h.DictOfH (nestedKind P w) d xs := fun xs r φ => by
    obtain ⟨o, es, ep, h1, h2, h3, h4, h5⟩ := φ
    refine ⟨r.nd h5, o, es, ep, h1, h2, h3, h4, fun x hx => ?_, h5⟩
    have all : ∀ {l : List (Sg × V)} {m : List (NestedKey × Addr × Value)}, KN H l m → ∀ x ∈ m, (nestedKind P w).is h x.1 x.2.1 := by
      intro l m q
      induction q with
      | nil => intro x hx; exact nomatch hx
      | @cons p q ps qs hq t ih =>
        intro x hx
        rcases List.mem_cons.mp hx with e | hx
        · subst e
          rw [hq.1]
          exact stA_is ok hq.2.1
        · exact ih x hx
    exact all r x hx
  rcases e with ⟨l, z, xs, h1, r⟩ | ⟨o, l, z, xs, h1, r⟩
  · obtain ⟨φ, _⟩ := (show ObjOk P w H h d (dnO P w d xs) from ok d _ h1)
    obtain ⟨a, b⟩ := core xs r φ
    exact ⟨l, z, a, xs, r, b⟩
  · obtain ⟨_, φ, _⟩ := (show ObjOk P w H h d (.frz o (dnO P w d xs)) from ok d _ h1)
    obtain ⟨a, b⟩ := core xs r φ
    exact ⟨l, z, a, xs, r, b⟩
theorem dnO_ok {H : Hp} {h : Heap} {d : Addr} {xs : List (NestedKey × Addr × Value)} (x : h.DictOfH (nestedKind P w) d xs) : ObjOk P w H h d (dnO P w d xs) := by
  obtain ⟨o, es, ep, h1, h2, h3, h4, _, h5⟩ := x
  refine ⟨⟨o, es, ep, h1, h2, h3, h4, h5⟩, ⟨o, h1⟩, fun a b φ k => ?_⟩
  obtain ⟨o, es, ep, h1, r⟩ := φ
  exact ⟨o, es, ep, k _ h1, r⟩
end

section
variable {X : Cx} {pins : List (Addr × Obj)} {σ : St} {H : Hp} {s : Shared} {d b : Addr} {kvs : List (Sg × V)} {k : Sg} {v : V} {u r : Value} {A : Around} {E : Value → Shared → Prop}
theorem room_of (hu : A.units + 16 < cLine) : (nestedKind X.prog X.w).room A ∧ (nestedKind X.prog X.w).room A.in1 ∧ (nestedKind X.prog X.w).room A.in1.in1 :=
  ⟨by show A.units + 8 < cLine; omega, by show A.units + 1 + 8 < cLine; omega, by show A.units + 1 + 1 + 8 < cLine; omega⟩
/-- what the dict at d holds at the standing at b -/
def NGet (P : Program) (w : World) (H : Hp) (d : Addr) (y : V) (r : Option V) : Prop := ∃ kvs k b, DR P w H d kvs ∧ y = .ref b ∧ StA H b k ∧ r = valV kvs k
theorem NGet.of {P : Program} {w : World} {H : Hp} {d b : Addr} {kvs : List (Sg × V)} {k : Sg} {r : Option V} (h : DR P w H d kvs) (hb : StA H b k) (e : valV kvs k = r) : NGet P w H d (.ref b) r := ⟨kvs, k, b, h, rfl, hb, e.symm⟩
theorem n_getItem {y : V} {Q : Value → Shared → Prop} (hu : A.units + 16 < cLine) (I : Inv X pins σ H s) (g : NGet X.prog X.w H d y (some v)) (ry : RelV y u) (h : ∀ w' s', Inv X pins σ H s' → RelV v w' → Q w' s') :
    wpAny (model X.prog X.w) A (getItem (.ref d) u) Q E s := by
  obtain ⟨kvs, k, b, e, rfl, eb, l⟩ := g
  cases (show u = Value.ref b from ry)
  obtain ⟨_, _, _, xs, rel, dd⟩ := dr_at I.hok e
  obtain ⟨w', hw, rw'⟩ := RelO.some_of (v := v) (o := (atKey xs (nk k)).map (·.2)) (by rw [l]; exact rel.val k)
  obtain ⟨p, hp, hp2⟩ := Option.map_eq_some_iff.mp hw
  refine wpAny_getItem_heap (room_of (X := X) hu).2.1 (stA_is I.hok eb) dd hp ?_
  rw [hp2]
  exact h w' _ (I.tok _) rw'
theorem n_in {y : V} {o : Option V} {Q : Value → Shared → Prop} (hu : A.units + 16 < cLine) (I : Inv X pins σ H s) (g : NGet X.prog X.w H d y o) (ry : RelV y u) (h : ∀ s', Inv X pins σ H s' → Q (.bool o.isSome) s') :
    wpAny (model X.prog X.w) A (compareOp .In u (.ref d)) Q E s := by
  obtain ⟨kvs, k, b, e, rfl, eb, l⟩ := g
  cases (show u = Value.ref b from ry)
  obtain ⟨_, hd, _, xs, rel, dd⟩ := dr_at I.hok e
  refine wpAny_in_heap (room_of (X := X) hu).2.1 (stA_is I.hok eb) hd dd ?_
  have q := (rel.val k).isSome_eq
  rw [Option.isSome_map] at q
  rw [← q, ← l]
  exact h _ (I.tok _)
theorem n_notIn {y : V} {o : Option V} {Q : Value → Shared → Prop} (hu : A.units + 16 < cLine) (I : Inv X pins σ H s) (g : NGet X.prog X.w H d y o) (ry : RelV y u) (h : ∀ s', Inv X pins σ H s' → Q (.bool (!o.isSome)) s') :
    wpAny (model X.prog X.w) A (compareOp .NotIn u (.ref d)) Q E s := by
  obtain ⟨kvs, k, b, e, rfl, eb, l⟩ := g
  cases (show u = Value.ref b from ry)
  obtain ⟨_, hd, _, xs, rel, dd⟩ := dr_at I.hok e
  refine wpAny_notIn_heap (room_of (X := X) hu).2.1 (stA_is I.hok eb) hd dd ?_
  have q := (rel.val k).isSome_eq
  rw [Option.isSome_map] at q
  rw [← q, ← l]
  exact h _ (I.tok _)
/-- the heap behind d[b] = v: nothing but d is another -/
def NPut (P : Program) (w : World) (H : Hp) (d : Addr) (y v : V) (R : Hp → Prop) : Prop := ∃ kvs k b, DN P w H d kvs ∧ y = .ref b ∧ StA H b k ∧ kvs.length < sizeLine ∧
  ∀ H', (∀ c, c ≠ d → H' c = H c) → Tups H H' → DN P w H' d (putK kvs k v) → R H'
theorem NPut.of {P : Program} {w : World} {H : Hp} {d b : Addr} {kvs : List (Sg × V)} {k : Sg} {v : V} {R : Hp → Prop} (h : DN P w H d kvs) (hb : StA H b k) (hl : kvs.length < sizeLine) (q : ∀ H', (∀ c, c ≠ d → H' c = H c) → Tups H H' → DN P w H' d (putK kvs k v) → R H') : NPut P w H d (.ref b) v R :=
  ⟨kvs, k, b, h, rfl, hb, hl, q⟩
theorem n_stored {h' : Heap} {t' : Nat} {xs : List (NestedKey × Addr × Value)} (I : Inv X pins σ H s) (e : H d = some (dnO X.prog X.w d xs)) (nsys : (d == sysModules) = false) (rel : KN H kvs xs) (eb : StA H b k) (l : kvs.length < sizeLine) (rv : RelV v r)
    (dd : h'.DictOfH (nestedKind X.prog X.w) d (storedH xs (nk k) b r)) (hs : Heap.SameBut d s.heap h') :
    ∃ H', (∀ c, c ≠ d → H' c = H c) ∧ Tups H H' ∧ DN X.prog X.w H' d (putK kvs k v) ∧ Inv X pins σ H' { s with heap := h', toks := t' } := by
  have tp : Tups H (upd H d (dnO X.prog X.w d (storedH xs (nk k) b r))) := fun c ys ec => by
    rw [upd_ne (ne_of ec e (fun z => nomatch z))]
    exact ec
  refine ⟨upd H d (dnO X.prog X.w d (storedH xs (nk k) b r)), fun c hc => upd_ne hc, tp, ⟨?_, nsys, _, upd_same, (rel.put k eb rv).keep tp⟩, ?_⟩
  · have := length_putK kvs k v
    omega
  · obtain ⟨q, _, _, hq, _⟩ := id dd
    exact d_write I (by rw [e]; exact True.intro) hs ⟨q, hq⟩ (dnO_ok dd)
theorem n_setItem {y : V} {R : Hp → Prop} {Q : Unit → Shared → Prop} (hu : A.units + 16 < cLine) (I : Inv X pins σ H s) (g : NPut X.prog X.w H d y v R) (ry : RelV y u) (rv : RelV v r) (h : ∀ H' s', Inv X pins σ H' s' → R H' → Q () s') :
    wpAny (model X.prog X.w) A (setItem (.ref d) u r) Q E s := by
  obtain ⟨kvs, k, b, e, rfl, eb, l, hR⟩ := g
  cases (show u = Value.ref b from ry)
  obtain ⟨_, _, xs0, e0, r0⟩ := id e
  obtain ⟨φ, _⟩ := (show ObjOk X.prog X.w H s.heap d (dnO X.prog X.w d xs0) from I.hok d _ e0)
  have dd : s.heap.DictOfH (nestedKind X.prog X.w) d xs0 := by
    obtain ⟨_, _, _, xs1, r1, d1⟩ := dr_at I.hok e.rd
    obtain ⟨o, es, ep, h1, h2, h3, h4, h5⟩ := φ
    refine ⟨o, es, ep, h1, h2, h3, h4, fun x hx => ?_, h5⟩
    have all : ∀ {l : List (Sg × V)} {m : List (NestedKey × Addr × Value)}, KN H l m → ∀ x ∈ m, (nestedKind X.prog X.w).is s.heap x.1 x.2.1 := by
      intro l m q
      induction q with
      | nil => intro x hx; exact nomatch hx
      | @cons p q ps qs hq t ih =>
        intro x hx
        rcases List.mem_cons.mp hx with e | hx
        · subst e
          rw [hq.1]
          exact stA_is I.hok hq.2.1
        · exact ih x hx
    exact all r0 x hx
  have hz : xs0.length ≤ sizeLine := by
    have e1 := Paired.length r0
    have e2 := e.len
    omega
  refine wpAny_setItem_heap (hsz := hz) (room_of (X := X) hu).2.1 (stA_is I.hok eb) dd fun h' dd' hs => ?_
  obtain ⟨H', a1, a2, a3, I'⟩ := n_stored I e0 e.nsys r0 eb l rv dd' hs
  exact h H' _ I' (hR H' a1 a2 a3)
theorem n_dictSet {y : V} {R : Hp → Prop} {Q : Unit → Shared → Prop} (hu : A.units + 16 < cLine) (I : Inv X pins σ H s) (g : NPut X.prog X.w H d y v R) (ry : RelV y u) (rv : RelV v r) (h : ∀ H' s', Inv X pins σ H' s' → R H' → Q () s') :
    wpAny (model X.prog X.w) A (dictSet d u r) Q E s := by
  obtain ⟨kvs, k, b, e, rfl, eb, l, hR⟩ := g
  cases (show u = Value.ref b from ry)
  obtain ⟨_, _, xs0, e0, r0⟩ := id e
  obtain ⟨φ, _⟩ := (show ObjOk X.prog X.w H s.heap d (dnO X.prog X.w d xs0) from I.hok d _ e0)
  have dd : s.heap.DictOfH (nestedKind X.prog X.w) d xs0 := by
    obtain ⟨o, es, ep, h1, h2, h3, h4, h5⟩ := φ
    refine ⟨o, es, ep, h1, h2, h3, h4, fun x hx => ?_, h5⟩
    have all : ∀ {l : List (Sg × V)} {m : List (NestedKey × Addr × Value)}, KN H l m → ∀ x ∈ m, (nestedKind X.prog X.w).is s.heap x.1 x.2.1 := by
      intro l m q
      induction q with
      | nil => intro x hx; exact nomatch hx
      | @cons p q ps qs hq t ih =>
        intro x hx
        rcases List.mem_cons.mp hx with e | hx
        · subst e
          rw [hq.1]
          exact stA_is I.hok hq.2.1
        · exact ih x hx
    exact all r0 x hx
  have hz : xs0.length ≤ sizeLine := by
    have e1 := Paired.length r0
    have e2 := e.len
    omega
  refine wpAny_dictSet_heap (hsz := hz) (room_of (X := X) hu).1 (stA_is I.hok eb) dd fun h' dd' hs => ?_
  obtain ⟨H', a1, a2, a3, I'⟩ := n_stored I e0 e.nsys r0 eb l rv dd' hs
  exact h H' _ I' (hR H' a1 a2 a3)
end

/-! ### readings and rules -/
def tNGet (P : Program) (w : World) (td ty : TE) : TE := fun σ H Q => td σ H fun x H1 => ty σ H1 fun y H2 => ∃ a v, x = .ref a ∧ NGet P w H2 a y (some v) ∧ Q v H2
def tNIn (P : Program) (w : World) (ty td : TE) : TE := fun σ H Q => ty σ H fun y H1 => td σ H1 fun x H2 => ∃ a o, x = .ref a ∧ NGet P w H2 a y o ∧ Q (.bl o.isSome) H2
def tNNotIn (P : Program) (w : World) (ty td : TE) : TE := fun σ H Q => ty σ H fun y H1 => td σ H1 fun x H2 => ∃ a o, x = .ref a ∧ NGet P w H2 a y o ∧ Q (.bl (!o.isSome)) H2
def sNPut (P : Program) (w : World) (td ty tv : TE) : TS := fun D σ H => tv σ H fun v H1 => td σ H1 fun x H2 => ty σ H2 fun y H3 => ∃ a, x = .ref a ∧ NPut P w H3 a y v fun H4 => D.nx σ H4
section
variable {X : Cx} {o i value : Expr} {pos pos' : Pos} {td ty tv : TE}
theorem nd_typeIs {pins : List (Addr × Obj)} {σ : St} {H : Hp} {s : Shared} {a : Addr} {y : V} {r : Option V} (I : Inv X pins σ H s) (g : NGet X.prog X.w H a y r) : s.TypeIs (.ref a) "dict" := by
  obtain ⟨kvs, k, b, e, _⟩ := g
  obtain ⟨_, _, _, xs, _, dd⟩ := dr_at I.hok e
  exact dd.typeIs
theorem pe_ndget (hu : X.A.units + 16 < cLine) (ho : PE X o td) (hi : PE X i ty) (hs : NoSl i) : PE X (.Subscript o i pos) (tNGet X.prog X.w td ty) := by
  refine ⟨fun pins s σ H Q I h => ?_⟩
  refine subD_of PySem.F.slot_dict_getitem.lookup hs (thn (ho.run pins s σ H _ I h) fun u s1 ⟨x, H1, I1, rx, q1⟩ => thn (hi.run pins s1 σ H1 _ I1 q1) fun iv s2 ⟨y, H2, I2, ry, a, v, ex, g, q2⟩ => ?_)
  subst ex
  obtain rfl : u = Value.ref a := rx
  exact ⟨nd_typeIs I2 g, n_getItem hu I2 g ry fun w' s3 I3 rw' => ⟨v, H2, I3, rw', q2⟩⟩
theorem pc_nin (hu : X.A.units + 16 < cLine) (hi : PE X i ty) (ho : PE X o td) : PC X .In i o (tNIn X.prog X.w ty td) := by
  refine ⟨fun pins s σ H Q I h => ?_⟩
  refine thn (hi.run pins s σ H _ I h) fun iv s1 ⟨y, H1, I1, ry, q1⟩ => thn (ho.run pins s1 σ H1 _ I1 q1) fun u s2 ⟨x, H2, I2, rx, a, ov, ex, g, q2⟩ => ?_
  subst ex
  obtain rfl : u = Value.ref a := rx
  exact n_in hu I2 g ry fun s3 I3 => ⟨.bl ov.isSome, H2, I3, rfl, q2⟩
theorem pc_nnotin (hu : X.A.units + 16 < cLine) (hi : PE X i ty) (ho : PE X o td) : PC X .NotIn i o (tNNotIn X.prog X.w ty td) := by
  refine ⟨fun pins s σ H Q I h => ?_⟩
  refine thn (hi.run pins s σ H _ I h) fun iv s1 ⟨y, H1, I1, ry, q1⟩ => thn (ho.run pins s1 σ H1 _ I1 q1) fun u s2 ⟨x, H2, I2, rx, a, ov, ex, g, q2⟩ => ?_
  subst ex
  obtain rfl : u = Value.ref a := rx
  exact n_notIn hu I2 g ry fun s3 I3 => ⟨.bl (!ov.isSome), H2, I3, rfl, q2⟩
theorem ps_ndput (hu : X.A.units + 16 < cLine) (ho : PE X o td) (hi : PE X i ty) (hv : PE X value tv) (hs : swapsWith value (some (.Subscript o i pos')) pos.line X.env = pure false) :
    PS X (.Assign [.Subscript o i pos'] value pos) (sNPut X.prog X.w td ty tv) := by
  refine ⟨fun pins s σ H D I h => ?_⟩
  refine wpAny_Assign_Subscript (thn (hv.run pins s σ H _ I h) fun r s1 ⟨v, H1, I1, rv, q1⟩ => thn (ho.run pins s1 σ H1 _ I1 q1) fun u s2 ⟨x, H2, I2, rx, q2⟩ => thn (hi.run pins s2 σ H2 _ I2 q2) fun iv s3 ⟨y, H3, I3, ry, a, ex, g⟩ => ?_) hs
  subst ex
  obtain rfl : u = Value.ref a := rx
  exact n_setItem hu I3 g ry rv fun H4 s4 I4 q4 => ⟨σ, H4, I4, q4⟩
end
end L2.K87
set_option Elab.async false
set_option linter.all false
set_option autoImplicit false
set_option maxRecDepth 100000
/-! Dicts by standings: made, walked, their length, from pairs. -/
namespace L2.K87
open PySem PySem.Spec PyProof.Rows

/-- p is new: all else as it was -/
structure New (H H' : Hp) (p : Addr) : Prop where
  free : H p = none
  els : ∀ c, c ≠ p → H' c = H c
theorem New.same {H H' : Hp} {p : Addr} (n : New H H' p) : Same H H' := fun b o e => by
  rw [n.els b (ne_of_none e n.free)]
  exact e
theorem New.upd {H : Hp} {p : Addr} {o : HO} (h : H p = none) : New H (upd H p o) p := ⟨h, fun _ hc => upd_ne hc⟩
section
variable {P : Program} {w : World}
theorem dn_empty {H : Hp} {h : Heap} (hb : sysModules < h.objs.size) (hn : H h.objs.size = none) : ObjOk P w (upd H h.objs.size (dnO P w h.objs.size [])) (h.push { cls := .type "dict", data := .dict #[] }) h.objs.size (dnO P w h.objs.size []) ∧
    DN P w (upd H h.objs.size (dnO P w h.objs.size [])) h.objs.size [] :=
  ⟨dnO_ok (Heap.DictOfH.new h), Nat.zero_le _, beq_eq_false_iff_ne.mpr (Ne.symm (Nat.ne_of_lt hb)), [], upd_same, .nil⟩
/-- {}, to be a dict by standings -/
def tNNew (P : Program) (w : World) : TE := fun _ H Q => ∀ p H', New H H' p → DN P w H' p [] → Q (.ref p) H'
theorem pe_nnew {X : Cx} {pos : Pos} : PE X (.Dict [] [] pos) (tNNew X.prog X.w) := ⟨fun pins s σ H Q I h => by
  have hn := I.hok.fresh (Nat.le_refl s.heap.objs.size)
  obtain ⟨e1, e2⟩ := dn_empty (P := X.prog) (w := X.w) (h := s.heap) (H := H) I.big hn
  exact wpAny_Dict_empty ⟨.ref s.heap.objs.size, _, I.laid (a := s.heap.objs.size) (t' := s.toks) (fun _ _ q => Heap.get?_push_of_some _ q) (Nat.le_refl _) e1, rfl, h _ _ (New.upd hn) e2⟩⟩
/-- {k: v}, k a standing -/
def tNDisp1 (P : Program) (w : World) (tk tv : TE) : TE := fun σ H Q => ∀ p H1, New H H1 p → DN P w H1 p [] → tk σ H1 fun y H2 => tv σ H2 fun z H3 => ∃ k b, y = .ref b ∧ StA H3 b k ∧ DN P w H3 p [] ∧
  ∀ H', (∀ c, c ≠ p → H' c = H3 c) → Tups H3 H' → DN P w H' p [(k, z)] → Q (.ref p) H'
theorem pe_ndisp1 {X : Cx} {pos : Pos} {ke ve : Expr} {tk tv : TE} (hu : X.A.units + 16 < cLine) (hk : PE X ke tk) (hv : PE X ve tv)
    (hshape : (evalEachOpt [some ke] X.env).zip ((evalEach [ve] X.env).map fun v => do let x ← v; standAt pos; pure x) = (pairTrees [some ke] [ve] X.env pos).map fun p => (some p.1, p.2) := by rfl) :
    PE X (.Dict [some ke] [ve] pos) (tNDisp1 X.prog X.w tk tv) := by
  refine ⟨fun pins s σ H Q I h => ?_⟩
  have hn := I.hok.fresh (Nat.le_refl s.heap.objs.size)
  obtain ⟨e1, e2⟩ := dn_empty (P := X.prog) (w := X.w) (h := s.heap) (H := H) I.big hn
  have I1 := I.laid (a := s.heap.objs.size) (h' := s.heap.push { cls := .type "dict", data := .dict #[] }) (t' := s.toks) (fun _ _ q => Heap.get?_push_of_some _ q) (Nat.le_refl _) e1
  have hp : (pairTrees [some ke] [ve] X.env pos).length = 1 := pairTrees_length _ _ _ _ rfl rfl
  rw [arm_eval_Dict, hshape, dictDisplay_pairs _ (by intro e; rw [e] at hp; cases hp) (by omega)]
  refine wpAny_bind (wpAny_standAt (wpAny_bind (wpAny_subDictH (knd := nestedKind X.prog X.w) (room_of (X := X) hu).1 (by omega) ?_)))
  refine pairTrees_cons_walk (thn (hk.run pins _ σ _ _ I1 (h _ _ (New.upd hn) e2)) fun u s1 ⟨y, H2, I2, ry, q1⟩ => thn (hv.run pins s1 σ H2 _ I2 q1) fun r s2 ⟨z, H3, I3, rz, k, b, ey, eb, d3, q2⟩ => pairTrees_nil_walk ?_)
  subst ey
  obtain rfl : u = Value.ref b := ry
  obtain ⟨l, ns, xs, e3, r3⟩ := id d3
  cases r3
  obtain ⟨_, _, _, xs', r', dd⟩ := dr_at I3.hok d3.rd
  cases r'
  refine ⟨[(nk k, b, r)], ⟨rfl, rfl, stA_is I3.hok eb, trivial⟩, dd, fun h' tk dd' hs => ?_⟩
  have dd2 : h'.DictOfH (nestedKind X.prog X.w) s.heap.objs.size (storedH [] (nk k) b r) := dd'
  obtain ⟨H', a1, a2, a3, I'⟩ := n_stored (t' := tk) I3 e3 ns .nil eb (by show (0 : Nat) < sizeLine; decide) rz dd2 hs
  exact wpAny_pure ⟨.ref s.heap.objs.size, H', I', rfl, q2 H' a1 a2 a3⟩
end
section
variable {X : Cx}
/-- len(d) -/
def rNLen (P : Program) (w : World) : List V → Hp → VK → Prop := fun xs H Q => ∃ a kvs, xs = [V.ref a] ∧ DR P w H a kvs ∧ Q (.int ((kvs.length : Nat) : Int)) H
theorem call_len_dN : CallR X (.builtin "len") (rNLen X.prog X.w) := by
  intro pins s σ H xs us Q I r h
  obtain ⟨p, kvs, rfl, hp, q⟩ := h
  obtain ⟨u, rfl, rx⟩ := vals1 r
  obtain rfl : u = .ref p := rx
  obtain ⟨z, hd, _, ys, rel, dd⟩ := dr_at I.hok hp
  have hl : kvs.length = ys.length := Paired.length rel
  refine call_len_dictH hd dd (by rw [← hl]; rw [sizeLine_eq] at z; omega) ?_
  rw [← hl]
  exact ⟨.int ((kvs.length : Nat) : Int), H, I.tok _, ⟨_, rfl⟩, q⟩
/-- d.get(k, x) -/
def tNGet2 (P : Program) (w : World) (td ty tx : TE) : TE := fun σ H Q => td σ H fun x H1 => ∃ a kvs, x = .ref a ∧ DR P w H1 a kvs ∧ ty σ H1 fun y H2 => tx σ H2 fun z H3 => ∃ o, NGet P w H3 a y o ∧ Q (o.getD z) H3
theorem pe_nget2 {o e f : Expr} {apos cpos : Pos} {td ty tx : TE} (hu : X.A.units + 16 < cLine) (ho : PE X o td) (he : PE X e ty) (hf : PE X f tx) (m : M2 X o "get" apos e f cpos) : PE X (.Call (.Attribute o "get" apos) [e, f] [] cpos) (tNGet2 X.prog X.w td ty tx) := by
  refine ⟨fun pins s σ H Q I h => ?_⟩
  refine wpAny_Call_method m.base m.few m.line PySem.F.plainAttrs_dict PySem.F.slot_dict_get PySem.F.type_dict_get (thn (ho.run pins s σ H _ I h) fun u s1 ⟨x, H1, I1, rx, a, kvs, ex, d, q1⟩ => ?_)
  subst ex
  obtain rfl : u = Value.ref a := rx
  obtain ⟨_, _, _, xs, _, dd⟩ := dr_at I1.hok d
  refine ⟨dd.typeIs, fun b q => ?_, ?_⟩
  · cases q
    obtain ⟨ob, _, _, h1, h2, _⟩ := dd
    exact ⟨ob, h1, h2.2.1⟩
  rw [m.trees]
  refine Calls.callWith_builtin rfl (Calls.evalArgs_plain (Calls.spliced_cons (thn (he.run pins s1 σ H1 _ I1 q1) fun iv s2 ⟨y, H2, I2, ry, q2⟩ =>
    Calls.spliced_cons (thn (hf.run pins s2 σ H2 _ I2 q2) fun fv s3 ⟨z, H3, I3, rz, ov, g, q3⟩ => Calls.spliced_nil ?_))))
  obtain ⟨kvs, k, b, e, rfl, eb, l⟩ := g
  cases (show iv = Value.ref b from ry)
  obtain ⟨_, hd, _, xs, rel, dd⟩ := dr_at I3.hok e
  refine call_meetsIn PySem.F.slot_dict_get dd.typeIs PySem.F.entry_dict_get (PySem.F.args_dict_get_3 _ _ _) (meetsH_dict_get_default (nestedKind X.prog X.w) a b hd fv) ⟨(room_of (X := X) hu).2.1, nk k, xs, stA_is I3.hok eb, dd, ?_⟩
  refine ⟨_, H3, I3.tok _, ?_, q3⟩
  rw [l]
  exact (rel.val k).getD rz
/-- list(d): the keys' own tuples, in order -/
def KeyAs (H : Hp) (kvs : List (Sg × V)) (bs : List Addr) : Prop := Paired (fun p b => StA H b p.1) kvs bs
theorem keyAs_of {H : Hp} {kvs : List (Sg × V)} {xs : List (NestedKey × Addr × Value)} (r : KN H kvs xs) : KeyAs H kvs (xs.map fun x => x.2.1) := by
  unfold KeyAs
  induction r with
  | nil => exact .nil
  | cons h t ih => exact .cons h.2.1 ih
def rNList (P : Program) (w : World) : List V → Hp → VK → Prop := fun xs H Q => ∃ d kvs, xs = [V.ref d] ∧ DR P w H d kvs ∧ ∀ p bs, H p = none → KeyAs H kvs bs → Q (.ref p) (upd H p (.lst (bs.map V.ref)))
theorem call_list_dN (hc : X.calm = true) : CallR X (.type "list") (rNList X.prog X.w) := by
  intro pins s σ H xs us Q I r h
  obtain ⟨d, kvs, rfl, hd, q⟩ := h
  obtain ⟨u, rfl, rx⟩ := vals1 r
  cases rx
  obtain ⟨z, hs, _, ks, pr, o, es, ep, ho, hx, hdt, he, hk, hn⟩ := dr_at I.hok hd
  have l1 : es.size = ks.length := size_of_entries he
  have l2 : kvs.length = ks.length := Paired.length pr
  refine PySem.W.kdl_call (kdl_raw hs hx hdt) (I.ok.hd hc) ho (by omega) fun h' tk acc' c' kp e it => ?_
  have ea : acc'.toList = ks.map fun x => Value.ref x.2.1 := by
    have hl : acc'.toList.length = ks.length := by rw [Array.length_toList, it.1]; exact l1
    apply List.ext_getElem?
    intro j
    rw [List.getElem?_map]
    cases hj : acc'.toList[j]? with
    | none =>
      have h1 := List.getElem?_eq_none_iff.mp hj
      rw [List.getElem?_eq_none (by omega)]
      all_goals rfl
    | some v =>
      obtain ⟨en, hen, hv⟩ := it.2 j v (by rw [← Array.getElem?_toList]; exact hj)
      have qe := entry_at he j
      rw [hen] at qe
      cases hb : ks[j]? with
      | none =>
        rw [hb] at qe
        exact nomatch (show some en = none from qe)
      | some b =>
        rw [hb] at qe
        have e2 : en = entryOfKey (nestedKind X.prog X.w) b := Option.some.inj qe
        rw [hv, e2]
        all_goals rfl
  have eb : acc'.toList = (ks.map fun x => x.2.1).map Value.ref := by rw [ea, List.map_map]; all_goals rfl
  have rv : Vals ((ks.map fun x => x.2.1).map V.ref) acc'.toList := by rw [eb]; exact vals_refs _
  have hz : ((ks.map fun x => x.2.1).map V.ref).length ≤ sizeLine := by rw [List.length_map, List.length_map]; omega
  refine ⟨.ref s.heap.objs.size, _, I.laid (t' := tk) (o := .lst ((ks.map fun x => x.2.1).map V.ref)) kp (Nat.le_refl _) ?_, rfl, q _ _ (I.hok.fresh (Nat.le_refl _)) (keyAs_of pr)⟩
  exact ⟨hz, acc'.toList, c', rv, by rw [Array.toArray_toList]; exact e⟩
end
/-! ### for k in d, the dict locked -/
section
variable {X : Cx} {pins : List (Addr × Obj)} {σ : St} {H : Hp} {s : Shared} {d : Addr} {o : Obj}
theorem frzN {kvs : List (Sg × V)} (I : Inv X pins σ H s) (h : DF X.prog X.w H d o kvs) :
    (d == sysModules) = false ∧ s.heap.get? d = some o ∧ o.ExactDict ∧ ∃ (es : Array DictEntry) (ep : Nat), o.data = .dict es ep ∧ es.size = kvs.length ∧
      ∀ (i : Nat) (k : Sg) (v : V), kvs[i]? = some (k, v) → ∃ (en : DictEntry) (q : Addr), es[i]? = some en ∧ en.key = .ref q ∧ StA H q k := by
  obtain ⟨l, hs, xs, e, pr⟩ := h
  obtain ⟨hd, ⟨o', es, ep, ho, hx, hdt, he, _⟩, _⟩ := (show ObjOk X.prog X.w H s.heap d (.frz o (dnO X.prog X.w d xs)) from I.hok d _ e)
  rw [hd] at ho
  cases ho
  refine ⟨hs, hd, hx, es, ep, hdt, ?_, fun i k v e => ?_⟩
  · have l1 : es.size = xs.length := size_of_entries he
    have l2 : kvs.length = xs.length := Paired.length pr
    omega
  · obtain ⟨b, hb, e1, e2, _⟩ := paired_get pr e
    have q := entry_at he i
    rw [hb] at q
    exact ⟨_, b.2.1, q, rfl, e2⟩
def Itkn (P : Program) (w : World) (d : Addr) (o : Obj) (kvs : List (Sg × V)) : It :=
  ⟨fun i H => DF P w H d o kvs ∧ i < kvs.length, fun i H x H' => H' = H ∧ ∃ (k : Sg) (v : V) (q : Addr), kvs[i]? = some (k, v) ∧ x = .ref q ∧ StA H q k, fun i H => DF P w H d o kvs ∧ kvs.length ≤ i⟩
theorem turn_keysN {P : Program} {w : World} {K : PySem.W.Frag} {tg : Expr} {es : Array DictEntry} {ep : Nat} {kvs : List (Sg × V)} (it : Addr) (hod : o.data = .dict es ep) : Turn P w K tg (Itkn P w d o kvs) [it] it (fun i h => h.IsKeyIter it d i kvs.length ep) where
  mem := by simp
  obj := fun i h st b hb => by
    have e : b = it := by simpa using hb
    subst e
    obtain ⟨oi, e, c, dd⟩ := st
    exact ⟨oi, e, fun v z => by rw [dd] at z; cases z⟩
  keep := fun i h h' st k => st.at fun oi e => k it (by simp) oi e
  item := by
    intro X hP hw hK hc i pins s σ H E I hf st hg
    subst hP hw hK
    obtain ⟨hd, hi⟩ := hg
    obtain ⟨f0, f1, f2, f3, f4, f5⟩ := hf it (by simp)
    obtain ⟨hs, hgd, hx, es', ep', hdt, hsz, ent⟩ := frzN I hd
    obtain ⟨rfl, rfl⟩ := dict_ep hod hdt
    obtain ⟨⟨k, v⟩, hkv⟩ : ∃ p, kvs[i]? = some p := ⟨kvs[i], List.getElem?_eq_getElem hi⟩
    obtain ⟨en, q, hen, hkey, hq⟩ := ent i k v hkv
    refine next_key_item st hgd hdt hsz hen fun h' st' sb => ?_
    have I1 : Inv X pins σ H { s with heap := h' } := I.turned (t' := s.toks) (fun b ob hb e => (sb.2 b hb).trans e) f0 f1 f3 f4 f5
    obtain ⟨oi, e, c, dd⟩ := id st'
    exact ⟨en.key, rfl, go_of (s := { s with heap := h' }) e c dd (by decide) ⟨.ref q, H, I1, hkey, ⟨rfl, k, v, q, hkv, rfl, hq⟩, st', fun b hb => (hf b hb).1⟩⟩
  done := by
    intro X hP hw hK hc i pins s σ H E I hf st hg
    subst hP hw hK
    obtain ⟨hd, hi⟩ := hg
    obtain ⟨f0, f1, f2, f3, f4, f5⟩ := hf it (by simp)
    obtain ⟨hs, hgd, hx, es', ep', hdt, hsz, ent⟩ := frzN I hd
    obtain ⟨rfl, rfl⟩ := dict_ep hod hdt
    exact next_key_end (I.ok.hd hc) st hgd hdt hsz hi fun h' eb => ⟨rfl, I.turned (t' := s.toks) (fun b ob hb e => eb b ob hb e) f0 f1 f3 f4 f5⟩
  self := fun A i s Q E st h => by
    refine wpAny_pyIter_slot st.typeIs F.slot_dict_keyiterator_iter (wpAny_call_entry F.slot_dict_keyiterator_iter st.typeIs F.entry_dict_keyiterator_iter ?_ (F.args_dict_keyiterator_iter_1 _))
    show wpAny _ _ (ret (.ref it)) _ _ s
    exact wpAny_pure ⟨_, rfl, "dict_keyiterator", _, st.typeIs, F.slot_dict_keyiterator_next.lookup, h⟩
def iNKeys (P : Program) (w : World) (td : TE) : TI := fun σ H R => td σ H fun x H1 => ∃ d o kvs, x = .ref d ∧ DF P w H1 d o kvs ∧ R (Itkn P w d o kvs) H1
theorem pi_nkeys {tg e : Expr} {td : TE} (he : PE X e td) : PI X tg e (iNKeys X.prog X.w td) := by
  refine ⟨fun pins s σ H R I h => ?_⟩
  refine thn (he.run pins s σ H _ I h) fun u s1 ⟨x, H1, I1, rx, d, o, kvs, ex, hd, q⟩ => ?_
  subst ex
  obtain rfl : u = Value.ref d := rx
  obtain ⟨hs, hgd, hx, es, ep, hdt, hsz, ent⟩ := frzN I1 hd
  refine iter_keys hs hgd hx hdt (pi_one (tk := s1.toks) I1 _ (turn_keysN _ hdt) ⟨_, Heap.get?_push_size _ rfl, rfl, ?_⟩ q)
  rw [hsz] <;> rfl
/-- a walk over the keys -/
theorem walk_nkeys {P : Program} {w : World} {kvs : List (Sg × V)} : Walk (Itkn P w d o kvs) kvs.length (fun H => DF P w H d o kvs) (fun i H x H' => H' = H ∧ ∃ (k : Sg) (v : V) (q : Addr), kvs[i]? = some (k, v) ∧ x = .ref q ∧ StA H q k) :=
  ⟨fun _ _ hi q => ⟨q, hi⟩, fun _ q => ⟨q, Nat.le_refl _⟩, fun _ _ _ _ _ _ y => y⟩
end
/-! ### dict(a list of pairs) -/
section
variable {X : Cx}
/-- pairs (standing, value) at ps -/
def PairsN (H : Hp) (ps : List Addr) (kvs : List (Sg × V)) : Prop := Paired (fun p kv => ∃ b, H p = some (.tup [.ref b, kv.2]) ∧ StA H b kv.1) ps kvs
theorem PairsN.keep {H H' : Hp} {ps : List Addr} {kvs : List (Sg × V)} (h : PairsN H ps kvs) (s : Tups H H') : PairsN H' ps kvs := pimp h fun _ _ ⟨b, e, z⟩ => ⟨b, s _ _ e, z.keep s⟩
def mergeN (kvs more : List (Sg × V)) : List (Sg × V) := more.foldl (fun acc kv => putK acc kv.1 kv.2) kvs
theorem mergeN_len : ∀ (more kvs : List (Sg × V)), (mergeN kvs more).length ≤ kvs.length + more.length
  | [], kvs => by show kvs.length ≤ kvs.length + 0; omega
  | p :: r, kvs => by
    have h1 := mergeN_len r (putK kvs p.1 p.2)
    have h2 := length_putK kvs p.1 p.2
    show (mergeN (putK kvs p.1 p.2) r).length ≤ _
    rw [List.length_cons]; omega
/-- unlike keys: the pairs as they stand -/
theorem mergeN_app : ∀ (more kvs : List (Sg × V)), ((kvs ++ more).map (·.1)).Nodup → mergeN kvs more = kvs ++ more
  | [], kvs, _ => (List.append_nil kvs).symm
  | p :: r, kvs, h => by
    have e1 : valV kvs p.1 = none := by
      cases q : valV kvs p.1 with
      | none => rfl
      | some v =>
        have m := valV_in q
        rw [List.map_append, List.nodup_append] at h
        exact absurd rfl (h.2.2 _ m _ (List.mem_map.mpr ⟨p, List.mem_cons_self, rfl⟩))
    show mergeN (putK kvs p.1 p.2) r = _
    rw [putK_new _ e1, mergeN_app r]
    · simp
    · simpa using h
theorem mergeN_nil {more : List (Sg × V)} (h : (more.map (·.1)).Nodup) : mergeN [] more = more := by
  have := mergeN_app more [] (by simpa using h)
  simpa using this
theorem KN.merge {H : Hp} {more : List (Sg × V)} {rs : List (NestedKey × Addr × Value)} (r : KN H more rs) : ∀ {kvs : List (Sg × V)} {xs : List (NestedKey × Addr × Value)}, KN H kvs xs → KN H (mergeN kvs more) (storedAllH xs rs) := by
  induction r with
  | nil => intro _ _ q; exact q
  | @cons p q ps qs h t ih =>
    intro kvs xs r0
    have e := r0.put p.1 h.2.1 h.2.2
    rw [← h.1] at e
    exact ih e
theorem pairsN_raw {pins : List (Addr × Obj)} {σ : St} {H : Hp} {s : Shared} (I : Inv X pins σ H s) : ∀ {ps : List Addr} {kvs : List (Sg × V)}, PairsN H ps kvs →
    ∃ rs : List (NestedKey × Addr × Value), KN H kvs rs ∧ rs.length = ps.length ∧ ∀ (j : Nat) (q : NestedKey × Addr × Value), rs[j]? = some q → ∃ (a : Addr), ps[j]? = some a ∧ IsTup s.heap a #[Value.ref q.2.1, q.2.2]
  | _, _, .nil => ⟨[], .nil, rfl, fun j q e => by simp at e⟩
  | _, _, .cons (a := p) (b := kv) h t => by
    obtain ⟨rs, r, hl, hp⟩ := pairsN_raw I t
    obtain ⟨b, e, eb⟩ := h
    obtain ⟨_, its, rv, ht⟩ := (show ObjOk X.prog X.w H s.heap p (.tup [.ref b, kv.2]) from I.hok p _ e)
    obtain ⟨u, y, ei, ru, ry⟩ := vals2 rv
    subst ei
    obtain rfl : u = Value.ref b := ru
    refine ⟨(nk kv.1, b, y) :: rs, .cons ⟨rfl, eb, ry⟩ r, by rw [List.length_cons, List.length_cons, hl], fun j q e => ?_⟩
    cases j with
    | zero =>
      have e' : (nk kv.1, b, y) = q := Option.some.inj e
      subst e'
      exact ⟨p, rfl, ht⟩
    | succ j =>
      obtain ⟨a, e1, e2⟩ := hp j q (by simpa using e)
      exact ⟨a, by simpa using e1, e2⟩
def rNDict (K : PySem.W.Frag) (P : Program) (w : World) : List V → Hp → VK → Prop := fun xs H Q => ∃ (a : Addr) (ps : List Addr) (kvs : List (Sg × V)), xs = [.ref a] ∧ SqL K H a (ps.map V.ref) ∧ PairsN H ps kvs ∧
  ∀ p H', New H H' p → DN P w H' p (mergeN [] kvs) → Q (.ref p) H'
theorem call_dict_N (hc : X.calm = true) (hu : X.A.units + 16 < cLine) : CallR X (.type "dict") (rNDict X.K X.prog X.w) := by
  intro pins s σ H xs us Q I r h
  obtain ⟨a, ps, kvs, rfl, hS, hP, q⟩ := h
  obtain ⟨u, rfl, rx⟩ := vals1 r
  obtain rfl : u = .ref a := rx
  obtain ⟨its, rv, ⟨o, n, ho, hcl, hdi, hda⟩, hz⟩ := I.list hS
  have ei := refs_at rv
  subst ei
  obtain ⟨rs, rk, hl, hp⟩ := pairsN_raw I hP
  have hlk : kvs.length = rs.length := Paired.length rk
  rw [List.length_map] at hz
  have get : ∀ (j : Nat) (k v : Value), (rs.map fun x => (Value.ref x.2.1, x.2.2))[j]? = some (k, v) → ∃ x, rs[j]? = some x ∧ k = Value.ref x.2.1 ∧ v = x.2.2 := fun j k v e => by
    rw [List.getElem?_map] at e
    cases hx : rs[j]? with
    | none =>
      rw [hx] at e
      cases e
    | some x =>
      rw [hx] at e
      have e' : (Value.ref x.2.1, x.2.2) = (k, v) := Option.some.inj e
      injection e' with e1 e2
      exact ⟨x, rfl, e1.symm, e2.symm⟩
  have ok : PlainSeq "list" s.heap a (ps.map Value.ref).toArray ∧ PairItems s.heap (ps.map Value.ref).toArray (fun j => ps.getD j 0) (rs.map fun x => (Value.ref x.2.1, x.2.2)) := by
    refine ⟨⟨o, n, ho, hcl, hdi, hda⟩, by simp [hl], fun j k v e => ?_⟩
    obtain ⟨x, hx, e1, e2⟩ := get j k v e
    obtain ⟨c, hc1, hc2⟩ := hp j x hx
    refine ⟨by simp [hc1], .inl ?_⟩
    rw [e1, e2]
    show s.heap.IsTuple (ps.getD j 0) _
    rw [List.getD_eq_getElem?_getD, hc1]
    exact hc2
  refine call_dict_pairsH (knd := nestedKind X.prog X.w) (ps := rs) (PairArg.list a (ps.map Value.ref).toArray (fun j => ps.getD j 0) (rs.map fun x => (Value.ref x.2.1, x.2.2))) (I.ok.hd hc) (room_of (X := X) hu).2.2 ok ?_ ?_ (by rw [List.length_map]; omega) fun h' tk dd hk => ?_
  · refine ⟨by rw [List.length_map], fun i key v e => ?_⟩
    obtain ⟨x, hx, e1, e2⟩ := get i key v e
    exact ⟨x.1, x.2.1, by rw [hx, e2], e1⟩
  · intro h' hk x hx
    have all : ∀ {l : List (Sg × V)} {m : List (NestedKey × Addr × Value)}, KN H l m → ∀ x ∈ m, (nestedKind X.prog X.w).is s.heap x.1 x.2.1 := by
      intro l m q
      induction q with
      | nil => intro x hx; exact nomatch hx
      | @cons p q ps qs hq t ih =>
        intro x hx
        rcases List.mem_cons.mp hx with e | hx
        · subst e
          rw [hq.1]
          exact stA_is I.hok hq.2.1
        · exact ih x hx
    exact nestedKind_stays.stays (fun b o vs n e _ => hk b o (Nat.ne_of_lt (Heap.lt_size e)) (fun z => nomatch z) e) (all rk x hx)
  · have hn := I.hok.fresh (Nat.le_refl s.heap.objs.size)
    have nw : New H (upd H s.heap.objs.size (dnO X.prog X.w s.heap.objs.size (storedAllH [] rs))) s.heap.objs.size := New.upd hn
    refine ⟨.ref s.heap.objs.size, _, I.laid (t' := tk) (fun b o e => hk b o (fun z => nomatch z) e) (Nat.le_refl _) (dnO_ok dd), rfl, q _ _ nw ⟨?_, beq_eq_false_iff_ne.mpr (Nat.ne_of_gt I.big), _, upd_same, (KN.merge rk .nil).keep (tps nw.same)⟩⟩
    have h1 := mergeN_len kvs []
    rw [List.length_nil] at h1
    omega
end
end L2.K87
set_option Elab.async false
set_option linter.all false
set_option autoImplicit false
set_option maxRecDepth 100000
/-! {k: v for .. if ..}, the keys standings. -/
namespace L2.K87
open PySem PySem.Spec PyProof.Rows
/-- one turn's wish: the target g, the tests tt, key and value, the store into the dict at D -/
def nTurn (P : Program) (w : World) (g : TG) (tt : TT) (tk tv : TE) (vs : List Nat) (σ : St) (D : Addr) (Nx : Hp → Prop) (x : V) (H' : Hp) : Prop :=
  g x (wipe σ vs) H' fun σ2 H2 => wipe σ2 vs = wipe σ vs ∧ tt σ2 H2 fun b H3 => if b = true then tk σ2 H3 fun y H4 => tv σ2 H4 fun z H5 => NPut P w H5 D y z Nx else Nx H3
def tNDc (P : Program) (w : World) (wi : TI) (g : TG) (tt : TT) (tk tv : TE) (vs : List Nat) : TE := fun σ H Q => wi σ H fun J H1 => ∀ D H2, New H1 H2 D → DN P w H2 D [] →
  ∃ W : Nat → Nat → Hp → Prop, (∃ m, W 0 m H2) ∧ ∀ i m H, W i m H → (J.stop i H ∧ Q (.ref D) H) ∨
    (J.go i H ∧ ∃ Nx : Hp → Prop, (∀ H', Nx H' → ∃ m', m' < m ∧ W (i + 1) m' H') ∧ ∀ x H', J.yld i H x H' → nTurn P w g tt tk tv vs σ D Nx x H')
/-- what the parts of the comprehension are, in its own block -/
structure DcParts (X : Cx) (kx vx tg : Expr) (ifs : List Expr) (scope : Scope) (g : TG) (tt : TT) (tk tv : TE) : Prop where
  tg : ∀ (s : Shared) (H : Hp) (C : Addr) (cl : List (Str × Addr)) (fp : List Addr), PG (X.blk s H scope (compEnvC scope cl C X.env) fp) tg g
  te : ∀ (s : Shared) (H : Hp) (C : Addr) (cl : List (Str × Addr)) (fp : List Addr), PTs (X.blk s H scope (compEnvC scope cl C X.env) fp) ifs tt
  ky : ∀ (s : Shared) (H : Hp) (C : Addr) (cl : List (Str × Addr)) (fp : List Addr), PE (X.blk s H scope (compEnvC scope cl C X.env) fp) kx tk
  vl : ∀ (s : Shared) (H : Hp) (C : Addr) (cl : List (Str × Addr)) (fp : List Addr), PE (X.blk s H scope (compEnvC scope cl C X.env) fp) vx tv
section
variable {X : Cx} {kx vx tg iter : Expr} {ifs : List Expr} {scope : Scope} {own : List (Str × Nat)} {pos : Pos} {wi : TI} {g : TG} {tt : TT} {tk tv : TE}
theorem ndc_core {pins : List (Addr × Obj)} {s : Shared} {σ : St} {H : Hp} {Q : VK} {ipos : Pos} {use : Option (Value → Sem Unit)} {Qf : Value → Shared → Prop}
    (hc : X.calm = true) (hu : X.A.units + 16 < cLine) (hN : X.N.Nodup) (I : Inv X pins σ H s) (hi : PI X tg iter wi) (ok : BlkOk X.N X.env.scope scope own) (hp : DcParts X kx vx tg ifs scope g tt tk tv)
    (hs : ∀ x, foldedSetIterable iter X.env x = pure x) (h : tNDc X.prog X.w wi g tt tk tv (own.map (·.2)) σ H Q)
    (fin : ∀ D C s' m H', Inv X pins σ H' s' → Q (.ref D) H' → s'.heap.Ns C m → FpOk X pins H' C → compPost (model X.prog X.w) X.A X.xe use Qf (.ref D) C (.ok .next) s') :
    wpAny (model X.prog X.w) X.A (comprehension (.DictComp kx vx [⟨tg, iter, ifs, 0⟩] scope pos) scope X.env ipos newDict false (eval iter X.env) use) Qf X.xe s := by
  have clo : ∀ y ∈ scope.names, y.2 = .free → ∃ c, X.env.cells.lookup y.1 = some c := fun y hy e =>
    (ok.free y hy e).elim (fun k => I.ok.has _ (.inl k)) fun k => I.ok.has _ (.inr k)
  refine wpAny_comprehension_free (use := use) rfl hs (closure_ok clo) ok.kind (fun y hy e => by rw [ok.uniq y hy, e]) (thn (hi.run pins s σ H _ I h) fun xv s1 hx => thn hx fun itv s2 h2 => ?_)
  obtain ⟨it, fp, tn, J, H2, rfl, I2, T, st2, f2, q⟩ := h2
  refine wpAny_newObj_type (newEnv_comp ?_)
  -- the new dict
  obtain ⟨D, hD⟩ : ∃ D, s2.heap.objs.size = D := ⟨_, rfl⟩
  rw [hD]
  have hDn : H2 D = none := I2.hok.fresh (Nat.le_of_eq hD)
  obtain ⟨eD, dD⟩ := dn_empty (P := X.prog) (w := X.w) (h := s2.heap) (H := H2) I2.big (by rw [hD]; exact hDn)
  rw [hD] at eD dD
  obtain ⟨H3, eH3⟩ : ∃ H3, upd H2 D (dnO X.prog X.w D []) = H3 := ⟨_, rfl⟩
  obtain ⟨s3, es3⟩ : ∃ s3 : Shared, s3 = { s2 with heap := s2.heap.push { cls := .type "dict", data := .dict #[] } } := ⟨_, rfl⟩
  have h3 : s3.heap = s2.heap.push { cls := .type "dict", data := .dict #[] } := by rw [es3]
  have nw : New H2 H3 D := by
    rw [← eH3]
    exact New.upd hDn
  rw [eH3] at eD dD
  have I3 : Inv X pins σ H3 s3 := by
    rw [es3, ← eH3]
    exact I2.laid (t' := s2.toks) (fun b o e => Heap.get?_push_of_some _ e) (Nat.le_of_eq hD) (by rw [eH3]; exact eD)
  obtain ⟨W, ⟨m0, w0⟩, turn⟩ := q D H3 nw dD
  have below : ∀ b ∈ fp, b < s2.heap.objs.size := fun b hb => let ⟨o, e, _⟩ := T.obj _ _ st2 b hb; Heap.lt_size e
  have f3 : ∀ b ∈ fp, FpOk X pins H3 b ∧ b < s3.heap.objs.size := fun b hb => by
    have hlt := below b hb
    refine ⟨⟨?_, (f2 b hb).2⟩, by rw [h3, Heap.size_push]; exact Nat.lt_succ_of_lt hlt⟩
    rw [nw.els b (by rw [← hD]; exact Nat.ne_of_lt hlt)]
    exact (f2 b hb).1
  have st3 : tn 0 s3.heap := T.keep _ _ _ st2 fun b _ o e => by
    rw [h3]
    exact Heap.get?_push_of_some _ e
  have I4 := block_start I3 ok hN f3
  -- the block's parts
  obtain ⟨cl, ecl⟩ : ∃ cl, cl = cellsFrom (s3.heap.objs.size + 1) scope.names (cloFrom X.env.cells scope.names []) := ⟨_, rfl⟩
  rw [← ecl] at I4
  have goalD : codeAny (model X.prog X.w) X.A (.compStart (.DictComp kx vx [⟨tg, iter, ifs, 0⟩] scope pos) 0 (.ref it) (.ref D) (compEnvC scope cl s3.heap.objs.size X.env))
      (compPost (model X.prog X.w) X.A X.xe use Qf (.ref D) s3.heap.objs.size) { s3 with heap := pushCells (s3.heap.push { cls := .type "dict", data := .dict #[] }) scope.names } := by
    have pg := hp.tg s3 H3 s3.heap.objs.size cl fp
    have pt := hp.te s3 H3 s3.heap.objs.size cl fp
    have pk := hp.ky s3 H3 s3.heap.objs.size cl fp
    have pv := hp.vl s3 H3 s3.heap.objs.size cl fp
    obtain ⟨ce, ece⟩ : ∃ ce, compEnvC scope cl s3.heap.objs.size X.env = ce := ⟨_, rfl⟩
    have cL : ce.locals = s3.heap.objs.size := by rw [← ece]; rfl
    rw [ece] at I4 pg pt pk pv ⊢
    obtain ⟨s4, es4⟩ : ∃ s4 : Shared, s4 = { s3 with heap := pushCells (s3.heap.push { cls := .type "dict", data := .dict #[] }) scope.names } := ⟨_, rfl⟩
    rw [← es4] at I4 ⊢
    have st4 : tn 0 s4.heap := T.keep _ _ _ st3 fun b _ o e => by
      rw [es4]
      exact pushCells_keeps _ _ _ _ (Heap.get?_push_of_some _ e)
    have quiet : ∀ {σ' : St} {H' : Hp} {s' : Shared}, Inv (X.blk s3 H3 scope ce fp) [] σ' H' s' → (∀ b ∈ fp, H' b = none) → ∀ b ∈ fp, FpOk (X.blk s3 H3 scope ce fp) [] H' b := fun I' hn b hb =>
      ⟨hn b hb, (I'.ok.exf b hb).1, I'.ok.exfs b hb, .inl hb, fun x c e => (I'.ok.exf b hb).2 x c e, fun p hp => by cases hp⟩
    have loop : codeAny (model X.prog X.w) X.A (.compLoop (.DictComp kx vx [⟨tg, iter, ifs, 0⟩] scope pos) 0 (.ref it) (.ref D) ce) (compPost (model X.prog X.w) X.A X.xe use Qf (.ref D) s3.heap.objs.size) s4 := by
      refine compLoop_anyD (fun n s' => ∃ i H', Inv (X.blk s3 H3 scope ce fp) [] (wipe σ (own.map (·.2))) H' s' ∧ tn i s'.heap ∧ (∀ b ∈ fp, H' b = none) ∧ W i n H') ?_ m0 ⟨0, H3, I4, st4, fun b hb => (f3 b hb).1.1, w0⟩
      rintro n s5 ⟨i, H5, I5, st5, n5, w5⟩
      rcases turn i n H5 w5 with ⟨stop, qq⟩ | ⟨go, Nx, hNx, step⟩
      · -- the end: back in the def
        refine thnF (T.done (X.blk s3 H3 scope ce fp) rfl rfl rfl hc i [] s5 _ H5 (fun _ _ => False) I5 (quiet I5 n5) st5 stop) fun r s6 ⟨hr, I6⟩ => ?_
        subst hr
        have I7 : Inv X pins σ H5 s6 := I3.call' (ch := fp) I6.os I6.base I6.hok I6.bare fun b hb => let z := (f3 b hb).1; ⟨z.2.2.2.1, z.2.1, z.2.2.2.2.1, z.2.2.2.2.2⟩
        have nC : H5 s3.heap.objs.size = none := by
          have z : H5 ce.locals = none := I6.free
          rwa [cL] at z
        obtain ⟨m, hn, _⟩ := I6.loc
        have hn : s6.heap.Ns ce.locals m := hn
        rw [cL] at hn
        exact fin D s3.heap.objs.size s6 m H5 I7 qq hn (I3.fpOk (Nat.le_refl _) nC)
      · -- a turn
        refine thnF (T.item (X.blk s3 H3 scope ce fp) rfl rfl rfl hc i [] s5 _ H5 (fun _ _ => False) I5 (quiet I5 n5) st5 go) fun r s6 ⟨u, hr, h6⟩ => ?_
        subst hr
        refine thnF h6 fun _ s7 ⟨x, H7, I7, r7, y7, st7, n7⟩ => ?_
        have I7' := I7.pinned (quiet I7 n7) (T.obj _ _ st7)
        refine thnF (pg.run _ s7 _ H7 x u _ I7' r7 (step x H7 y7)) fun _ s8 ⟨σ8, H8, I8, hw8, q8⟩ => ?_
        refine thnF (pt.run _ s8 σ8 H8 _ I8 q8) fun b s9 ⟨H9, I9, q9⟩ => ?_
        have close : ∀ {s' : Shared} {H' : Hp}, Inv (X.blk s3 H3 scope ce fp) ([] ++ pinsAt fp s7.heap) σ8 H' s' → Nx H' →
            ∃ m, m < n ∧ ∃ i H', Inv (X.blk s3 H3 scope ce fp) [] (wipe σ (own.map (·.2))) H' s' ∧ tn i s'.heap ∧ (∀ b ∈ fp, H' b = none) ∧ W i m H' := fun {s' H'} I' nx => by
          obtain ⟨m', hm, w'⟩ := hNx H' nx
          have there : ∀ b ∈ fp, ∀ o, s7.heap.get? b = some o → s'.heap.get? b = some o ∧ H' b = none := fun b hb o e =>
            have z := I'.pin (b, o) (List.mem_append_right _ (List.mem_append_right _ (mem_pinsAt hb e)))
            ⟨z.1, z.2.1⟩
          have hl : (wipe σ (own.map (·.2))).length = σ8.length := by rw [← hw8, wipe_length]
          refine ⟨m', hm, i + 1, H', (I'.unpinned (pins := [])).weak hl (fun j v e => ?_), T.keep _ _ _ st7 fun b hb o e => (there b hb o e).1, fun b hb => ?_, w'⟩
          · rw [← hw8] at e
            exact (wipe_some e).1
          · obtain ⟨o, e, _⟩ := T.obj _ _ st7 b hb
            exact (there b hb o e).2
        cases b with
        | false =>
          simp only [Bool.false_eq_true, if_false] at q9 ⊢
          exact close I9 q9
        | true =>
          simp only [if_true] at q9 ⊢
          refine thnF (pk.run _ s9 σ8 H9 _ I9 q9) fun kv s10 ⟨yk, H10, I10, r10, q10⟩ => ?_
          refine thnF (pv.run _ s10 σ8 H10 _ I10 q10) fun vv s11 ⟨yv, H11, I11, r11, np⟩ => ?_
          exact n_dictSet (X := X.blk s3 H3 scope ce fp) hu I11 np r10 r11 fun H12 s12 I12 nx => close I12 nx
    exact codeAny_compStart_dict loop (T.self X.A 0 _ _ _ st4 loop)
  rw [ecl, es3] at goalD
  exact goalD
/-- as a value -/
theorem pe_ndc (hc : X.calm = true) (hu : X.A.units + 16 < cLine) (hN : X.N.Nodup) (hi : PI X tg iter wi) (ok : BlkOk X.N X.env.scope scope own) (hp : DcParts X kx vx tg ifs scope g tt tk tv) (hs : ∀ x, foldedSetIterable iter X.env x = pure x := by intro _; rfl) :
    PE X (.DictComp kx vx [⟨tg, iter, ifs, 0⟩] scope pos) (tNDc X.prog X.w wi g tt tk tv (own.map (·.2))) := by
  refine ⟨fun pins s σ H Q I h => ?_⟩
  rw [arm_eval_DictComp]
  refine ndc_core hc hu hN I hi ok hp hs h fun D C s' m H' I' q hn f => ⟨m, hn, fun h'' sb => ?_⟩
  obtain ⟨f0, f1, f2, f3, f4, f5⟩ := f
  exact ⟨.ref D, H', I'.turned (t' := s'.toks) (fun b o hb e => (sb.2 b hb).trans e) f0 f1 f3 f4 f5, rfl, q⟩
/-- name = {..} on one line, the name a local -/
theorem ps_setNDc {i : Nat} {y : Str} {py spos : Pos} (hc : X.calm = true) (hu : X.A.units + 16 < cLine) (hN : X.N.Nodup) (hy : X.N[i]? = some y) (hyl : X.env.scope.names.lookup y = some .local)
    (hsw : swapsWith (.DictComp kx vx [⟨tg, iter, ifs, 0⟩] scope pos) (some (.Name y py)) spos.line X.env = pure true) (hi : PI X tg iter wi) (ok : BlkOk X.N X.env.scope scope own) (hp : DcParts X kx vx tg ifs scope g tt tk tv)
    (hs : ∀ x, foldedSetIterable iter X.env x = pure x := by intro _; rfl) : PS X (.Assign [.Name y py] (.DictComp kx vx [⟨tg, iter, ifs, 0⟩] scope pos) spos) (tAsg (tNDc X.prog X.w wi g tt tk tv (own.map (·.2))) (gName i)) := by
  refine ⟨fun pins s σ H D I h => ?_⟩
  rw [exec_Assign_Name_used _ _ _ _ hsw]
  refine wpAny_bind (wpAny_standAt (wpAny_bind ?_))
  have h : tNDc X.prog X.w wi g tt tk tv (own.map (·.2)) σ H (fun x H1 => gName i x σ H1 D.nx) := h
  show wpAny _ X.A (do let _ ← comprehension (.DictComp kx vx [⟨tg, iter, ifs, 0⟩] scope pos) scope X.env (firstIterPos [⟨tg, iter, ifs, 0⟩] pos) newDict false (eval iter X.env) (some (assign (.Name y py) X.env))) _ _ s
  refine wpAny_bind (thn (ndc_core (Qf := fun _ s' => SP X pins D .next s') hc hu hN I hi ok hp hs h fun L C s' m H' I' q hn f => ?_) fun _ s' hq => wpAny_pure (wpAny_pure hq))
  show wpAny _ _ (assign (.Name y py) X.env (.ref L)) _ _ _
  refine wpAny_assign_Name (store_ok2 (v := V.ref L) I' hN hy (.inl hyl) rfl (fun s2 I2 ⟨a, sb, ha⟩ => ?_) (.inr hyl))
  obtain ⟨f0, f1, f2, f3, f4, f5⟩ := f
  have haC : C ≠ a := ha.elim (fun z => by rw [z]; exact f1) fun z e => f4 y a z e.symm
  exact ⟨m, hn.sameBut sb haC, fun h3 sb3 => ⟨_, H', I2.turned (t' := s2.toks) (fun b o hb e => (sb3.2 b hb).trans e) f0 f1 f3 f4 f5, q⟩⟩
/-- over a walk -/
theorem ndc_it {P : Program} {w : World} {J : It} {n : Nat} {G : Hp → Prop} {Y : Nat → Hp → V → Hp → Prop} (wk : Walk J n G Y) {vs : List Nat} {σ : St} {H2 : Hp} {D : Addr} {Qd : Hp → Prop} (Pv : Nat → Hp → Prop) (h0 : Pv 0 H2) (hG : ∀ i H, i ≤ n → Pv i H → G H)
    (hs : ∀ i x H H', i < n → Pv i H → Y i H x H' → nTurn P w g tt tk tv vs σ D (Pv (i + 1)) x H') (hd : ∀ H, Pv n H → Qd H) :
    ∃ W : Nat → Nat → Hp → Prop, (∃ m, W 0 m H2) ∧ ∀ i m H, W i m H → (J.stop i H ∧ Qd H) ∨
      (J.go i H ∧ ∃ Nx : Hp → Prop, (∀ H', Nx H' → ∃ m', m' < m ∧ W (i + 1) m' H') ∧ ∀ x H', J.yld i H x H' → nTurn P w g tt tk tv vs σ D Nx x H') := by
  refine ⟨fun i m H => m = n - i ∧ i ≤ n ∧ Pv i H, ⟨n, by simp, Nat.zero_le _, h0⟩, ?_⟩
  rintro i m H ⟨rfl, hi, p⟩
  have q := hG i H hi p
  by_cases hlt : i < n
  · exact .inr ⟨wk.goes i H hlt q, Pv (i + 1), fun H' p' => ⟨n - (i + 1), by omega, rfl, hlt, p'⟩, fun x H' y => hs i x H H' hlt p (wk.yields i H x H' hlt q y)⟩
  · have e : i = n := by omega
    subst e
    exact .inl ⟨wk.stops H q, hd H p⟩
end
end L2.K87
set_option Elab.async false
set_option linter.all false
set_option autoImplicit false
set_option maxRecDepth 100000
/-! What every def's proof leans on. -/
namespace L2.K87
open PySem PySem.Spec PyProof.Rows
/-- a test whose outcome is known -/
theorem iteD {c : Prop} [Decidable c] {A B : Prop} (hc : c) (h : A) : if decide c = true then A else B := by
  rw [decide_eq_true hc]
  exact iteT h
theorem iteDN {c : Prop} [Decidable c] {A B : Prop} (hc : ¬ c) (h : B) : if decide c = true then A else B := by
  rw [decide_eq_false hc]
  exact iteF h
theorem iteN {c : Prop} [Decidable c] {A B : Prop} (hc : ¬ c) (h : A) : if (!decide c) = true then A else B := by
  rw [decide_eq_false hc]
  exact iteT h
/-- built-ins that the module does not hide -/
structure Txt (mg : Str → Option Value) : Prop where
  len : mg "len" = none
  isi : mg "isinstance" = none
  all : mg "all" = none
  tup : mg "tuple" = none
  lst : mg "list" = none
  dic : mg "dict" = none
  set : mg "set" = none
  srt : mg "sorted" = none
  rev : mg "reversed" = none
  zip : mg "zip" = none
  enm : mg "enumerate" = none
  rng : mg "range" = none
  min : mg "min" = none
  max : mg "max" = none
  sum : mg "sum" = none
  abs : mg "abs" = none
  int : mg "int" = none
  rep : mg "repr" = none
  str : mg "str" = none
  bol : mg "bool" = none
section
variable {P : Program} {w : World} {K : PySem.W.Frag} {mg : Str → Option Value} {base : Heap}
/-- a def that may be called by its name -/
structure Cal (P : Program) (w : World) (K : PySem.W.Frag) (mg : Str → Option Value) (base : Heap) (k : Nat) (x : Str) (ps : List Str) (sp : Sp) : Prop where
  ex : ∃ (f : Addr) (fd : FuncData), FnOk P w K mg base CX0 k f fd ps sp ∧ mg x = some (.ref f) ∧ PySem.W.keepIn K (.ref f) = true ∧ Binds K fd ps []
theorem pe_cal {X : Cx} {k : Nat} {x : Str} {ps : List Str} {sp : Sp} {p pos : Pos} {e : Expr} {es : List Expr} {t : TA} (G : Cal X.prog X.w X.K X.mg X.base k x ps sp) (hr : Room k X.A) (hg : Gl X x) (ha : PA X (e :: es) t)
    (hdb : (x == ("__debug__" : Str)) = false := by decide) (he : starEach (e :: es) X.env = (false, eval e X.env) :: starEach es X.env := by rfl) (hpl : (backTo pos (starEach es X.env)).any (·.1) = false := by rfl) : PE X (.Call (.Name x p) (e :: es) [] pos) (tCall sp [] E0 t) := by
  obtain ⟨f, fd, F, g, kp, b⟩ := G.ex
  exact pe_call F hr hg g kp b .nil pass0 ha hdb he hpl
/-- a def of the text and its body -/
theorem okF {x qual : Str} {st : Stmt} {kws : List (Str × V)} {f : Addr} {fd : FuncData} {N ps : List Str} {k : Nat} {sp : Sp} (F : FnP K x qual st kws f fd) (S : FnScope N ps (defScope st)) (len : ∀ vs H Q E, sp vs H Q E → vs.length = ps.length)
    (hbody : ∀ (cdv : Value) (A : Around) (outer : List Env) (s : Shared) (H : Hp) (vs : List V) (Q : VK) (E : XK), Room k (A.deeper (envOfC qual (defScope st) s.heap.objs.size f cdv)) → sp vs H Q E →
      ∃ t, PSs (cxOf CX0 P w K mg base N qual (defScope st) f cdv A outer s H E).nox (defBody st) t ∧ t { nx := fun _ H' => Q .non H', rt := Q } (start N vs) H) : FnOk P w K mg base CX0 (k + 1) f fd ps sp :=
  F.ok S len fun cdv A outer s H vs Q E hr h => let ⟨t, a, b⟩ := hbody cdv A outer s H vs Q E hr h; ⟨t, a.nox, b⟩
theorem cal_of {x : Str} {st : Stmt} {f : Addr} {fd : FuncData} {ps : List Str} {k : Nat} {sp : Sp} (F : FnP K x x st [] f fd) (g : mg x = some (.ref f)) (ok : FnOk P w K mg base CX0 k f fd ps sp)
    (h : ∀ (kV doc pm : Value) (an : Option Addr) (cdv ct : Value) (us : List Value), us.length = ps.length → bindArgs (PySem.W.fnOf x x (defArgs st) (defBody st) (defScope st) .none kV doc pm an cdv ct) ⟨us, []⟩ = pure (ps.zip us)) : Cal P w K mg base k x ps sp :=
  ⟨f, fd, ok, g, F.kp, F.bindsN h⟩
/-- a list comprehension over a walk: Rel tells the list so far, and hangs on tuples alone -/
theorem lcT {J : It} {n : Nat} {G : Hp → Prop} {Y : Nat → Hp → V → Hp → Prop} (wk : Walk J n G Y) {g : TG} {tt : TT} {te : TE} {vs : List Nat} {σ : St} {H1 : Hp} {D : Addr} {Qd : Hp → Prop} (hD : H1 D = none) (Rel : Nat → Hp → List V → Prop)
    (mono : ∀ i H H' ys, Tups H H' → Rel i H ys → Rel i H' ys) (hG : ∀ H, Same H1 H → G H) (h0 : Rel 0 H1 []) (hlen : ∀ i H ys, Rel i H ys → ys.length ≤ i) (hn : n ≤ sizeLine)
    (turn : ∀ i x H H' ys (Yes : V → Hp → Prop) (No : Hp → Prop), i < n → Same H1 H → Rel i H ys → Y i H x H' → (∀ y H4, Same H H4 → Rel (i + 1) H4 (ys ++ [y]) → Yes y H4) → (∀ H3, Same H H3 → Rel (i + 1) H3 ys → No H3) →
      g x (wipe σ vs) H' fun σ2 H2 => wipe σ2 vs = wipe σ vs ∧ tt σ2 H2 fun b H3 => if b = true then te σ2 H3 Yes else No H3)
    (done : ∀ H ys, Same H1 H → H D = some (.lst ys) → Rel n H ys → Qd H) :
    ∃ W : Nat → Nat → Hp → Prop, (∃ m, W 0 m (upd H1 D (.lst []))) ∧ ∀ i m H, W i m H →
      (J.stop i H ∧ Qd H) ∨ (J.go i H ∧ ∃ Nx : Hp → Prop, (∀ H', Nx H' → ∃ m', m' < m ∧ W (i + 1) m' H') ∧ ∀ x H', J.yld i H x H' → g x (wipe σ vs) H' fun σ2 H2 => wipe σ2 vs = wipe σ vs ∧ tt σ2 H2 fun b H3 =>
        if b = true then te σ2 H3 fun y H4 => ∃ acc, H4 D = some (.lst acc) ∧ acc.length < sizeLine ∧ Nx (upd H4 D (.lst (acc ++ [y]))) else Nx H3) := by
  have tp : ∀ {H : Hp} {ys zs : List V}, H D = some (.lst ys) → Tups H (upd H D (.lst zs)) := fun {H ys zs} e b xs eb => by
    rw [upd_ne (ne_of eb e (fun z => nomatch z))]
    exact eb
  have tp0 : Tups H1 (upd H1 D (.lst [])) := fun b xs e => by
    rw [upd_ne (ne_of_none e hD)]
    exact e
  refine lc_it wk (fun i H => Same H1 H ∧ ∃ ys, H D = some (.lst ys) ∧ Rel i H ys) ⟨(New.upd hD).same, [], upd_same, mono _ _ _ _ tp0 h0⟩ (fun i H _ p => hG H p.1) ?_ fun H ⟨s, ys, e, r⟩ => done H ys s e r
  rintro i x H H' hi ⟨s, ys, e, r⟩ y
  refine turn i x H H' ys (fun y4 H4 => ∃ acc, H4 D = some (.lst acc) ∧ acc.length < sizeLine ∧ (fun H => Same H1 H ∧ ∃ ys, H D = some (.lst ys) ∧ Rel (i + 1) H ys) (upd H4 D (.lst (acc ++ [y4]))))
    (fun H3 => (fun H => Same H1 H ∧ ∃ ys, H D = some (.lst ys) ∧ Rel (i + 1) H ys) H3) hi s r y (fun y4 H4 s4 r4 => ⟨ys, s4 _ _ e, Nat.lt_of_lt_of_le (Nat.lt_of_le_of_lt (hlen _ _ _ r) hi) hn, ?_, ys ++ [y4], upd_same, mono _ _ _ _ (tp (s4 _ _ e)) r4⟩)
    fun H3 s3 r3 => ⟨s.trans s3, ys, s3 _ _ e, r3⟩
  intro b o eb
  rw [upd_ne (ne_of_none eb hD)]
  exact s4 _ _ (s b o eb)
theorem rInt {i : Int} {t : Tok} : RelV (.int i) (.int i t) := ⟨t, rfl⟩
theorem rStr {x : Str} {t : Tok} : RelV (.str x) (.str x t) := ⟨t, rfl⟩
theorem yesT {σ : St} {H : Hp} {te : TE} {Yes : V → Hp → Prop} {No : Hp → Prop} (h : te σ H Yes) : tYes σ H (fun b H3 => if b = true then te σ H3 Yes else No H3) := by
  show (if true = true then te σ H Yes else No H)
  exact iteT h
/-- a target of two names -/
abbrev g2 (K : PySem.W.Frag) (i j : Nat) : TG := gTup K 2 (gCons (gName i) (gCons (gName j) gNil))
theorem pg2 {X : Cx} {i j : Nat} {x y : Str} {px py pos : Pos} {k : Nat} (hc : X.calm = true) (hN : X.N.Nodup) (hi : X.N[i]? = some x) (hj : X.N[j]? = some y) (hx : Loc X.env.scope x) (hy : Loc X.env.scope y)
    (fx : X.fn x = true ∨ X.env.scope.names.lookup x = some .local) (fy : X.fn y = true ∨ X.env.scope.names.lookup y = some .local) : PG X (.Tuple [.Name x px, .Name y py] k pos) (g2 X.K i j) :=
  pg_tup hc (pgs_cons (pg_name hN hi hx fx) (pgs_cons (pg_name hN hj hy fy) pgs_nil))
theorem hu16 {A : Around} {k : Nat} (hr : Room k A) : A.units + 16 < cLine := Nat.lt_of_le_of_lt (Nat.add_le_add_left (by decide : 16 ≤ 64) _) hr.units
theorem hu1 {A : Around} {k : Nat} (hr : Room k A) : A.units + 1 < cLine := hu_of hr
end
end L2.K87
set_option Elab.async false
set_option linter.all false
set_option autoImplicit false
set_option maxRecDepth 100000
/-! Standings: the beat, the call, in plain words. -/
namespace L2.K87
open PySem PySem.Spec PyProof.Rows
def ups (st : Sg) : List Str := (st.filter fun p => decide (p.2 = 1)).map (·.1)
def beatP (ls : List Int) (n : Nat) (p : Str × Int) : Str × Int := (p.1, if p.2 = 1 then ls.getD (n - 1) 0 else p.2 - 1)
def beatS (ls : List Int) (st : Sg) : Sg := st.map (beatP ls (ups st).length)
def withP (k : List Str) (p : Str × Int) : Str × Int := (p.1, if p.1 ∈ k then 1 else p.2)
def withC (st : Sg) (k : List Str) : Sg := st.map (withP k)
def callS (ls : List Int) (st : Sg) (k : List Str) : Sg := beatS ls (withC st k)
theorem ups_le (st : Sg) : (ups st).length ≤ st.length := by
  unfold ups
  rw [List.length_map]
  exact List.length_filter_le _ _
theorem beatS_len (ls : List Int) (st : Sg) : (beatS ls st).length = st.length := List.length_map _
theorem withC_len (st : Sg) (k : List Str) : (withC st k).length = st.length := List.length_map _
theorem callS_len (ls : List Int) (st : Sg) (k : List Str) : (callS ls st k).length = st.length := by
  unfold callS
  rw [beatS_len, withC_len]
theorem map_fst_beat (ls : List Int) (st : Sg) : (beatS ls st).map (·.1) = st.map (·.1) := by
  unfold beatS
  rw [List.map_map]
  rfl
theorem map_fst_with (st : Sg) (k : List Str) : (withC st k).map (·.1) = st.map (·.1) := by
  unfold withC
  rw [List.map_map]
  rfl
theorem map_fst_call (ls : List Int) (st : Sg) (k : List Str) : (callS ls st k).map (·.1) = st.map (·.1) := by
  unfold callS
  rw [map_fst_beat, map_fst_with]
/-! ### paired lists -/
theorem pget {α β : Type} {G : α → β → Prop} {l : List α} {m : List β} (h : Paired G l m) {i : Nat} {a : α} (e : l[i]? = some a) : ∃ b, m[i]? = some b ∧ G a b := paired_get h e
theorem pget2 {α β : Type} {G : α → β → Prop} {l : List α} {m : List β} (h : Paired G l m) : ∀ {i : Nat} {b : β}, m[i]? = some b → ∃ a, l[i]? = some a ∧ G a b := by
  induction h with
  | nil => intro i b e; simp at e
  | @cons a b l m r t ih =>
    intro i b' e
    cases i with
    | zero =>
      simp only [List.getElem?_cons_zero, Option.some.injEq] at e
      subst e
      exact ⟨a, rfl, r⟩
    | succ j =>
      simp only [List.getElem?_cons_succ] at e ⊢
      exact ih e
theorem psnoc {α β : Type} {G : α → β → Prop} {l : List α} {m : List β} (h : Paired G l m) {a : α} {b : β} (r : G a b) : Paired G (l ++ [a]) (m ++ [b]) := Paired.snoc h r
theorem plen {α β : Type} {G : α → β → Prop} {l : List α} {m : List β} (h : Paired G l m) : l.length = m.length := Paired.length h
theorem ptake {α β : Type} {G : α → β → Prop} {l : List α} {m : List β} (h : Paired G l m) : ∀ n, Paired G (l.take n) (m.take n) := by
  induction h with
  | nil => intro n; simp; exact .nil
  | @cons a b l m r t ih =>
    intro n
    cases n with
    | zero => exact .nil
    | succ n => exact .cons r (ih n)
theorem take_snoc {α : Type} {l : List α} {i : Nat} {x : α} (h : l[i]? = some x) : l.take (i + 1) = l.take i ++ [x] := by
  rw [List.take_add_one, h]
  rfl
theorem take_all {α : Type} {l : List α} {n : Nat} (h : n = l.length) : l.take n = l := by
  subst h
  exact List.take_length
theorem mget {α β : Type} {f : α → β} {l : List α} {i : Nat} {y : β} (h : (l.map f)[i]? = some y) : ∃ x, l[i]? = some x ∧ y = f x := by
  rw [List.getElem?_map] at h
  cases e : l[i]? with
  | none =>
    rw [e] at h
    cases h
  | some x =>
    rw [e] at h
    exact ⟨x, rfl, (Option.some.inj h).symm⟩
theorem get_lt {α : Type} {l : List α} {i : Nat} {x : α} (h : l[i]? = some x) : i < l.length := (List.getElem?_eq_some_iff.mp h).1
theorem lt_get {α : Type} {l : List α} {i : Nat} (h : i < l.length) : ∃ x, l[i]? = some x := ⟨l[i], List.getElem?_eq_getElem h⟩
/-! ### heaps, one object apart -/
/-- all but p is as it was -/
def SameX (p : Addr) (H H' : Hp) : Prop := ∀ b o, b ≠ p → H b = some o → H' b = some o
theorem SameX.of {p : Addr} {H H' : Hp} (s : Same H H') : SameX p H H' := fun b o _ e => s b o e
theorem SameX.refl (p : Addr) (H : Hp) : SameX p H H := fun _ _ _ e => e
theorem SameX.trans {p : Addr} {H H1 H2 : Hp} (a : SameX p H H1) (b : SameX p H1 H2) : SameX p H H2 := fun c o n e => b c o n (a c o n e)
theorem SameX.upd {p : Addr} {H : Hp} {o : HO} : SameX p H (upd H p o) := fun b u n e => by
  rw [upd_ne n]
  exact e
/-- p was not there: then all is as it was -/
theorem SameX.same {p : Addr} {H H' : Hp} (s : SameX p H H') (h : H p = none) : Same H H' := fun b o e => s b o (ne_of_none e h) e
/-- a list that grows -/
theorem same_upd {H H' : Hp} {p : Addr} {o : HO} (s : Same H H') (h : H p = none) : Same H (upd H' p o) := fun b u e => by
  rw [upd_ne (ne_of_none e h)]
  exact s b u e
theorem tups_upd {H : Hp} {p : Addr} {u o : HO} (h : H p = some u) (nt : ∀ xs, u ≠ .tup xs) : Tups H (upd H p o) := fun b xs e => by
  by_cases hb : b = p
  · subst hb
    rw [h] at e
    exact absurd (Option.some.inj e) (nt xs)
  · rw [upd_ne hb]
    exact e
theorem tups_lst {H : Hp} {p : Addr} {ys : List V} {o : HO} (h : H p = some (.lst ys)) : Tups H (upd H p o) := tups_upd h fun _ z => nomatch z
theorem tups_new {H : Hp} {p : Addr} {o : HO} (h : H p = none) : Tups H (upd H p o) := tps (New.upd h).same
/-! ### standings and strokes on the heap -/
theorem stA_get {H : Hp} {qs : List Addr} {st : Sg} (r : Paired (PrA H) qs st) {i : Nat} {x : V} (h : (qs.map V.ref)[i]? = some x) : ∃ q p, x = .ref q ∧ qs[i]? = some q ∧ st[i]? = some p ∧ PrA H q p := by
  obtain ⟨q, hq, rfl⟩ := mget h
  obtain ⟨p, hp, r⟩ := pget r hq
  exact ⟨q, p, rfl, hq, hp, r⟩
theorem stA_len {H : Hp} {qs : List Addr} {st : Sg} (r : Paired (PrA H) qs st) : (qs.map V.ref).length = st.length := by rw [List.length_map, plen r]
/-- a stroke: a list of names -/
def SkA (H : Hp) (a : Addr) (k : List Str) : Prop := H a = some (.lst (k.map V.str))
/-- strokes -/
def SksA (H : Hp) (a : Addr) (ks : List (List Str)) : Prop := ∃ as : List Addr, H a = some (.lst (as.map V.ref)) ∧ Paired (SkA H) as ks
theorem SkA.same {H H' : Hp} {a : Addr} {k : List Str} (h : SkA H a k) (s : Same H H') : SkA H' a k := s _ _ h
theorem SksA.same {H H' : Hp} {a : Addr} {ks : List (List Str)} (h : SksA H a ks) (s : Same H H') : SksA H' a ks := by
  obtain ⟨as, e, r⟩ := h
  exact ⟨as, s _ _ e, pimp r fun _ _ z => z.same s⟩
theorem skA_get {H : Hp} {as : List Addr} {ks : List (List Str)} (r : Paired (SkA H) as ks) {i : Nat} {x : V} (h : (as.map V.ref)[i]? = some x) : ∃ q k, x = .ref q ∧ as[i]? = some q ∧ ks[i]? = some k ∧ SkA H q k := by
  obtain ⟨q, hq, rfl⟩ := mget h
  obtain ⟨p, hp, r⟩ := pget r hq
  exact ⟨q, p, rfl, hq, hp, r⟩
/-- the book at b: its lengths -/
def BkA (C : Addr) (H : Hp) (b : Addr) (ls : List Int) : Prop := ∃ dx t, H b = some (.ins C dx [("rows", .ref t)]) ∧ H t = some (.tup (ls.map V.int))
theorem BkA.same {C : Addr} {H H' : Hp} {b : Addr} {ls : List Int} (h : BkA C H b ls) (s : Same H H') : BkA C H' b ls := by
  obtain ⟨dx, t, e1, e2⟩ := h
  exact ⟨dx, t, s _ _ e1, s _ _ e2⟩
/-- the class Book -/
structure BookC (K : PySem.W.Frag) (mg : Str → Option Value) (C : Addr) : Prop where
  cl : Cls K C
  nR : NoAttr K C "rows"
  mgC : mg "Book" = some (.ref C)
/-- a method of it -/
structure MCal (P : Program) (w : World) (K : PySem.W.Frag) (mg : Str → Option Value) (base : Heap) (C : Addr) (k : Nat) (m : Str) (ps : List Str) (sp : Sp) : Prop where
  ex : ∃ (f : Addr) (fd : FuncData), FnOk P w K mg base CX0 k f fd ps sp ∧ Meth K C m f ∧ Binds K fd ps []
theorem no_rows {t : Addr} {m : Str} (h : ¬ m = "rows") : ([("rows", V.ref t)] : List (Str × V)).lookup m = none := by
  rw [List.lookup_cons]
  have : (m == ("rows" : Str)) = false := by simpa using h
  rw [this]
  rfl
theorem rows_at {t : Addr} : ([("rows", V.ref t)] : List (Str × V)).lookup ("rows" : Str) = some (.ref t) := by
  rw [List.lookup_cons, beq_self_eq_true]
end L2.K87
namespace L2.K87
open PySem PySem.Spec PyProof.Rows
theorem eqV_str (a b : Str) : eqV (.str a) (.str b) = decide (a = b) := by
  unfold eqV
  by_cases h : a = b
  · subst h
    simp
  · rw [decide_eq_false h]
    exact beq_eq_false_iff_ne.mpr h
theorem inV_str (n : Str) : ∀ k : List Str, inV (.str n) (k.map V.str) = decide (n ∈ k)
  | [] => by simp [inV]
  | m :: k => by
    have ih := inV_str n k
    unfold inV at ih ⊢
    rw [List.map_cons, List.any_cons, ih, eqV_str]
    by_cases h1 : m = n
    · subst h1
      simp
    · by_cases h2 : n ∈ k
      · simp [h2]
      · have : ¬ n = m := fun e => h1 e.symm
        simp [h1, h2, this]
theorem flat_strs (k : List Str) : (k.map V.str).all flatV = true := by
  rw [List.all_eq_true]
  intro x hx
  obtain ⟨s, _, rfl⟩ := List.mem_map.mp hx
  rfl
end L2.K87
namespace L2.K87
open PySem PySem.Spec PyProof.Rows
/-- a wish -/
inductive Wish where
  | groups (n : Int)
  | together (ns : List Str)
def WiA (H : Hp) (a : Addr) : Wish → Prop
  | .groups n => H a = some (.tup [.str "groups", .int n])
  | .together ns => ∃ l, H a = some (.tup [.str "together", .ref l]) ∧ H l = some (.lst (ns.map V.str))
theorem WiA.same {H H' : Hp} {a : Addr} {wi : Wish} (h : WiA H a wi) (s : Same H H') : WiA H' a wi := by
  cases wi with
  | groups n => exact s _ _ h
  | together ns =>
    obtain ⟨l, e1, e2⟩ := h
    exact ⟨l, s _ _ e1, s _ _ e2⟩
theorem decI (a b : Int) : decide (V.int a = V.int b) = decide (a = b) := by
  by_cases h : a = b
  · subst h
    simp
  · have : ¬ V.int a = V.int b := fun z => h (by injection z)
    rw [decide_eq_false h, decide_eq_false this]
theorem decS (a b : Str) : decide (V.str a = V.str b) = decide (a = b) := by
  by_cases h : a = b
  · subst h
    simp
  · have : ¬ V.str a = V.str b := fun z => h (by injection z)
    rw [decide_eq_false h, decide_eq_false this]
end L2.K87
set_option Elab.async false
set_option linter.all false
set_option autoImplicit false
set_option maxRecDepth 100000
set_option maxHeartbeats 4000000
/-! len(set(ints)), sorted of a dict with int keys, of (name, rest) pairs. -/
namespace L2.K87
open PySem PySem.Spec PyProof.Rows
/-- the unlike ones, as they are first met -/
def dist (xs : List Int) : List Int := xs.foldl PyProof.Rows.step_dedup []
theorem firstMet_dist (ns : List Int) : ∀ i, i ≤ ns.length → PyProof.Rows.firstMet (fun i => ns.getD i 0) i = dist (ns.take i)
  | 0, _ => rfl
  | i + 1, h => by
    obtain ⟨x, hx⟩ := lt_get (l := ns) (i := i) h
    rw [PyProof.Rows.firstMet_succ, firstMet_dist ns i (by omega), take_snoc hx]
    unfold dist
    rw [List.foldl_append]
    show _ = PyProof.Rows.step_dedup _ x
    rw [List.getD_eq_getElem?_getD, hx]
    rfl
theorem step_mem (s : List Int) (v x : Int) : x ∈ PyProof.Rows.step_dedup s v ↔ x ∈ s ∨ x = v := by
  unfold PyProof.Rows.step_dedup
  split
  · rename_i h
    have hv : v ∈ s := by simpa using h
    constructor
    · exact Or.inl
    · rintro (h | rfl)
      · exact h
      · exact hv
  · simp
theorem step_nodup {s : List Int} {v : Int} (h : s.Nodup) : (PyProof.Rows.step_dedup s v).Nodup := by
  unfold PyProof.Rows.step_dedup
  split
  · exact h
  · rename_i hn
    have hv : v ∉ s := by simpa using hn
    rw [List.nodup_append]
    refine ⟨h, by simp, ?_⟩
    intro a ha b hb
    have : b = v := by simpa using hb
    subst this
    rintro rfl
    exact hv ha
theorem dist_fold : ∀ (xs s : List Int), s.Nodup → (xs.foldl PyProof.Rows.step_dedup s).Nodup ∧ ∀ x, x ∈ xs.foldl PyProof.Rows.step_dedup s ↔ x ∈ s ∨ x ∈ xs
  | [], s, h => ⟨h, fun x => by simp⟩
  | v :: xs, s, h => by
    obtain ⟨h1, h2⟩ := dist_fold xs _ (step_nodup (v := v) h)
    refine ⟨h1, fun x => ?_⟩
    show x ∈ xs.foldl PyProof.Rows.step_dedup (PyProof.Rows.step_dedup s v) ↔ _
    rw [h2, step_mem, List.mem_cons, or_assoc]
theorem dist_nodup (xs : List Int) : (dist xs).Nodup := (dist_fold xs [] List.nodup_nil).1
theorem dist_mem (xs : List Int) (x : Int) : x ∈ dist xs ↔ x ∈ xs := by
  have := (dist_fold xs [] List.nodup_nil).2 x
  unfold dist
  simpa using this
theorem dist_snoc (xs : List Int) (v : Int) : dist (xs ++ [v]) = PyProof.Rows.step_dedup (dist xs) v := by
  unfold dist
  rw [List.foldl_append]
  rfl
theorem dist_len (xs : List Int) : (dist xs).length ≤ xs.length := by
  have all : ∀ (xs s : List Int), (xs.foldl PyProof.Rows.step_dedup s).length ≤ s.length + xs.length := by
    intro xs
    induction xs with
    | nil => intro s; simp
    | cons v xs ih =>
      intro s
      have h1 := ih (PyProof.Rows.step_dedup s v)
      have h2 : (PyProof.Rows.step_dedup s v).length ≤ s.length + 1 := by
        unfold PyProof.Rows.step_dedup
        split
        · omega
        · simp
      show (xs.foldl PyProof.Rows.step_dedup (PyProof.Rows.step_dedup s v)).length ≤ _
      rw [List.length_cons]
      omega
  have := all xs []
  simpa [dist] using this
section
variable {X : Cx}
/-- len(set(xs)) of ints -/
def tLenSet (K : PySem.W.Frag) (ta : TE) : TE := fun σ H Q => ta σ H fun x H1 => ∃ (l : Addr) (ns : List Int), x = .ref l ∧ SqL K H1 l (ns.map V.int) ∧ ns.length ≤ 4000 ∧ Q (.int ((dist ns).length : Nat)) H1
theorem pe_lenSet {a : Expr} {ta : TE} {p p2 q pos : Pos} (hg : Gl X "len") (hm : X.mg "len" = none) (hg2 : Gl X "set") (hm2 : X.mg "set" = none) (ha : PE X a ta) (hc : X.calm = true := by rfl)
    (na : starEach [a] X.env = (false, eval a X.env) :: starEach [] X.env := by rfl) : PE X (.Call (.Name "len" p) [.Call (.Name "set" p2) [a] [] q] [] pos) (tLenSet X.K ta) := by
  refine ⟨fun pins s σ H Q I h => ?_⟩
  refine Call_ (ld_blt I hg hm PySem.boot_len (PyProof.Rows.callWith_builtin1 (PyProof.Rows.args_cons ?_ rfl) rfl rfl))
  refine Call_ (ld_blt I hg2 hm2 PyProof.Rows.boot_set ?_)
  refine PyProof.Rows.callWith_type1 (PyProof.Rows.args_cons (thn (ha.run pins s σ H _ I h) fun v s1 ⟨x, H1, I1, r1, l, ns, ex, hq, hl, q1⟩ => PyProof.Rows.args_nil ?_) na) na rfl
  subst ex
  cases r1
  obtain ⟨its, r, pl, hz⟩ := I1.list hq
  have hsz : its.toArray.size = ns.length := by rw [List.size_toArray, ← r.length, List.length_map]
  have hd := firstMet_dist ns ns.length (Nat.le_refl _)
  rw [List.take_length] at hd
  have hdl := dist_len ns
  refine call_set_list (I1.ok.hd hc) pl.isList (by simpa using RZ.intsAre_vals r) (by rw [hsz]; unfold scanBound; omega) fun h' tk hS hk => PyProof.Rows.args_nil ?_
  rw [hsz, hd] at hS
  obtain ⟨o, es, ep, t, ho, hex, hdt, _, _, _, hf, hn⟩ := hS
  have I2 : Inv X pins σ H1 { s1 with heap := h', toks := tk } := I1.kept fun b o e => hk b o (Heap.lt_size e) e
  exact call_len_set ho hex hdt hf (by rw [hn]; omega) ⟨.int ((dist ns).length : Nat), H1, I2.tok _, ⟨_, by rw [hn]⟩, q1⟩
/-- sorted(d), d's keys ints -/
def rSortedKI : List V → Hp → VK → Prop := fun xs H Q => ∃ (a : Addr) (kvs : List (Key × V)) (ks : List Int), xs = [.ref a] ∧ H a = some (.dK kvs) ∧ kvs.map (·.1) = ks.map Sum.inl ∧ ks.length ≤ 1000 ∧
  ∀ (ys : List Int) p, ys.Perm ks → H p = none → Q (.ref p) (upd H p (.lst (ys.map V.int)))
theorem each_ints : ∀ {us : List Value} {ks : List Int}, us.length = ks.length → (∀ (j : Nat) (v : Value), us[j]? = some v → ∃ (x : Int) (t : Tok), ks[j]? = some x ∧ v = Value.int x t) → PySem.W.EachIs (fun v x => ∃ t, v = Value.int x t) us ks
  | [], [], _, _ => .nil
  | u :: us, k :: ks, hl, h => by
    obtain ⟨x, t, e1, e2⟩ := h 0 u rfl
    have e1' : k = x := Option.some.inj e1
    subst e1'
    refine .cons ⟨t, e2⟩ (each_ints (by simpa using hl) fun j v e => ?_)
    obtain ⟨x, t, a, b⟩ := h (j + 1) v (by simpa using e)
    exact ⟨x, t, by simpa using a, b⟩
  | [], _ :: _, hl, _ => by simp at hl
  | _ :: _, [], hl, _ => by simp at hl
theorem each_vals : ∀ {us : List Value} {ks : List Int}, PySem.W.EachIs (fun v x => ∃ t, v = Value.int x t) us ks → Vals (ks.map V.int) us
  | _, _, .nil => .nil
  | _, _, .cons ⟨t, e⟩ r => by
    subst e
    exact .cons ⟨t, rfl⟩ (each_vals r)
theorem call_sortedKI (hcalm : X.calm = true) (hu : X.A.units + 16 < cLine) : CallR X (.builtin "sorted") rSortedKI := by
  intro pins s σ H xs us Q I r q
  obtain ⟨a, kvs, ks, rfl, hd, hks, hlen, q⟩ := q
  obtain ⟨u, rfl, rx⟩ := vals1 r
  cases rx
  obtain ⟨z, lo, vs, rel, dd⟩ := dk_of I.hok hd
  obtain ⟨ep, hat⟩ := dd.dictAt
  have hkeys : vs.map (·.1) = ks.map Sum.inl := rel.keys.symm.trans hks
  have hl : vs.length = ks.length := by
    have e := congrArg List.length hkeys
    rwa [List.length_map, List.length_map] at e
  have h16 : ks.length ≤ sizeLine := Nat.le_trans hlen (by decide)
  refine Calls.call_function_entry PyProof.Rows.kind_sorted PyProof.Rows.plain_sorted PyProof.Rows.entry_sorted (PyProof.Rows.args_sorted1 _) ?_
  unfold Builtin.«sorted»
  refine wpAny_bind (m := checkCount "sorted" 1 1 _) (wpAny_pure ?_)
  refine wpAny_bind (PySem.W.kdu_collect (A := X.A.in1) (PySem.W.kdl_dict (knd := mixKind X.prog X.w) (kvs := vs) (ep := ep) lo) (I.ok.hd hcalm) hat (by rw [hl]; exact h16) fun h' tk acc hk hacc => ?_)
  have hal : acc.toList.length = ks.length := by rw [Array.length_toList, hacc.1, hl]
  have hE : PySem.W.EachIs (fun v x => ∃ t, v = Value.int x t) acc.toList ks := each_ints hal fun j v e => by
    obtain ⟨k, x, e1, e2⟩ := hacc.2 j v (by rw [← Array.getElem?_toList]; exact e)
    have e3 : (vs.map (·.1))[j]? = some k := by rw [List.getElem?_map, e1] <;> rfl
    rw [hkeys] at e3
    obtain ⟨y, hy, ek⟩ := mget e3
    subst ek
    obtain ⟨t, ev⟩ := Value.isInt_shape (k := y) (v := v) e2
    exact ⟨y, t, hy, ev⟩
  have I1 : Inv X pins σ H { s with heap := h', toks := tk } := I.kept hk
  refine wpAny_bind (wpAny_newList ?_ (by rw [hal]; exact h16))
  have hoL : (h'.push (seqObj "list" acc.toList.toArray 0)).get? h'.objs.size = some (seqObj "list" acc.toList.toArray 0) := Heap.get?_push_size _ rfl
  show wpAny _ _ _ _ _ { s with heap := h'.push (seqObj "list" acc.toList.toArray 0), toks := tk }
  refine wpAny_bind (wpAny_holding (PySem.W.list_sort_data (A := X.A.in1) (s := { s with heap := h'.push (seqObj "list" acc.toList.toArray 0), toks := tk }) (enc := fun i : Int => PyData.int i) hoL hE
    (hE.mono fun v x ⟨t, e⟩ => by subst e; exact ⟨[], .int x t, fun z => nomatch z⟩) (PySem.W.AllAlike.of fun b b' => by simp [PySem.W.alike]) (PySem.W.Sortable.others fun b => ⟨(fun z => nomatch z), fun xs z => nomatch z⟩) h16 (fun b _ => by show X.A.units + 1 + 1 + (PyData.int b).depth < cLine; simp only [PyData.depth]; omega) fun out ol oe => ?_))
  obtain ⟨e', he'⟩ := PyProof.Rows.sortedHeap_at (vs := acc.toList) (out := List.toArray out) hoL
  have hp : (ks.mergeSort (PySem.W.dataLe false fun i : Int => PyData.int i)).Perm ks := List.mergeSort_perm ..
  have hlen2 : ((ks.mergeSort (PySem.W.dataLe false fun i : Int => PyData.int i)).map V.int).length ≤ sizeLine := by
    rw [List.length_map, hp.length_eq]
    exact h16
  refine wpAny_pure ⟨_, rfl, .ref h'.objs.size, upd H h'.objs.size (.lst ((ks.mergeSort (PySem.W.dataLe false fun i : Int => PyData.int i)).map V.int)), I1.laid (t' := tk) (fun b u e => ?_) (Nat.le_refl _)
    (show ObjOk X.prog X.w _ _ _ (.lst _) from ⟨hlen2, out, e', each_vals oe, he'⟩), rfl, q _ _ hp (I1.hok.fresh (Nat.le_refl _))⟩
  have hb : b < h'.objs.size := Heap.lt_size e
  rw [PyProof.Rows.sortedHeap_old (Nat.ne_of_lt hb) (by rw [size_push']; exact Nat.lt_succ_of_lt hb)]
  exact Heap.get?_push_of_some _ e
/-! ### sorted of a list of pairs (name, rest) -/
def encP (p : Str × Int) : PyData := .tuple [.str p.1, .int p.2]
/-- a standing sorted as Python sorts it -/
def sortP (st : Sg) : Sg := st.mergeSort (PySem.W.dataLe false encP)
theorem sortP_perm (st : Sg) : (sortP st).Perm st := List.mergeSort_perm ..
theorem encP_depth (p : Str × Int) : (encP p).depth ≤ 1 := by
  simp [encP, PyData.depth, PyData.depthAll]
theorem each_prs {H : Hp} {qs : List Addr} {st : Sg} (r : Paired (PrA H) qs st) : PySem.W.EachIs (fun v p => ∃ q, v = Value.ref q ∧ PrA H q p) (qs.map Value.ref) st := by
  induction r with
  | nil => exact .nil
  | cons h t ih => exact .cons ⟨_, rfl, h⟩ ih
theorem prs_each {H : Hp} {out : List Value} {st : Sg} (e : PySem.W.EachIs (fun v p => ∃ q, v = Value.ref q ∧ PrA H q p) out st) : ∃ qs : List Addr, out = qs.map Value.ref ∧ Paired (PrA H) qs st := by
  induction e with
  | nil => exact ⟨[], rfl, .nil⟩
  | cons h t ih =>
    obtain ⟨qs, e, r⟩ := ih
    obtain ⟨q, e1, r1⟩ := h
    exact ⟨q :: qs, by rw [e1, e, List.map_cons], .cons r1 r⟩
theorem prA_reads {P : Program} {w : World} {H : Hp} {h : Heap} (ok : HOk P w H h) {q : Addr} {p : Str × Int} (e : PrA H q p) : Reads h (.ref q) (encP p) [] := by
  obtain ⟨_, its, r, o, h1, h2, n, h3⟩ := (show ObjOk P w H h q (.tup [.str p.1, .int p.2]) from ok q _ e)
  cases r with
  | cons r1 t =>
    cases t with
    | cons r2 t =>
      cases t
      obtain ⟨t1, rfl⟩ := r1
      obtain ⟨t2, rfl⟩ := r2
      exact .tuple h1 h2 h3 (.cons (.str _ _) (.cons (.int _ _) .nil))
def rSortedP (K : PySem.W.Frag) : List V → Hp → VK → Prop := fun xs H Q => ∃ (a : Addr) (qs : List Addr) (st : Sg), xs = [.ref a] ∧ SqL K H a (qs.map V.ref) ∧ Paired (PrA H) qs st ∧ st.length ≤ 1000 ∧
  ∀ (rs : List Addr) p, Paired (PrA H) rs (sortP st) → H p = none → Q (.ref p) (upd H p (.lst (rs.map V.ref)))
theorem call_sortedP (hu : X.A.units + 16 < cLine) : CallR X (.builtin "sorted") (rSortedP X.K) := by
  intro pins s σ H xs us Q I r q
  obtain ⟨a, qs, st, rfl, hS, pr, hlen, q⟩ := q
  obtain ⟨u, rfl, rx⟩ := vals1 r
  cases rx
  obtain ⟨its, rv, pl, hz⟩ := I.list hS
  have ei := refs_at rv
  subst ei
  have h16 : st.length ≤ sizeLine := Nat.le_trans hlen (by decide)
  refine PySem.W.sorted_data (enc := encP) pl.isList (each_prs pr) ((each_prs pr).mono fun v p ⟨q, e, hp⟩ => by subst e; exact ⟨[], prA_reads I.hok hp⟩) (PySem.W.AllAlike.of fun b b' => by simp [encP, PySem.W.alike, PySem.W.alikeAll]) (PySem.W.Sortable.tuples fun b => ⟨_, _, rfl⟩) h16
    (fun b _ => by have := encP_depth b; omega) fun out ol oe => ?_
  obtain ⟨rs, eo, pr2⟩ := prs_each oe
  subst eo
  obtain ⟨ep, he'⟩ := PyProof.Rows.sortedAll_at s.heap (qs.map Value.ref) (List.toArray (rs.map Value.ref))
  have hln : (rs.map V.ref).length ≤ sizeLine := by
    rw [List.length_map, Paired.length pr2, (List.mergeSort_perm ..).length_eq]
    exact h16
  exact ⟨.ref _, upd H (s.heap.objs.size + 1) (.lst (rs.map V.ref)), I.laid (t' := s.toks) (fun _ _ => PyProof.Rows.sortedAll_old) (Nat.le_succ _) ⟨hln, rs.map Value.ref, ep, vals_refs rs, he'⟩, rfl, q rs _ pr2 (I.hok.fresh (Nat.le_succ _))⟩
end
end L2.K87
set_option autoImplicit false
set_option linter.all false
/-! Mathematics of the lot and of the costs: states S, edges nx s (calls, there) in the strokes' order. No program here. -/
namespace L2.K87
section
variable {S : Type} [DecidableEq S]

/-! ### the lot -/
def grow1 (f : List S) (t : S) : List S := if t ∈ f then f else f ++ [t]
def grow (f ts : List S) : List S := ts.foldl grow1 f
/-- the lot behind k standings whose strokes were done -/
def lotF (su : S → List S) (s0 : S) : Nat → List S
  | 0 => [s0]
  | k + 1 => match (lotF su s0 k)[k]? with
    | none => lotF su s0 k
    | some s => grow (lotF su s0 k) (su s)
theorem grow1_mem {f : List S} {t x : S} : x ∈ grow1 f t ↔ x ∈ f ∨ x = t := by
  unfold grow1
  split
  · rename_i h
    constructor
    · exact Or.inl
    · rintro (h' | rfl)
      · exact h'
      · exact h
  · simp
theorem grow_mem {ts f : List S} {x : S} : x ∈ grow f ts ↔ x ∈ f ∨ x ∈ ts := by
  induction ts generalizing f with
  | nil => simp [grow]
  | cons t ts ih =>
    show x ∈ grow (grow1 f t) ts ↔ _
    rw [ih, grow1_mem, List.mem_cons, or_assoc]
theorem nodup_snoc {f : List S} {t : S} (h : f.Nodup) (ht : t ∉ f) : (f ++ [t]).Nodup := by
  rw [List.nodup_append]
  refine ⟨h, by simp, ?_⟩
  intro a ha b hb
  have : b = t := by simpa using hb
  subst this
  rintro rfl
  exact ht ha
theorem grow1_nodup {f : List S} {t : S} (h : f.Nodup) : (grow1 f t).Nodup := by
  unfold grow1
  split
  · exact h
  · rename_i ht
    exact nodup_snoc h ht
theorem grow_nodup {ts f : List S} (h : f.Nodup) : (grow f ts).Nodup := by
  induction ts generalizing f with
  | nil => exact h
  | cons t ts ih => exact ih (grow1_nodup h)
theorem grow1_pre (f : List S) (t : S) : ∃ r, grow1 f t = f ++ r := by
  unfold grow1
  split
  · exact ⟨[], by simp⟩
  · exact ⟨[t], rfl⟩
theorem grow_pre (f ts : List S) : ∃ r, grow f ts = f ++ r := by
  induction ts generalizing f with
  | nil => exact ⟨[], by simp [grow]⟩
  | cons t ts ih =>
    obtain ⟨r1, e1⟩ := grow1_pre f t
    obtain ⟨r2, e2⟩ := ih (grow1 f t)
    refine ⟨r1 ++ r2, ?_⟩
    show grow (grow1 f t) ts = _
    rw [e2, e1, List.append_assoc]
theorem grow_snoc (f ts : List S) (t : S) : grow f (ts ++ [t]) = grow1 (grow f ts) t := by
  unfold grow
  rw [List.foldl_append]
  rfl
theorem grow_len (f ts : List S) : f.length ≤ (grow f ts).length := by
  obtain ⟨r, e⟩ := grow_pre f ts
  rw [e, List.length_append]
  omega
theorem grow1_len (f : List S) (t : S) : (grow1 f t).length ≤ f.length + 1 := by
  unfold grow1
  split
  · omega
  · simp
section
variable {su : S → List S} {s0 : S}
theorem lotF_nodup : ∀ k, (lotF su s0 k).Nodup
  | 0 => by simp [lotF]
  | k + 1 => by
    unfold lotF
    split
    · exact lotF_nodup k
    · exact grow_nodup (lotF_nodup k)
theorem lotF_pre (k : Nat) : ∃ r, lotF su s0 (k + 1) = lotF su s0 k ++ r := by
  show ∃ r, (match (lotF su s0 k)[k]? with
    | none => lotF su s0 k
    | some s => grow (lotF su s0 k) (su s)) = _
  split
  · exact ⟨[], by simp⟩
  · exact grow_pre _ _
theorem lotF_le {j k : Nat} (h : j ≤ k) : ∃ r, lotF su s0 k = lotF su s0 j ++ r := by
  induction k with
  | zero =>
    have : j = 0 := by omega
    subst this
    exact ⟨[], by simp⟩
  | succ k ih =>
    by_cases e : j = k + 1
    · subst e
      exact ⟨[], by simp⟩
    · obtain ⟨r1, e1⟩ := ih (by omega)
      obtain ⟨r2, e2⟩ := lotF_pre (su := su) (s0 := s0) k
      exact ⟨r1 ++ r2, by rw [e2, e1, List.append_assoc]⟩
theorem lotF_get {j k i : Nat} {s : S} (h : j ≤ k) (e : (lotF su s0 j)[i]? = some s) : (lotF su s0 k)[i]? = some s := by
  obtain ⟨r, er⟩ := lotF_le (su := su) (s0 := s0) h
  rw [er, List.getElem?_append_left (List.getElem?_eq_some_iff.mp e).1]
  exact e
theorem lotF_succ {k : Nat} {s : S} (e : (lotF su s0 k)[k]? = some s) : lotF su s0 (k + 1) = grow (lotF su s0 k) (su s) := by
  show (match (lotF su s0 k)[k]? with
    | none => lotF su s0 k
    | some s => grow (lotF su s0 k) (su s)) = _
  rw [e]
theorem lotF_zero (k : Nat) : (lotF su s0 k)[0]? = some s0 := lotF_get (Nat.zero_le k) (by simp [lotF])
/-- L is the whole lot, found behind as many turns as it is long -/
structure IsLot (su : S → List S) (s0 : S) (L : List S) : Prop where
  eq : lotF su s0 L.length = L
  run : ∀ j, j < L.length → j < (lotF su s0 j).length
theorem IsLot.nodup {L : List S} (h : IsLot su s0 L) : L.Nodup := h.eq ▸ lotF_nodup _
theorem IsLot.first {L : List S} (h : IsLot su s0 L) : L[0]? = some s0 := by
  have := lotF_zero (su := su) (s0 := s0) L.length
  rw [h.eq] at this
  exact this
theorem IsLot.mem0 {L : List S} (h : IsLot su s0 L) : s0 ∈ L := List.mem_of_getElem? h.first
theorem IsLot.at {L : List S} (h : IsLot su s0 L) {j : Nat} (hj : j < L.length) : ∃ s, (lotF su s0 j)[j]? = some s ∧ L[j]? = some s := by
  have hl := h.run j hj
  refine ⟨(lotF su s0 j)[j], by simp [hl], ?_⟩
  have := lotF_get (su := su) (s0 := s0) (Nat.le_of_lt hj) (List.getElem?_eq_getElem hl)
  rw [h.eq] at this
  exact this
theorem IsLot.get {L : List S} (h : IsLot su s0 L) {j : Nat} {s : S} (e : L[j]? = some s) : (lotF su s0 j)[j]? = some s := by
  obtain ⟨s', e1, e2⟩ := h.at (List.getElem?_eq_some_iff.mp e).1
  rw [e] at e2
  cases e2
  exact e1
theorem IsLot.lenle {L : List S} (h : IsLot su s0 L) {j : Nat} (hj : j ≤ L.length) : (lotF su s0 j).length ≤ L.length := by
  obtain ⟨r, e⟩ := lotF_le (su := su) (s0 := s0) hj
  rw [h.eq] at e
  have := congrArg List.length e
  rw [List.length_append] at this
  omega
theorem IsLot.closed {L : List S} (h : IsLot su s0 L) {s t : S} (hs : s ∈ L) (ht : t ∈ su s) : t ∈ L := by
  obtain ⟨j, e⟩ := List.mem_iff_getElem?.mp hs
  have hj : j < L.length := (List.getElem?_eq_some_iff.mp e).1
  have e1 := lotF_succ (h.get e)
  have h1 : t ∈ lotF su s0 (j + 1) := by
    rw [e1]
    exact grow_mem.mpr (Or.inr ht)
  obtain ⟨r, er⟩ := lotF_le (su := su) (s0 := s0) (show j + 1 ≤ L.length from hj)
  rw [h.eq] at er
  rw [er]
  exact List.mem_append_left _ h1
/-- the turns come to an end where the lot is not longer than they were many -/
theorem isLot_of {k : Nat} (h1 : ∀ j, j < k → j < (lotF su s0 j).length) (h2 : (lotF su s0 k).length ≤ k) : IsLot su s0 (lotF su s0 k) := by
  have hk : (lotF su s0 k).length = k := by
    by_cases e : k = 0
    · subst e
      simp [lotF] at h2
    · have h3 := h1 (k - 1) (by omega)
      obtain ⟨r, er⟩ := lotF_le (su := su) (s0 := s0) (show k - 1 ≤ k by omega)
      have := congrArg List.length er
      rw [List.length_append] at this
      omega
  exact ⟨by rw [hk], by rw [hk]; exact h1⟩
end

/-! ### the costs -/
abbrev Cost := Nat × Nat
def cle (a b : Cost) : Prop := a.1 < b.1 ∨ (a.1 = b.1 ∧ a.2 ≤ b.2)
def clt (a b : Cost) : Prop := a.1 < b.1 ∨ (a.1 = b.1 ∧ a.2 < b.2)
instance (a b : Cost) : Decidable (clt a b) := by unfold clt; exact inferInstance
theorem not_clt {a b : Cost} : ¬ clt a b ↔ cle b a := by
  unfold clt cle
  constructor
  · intro h
    by_cases h1 : b.1 < a.1
    · exact Or.inl h1
    · have : a.1 = b.1 := by
        by_cases h2 : a.1 < b.1
        · exact absurd (Or.inl h2) h
        · omega
      refine Or.inr ⟨this.symm, ?_⟩
      by_cases h3 : a.2 < b.2
      · exact absurd (Or.inr ⟨this, h3⟩) h
      · omega
  · rintro (h | ⟨h1, h2⟩) (h3 | ⟨h3, h4⟩) <;> omega
theorem cle_refl (a : Cost) : cle a a := Or.inr ⟨rfl, Nat.le_refl _⟩
theorem cle_trans {a b c : Cost} (h : cle a b) (h' : cle b c) : cle a c := by
  unfold cle at *
  omega
theorem clt_cle {a b : Cost} (h : clt a b) : cle a b := by
  unfold clt cle at *
  omega
theorem cle_antisymm {a b : Cost} (h : cle a b) (h' : cle b a) : a = b := by
  unfold cle at *
  apply Prod.ext <;> omega
abbrev Tab (S : Type) := S → Option Cost
def via (c : Cost) (w : Nat) : Cost := (c.1 + w, c.2 + 1)
theorem via_cle {a b : Cost} {w : Nat} (h : cle a b) : cle (via a w) (via b w) := by
  unfold cle via at *
  simp only
  omega
/-- whether the new cost is taken -/
def takes (o : Option Cost) (n : Cost) : Bool := match o with
  | none => true
  | some b => decide (clt n b)
def setT (c : Tab S) (s : S) (n : Cost) : Tab S := fun x => if x = s then some n else c x
/-- one edge out of s -/
def relax (s : S) (st : Tab S × Bool) (e : Nat × S) : Tab S × Bool := match st.1 e.2 with
  | none => st
  | some b => if takes (st.1 s) (via b e.1) then (setT st.1 s (via b e.1), true) else st
def relaxAll (nx : S → List (Nat × S)) (st : Tab S × Bool) (s : S) : Tab S × Bool := (nx s).foldl (relax s) st
/-- one pass through all, from the last one -/
def pass (nx : S → List (Nat × S)) (R : List S) (c : Tab S) : Tab S × Bool := R.foldl (relaxAll nx) (c, false)
def passN (nx : S → List (Nat × S)) (R : List S) (c : Tab S) : Nat → Tab S
  | 0 => c
  | n + 1 => (pass nx R (passN nx R c n)).1

/-! a pass goes down -/
def ole : Option Cost → Option Cost → Prop
  | _, none => True
  | none, some _ => False
  | some a, some b => cle a b
theorem ole_refl (o : Option Cost) : ole o o := by cases o <;> simp [ole, cle_refl]
theorem ole_trans {a b c : Option Cost} (h : ole a b) (h' : ole b c) : ole a c := by
  cases c with
  | none => cases a <;> trivial
  | some c => cases b with
    | none => exact h'.elim
    | some b => cases a with
      | none => exact h.elim
      | some a => exact cle_trans h h'
def tle (c d : Tab S) : Prop := ∀ s, ole (c s) (d s)
theorem tle_refl (c : Tab S) : tle c c := fun _ => ole_refl _
theorem tle_trans {a b c : Tab S} (h : tle a b) (h' : tle b c) : tle a c := fun s => ole_trans (h s) (h' s)
theorem takes_ole {o : Option Cost} {n : Cost} (h : takes o n = true) : ole (some n) o := by
  cases o with
  | none => trivial
  | some b => exact clt_cle (of_decide_eq_true h)
theorem setT_tle {c : Tab S} {s : S} {n : Cost} (h : takes (c s) n = true) : tle (setT c s n) c := by
  intro x
  unfold setT
  split
  · rename_i e
    subst e
    exact takes_ole h
  · exact ole_refl _
theorem relax_tle (s : S) (st : Tab S × Bool) (e : Nat × S) : tle (relax s st e).1 st.1 := by
  unfold relax
  split
  · exact tle_refl _
  · split
    · rename_i h
      exact setT_tle h
    · exact tle_refl _
theorem relax_flag (s : S) (st : Tab S × Bool) (e : Nat × S) (h : (relax s st e).2 = false) : relax s st e = st := by
  unfold relax at h ⊢
  split
  · rfl
  · split
    · rename_i b hb ht
      rw [hb] at h
      simp only [ht, if_true] at h
      cases h
    · rfl
theorem fold_inv {α β : Type} (P : β → Prop) (f : β → α → β) (hf : ∀ b a, P b → P (f b a)) : ∀ (l : List α) (b : β), P b → P (l.foldl f b)
  | [], _, h => h
  | a :: l, b, h => fold_inv P f hf l (f b a) (hf b a h)
theorem relaxAll_tle (nx : S → List (Nat × S)) (st : Tab S × Bool) (s : S) : tle (relaxAll nx st s).1 st.1 :=
  fold_inv (fun st' => tle st'.1 st.1) (relax s) (fun b a h => tle_trans (relax_tle s b a) h) _ _ (tle_refl _)
theorem passFold_tle (nx : S → List (Nat × S)) (R : List S) (st : Tab S × Bool) : tle (R.foldl (relaxAll nx) st).1 st.1 :=
  fold_inv (fun st' => tle st'.1 st.1) (relaxAll nx) (fun b a h => tle_trans (relaxAll_tle nx b a) h) _ _ (tle_refl _)
theorem pass_tle (nx : S → List (Nat × S)) (R : List S) (c : Tab S) : tle (pass nx R c).1 c := passFold_tle nx R (c, false)
theorem passN_tle (nx : S → List (Nat × S)) (R : List S) (c : Tab S) : ∀ n, tle (passN nx R c n) c
  | 0 => tle_refl _
  | n + 1 => tle_trans (pass_tle nx R _) (passN_tle nx R c n)
/-- nothing was taken: nothing changed, and no edge would -/
theorem foldl_still {α β : Type} (f : β → α → β) (flag : β → Bool) (hf : ∀ b a, flag (f b a) = false → f b a = b) : ∀ (l : List α) (b : β), flag (l.foldl f b) = false → (∀ a ∈ l, f b a = b) ∧ l.foldl f b = b
  | [], b, _ => ⟨(fun _ h => by cases h), rfl⟩
  | a :: l, b, h => by
    obtain ⟨h1, h2⟩ := foldl_still f flag hf l (f b a) h
    have e : l.foldl f (f b a) = f b a := h2
    have hfl : flag (f b a) = false := by
      have h' : flag (l.foldl f (f b a)) = false := h
      rw [e] at h'
      exact h'
    have eb := hf b a hfl
    refine ⟨fun x hx => ?_, ?_⟩
    · rcases List.mem_cons.mp hx with rfl | hx
      · exact eb
      · have := h1 x hx
        rw [eb] at this
        exact this
    · show l.foldl f (f b a) = b
      rw [e, eb]
theorem relaxAll_flag (nx : S → List (Nat × S)) (st : Tab S × Bool) (s : S) (h : (relaxAll nx st s).2 = false) : relaxAll nx st s = st :=
  (foldl_still (relax s) (fun st => st.2) (fun b a h => relax_flag s b a h) (nx s) st h).2
theorem pass_still {nx : S → List (Nat × S)} {R : List S} {c : Tab S} (h : (pass nx R c).2 = false) : (pass nx R c).1 = c ∧ ∀ s ∈ R, ∀ e ∈ nx s, relax s (c, false) e = (c, false) := by
  obtain ⟨h1, h2⟩ := foldl_still (relaxAll nx) (fun st => st.2) (fun b a h => relaxAll_flag nx b a h) R (c, false) h
  refine ⟨congrArg Prod.fst h2, fun s hs => ?_⟩
  have e := h1 s hs
  have hfl : (relaxAll nx (c, false) s).2 = false := by rw [e]
  exact (foldl_still (relax s) (fun st => st.2) (fun b a h => relax_flag s b a h) (nx s) (c, false) hfl).1
end
end L2.K87
set_option autoImplicit false
set_option linter.all false
/-! The passes come to an end; what stands then: fair costs, and for each one an edge that reaches it. -/
namespace L2.K87
section
variable {S : Type} [DecidableEq S]
def slt (o p : Option Cost) : Prop := ole o p ∧ o ≠ p
theorem ole_antisymm {o p : Option Cost} (h : ole o p) (h' : ole p o) : o = p := by
  cases o with
  | none => cases p with
    | none => rfl
    | some _ => exact h.elim
  | some a => cases p with
    | none => exact h'.elim
    | some b => rw [cle_antisymm h h']
theorem slt_of_ole {o' o p : Option Cost} (h : ole o' o) (hs : slt o p) : slt o' p :=
  ⟨ole_trans h hs.1, fun e => hs.2 (ole_antisymm hs.1 (e ▸ h))⟩
theorem slt_ole {o' o p : Option Cost} (hs : slt o' o) (h : ole o p) : slt o' p :=
  ⟨ole_trans hs.1 h, fun e => hs.2 (ole_antisymm hs.1 (by rw [e]; exact h))⟩
theorem takes_slt {o : Option Cost} {n : Cost} (h : takes o n = true) : slt (some n) o := by
  refine ⟨takes_ole h, fun e => ?_⟩
  subst e
  have : clt n n := of_decide_eq_true h
  unfold clt at this
  omega
theorem acc_some (a : Nat) : ∀ b, Acc slt (some (a, b)) := by
  induction a using Nat.strongRecOn with
  | ind a iha =>
    intro b
    induction b using Nat.strongRecOn with
    | ind b ihb =>
      refine Acc.intro _ fun o ho => ?_
      cases o with
      | none => exact ho.1.elim
      | some q =>
        obtain ⟨x, y⟩ := q
        have h1 : cle (x, y) (a, b) := ho.1
        have h2 : (x, y) ≠ (a, b) := fun e => ho.2 (by rw [e])
        rcases h1 with h1 | ⟨h1, h3⟩
        · exact iha x h1 y
        · have h1 : x = a := h1
          subst h1
          have h3 : y ≤ b := h3
          have : y ≠ b := fun e => h2 (by rw [e])
          exact ihb y (by omega)
theorem acc_slt (o : Option Cost) : Acc slt o := by
  cases o with
  | some q => exact acc_some q.1 q.2
  | none =>
    refine Acc.intro _ fun o ho => ?_
    cases o with
    | none => exact absurd rfl ho.2
    | some q => exact acc_some q.1 q.2
/-- down upon R, at one place strictly -/
def dn (R : List S) (c' c : Tab S) : Prop := (∀ s ∈ R, ole (c' s) (c s)) ∧ ∃ s ∈ R, c' s ≠ c s
theorem acc_dn : ∀ (R : List S) (c : Tab S), Acc (dn R) c
  | [], c => Acc.intro _ fun c' h => by
    obtain ⟨_, s, hs, _⟩ := h
    cases hs
  | s :: R, c => by
    have out : ∀ o, Acc slt o → ∀ c : Tab S, c s = o → Acc (dn (s :: R)) c := by
      intro o ho
      induction ho with
      | intro o _ iho =>
        intro c hc
        have inn : ∀ c : Tab S, Acc (dn R) c → c s = o → Acc (dn (s :: R)) c := by
          intro c hcR
          induction hcR with
          | intro c _ ihc =>
            intro hc
            refine Acc.intro _ fun c' h => ?_
            obtain ⟨h1, h2⟩ := h
            by_cases e : c' s = c s
            · refine ihc c' ⟨fun x hx => h1 x (List.mem_cons_of_mem _ hx), ?_⟩ (e.trans hc)
              obtain ⟨x, hx, hn⟩ := h2
              rcases List.mem_cons.mp hx with rfl | hx
              · exact absurd e hn
              · exact ⟨x, hx, hn⟩
            · exact iho (c' s) (by rw [← hc]; exact ⟨h1 s List.mem_cons_self, e⟩) c' rfl
        exact inn c (acc_dn R c) hc
    exact out _ (acc_slt _) c rfl
/-- what a pass keeps -/
structure PassP (R : List S) (c : Tab S) (st : Tab S × Bool) : Prop where
  le : tle st.1 c
  fl : st.2 = true → ∃ s ∈ R, slt (st.1 s) (c s)
theorem PassP.rel {R : List S} {c : Tab S} {st : Tab S × Bool} (p : PassP R c st) {s : S} (hs : s ∈ R) (e : Nat × S) : PassP R c (relax s st e) := by
  refine ⟨tle_trans (relax_tle s st e) p.le, ?_⟩
  intro hf
  by_cases h0 : st.2 = true
  · obtain ⟨x, hx, hl⟩ := p.fl h0
    exact ⟨x, hx, slt_of_ole (relax_tle s st e x) hl⟩
  · refine ⟨s, hs, ?_⟩
    unfold L2.K87.relax at hf ⊢
    split at hf
    · exact absurd hf h0
    · rename_i b hb
      split at hf
      · rename_i ht
        simp only [hb, ht, if_true]
        show slt (setT st.1 s (via b e.1) s) (c s)
        unfold setT
        rw [if_pos rfl]
        exact slt_ole (takes_slt ht) (p.le s)
      · exact absurd hf h0
theorem fold_invM {α β : Type} (P : β → Prop) (f : β → α → β) : ∀ (l : List α) (_ : ∀ b, ∀ a ∈ l, P b → P (f b a)) (b : β), P b → P (l.foldl f b)
  | [], _, _, h => h
  | a :: l, hf, b, h => fold_invM P f l (fun b x hx => hf b x (List.mem_cons_of_mem _ hx)) (f b a) (hf b a List.mem_cons_self h)
theorem pass_dn {nx : S → List (Nat × S)} {R : List S} {c : Tab S} (h : (pass nx R c).2 = true) : dn R (pass nx R c).1 c := by
  have p : PassP R c (pass nx R c) := fold_invM (PassP R c) (relaxAll nx) R (fun st s hs p => fold_invM (PassP R c) (relax s) (nx s) (fun st e _ p => p.rel hs e) st p) (c, false) ⟨tle_refl _, fun h => by cases h⟩
  refine ⟨fun s _ => p.le s, ?_⟩
  obtain ⟨s, hs, hl⟩ := p.fl h
  exact ⟨s, hs, hl.2⟩
theorem passN_shift (nx : S → List (Nat × S)) (R : List S) (c : Tab S) : ∀ n, passN nx R (pass nx R c).1 n = passN nx R c (n + 1)
  | 0 => rfl
  | n + 1 => by
    show (pass nx R (passN nx R (pass nx R c).1 n)).1 = (pass nx R (passN nx R c (n + 1))).1
    rw [passN_shift nx R c n]
/-- behind some passes one takes nothing; the passes ahead of it each take something -/
theorem pass_ends (nx : S → List (Nat × S)) (R : List S) (c : Tab S) : ∃ n, (pass nx R (passN nx R c n)).2 = false ∧ ∀ j, j < n → (pass nx R (passN nx R c j)).2 = true := by
  induction acc_dn R c with
  | intro c _ ih =>
    cases h : (pass nx R c).2 with
    | false => exact ⟨0, h, fun j hj => by omega⟩
    | true =>
      obtain ⟨n, hn, hj⟩ := ih _ (pass_dn h)
      refine ⟨n + 1, by rw [← passN_shift]; exact hn, fun j hjn => ?_⟩
      cases j with
      | zero => exact h
      | succ j =>
        rw [← passN_shift]
        exact hj j (by omega)

/-! ### what stands at the end -/
/-- nothing more to take upon L -/
structure Fair (nx : S → List (Nat × S)) (L : List S) (c : Tab S) : Prop where
  stable : ∀ s ∈ L, ∀ e ∈ nx s, ∀ b, c e.2 = some b → ∃ a, c s = some a ∧ cle a (via b e.1)
theorem fair_of {nx : S → List (Nat × S)} {L : List S} {c : Tab S} (h : (pass nx L.reverse c).2 = false) : Fair nx L c := by
  refine ⟨fun s hs e he b hb => ?_⟩
  have q := (pass_still h).2 s (List.mem_reverse.mpr hs) e he
  unfold relax at q
  simp only [hb] at q
  split at q
  · cases congrArg Prod.snd q
  · rename_i ht
    cases hc : c s with
    | none =>
      rw [hc] at ht
      exact absurd rfl ht
    | some a =>
      rw [hc] at ht
      refine ⟨a, rfl, not_clt.mp fun h => ht ?_⟩
      exact decide_eq_true h
/-- the costs at first -/
def tab0 (L : List S) (m : S → Bool) : Tab S := fun s => if s ∈ L ∧ m s = true then some (0, 0) else none
/-- what holds ahead of and behind every step -/
structure Grounded (nx : S → List (Nat × S)) (L : List S) (m : S → Bool) (c : Tab S) : Prop where
  dom : ∀ s a, c s = some a → s ∈ L
  zero : ∀ s ∈ L, m s = true → c s = some (0, 0)
  from_ : ∀ s a, c s = some a → (a = (0, 0) ∧ m s = true) ∨ ∃ e ∈ nx s, ∃ b, c e.2 = some b ∧ cle (via b e.1) a
theorem grounded0 (nx : S → List (Nat × S)) (L : List S) (m : S → Bool) : Grounded nx L m (tab0 L m) := by
  refine ⟨fun s a h => ?_, fun s hs hm => ?_, fun s a h => ?_⟩
  · unfold tab0 at h
    split at h
    · rename_i q
      exact q.1
    · cases h
  · unfold tab0
    rw [if_pos ⟨hs, hm⟩]
  · unfold tab0 at h
    split at h
    · rename_i q
      cases h
      exact Or.inl ⟨rfl, q.2⟩
    · cases h
theorem Grounded.rel {nx : S → List (Nat × S)} {L : List S} {m : S → Bool} {st : Tab S × Bool} (g : Grounded nx L m st.1) {s : S} (hs : s ∈ L) {e : Nat × S} (he : e ∈ nx s) : Grounded nx L m (relax s st e).1 := by
  unfold L2.K87.relax
  split
  · exact g
  · rename_i b hb
    split
    · rename_i ht
      have down : tle (setT st.1 s (via b e.1)) st.1 := setT_tle ht
      refine ⟨fun x a h => ?_, fun x hx hm => ?_, fun x a h => ?_⟩
      · have h : setT st.1 s (via b e.1) x = some a := h
        unfold setT at h
        split at h
        · rename_i q
          rw [q]
          exact hs
        · exact g.dom x a h
      · have h0 := g.zero x hx hm
        show setT st.1 s (via b e.1) x = some (0, 0)
        unfold setT
        split
        · rename_i q
          subst q
          rw [h0] at ht
          have : clt (via b e.1) (0, 0) := of_decide_eq_true ht
          unfold clt via at this
          simp only at this
          omega
        · exact h0
      · have keep : ∀ y z, st.1 y = some z → ∃ z', setT st.1 s (via b e.1) y = some z' ∧ cle z' z := fun y z hy => by
          have q := down y
          rw [hy] at q
          cases w : setT st.1 s (via b e.1) y with
          | none =>
            rw [w] at q
            exact q.elim
          | some z' =>
            rw [w] at q
            exact ⟨z', rfl, q⟩
        by_cases q : x = s
        · subst q
          have h' : some (via b e.1) = some a := by
            have h2 : setT st.1 x (via b e.1) x = some a := h
            unfold setT at h2
            rw [if_pos rfl] at h2
            exact h2
          cases h'
          obtain ⟨b', hb', hl⟩ := keep e.2 b hb
          exact Or.inr ⟨e, he, b', hb', via_cle hl⟩
        · have h2 : st.1 x = some a := by
            have h3 : setT st.1 s (via b e.1) x = some a := h
            unfold setT at h3
            rw [if_neg q] at h3
            exact h3
          rcases g.from_ x a h2 with h4 | ⟨e', he', b', hb', hl⟩
          · exact Or.inl h4
          · obtain ⟨b2, hb2, hl2⟩ := keep e'.2 b' hb'
            exact Or.inr ⟨e', he', b2, hb2, cle_trans (via_cle hl2) hl⟩
    · exact g
theorem Grounded.pas {nx : S → List (Nat × S)} {L : List S} {m : S → Bool} {c : Tab S} (g : Grounded nx L m c) : Grounded nx L m (pass nx L.reverse c).1 :=
  fold_invM (fun st : Tab S × Bool => Grounded nx L m st.1) (relaxAll nx) L.reverse (fun st s hs p => fold_invM (fun st : Tab S × Bool => Grounded nx L m st.1) (relax s) (nx s) (fun st e he p => p.rel (List.mem_reverse.mp hs) he) st p) (c, false) g
theorem Grounded.pasN {nx : S → List (Nat × S)} {L : List S} {m : S → Bool} {c : Tab S} (g : Grounded nx L m c) : ∀ n, Grounded nx L m (passN nx L.reverse c n)
  | 0 => g
  | n + 1 => (g.pasN n).pas
/-- the costs of a lot, as they stand at the end -/
structure IsCosts (nx : S → List (Nat × S)) (L : List S) (m : S → Bool) (c : Tab S) : Prop where
  fair : Fair nx L c
  gr : Grounded nx L m c
theorem isCosts_of {nx : S → List (Nat × S)} {L : List S} {m : S → Bool} {n : Nat} (h : (pass nx L.reverse (L2.K87.passN nx L.reverse (tab0 L m) n)).2 = false) : IsCosts nx L m (L2.K87.passN nx L.reverse (tab0 L m) n) :=
  ⟨fair_of h, (grounded0 nx L m).pasN n⟩
section
variable {nx : S → List (Nat × S)} {L : List S} {m : S → Bool} {c : Tab S}
/-- an edge on the best way -/
theorem IsCosts.edge (h : IsCosts nx L m c) {s : S} {a : Cost} (hc : c s = some a) (ha : a ≠ (0, 0)) : ∃ e ∈ nx s, ∃ b, c e.2 = some b ∧ via b e.1 = a := by
  rcases h.gr.from_ s a hc with ⟨e, _⟩ | ⟨e, he, b, hb, hl⟩
  · exact absurd e ha
  · obtain ⟨a', ha', hl'⟩ := h.fair.stable s (h.gr.dom s a hc) e he b hb
    rw [hc] at ha'
    cases ha'
    exact ⟨e, he, b, hb, cle_antisymm hl hl'⟩
/-- no strokes left, no calls left -/
theorem IsCosts.zero2 (h : IsCosts nx L m c) {s : S} {a : Cost} (hc : c s = some a) : a.2 = 0 ↔ a = (0, 0) := by
  constructor
  · intro h2
    by_cases ha : a = (0, 0)
    · exact ha
    · obtain ⟨e, _, b, _, hv⟩ := h.edge hc ha
      rw [← hv] at h2
      unfold via at h2
      simp only at h2
      omega
  · rintro rfl
    rfl
theorem IsCosts.meets (h : IsCosts nx L m c) {s : S} (hc : c s = some (0, 0)) : m s = true := by
  rcases h.gr.from_ s _ hc with ⟨_, hm⟩ | ⟨e, _, b, _, hl⟩
  · exact hm
  · unfold cle via at hl
    simp only at hl
    omega
/-- a walk along the edges -/
inductive Path (nx : S → List (Nat × S)) : S → Nat → S → Prop where
  | nil (s : S) : Path nx s 0 s
  | snoc {s t : S} {w : Nat} (e : Nat × S) : Path nx s w t → e ∈ nx t → Path nx s (w + e.1) e.2
/-- no walk that comes to the wish has fewer calls -/
theorem IsCosts.least (h : IsCosts nx L m c) (hcl : ∀ s ∈ L, ∀ e ∈ nx s, e.2 ∈ L) {s t : S} {w : Nat} (hw : Path nx s w t) (hs : s ∈ L) : t ∈ L ∧ ∀ b, c t = some b → ∃ a, c s = some a ∧ a.1 ≤ b.1 + w := by
  induction hw with
  | nil => exact ⟨hs, fun b hb => ⟨b, hb, by omega⟩⟩
  | snoc e _ he ih =>
    obtain ⟨ht, ih⟩ := ih
    refine ⟨hcl _ ht e he, fun b hb => ?_⟩
    obtain ⟨a', ha', hl'⟩ := h.fair.stable _ ht e he b hb
    obtain ⟨a, ha, hl⟩ := ih a' ha'
    refine ⟨a, ha, ?_⟩
    unfold cle via at hl'
    simp only at hl'
    omega
theorem IsCosts.least_wish (h : IsCosts nx L m c) (hcl : ∀ s ∈ L, ∀ e ∈ nx s, e.2 ∈ L) {s t : S} {w : Nat} (hw : Path nx s w t) (hs : s ∈ L) (hm : m t = true) : ∃ a, c s = some a ∧ a.1 ≤ w := by
  obtain ⟨ht, hl⟩ := h.least hcl hw hs
  obtain ⟨a, ha, h1⟩ := hl (0, 0) (h.gr.zero t ht hm)
  exact ⟨a, ha, by simpa using h1⟩
end
end
end L2.K87
set_option Elab.async false
set_option linter.all false
set_option autoImplicit false
set_option maxRecDepth 100000
set_option maxHeartbeats 4000000
namespace L2.K87
open PySem PySem.Spec PyProof.Rows
section
variable {P : Program} {w : World} {K : PySem.W.Frag} {mg : Str → Option Value} {base : Heap} {f : Addr} {fd : FuncData}
/-! ### is_whole -/
def spWhole : Sp := fun vs H Q _ => ∃ i : Int, vs = [.int i] ∧ Q (.bl true) H
theorem scWhole : FnScope ["thing"] ["thing"] (defScope sis_whole) := ⟨rfl, rfl, rfl, by decide +kernel, rfl, by decide +kernel, by decide +kernel⟩
theorem ok_whole (F : FnP K "is_whole" "is_whole" sis_whole [] f fd) (T : Txt mg) : FnOk P w K mg base CX0 1 f fd ["thing"] spWhole := by
  refine okF F scWhole (fun vs H Q E h => ?_) (fun cdv A outer s H vs Q E hr h => ?_)
  · obtain ⟨i, rfl, _⟩ := h
    rfl
  · obtain ⟨i, rfl, k⟩ := h
    refine ⟨_, pss_one (ps_ret (pe_and (pe_callB call_isi (by rfl) T.isi (by decide +kernel) (pa_cons (pv 0) (pa_cons (pe_bltn (v := .ty "int") (by rfl) T.int (by decide +kernel) rfl) pa_nil)))
      (pe_one (pe_not (pe_callB call_isi (by rfl) T.isi (by decide +kernel) (pa_cons (pv 0) (pa_cons (pe_bltn (v := .ty "bool") (by rfl) T.bol (by decide +kernel) rfl) pa_nil))))))), ?_⟩
    refine ⟨_, rfl, .int i, .ty "int", .type "int", .type "int", true, rfl, .ty _, .base (.int _), kit_ty (by decide +kernel), true, rfl, ?_⟩
    refine iteT ?_
    exact ⟨_, rfl, .int i, .ty "bool", .type "int", .type "bool", false, rfl, .ty _, .base (.int _), kit_ty (by decide +kernel), false, rfl, k⟩
/-! ### is_between -/
def spBetween : Sp := fun vs H Q _ => ∃ i lo hi : Int, vs = [.int i, .int lo, .int hi] ∧ Q (.bl (decide (lo ≤ i ∧ i ≤ hi))) H
theorem scBetween : FnScope ["thing", "low", "high"] ["thing", "low", "high"] (defScope sis_between) := ⟨rfl, rfl, rfl, by decide +kernel, rfl, by decide +kernel, by decide +kernel⟩
theorem ok_between (F : FnP K "is_between" "is_between" sis_between [] f fd) (G : Cal P w K mg base 1 "is_whole" ["thing"] spWhole) : FnOk P w K mg base CX0 2 f fd ["thing", "low", "high"] spBetween := by
  refine okF F scBetween (fun vs H Q E h => ?_) (fun cdv A outer s H vs Q E hr h => ?_)
  · obtain ⟨i, lo, hi, rfl, _⟩ := h
    rfl
  · obtain ⟨i, lo, hi, rfl, k⟩ := h
    refine ⟨_, pss_one (ps_ret (pe_and (pe_cal G hr rfl (pa_cons (pv 0) pa_nil)) (pe_one (pe_chain op_le op_le (pv 1) (pv 0) (pv 2))))), ?_⟩
    refine ⟨_, rfl, i, rfl, true, rfl, ?_⟩
    refine iteT ?_
    refine ⟨_, rfl, _, rfl, _, _, rfl, rfl, _, rfl, ?_⟩
    by_cases h1 : lo ≤ i
    · rw [decide_eq_true h1]
      refine iteT ?_
      refine ⟨_, rfl, _, _, rfl, rfl, ?_⟩
      have e : decide (lo ≤ i ∧ i ≤ hi) = decide (i ≤ hi) := by simp [h1]
      rw [e] at k
      exact k
    · rw [decide_eq_false h1]
      refine iteF ?_
      have e : decide (lo ≤ i ∧ i ≤ hi) = false := by simp [h1]
      rw [e] at k
      exact k
end
end L2.K87
set_option Elab.async false
set_option linter.all false
set_option autoImplicit false
set_option maxRecDepth 100000
set_option maxHeartbeats 4000000
namespace L2.K87
open PySem PySem.Spec PyProof.Rows
/-- constants of the module -/
structure Con (mg : Str → Option Value) : Prop where
  let_ : ∃ t, mg "LETTERS" = some (.str "abcdefghijklmnopqrstuvwxyz" t)
  nam : ∃ t, mg "LONGEST_NAME" = some (.int 8 t)
  len : ∃ t, mg "MOST_LENGTH" = some (.int 1000000000 t)
  slp : ∃ t, mg "MOST_SLEEPERS" = some (.int 40 t)
section
variable {P : Program} {w : World} {K : PySem.W.Frag} {mg : Str → Option Value} {base : Heap} {f : Addr} {fd : FuncData}
/-! ### is_length -/
def spLength : Sp := fun vs H Q _ => ∃ i : Int, vs = [.int i] ∧ Q (.bl (decide (1 ≤ i ∧ i ≤ 1000000000))) H
theorem scLength : FnScope ["thing"] ["thing"] (defScope sis_length) := ⟨rfl, rfl, rfl, by decide +kernel, rfl, by decide +kernel, by decide +kernel⟩
theorem ok_length (F : FnP K "is_length" "is_length" sis_length [] f fd) (C : Con mg) (G : Cal P w K mg base 2 "is_between" ["thing", "low", "high"] spBetween) : FnOk P w K mg base CX0 3 f fd ["thing"] spLength := by
  obtain ⟨t, ht⟩ := C.len
  refine okF F scLength (fun vs H Q E h => ?_) (fun cdv A outer s H vs Q E hr h => ?_)
  · obtain ⟨i, rfl, _⟩ := h
    rfl
  · obtain ⟨i, rfl, k⟩ := h
    refine ⟨_, pss_one (ps_ret (pe_cal G hr rfl (pa_cons (pv 0) (pa_cons pe_int (pa_cons (pe_glob rfl ht rInt) pa_nil))))), ?_⟩
    exact ⟨_, rfl, i, 1, 1000000000, rfl, k⟩
/-! ### is_name -/
/-- a name: one to eight small letters -/
def IsNm (x : Str) : Prop := 1 ≤ x.length ∧ x.length ≤ 8 ∧ ∀ c ∈ x.cps.toList, c ∈ ("abcdefghijklmnopqrstuvwxyz" : Str).cps.toList
def spName : Sp := fun vs H Q _ => ∃ x : Str, vs = [.str x] ∧ IsNm x ∧ ∀ H', Same H H' → Q (.bl true) H'
theorem scName : FnScope ["thing", "sign"] ["thing"] (defScope sis_name) := ⟨rfl, rfl, rfl, by decide +kernel, rfl, by decide +kernel, by decide +kernel⟩
theorem ok_name (F : FnP K "is_name" "is_name" sis_name [] f fd) (T : Txt mg) (C : Con mg) : FnOk P w K mg base CX0 1 f fd ["thing"] spName := by
  obtain ⟨t1, h1⟩ := C.nam
  obtain ⟨t2, h2⟩ := C.let_
  refine okF F scName (fun vs H Q E h => ?_) (fun cdv A outer s H vs Q E hr h => ?_)
  · obtain ⟨i, rfl, _⟩ := h
    rfl
  · obtain ⟨x, rfl, ⟨n1, n2, n3⟩, k⟩ := h
    refine ⟨_, pss_cons (ps_if (PW.pt (pw_or (pt_not (pt_val (pe_callB call_isi (by rfl) T.isi (by decide +kernel) (pa_cons (pv 0) (pa_cons (pe_bltn (v := .ty "str") (by rfl) T.str (by decide +kernel) rfl) pa_nil)))))
        (pw_or1 (pt_not (pt_chain op_le op_le pe_int (pe_callB call_len_str (by rfl) T.len PySem.boot_len (pa_cons (pv 0) pa_nil)) (pe_glob rfl h1 rInt)))))) (pss_one (ps_ret pe_bl)) pss_nil)
      (pss_one (ps_ret (pe_callB (cr_all rfl) (by rfl) T.all (by decide +kernel) (pa_cons (pe_lc (own := [("sign", 1)]) (g := gName 1) (tt := tYes) rfl scName.nd (pi_str (pv 0)) (blkOk_by (N := ["thing", "sign"]) (sc := defScope sis_name) (by decide +kernel))
        (fun _ _ _ _ _ => pg_name (i := 1) scName.nd rfl (Or.inl rfl)) (fun _ _ _ _ _ => pts_nil) (fun _ _ _ _ _ => pe_cmpR op_in_sign (pv 1) (pe_glob rfl h2 rStr) rfl)) pa_nil)))), ?_⟩
    refine ⟨_, rfl, .str x, .ty "str", .type "str", .type "str", true, rfl, .ty _, .base (.str _), kit_ty (by decide +kernel), true, rfl, ?_⟩
    refine iteF ?_
    refine ⟨_, rfl, x, rfl, Nat.le_trans n2 (by decide), _, _, rfl, rfl, _, rfl, ?_⟩
    refine iteD (by omega) ?_
    refine ⟨_, _, rfl, rfl, _, rfl, ?_⟩
    have e2 : ((x.length : Nat) : Int) ≤ 8 := by omega
    rw [decide_eq_true e2]
    refine iteF ?_
    refine ⟨_, rfl, x, rfl, fun D hD => ?_⟩
    refine lcT walk_str (G := fun _ => True) hD (fun i H ys => ys = List.replicate i (.bl true)) (fun _ _ _ _ _ e => e) (fun _ _ => trivial) rfl (fun i H ys e => by rw [e, List.length_replicate]; exact Nat.le_refl _) (Nat.le_trans n2 (by decide)) ?_ ?_
    · rintro i y H1 _ ys Yes No hi s1 rfl ⟨rfl, c, hc, rfl⟩ yes no
      refine ⟨rfl, ?_⟩
      refine yesT ?_
      refine ⟨_, rfl, c, _, rfl, rfl, ?_⟩
      have hm : c ∈ ("abcdefghijklmnopqrstuvwxyz" : Str).cps.toList := n3 c (List.mem_of_getElem? (by rw [Array.getElem?_toList]; exact hc))
      rw [decide_eq_true hm]
      exact yes _ _ (Same.refl _) (by rw [List.replicate_succ'])
    · rintro H1 ys s1 e rfl
      refine ⟨D, List.replicate x.cps.size true, rfl, SqL.of (by rw [e, List.map_replicate]), ?_⟩
      have ea : (List.replicate x.cps.size true).all id = true := by simp
      rw [ea]
      exact k H1 s1
end
end L2.K87
set_option Elab.async false
set_option linter.all false
set_option autoImplicit false
set_option maxRecDepth 100000
set_option maxHeartbeats 4000000
namespace L2.K87
open PySem PySem.Spec PyProof.Rows
section
variable {P : Program} {w : World} {K : PySem.W.Frag} {mg : Str → Option Value} {base : Heap} {f C : Addr} {fd : FuncData}
/-! ### Book.sleep -/
def spSleep (C : Addr) : Sp := fun vs H Q _ => ∃ (b : Addr) (ls : List Int) (n : Nat), vs = [.ref b, .int (n : Int)] ∧ BkA C H b ls ∧ 1 ≤ n ∧ n ≤ ls.length ∧ Q (.int (ls.getD (n - 1) 0)) H
theorem scSleep : FnScope ["self", "many"] ["self", "many"] (defScope sBooksleep) := ⟨rfl, rfl, rfl, by decide +kernel, rfl, by decide +kernel, by decide +kernel⟩
theorem ok_sleep (F : FnP K "sleep" "Book.sleep" sBooksleep [] f fd) (T : Txt mg) (B : BookC K mg C) (G : Cal P w K mg base 2 "is_between" ["thing", "low", "high"] spBetween) : FnOk P w K mg base CX0 3 f fd ["self", "many"] (spSleep C) := by
  refine okF F scSleep (fun vs H Q E h => ?_) (fun cdv A outer s H vs Q E hr h => ?_)
  · obtain ⟨b, ls, n, rfl, _⟩ := h
    rfl
  · obtain ⟨b, ls, n, rfl, ⟨dx, t, hb, ht⟩, n1, n2, k⟩ := h
    refine ⟨_, pss_cons (ps_if (pt_not (pt_val (pe_cal G hr rfl (pa_cons (pv 1) (pa_cons pe_int (pa_cons (pe_callB call_len_seq (by rfl) T.len PySem.boot_len (pa_cons (pe_fld (pv 0) rfl) pa_nil)) pa_nil)))))) pss_never pss_nil)
      (pss_one (ps_ret (pe_ix ix_tup (pe_fld (pv 0) rfl) (pe_op op_sub (pv 1) pe_int) (fun _ _ => rfl)))), ?_⟩
    refine ⟨_, rfl, _, rfl, b, C, dx, _, _, rfl, hb, B.cl, B.nR, rows_at, t, _, rfl, .inr (SqT.of ht), (n : Int), 1, ((ls.map V.int).length : Int), rfl, _, rfl, ?_⟩
    have e : decide ((1 : Int) ≤ (n : Int) ∧ (n : Int) ≤ ((ls.map V.int).length : Int)) = true := decide_eq_true ⟨by omega, by rw [List.length_map]; omega⟩
    rw [e]
    refine iteF ?_
    have hx : (ls.map V.int)[n - 1]? = some (.int (ls.getD (n - 1) 0)) := by
      obtain ⟨x, hx⟩ := lt_get (l := ls) (i := n - 1) (by omega)
      rw [List.getElem?_map, hx, List.getD_eq_getElem?_getD, hx]
      rfl
    exact ⟨_, rfl, b, C, dx, _, _, rfl, hb, B.cl, B.nR, rows_at, _, rfl, _, _, rfl, rfl, t, _, _, _, rfl, rfl, SqT.of ht, at_of (j := n - 1) (by omega) hx, k⟩
/-! ### beat -/
/-- the tuple (standing, names) behind a beat -/
def spBeat (C : Addr) : Sp := fun vs H Q _ => ∃ (b a : Addr) (ls : List Int) (st : Sg), vs = [.ref b, .ref a] ∧ BkA C H b ls ∧ StA H a st ∧ st.length ≤ ls.length ∧ st.length ≤ 1000 ∧
  ∀ (t r l : Addr) (H' : Hp), Same H H' → H' t = some (.tup [.ref r, .ref l]) → StA H' r (beatS ls st) → Q (.ref t) H'
theorem scBeat : FnScope ["book", "standing", "names", "behind", "name", "rest"] ["book", "standing"] (defScope sbeat) := ⟨rfl, rfl, rfl, by decide +kernel, rfl, by decide +kernel, by decide +kernel⟩
theorem ok_beat (F : FnP K "beat" "beat" sbeat [] f fd) (T : Txt mg) (B : BookC K mg C) (G : MCal P w K mg base C 3 "sleep" ["self", "many"] (spSleep C)) : FnOk P w K mg base CX0 4 f fd ["book", "standing"] (spBeat C) := by
  refine okF F scBeat (fun vs H Q E h => ?_) (fun cdv A outer s H vs Q E hr h => ?_)
  · obtain ⟨b, a, ls, st, rfl, _⟩ := h
    rfl
  · obtain ⟨b, a, ls, st, rfl, hB, ⟨qs, ha, hq⟩, hl, hz, k⟩ := h
    obtain ⟨fs, fds, FS, mS, bS⟩ := G.ex
    refine ⟨_, pss_cons (ps_setLc (i := 2) (own := [("name", 4), ("rest", 5)]) (g := g2 K 4 5) rfl scBeat.nd rfl rfl (sw_true rfl rfl rfl (by decide +kernel)) (pi_tup (pv 1)) (blkOk_by (N := ["book", "standing", "names", "behind", "name", "rest"]) (sc := defScope sbeat) (by decide +kernel))
        (fun _ _ _ _ _ => pg2 (i := 4) (j := 5) rfl scBeat.nd rfl rfl (Or.inl rfl) (Or.inl rfl) (Or.inr rfl) (Or.inr rfl))
        (fun _ _ _ _ _ => pts_one (pt_cmpR op_eq (pv 5) pe_int (nomark _))) (fun _ _ _ _ _ => pv 4))
      (pss_cons (ps_set (i := 3) scBeat.nd rfl (Or.inl rfl) (pe_lst pa_nil))
      (pss_cons (ps_for PassesOwn.never rfl (pi_tup (pv 1)) (pg2 (i := 4) (j := 5) rfl scBeat.nd rfl rfl (Or.inl rfl) (Or.inl rfl) (Or.inl rfl) (Or.inl rfl))
        (pss_one (ps_if (pt_cmpR op_eq (pv 5) pe_int (nomark _))
          (pss_one (ps_expr (pe_bm PySem.F.plainAttrs_list PySem.F.slot_list_append PySem.F.type_list_append mt_append (pv 3) (pa_cons (pe_tup (pa_cons (pv 4) (pa_cons (pe_meth (pv 0) B.cl mS FS hr bS .nil pass0 (pa_cons (pe_callB call_len_seq (by rfl) T.len PySem.boot_len (pa_cons (pv 2) pa_nil)) pa_nil)) pa_nil))) pa_nil))))
          (pss_one (ps_expr (pe_bm PySem.F.plainAttrs_list PySem.F.slot_list_append PySem.F.type_list_append mt_append (pv 3) (pa_cons (pe_tup (pa_cons (pv 4) (pa_cons (pe_op op_sub (pv 5) pe_int) pa_nil))) pa_nil)))))))
      (pss_one (ps_ret (pe_tup (pa_cons (pe_callTy call_tuple_of (by rfl) T.tup (by decide +kernel) (pa_cons (pv 3) pa_nil)) (pa_cons (pv 2) pa_nil))))))), ?_⟩
    -- names = [..]
    refine ⟨_, rfl, a, rfl, ⟨_, SqT.of ha⟩, fun D hD => ?_⟩
    have hn : (qs.map V.ref).length ≤ sizeLine := by rw [stA_len hq]; exact Nat.le_trans hz (by decide)
    refine lcT walk_tup hD (fun i H' ys => ys = (ups (st.take i)).map V.str) (fun _ _ _ _ _ e => e) (fun H' s => SqT.of (s _ _ ha)) rfl (fun i H' ys e => by rw [e, List.length_map]; exact Nat.le_trans (ups_le _) (List.length_take_le _ _)) hn ?_ ?_
    · rintro i x H1 _ ys Yes No hi s1 rfl ⟨rfl, hx⟩ yes no
      obtain ⟨q, p, rfl, hqi, hpi, hp⟩ := stA_get hq hx
      refine ⟨q, _, rfl, SqT.of (s1 _ _ hp), rfl, _, _, rfl, _, _, rfl, rfl, rfl, ?_⟩
      have eu : ups (st.take (i + 1)) = ups (st.take i) ++ (if p.2 = 1 then [p.1] else []) := by
        unfold ups
        rw [take_snoc hpi, List.filter_append, List.map_append]
        by_cases h1 : p.2 = 1 <;> simp [h1]
      refine ⟨_, rfl, rfl, _, rfl, ?_⟩
      by_cases h1 : p.2 = 1
      · refine iteD (by rw [h1]) ?_
        exact ⟨_, rfl, yes _ _ (Same.refl _) (by rw [eu, if_pos h1, List.map_append]; rfl)⟩
      · refine iteDN (fun z => h1 (by injection z)) ?_
        exact no _ (Same.refl _) (by rw [eu, if_neg h1, List.append_nil])
    · rintro H1 ys s1 e1 rfl
      rw [take_all (stA_len hq)] at e1
      -- behind = []
      refine ⟨Nat.zero_le _, fun L hL => ?_⟩
      have s2 : Same H1 (upd H1 L (.lst [])) := (New.upd hL).same
      refine ⟨_, rfl, a, rfl, ⟨_, SqT.of (s2 _ _ (s1 _ _ ha))⟩, for_it walk_tup (fun i σ H2 => ∃ (v1 v2 : Option V) (rs : List Addr), σ = [some (.ref b), some (.ref a), some (.ref D), some (.ref L), v1, v2] ∧ Same H1 H2 ∧ H2 L = some (.lst (rs.map V.ref)) ∧ Paired (PrA H2) rs ((beatS ls st).take i))
        ⟨none, none, [], rfl, s2, upd_same, .nil⟩ (fun i σ H2 _ ⟨_, _, _, _, s3, _⟩ => SqT.of (s3 _ _ (s1 _ _ ha))) ?_ ?_⟩
      · rintro i x σ _ H2 hi ⟨v1, v2, rs, rfl, s3, eL, pr⟩ ⟨rfl, hx⟩
        obtain ⟨q, p, rfl, hqi, hpi, hp⟩ := stA_get hq hx
        have eb : (beatS ls st).take (i + 1) = (beatS ls st).take i ++ [beatP ls (ups st).length p] := take_snoc (by unfold beatS; rw [List.getElem?_map, hpi]; rfl)
        have eD := s3 _ _ e1
        have hrs : rs.length ≤ 1000 := by
          have z := plen pr
          rw [List.length_take, beatS_len] at z
          omega
        have lt : (rs.map V.ref).length < sizeLine := by
          rw [List.length_map]
          exact Nat.lt_of_le_of_lt hrs (by decide)
        refine ⟨q, _, rfl, SqT.of (s3 _ _ (s1 _ _ hp)), rfl, _, _, rfl, _, _, rfl, rfl, ?_⟩
        -- the new pair and the append
        have fin : ∀ (tp : Addr) (v : V), H2 tp = none → beatP ls (ups st).length p = (p.1, match v with | .int i => i | _ => 0) → (∃ i, v = .int i) → upd H2 tp (.tup [.str p.1, v]) L = some (.lst (rs.map V.ref)) ∧
            (Same H1 (upd (upd H2 tp (.tup [.str p.1, v])) L (.lst (rs.map V.ref ++ [.ref tp]))) ∧ upd (upd H2 tp (.tup [.str p.1, v])) L (.lst (rs.map V.ref ++ [.ref tp])) L = some (.lst ((rs ++ [tp]).map V.ref)) ∧
              Paired (PrA (upd (upd H2 tp (.tup [.str p.1, v])) L (.lst (rs.map V.ref ++ [.ref tp])))) (rs ++ [tp]) ((beatS ls st).take (i + 1))) := by
          rintro tp v ht hv ⟨z, rfl⟩
          have nt : New H2 (upd H2 tp (.tup [.str p.1, .int z])) tp := New.upd ht
          have eL2 := nt.same _ _ eL
          refine ⟨eL2, same_upd (s3.trans nt.same) hL, by rw [upd_same, List.map_append]; rfl, ?_⟩
          rw [eb]
          refine psnoc (pimp pr fun _ _ z => (z.keep (tps nt.same)).keep (tups_lst eL2)) ?_
          rw [hv]
          show PrA _ tp (p.1, z)
          exact tups_lst eL2 _ _ upd_same
        refine ⟨_, rfl, rfl, _, rfl, ?_⟩
        by_cases h1 : p.2 = 1
        · refine iteD (by rw [h1]) ?_
          have hup : 1 ≤ (ups st).length := by
            have : p.1 ∈ ups st := List.mem_map.mpr ⟨p, List.mem_filter.mpr ⟨List.mem_of_getElem? hpi, decide_eq_true h1⟩, rfl⟩
            exact List.length_pos_of_mem this
          obtain ⟨dx, t, hb, hbt⟩ := hB
          refine ⟨_, rfl, .inl ⟨rfl, _, SqL.of eL⟩, _, rfl, _, rfl, b, dx, _, rfl, s3 _ _ (s1 _ _ hb), no_rows (by decide +kernel), _, rfl, D, _, rfl, .inl (SqL.of eD), b, ls, (ups st).length, by rw [List.length_map] <;> rfl, ⟨dx, t, s3 _ _ (s1 _ _ hb), s3 _ _ (s1 _ _ hbt)⟩, hup, Nat.le_trans (ups_le st) hl, by show 2 ≤ sizeLine; decide, fun tp ht => ?_⟩
          obtain ⟨e2, f1, f2, f3⟩ := fin tp (.int (ls.getD ((ups st).length - 1) 0)) ht (by unfold beatP; rw [if_pos h1]) ⟨_, rfl⟩
          exact ⟨L, _, _, rfl, rfl, e2, lt, _, _, _, rfl, f1, f2, f3⟩
        · refine iteDN (fun z => h1 (by injection z)) ?_
          refine ⟨_, rfl, .inl ⟨rfl, _, SqL.of eL⟩, _, rfl, _, rfl, _, _, rfl, rfl, by show 2 ≤ sizeLine; decide, fun tp ht => ?_⟩
          obtain ⟨e2, f1, f2, f3⟩ := fin tp (.int (p.2 - 1)) ht (by unfold beatP; rw [if_neg h1]) ⟨_, rfl⟩
          exact ⟨L, _, _, rfl, rfl, e2, lt, _, _, _, rfl, f1, f2, f3⟩
      · rintro σ H2 ⟨v1, v2, rs, rfl, s3, eL, pr⟩
        rw [take_all (by rw [beatS_len, stA_len hq])] at pr
        refine ⟨_, rfl, L, _, rfl, .inl ⟨SqL.of eL, fun r hr' => ?_⟩⟩
        refine ⟨_, rfl, by show 2 ≤ sizeLine; decide, fun t ht => ?_⟩
        have n1 : New H2 (upd H2 r (.tup (rs.map V.ref))) r := New.upd hr'
        have n2 := New.upd (o := .tup [.ref r, .ref D]) ht
        exact k t r D _ (((s1.trans s3).trans n1.same).trans n2.same) upd_same ⟨rs, n2.same _ _ upd_same, pimp pr fun _ _ z => (z.keep (tps n1.same)).keep (tps n2.same)⟩
end
end L2.K87
set_option Elab.async false
set_option linter.all false
set_option autoImplicit false
set_option maxRecDepth 100000
set_option maxHeartbeats 4000000
namespace L2.K87
open PySem PySem.Spec PyProof.Rows
section
variable {P : Program} {w : World} {K : PySem.W.Frag} {mg : Str → Option Value} {base : Heap} {f C : Addr} {fd : FuncData}
/-! ### with_calls -/
def spWith : Sp := fun vs H Q _ => ∃ (a c : Addr) (st : Sg) (k : List Str), vs = [.ref a, .ref c] ∧ StA H a st ∧ SkA H c k ∧ st.length ≤ 1000 ∧ ∀ (r : Addr) (H' : Hp), Same H H' → StA H' r (withC st k) → Q (.ref r) H'
theorem scWith : FnScope ["standing", "stroke", "name", "rest"] ["standing", "stroke"] (defScope swith_calls) := ⟨rfl, rfl, rfl, by decide +kernel, rfl, by decide +kernel, by decide +kernel⟩
theorem ok_with (F : FnP K "with_calls" "with_calls" swith_calls [] f fd) (T : Txt mg) : FnOk P w K mg base CX0 1 f fd ["standing", "stroke"] spWith := by
  refine okF F scWith (fun vs H Q E h => ?_) (fun cdv A outer s H vs Q E hr h => ?_)
  · obtain ⟨a, c, st, k, rfl, _⟩ := h
    rfl
  · obtain ⟨a, c, st, ns, rfl, ⟨qs, ha, hq⟩, hc, hz, k⟩ := h
    refine ⟨_, pss_one (ps_ret (pe_callTy call_tuple_of (by rfl) T.tup (by decide +kernel) (pa_cons (pe_lc (own := [("name", 2), ("rest", 3)]) (g := g2 K 2 3) (tt := tYes)
        (te := tTup (tCons (tVar 2) (tCons (tIf (tTest (tOp (rIn K false) (tVar 2) (tVar 1))) (tC (.int 1)) (tVar 3)) tNil))) rfl scWith.nd (pi_tup (pv 0)) (blkOk_by (N := ["standing", "stroke", "name", "rest"]) (sc := defScope swith_calls) (by decide +kernel))
        (fun _ _ _ _ _ => pg2 (i := 2) (j := 3) rfl scWith.nd rfl rfl (Or.inl rfl) (Or.inl rfl) (Or.inr rfl) (Or.inr rfl)) (fun _ _ _ _ _ => pts_nil)
        (fun _ _ _ _ _ => pe_tup (pa_cons (pv 2) (pa_cons (pe_ifExp (pt_cmpR op_in_seq (pv 2) (pv 1) rfl) pe_int (pv 3)) pa_nil)))) pa_nil))), ?_⟩
    refine ⟨_, rfl, a, rfl, ⟨_, SqT.of ha⟩, fun D hD => ?_⟩
    have hn : (qs.map V.ref).length ≤ sizeLine := by rw [stA_len hq]; exact Nat.le_trans hz (by decide)
    refine lcT walk_tup hD (fun i H' ys => ∃ rs : List Addr, ys = rs.map V.ref ∧ Paired (PrA H') rs ((withC st ns).take i)) (fun _ _ _ _ t ⟨rs, e, r⟩ => ⟨rs, e, pimp r fun _ _ z => z.keep t⟩) (fun H' s => SqT.of (s _ _ ha)) ⟨[], rfl, .nil⟩
      (fun i H' ys ⟨rs, e, r⟩ => by rw [e, List.length_map, plen r]; exact List.length_take_le _ _) hn ?_ ?_
    · rintro i x _ H1 ys Yes No hi s1 ⟨rs, rfl, pr⟩ ⟨rfl, hx⟩ yes no
      obtain ⟨q, p, rfl, hqi, hpi, hp⟩ := stA_get hq hx
      refine ⟨q, _, rfl, SqT.of (s1 _ _ hp), rfl, _, _, rfl, _, _, rfl, rfl, rfl, ?_⟩
      have eb : (withC st ns).take (i + 1) = (withC st ns).take i ++ [withP ns p] := take_snoc (by unfold withC; rw [List.getElem?_map, hpi]; rfl)
      have fin : ∀ z : Int, withP ns p = (p.1, z) → ∀ t, H1 t = none → Yes (.ref t) (upd H1 t (.tup [.str p.1, .int z])) := fun z hz t ht => by
        have nt : New H1 (upd H1 t (.tup [.str p.1, .int z])) t := New.upd ht
        refine yes _ _ nt.same ⟨rs ++ [t], by rw [List.map_append]; rfl, ?_⟩
        rw [eb]
        refine psnoc (pimp pr fun _ _ z => z.keep (tps nt.same)) ?_
        rw [hz]
        exact upd_same
      refine yesT ?_
      refine ⟨_, rfl, _, rfl, _, rfl, c, _, rfl, .inl (SqL.of (s1 _ _ hc)), rfl, flat_strs ns, _, rfl, ?_⟩
      show if (inV (V.str p.1) (ns.map V.str)) = true then _ else _
      rw [inV_str]
      by_cases h1 : p.1 ∈ ns
      · refine iteD h1 ?_
        exact ⟨by show 2 ≤ sizeLine; decide, fin 1 (by unfold withP; rw [if_pos h1])⟩
      · refine iteDN h1 ?_
        exact ⟨_, rfl, by show 2 ≤ sizeLine; decide, fin p.2 (by unfold withP; rw [if_neg h1])⟩
    · rintro H1 ys s1 e1 ⟨rs, rfl, pr⟩
      rw [take_all (by rw [withC_len, stA_len hq])] at pr
      refine ⟨D, _, rfl, .inl ⟨SqL.of e1, fun r hr' => ?_⟩⟩
      have nt : New H1 (upd H1 r (.tup (rs.map V.ref))) r := New.upd hr'
      exact k r _ (s1.trans nt.same) ⟨rs, upd_same, pimp pr fun _ _ z => z.keep (tps nt.same)⟩
/-! ### called -/
def spCalled (C : Addr) : Sp := fun vs H Q _ => ∃ (b a c : Addr) (ls : List Int) (st : Sg) (k : List Str), vs = [.ref b, .ref a, .ref c] ∧ BkA C H b ls ∧ StA H a st ∧ SkA H c k ∧ st.length ≤ ls.length ∧ st.length ≤ 1000 ∧
  ∀ (t r l : Addr) (H' : Hp), Same H H' → H' t = some (.tup [.ref r, .ref l]) → StA H' r (callS ls st k) → Q (.ref t) H'
theorem scCalled : FnScope ["book", "standing", "stroke"] ["book", "standing", "stroke"] (defScope scalled) := ⟨rfl, rfl, rfl, by decide +kernel, rfl, by decide +kernel, by decide +kernel⟩
theorem ok_called (F : FnP K "called" "called" scalled [] f fd) (GB : Cal P w K mg base 4 "beat" ["book", "standing"] (spBeat C)) (GW : Cal P w K mg base 1 "with_calls" ["standing", "stroke"] spWith) : FnOk P w K mg base CX0 5 f fd ["book", "standing", "stroke"] (spCalled C) := by
  refine okF F scCalled (fun vs H Q E h => ?_) (fun cdv A outer s H vs Q E hr h => ?_)
  · obtain ⟨b, a, c, ls, st, k, rfl, _⟩ := h
    rfl
  · obtain ⟨b, a, c, ls, st, ns, rfl, hB, hS, hK, hl, hz, k⟩ := h
    refine ⟨_, pss_one (ps_ret (pe_cal GB hr rfl (pa_cons (pv 0) (pa_cons (pe_cal GW (hr.mono (by decide)) rfl (pa_cons (pv 1) (pa_cons (pv 2) pa_nil))) pa_nil)))), ?_⟩
    refine ⟨_, rfl, _, rfl, _, rfl, a, c, st, ns, rfl, hS, hK, hz, fun r H1 s1 hr1 => ?_⟩
    refine ⟨b, r, ls, withC st ns, rfl, hB.same s1, hr1, by rw [withC_len]; exact hl, by rw [withC_len]; exact hz, fun t r' l H2 s2 ht hr2 => ?_⟩
    exact k t r' l H2 (s1.trans s2) ht hr2
/-! ### Book.__init__ -/
def spBinit (C : Addr) : Sp := fun vs H Q _ => ∃ (p dx l : Addr) (ls : List Int), vs = [.ref p, .ref l] ∧ H p = some (.ins C dx []) ∧ H l = some (.lst (ls.map V.int)) ∧ 1 ≤ ls.length ∧ ls.length ≤ 40 ∧ (∀ x ∈ ls, 1 ≤ x ∧ x ≤ 1000000000) ∧
  ∀ (H' : Hp), SameX p H H' → BkA C H' p ls → Q .non H'
theorem scBinit : FnScope ["self", "lengths", "one"] ["self", "lengths"] (defScope sBookinit) := ⟨rfl, rfl, rfl, by decide +kernel, rfl, by decide +kernel, by decide +kernel⟩
theorem ok_binit (F : FnP K "__init__" "Book.__init__" sBookinit [] f fd) (T : Txt mg) (Cn : Con mg) (B : BookC K mg C) (G : Cal P w K mg base 3 "is_length" ["thing"] spLength) : FnOk P w K mg base CX0 4 f fd ["self", "lengths"] (spBinit C) := by
  obtain ⟨t1, h1⟩ := Cn.slp
  refine okF F scBinit (fun vs H Q E h => ?_) (fun cdv A outer s H vs Q E hr h => ?_)
  · obtain ⟨p, dx, l, ls, rfl, _⟩ := h
    rfl
  · obtain ⟨p, dx, l, ls, rfl, hp, hl, n1, n2, hx, k⟩ := h
    refine ⟨_, pss_cons (ps_if (PW.pt (pw_or (pt_not (pt_val (pe_callB call_isi (by rfl) T.isi (by decide +kernel) (pa_cons (pv 1) (pa_cons (pe_bltn (v := .ty "list") (by rfl) T.lst (by decide +kernel) rfl) pa_nil)))))
        (pw_or1 (pt_not (pt_chain op_le op_le pe_int (pe_callB call_len_seq (by rfl) T.len PySem.boot_len (pa_cons (pv 1) pa_nil)) (pe_glob rfl h1 rInt)))))) pss_never pss_nil)
      (pss_cons (ps_if (pt_not (pt_val (pe_callB (cr_all rfl) (by rfl) T.all (by decide +kernel) (pa_cons (pe_lc (own := [("one", 2)]) (g := gName 2) (tt := tYes) rfl scBinit.nd (pi_list (pv 1)) (blkOk_by (N := ["self", "lengths", "one"]) (sc := defScope sBookinit) (by decide +kernel))
          (fun _ _ _ _ _ => pg_name (i := 2) scBinit.nd rfl (Or.inl rfl)) (fun _ _ _ _ _ => pts_nil) (fun _ _ _ _ _ => pe_cal G hr rfl (pa_cons (pv 2) pa_nil))) pa_nil)))) pss_never pss_nil)
      (pss_one (ps_fld (pv 0) (pe_callTy call_tuple_of (by rfl) T.tup (by decide +kernel) (pa_cons (pv 1) pa_nil)) rfl))), ?_⟩
    have hll : (ls.map V.int).length = ls.length := List.length_map _
    refine ⟨_, rfl, .ref l, .ty "list", .type "list", .type "list", true, rfl, .ty _, .base (.lst hl), kit_ty (by decide +kernel), true, rfl, ?_⟩
    refine iteF ?_
    refine ⟨_, rfl, l, _, rfl, .inl (SqL.of hl), _, _, rfl, rfl, _, rfl, ?_⟩
    refine iteD (by rw [hll]; omega) ?_
    refine ⟨_, _, rfl, rfl, _, rfl, ?_⟩
    rw [decide_eq_true (show (((ls.map V.int).length : Nat) : Int) ≤ 40 by rw [hll]; omega)]
    refine iteF ?_
    refine ⟨_, rfl, l, rfl, ⟨_, SqL.of hl⟩, fun D hD => ?_⟩
    refine lcT walk_list hD (fun i H' ys => ys = List.replicate i (.bl true)) (fun _ _ _ _ _ e => e) (fun H' s => SqL.of (s _ _ hl)) rfl (fun i H ys e => by rw [e, List.length_replicate]; exact Nat.le_refl _) (by rw [hll]; exact Nat.le_trans n2 (by decide)) ?_ ?_
    · rintro i x _ H1 ys Yes No hi s1 rfl ⟨rfl, hxi⟩ yes no
      obtain ⟨z, hz, rfl⟩ := mget hxi
      refine ⟨rfl, ?_⟩
      refine yesT ?_
      refine ⟨_, rfl, z, rfl, ?_⟩
      have := hx z (List.mem_of_getElem? hz)
      rw [decide_eq_true this]
      exact yes _ _ (Same.refl _) (by rw [List.replicate_succ'])
    · rintro H1 ys s1 e rfl
      refine ⟨D, List.replicate (ls.map V.int).length true, rfl, SqL.of (by rw [e, List.map_replicate]), true, ?_, ?_⟩
      · show V.bl _ = V.bl true
        simp
      refine iteF ?_
      refine ⟨_, rfl, l, _, rfl, .inl ⟨SqL.of (s1 _ _ hl), fun t ht => ?_⟩⟩
      have nt : New H1 (upd H1 t (.tup (ls.map V.int))) t := New.upd ht
      refine ⟨_, rfl, p, C, dx, _, rfl, nt.same _ _ (s1 _ _ hp), B.cl, B.nR, by show 0 < 1000; decide, ?_⟩
      refine k _ (fun b o nb e => ?_) ⟨dx, t, upd_same, ?_⟩
      · rw [upd_ne nb]
        exact nt.same _ _ (s1 _ _ e)
      · rw [upd_ne (ne_of upd_same (nt.same _ _ (s1 _ _ hp)) (fun z => nomatch z))]
        exact upd_same
/-! ### Book.lengths, Book.__len__ -/
def spBlengths (C : Addr) : Sp := fun vs H Q _ => ∃ (b : Addr) (ls : List Int), vs = [.ref b] ∧ BkA C H b ls ∧ ∀ (l : Addr) (H' : Hp), New H H' l → H' l = some (.lst (ls.map V.int)) → Q (.ref l) H'
theorem scBlengths : FnScope ["self"] ["self"] (defScope sBooklengths) := ⟨rfl, rfl, rfl, by decide +kernel, rfl, by decide +kernel, by decide +kernel⟩
theorem ok_blengths (F : FnP K "lengths" "Book.lengths" sBooklengths [] f fd) (T : Txt mg) (B : BookC K mg C) : FnOk P w K mg base CX0 1 f fd ["self"] (spBlengths C) := by
  refine okF F scBlengths (fun vs H Q E h => ?_) (fun cdv A outer s H vs Q E hr h => ?_)
  · obtain ⟨b, ls, rfl, _⟩ := h
    rfl
  · obtain ⟨b, ls, rfl, ⟨dx, t, hb, ht⟩, k⟩ := h
    refine ⟨_, pss_one (ps_ret (pe_callTy call_list_of (by rfl) T.lst (by decide +kernel) (pa_cons (pe_fld (pv 0) rfl) pa_nil))), ?_⟩
    refine ⟨_, rfl, b, C, dx, _, _, rfl, hb, B.cl, B.nR, rows_at, t, _, rfl, .inr (SqT.of ht), fun l hl => ?_⟩
    exact k l _ (New.upd hl) upd_same
def spBlen (C : Addr) : Sp := fun vs H Q _ => ∃ (b : Addr) (ls : List Int), vs = [.ref b] ∧ BkA C H b ls ∧ Q (.int (ls.length : Int)) H
theorem scBlen : FnScope ["self"] ["self"] (defScope sBooklen) := ⟨rfl, rfl, rfl, by decide +kernel, rfl, by decide +kernel, by decide +kernel⟩
theorem ok_blen (F : FnP K "__len__" "Book.__len__" sBooklen [] f fd) (T : Txt mg) (B : BookC K mg C) : FnOk P w K mg base CX0 1 f fd ["self"] (spBlen C) := by
  refine okF F scBlen (fun vs H Q E h => ?_) (fun cdv A outer s H vs Q E hr h => ?_)
  · obtain ⟨b, ls, rfl, _⟩ := h
    rfl
  · obtain ⟨b, ls, rfl, ⟨dx, t, hb, ht⟩, k⟩ := h
    refine ⟨_, pss_one (ps_ret (pe_callB call_len_seq (by rfl) T.len PySem.boot_len (pa_cons (pe_fld (pv 0) rfl) pa_nil))), ?_⟩
    refine ⟨_, rfl, b, C, dx, _, _, rfl, hb, B.cl, B.nR, rows_at, t, _, rfl, .inr (SqT.of ht), ?_⟩
    rw [List.length_map]
    exact k
end
end L2.K87
set_option Elab.async false
set_option linter.all false
set_option autoImplicit false
set_option maxRecDepth 100000
set_option maxHeartbeats 4000000
namespace L2.K87
open PySem PySem.Spec PyProof.Rows
theorem valV_mem {κ : Type} [DecidableEq κ] {kvs : List (κ × V)} {k : κ} {v : V} (h : valV kvs k = some v) : (k, v) ∈ kvs := by
  unfold valV at h
  obtain ⟨p, hp, e⟩ := Option.map_eq_some_iff.mp h
  have h1 := List.mem_of_find?_eq_some hp
  have h2 : p.1 = k := by
    have z := List.find?_some hp
    simpa using z
  rw [← h2, ← e]
  exact h1
theorem valV_of_mem {κ : Type} [DecidableEq κ] {kvs : List (κ × V)} {k : κ} (h : k ∈ kvs.map (·.1)) : ∃ v, valV kvs k = some v := by
  cases e : valV kvs k with
  | some v => exact ⟨v, rfl⟩
  | none => exact absurd h (valV_not e)
/-- tuple(xs) -/
def rTupOf (K : PySem.W.Frag) : List V → Hp → VK → Prop := fun xs H Q => ∃ p ys, xs = [.ref p] ∧ ((SqL K H p ys ∧ ∀ l, H l = none → Q (.ref l) (upd H l (.tup ys))) ∨ (SqT K H p ys ∧ Q (.ref p) H))
theorem call_tupOf {X : Cx} : CallR X (.type "tuple") (rTupOf X.K) := call_tuple_of
section
variable {P : Program} {w : World} {K : PySem.W.Frag} {mg : Str → Option Value} {base : Heap} {f : Addr} {fd : FuncData}
/-! ### groups_of -/
def spGroups : Sp := fun vs H Q _ => ∃ (a : Addr) (st : Sg), vs = [.ref a] ∧ StA H a st ∧ st.length ≤ 1000 ∧ ∀ (r : Addr) (ys : List V) (H' : Hp), Same H H' → H' r = some (.lst ys) → ys.length = (dist (st.map (·.2))).length → Q (.ref r) H'
theorem scGroups : FnScope ["standing", "found", "name", "rest"] ["standing"] (defScope sgroups_of) := ⟨rfl, rfl, rfl, by decide +kernel, rfl, by decide +kernel, by decide +kernel⟩
theorem ok_groups (F : FnP K "groups_of" "groups_of" sgroups_of [] f fd) (T : Txt mg) : FnOk P w K mg base CX0 1 f fd ["standing"] spGroups := by
  refine okF F scGroups (fun vs H Q E h => ?_) (fun cdv A outer s H vs Q E hr h => ?_)
  · obtain ⟨a, st, rfl, _⟩ := h
    rfl
  · obtain ⟨a, st, rfl, ⟨qs, ha, hq⟩, hz, k⟩ := h
    have hu := hu1 hr
    have h16 := hu16 hr
    refine ⟨_, pss_cons (ps_set (i := 1) scGroups.nd rfl (Or.inr rfl) pe_dnewK)
      (pss_cons (ps_for PassesOwn.never rfl (pi_tup (pv 0)) (pg2 (i := 2) (j := 3) rfl scGroups.nd rfl rfl (Or.inl rfl) (Or.inl rfl) (Or.inl rfl) (Or.inl rfl))
        (pss_one (ps_expr (pe_bm PySem.F.plainAttrs_list PySem.F.slot_list_append PySem.F.type_list_append mt_append (pe_dsetd (pv 1) (pv 3) (pe_lst pa_nil) ⟨rfl, rfl, rfl, rfl⟩) (pa_cons (pv 2) pa_nil)))))
      (pss_one (ps_ret (pe_lc (own := [("rest", 3)]) (g := gName 3) (tt := tYes) (te := tTup (tCons (tVar 3) (tCons (tCB (rTupOf K) (tCons (tDGet (tVar 1) (tVar 3)) tNil)) tNil))) rfl scGroups.nd
        (pi_list (pe_callB (call_sortedKI rfl h16) (by rfl) T.srt (by decide +kernel) (pa_cons (pv 1) pa_nil))) (blkOk_by (N := ["standing", "found", "name", "rest"]) (sc := defScope sgroups_of) (by decide +kernel))
        (fun _ _ _ _ _ => pg_name (i := 3) scGroups.nd rfl (Or.inl rfl) (Or.inr rfl)) (fun _ _ _ _ _ => pts_nil)
        (fun _ _ _ _ _ => pe_tup (pa_cons (pv 3) (pa_cons (pe_callTy call_tupOf (by rfl) T.tup (by decide +kernel) (pa_cons (pe_dget hu (pv 1) (pv 3) (fun _ _ => rfl)) pa_nil)) pa_nil))))))), ?_⟩
    intro d hd
    have s0 : Same H (upd H d (.dK [])) := (New.upd hd).same
    refine ⟨_, rfl, a, rfl, ⟨_, SqT.of (s0 _ _ ha)⟩, for_it walk_tup (fun i σ H2 => ∃ (v1 v2 : Option V) (kvs : List (Key × V)), σ = [some (.ref a), some (.ref d), v1, v2] ∧ Same H H2 ∧ H2 d = some (.dK kvs) ∧ kvs.map (·.1) = (dist ((st.take i).map (·.2))).map Sum.inl ∧
        ∀ p ∈ kvs, ∃ l ys, p.2 = V.ref l ∧ H l = none ∧ H2 l = some (.lst ys) ∧ ys.length ≤ i)
      ⟨none, none, [], rfl, s0, upd_same, rfl, fun p hp => by cases hp⟩ (fun i σ H2 _ ⟨_, _, _, _, s3, _⟩ => SqT.of (s3 _ _ ha)) ?_ ?_⟩
    · rintro i x σ _ H2 hi ⟨v1, v2, kvs, rfl, s3, eD, ek, hv⟩ ⟨rfl, hx⟩
      obtain ⟨q, p, rfl, hqi, hpi, hp⟩ := stA_get hq hx
      have hi' : i < st.length := get_lt hpi
      refine ⟨q, _, rfl, SqT.of (s3 _ _ hp), rfl, _, _, rfl, _, _, rfl, rfl, ?_⟩
      have lenk : kvs.length ≤ 1000 := by
        have e1 := congrArg List.length ek
        rw [List.length_map, List.length_map] at e1
        have e2 := dist_len ((st.take i).map (·.2))
        rw [List.length_map, List.length_take] at e2
        omega
      refine ⟨_, rfl, d, rfl, .inl ⟨kvs, .inl eD⟩, _, rfl, Nat.zero_le _, fun t ht => ?_⟩
      have nt : New H2 (upd H2 t (.lst [])) t := New.upd ht
      have ht0 : H t = none := s3.free ht
      have eD2 := nt.same _ _ eD
      have hd0 : d ≠ t := ne_of_none eD ht
      have ed : (dist ((st.take (i + 1)).map (·.2))) = PyProof.Rows.step_dedup (dist ((st.take i).map (·.2))) p.2 := by
        rw [take_snoc hpi, List.map_append]
        exact dist_snoc _ _
      refine ⟨kvs, Sum.inl p.2, eD2, rfl, small1000 lenk, fun v hval => ?_, fun hno => ?_⟩
      · -- there already
        obtain ⟨l, ys, ev, hl0, hl2, hly⟩ := hv _ (valV_mem hval)
        have ev : v = V.ref l := ev
        subst ev
        have hl3 := nt.same _ _ hl2
        refine ⟨.inl ⟨rfl, _, SqL.of hl3⟩, _, rfl, l, ys, _, rfl, rfl, hl3, Nat.lt_of_le_of_lt hly (by rw [sizeLine_eq]; omega), ?_⟩
        have hmem : p.2 ∈ dist ((st.take i).map (·.2)) := by
          have m := valV_in hval
          rw [ek] at m
          obtain ⟨z, hz1, hz2⟩ := List.mem_map.mp m
          injection hz2 with hz2
          rw [← hz2]
          exact hz1
        refine ⟨_, _, kvs, rfl, same_upd (s3.trans nt.same) hl0, ?_, ?_, fun pr hpr => ?_⟩
        · rw [upd_ne (ne_of eD2 hl3 (fun z => nomatch z))]
          exact eD2
        · rw [ed, ek]
          unfold PyProof.Rows.step_dedup
          rw [if_pos (by simpa using hmem)]
        · obtain ⟨l', ys', e1, e2, e3, e4⟩ := hv pr hpr
          by_cases hll : l' = l
          · subst hll
            refine ⟨l', _, e1, e2, upd_same, ?_⟩
            rw [List.length_append, List.length_singleton]
            omega
          · exact ⟨l', ys', e1, e2, by rw [upd_ne hll]; exact nt.same _ _ e3, by omega⟩
      · -- a new one
        have hnm : p.2 ∉ dist ((st.take i).map (·.2)) := fun hm => by
          have m : (Sum.inl p.2 : Key) ∈ kvs.map (·.1) := by
            rw [ek]
            exact List.mem_map.mpr ⟨_, hm, rfl⟩
          exact valV_not hno m
        have ht3 : upd (upd H2 t (.lst [])) d (.dK (putK kvs (Sum.inl p.2) (.ref t))) t = some (.lst []) := by
          rw [upd_ne hd0.symm]
          exact upd_same
        refine ⟨.inl ⟨rfl, _, SqL.of ht3⟩, _, rfl, t, [], _, rfl, rfl, ht3, by show 0 < sizeLine; decide, ?_⟩
        refine ⟨_, _, kvs ++ [(Sum.inl p.2, .ref t)], rfl, same_upd (same_upd (s3.trans nt.same) hd) ht0, ?_, ?_, fun pr hpr => ?_⟩
        · rw [upd_ne hd0, upd_same, putK_new _ hno]
        · rw [ed, List.map_append, ek]
          unfold PyProof.Rows.step_dedup
          rw [if_neg (by simpa using hnm), List.map_append]
          rfl
        · rcases List.mem_append.mp hpr with hpr | hpr
          · obtain ⟨l', ys', e1, e2, e3, e4⟩ := hv pr hpr
            have hlt : l' ≠ t := ne_of_none e3 ht
            refine ⟨l', ys', e1, e2, ?_, by omega⟩
            rw [upd_ne hlt, upd_ne (ne_of e3 eD (fun z => nomatch z))]
            exact nt.same _ _ e3
          · have : pr = (Sum.inl p.2, V.ref t) := by simpa using hpr
            subst this
            exact ⟨t, _, rfl, ht0, upd_same, by simp⟩
    · rintro σ H2 ⟨v1, v2, kvs, rfl, s3, eD, ek, hv⟩
      rw [take_all (stA_len hq)] at ek
      have dl := dist_len (st.map (·.2))
      rw [List.length_map] at dl
      refine ⟨_, rfl, d, kvs, dist (st.map (·.2)), rfl, eD, ek, by omega, fun ys p hp hpn => ?_⟩
      have nt : New H2 (upd H2 p (.lst (ys.map V.int))) p := New.upd hpn
      refine ⟨p, rfl, ⟨_, SqL.of upd_same⟩, fun D hD => ?_⟩
      have hlen : (ys.map V.int).length = (dist (st.map (·.2))).length := by rw [List.length_map, hp.length_eq]
      refine lcT walk_list hD (fun i H' zs => zs.length = i) (fun _ _ _ _ _ e => e) (fun H' s => SqL.of (s _ _ upd_same)) rfl (fun i H' zs e => Nat.le_of_eq e) (by rw [hlen, sizeLine_eq]; omega) ?_ ?_
      · rintro i x _ H3 zs Yes No hi s4 hzs ⟨rfl, hx⟩ yes no
        obtain ⟨r, hr', rfl⟩ := mget hx
        have hin : (Sum.inl r : Key) ∈ kvs.map (·.1) := by
          rw [ek]
          exact List.mem_map.mpr ⟨r, hp.mem_iff.mp (List.mem_of_getElem? hr'), rfl⟩
        obtain ⟨v, hval⟩ := valV_of_mem hin
        obtain ⟨l, us, ev, _, hl2, _⟩ := hv _ (valV_mem hval)
        have ev : v = V.ref l := ev
        subst ev
        have eD3 := s4 _ _ (nt.same _ _ eD)
        have hl3 := s4 _ _ (nt.same _ _ hl2)
        refine ⟨rfl, yesT ?_⟩
        refine ⟨_, rfl, _, rfl, _, rfl, d, _, rfl, by rw [← hval]; exact DGet.k (k := Sum.inl r) eD3, l, us, rfl, .inl ⟨SqL.of hl3, fun m hm => ?_⟩⟩
        have n1 : New H3 (upd H3 m (.tup us)) m := New.upd hm
        refine ⟨by show 2 ≤ sizeLine; decide, fun t ht => ?_⟩
        have n2 := New.upd (o := .tup [.int r, .ref m]) ht
        exact yes _ _ (n1.same.trans n2.same) (by rw [List.length_append, hzs]; rfl)
      · rintro H3 zs s4 e1 hzs
        exact k D zs H3 ((s3.trans nt.same).trans s4) e1 (by rw [hzs, hlen])
end
end L2.K87
set_option Elab.async false
set_option linter.all false
set_option autoImplicit false
set_option maxRecDepth 100000
set_option maxHeartbeats 4000000
namespace L2.K87
open PySem PySem.Spec PyProof.Rows
/-! ### heaps: all but some objects stay -/
def KeepM (M : List Addr) (H H' : Hp) : Prop := ∀ b o, b ∉ M → H b = some o → H' b = some o
theorem KeepM.of {M : List Addr} {H H' : Hp} (s : Same H H') : KeepM M H H' := fun b o _ e => s b o e
theorem KeepM.trans {M : List Addr} {H H1 H2 : Hp} (a : KeepM M H H1) (b : KeepM M H1 H2) : KeepM M H H2 := fun c o n e => b c o n (a c o n e)
theorem KeepM.els {M : List Addr} {H H' : Hp} {d : Addr} (hd : d ∈ M) (e : ∀ c, c ≠ d → H' c = H c) : KeepM M H H' := fun b o n h => by
  rw [e b fun z => n (z ▸ hd)]
  exact h
theorem KeepM.upd {M : List Addr} {H : Hp} {d : Addr} {o : HO} (hd : d ∈ M) : KeepM M H (upd H d o) := KeepM.els hd fun _ hc => upd_ne hc
theorem KeepM.same {M : List Addr} {H0 H H' : Hp} (k : KeepM M H H') (s : Same H0 H) (hM : ∀ b ∈ M, H0 b = none) : Same H0 H' := fun b o e => k b o (fun hb => by rw [hM b hb] at e; cases e) (s b o e)
/-- the standings behind the strokes -/
def su (ls : List Int) (ks : List (List Str)) (s : Sg) : List Sg := ks.map (callS ls s)
theorem lot_len {ls : List Int} {ks : List (List Str)} {s0 : Sg} : ∀ k, ∀ s ∈ lotF (su ls ks) s0 k, s.length = s0.length
  | 0 => fun s hs => by
    have : s = s0 := by simpa [lotF] using hs
    rw [this]
  | k + 1 => fun s hs => by
    cases e : (lotF (su ls ks) s0 k)[k]? with
    | none =>
      have : lotF (su ls ks) s0 (k + 1) = lotF (su ls ks) s0 k := by
        rw [lotF]
        simp only [e]
      rw [this] at hs
      exact lot_len k s hs
    | some t =>
      rw [lotF_succ e] at hs
      rcases grow_mem.mp hs with hs | hs
      · exact lot_len k s hs
      · obtain ⟨n, _, rfl⟩ := List.mem_map.mp hs
        rw [callS_len]
        exact lot_len k t (List.mem_of_getElem? e)
theorem IsLot.len {ls : List Int} {ks : List (List Str)} {s0 : Sg} {L : List Sg} (h : IsLot (su ls ks) s0 L) {s : Sg} (hs : s ∈ L) : s.length = s0.length := by
  have := lot_len (ls := ls) (ks := ks) (s0 := s0) L.length s
  rw [h.eq] at this
  exact this hs
/-- a list of standings -/
def LsA (H : Hp) (r : Addr) (sts : List Sg) : Prop := ∃ ts : List Addr, H r = some (.lst (ts.map V.ref)) ∧ Paired (StA H) ts sts
theorem LsA.keep {H H' : Hp} {r : Addr} {sts : List Sg} (h : LsA H r sts) (e : ∀ o, H r = some o → H' r = some o) (t : Tups H H') : LsA H' r sts := by
  obtain ⟨ts, h1, h2⟩ := h
  exact ⟨ts, e _ h1, pimp h2 fun _ _ z => z.keep t⟩
theorem LsA.same {H H' : Hp} {r : Addr} {sts : List Sg} (h : LsA H r sts) (s : Same H H') : LsA H' r sts := h.keep (fun _ e => s _ _ e) (tps s)
/-- the ways: for each standing the list of those behind the strokes -/
def WaysR (ls : List Int) (ks : List (List Str)) (M : List Addr) (H : Hp) (kvs : List (Sg × V)) (L : List Sg) : Prop := Paired (fun kv s => kv.1 = s ∧ ∃ r, kv.2 = V.ref r ∧ r ∉ M ∧ LsA H r (su ls ks s)) kvs L
theorem WaysR.keep {ls : List Int} {ks : List (List Str)} {M : List Addr} {H H' : Hp} {kvs : List (Sg × V)} {L : List Sg} (h : WaysR ls ks M H kvs L) (k : KeepM M H H') (t : Tups H H') : WaysR ls ks M H' kvs L :=
  pimp h fun _ _ ⟨e, r, e2, n, l⟩ => ⟨e, r, e2, n, l.keep (fun o z => k _ _ n z) t⟩
theorem WaysR.same {ls : List Int} {ks : List (List Str)} {M : List Addr} {H H' : Hp} {kvs : List (Sg × V)} {L : List Sg} (h : WaysR ls ks M H kvs L) (s : Same H H') : WaysR ls ks M H' kvs L := h.keep (KeepM.of s) (tps s)
theorem WaysR.weak {ls : List Int} {ks : List (List Str)} {M : List Addr} {H : Hp} {kvs : List (Sg × V)} {L : List Sg} (h : WaysR ls ks M H kvs L) : WaysR ls ks [] H kvs L := pimp h fun _ _ ⟨e, r, e2, _, l⟩ => ⟨e, r, e2, by simp, l⟩
theorem WaysR.keys {ls : List Int} {ks : List (List Str)} {M : List Addr} {H : Hp} {kvs : List (Sg × V)} {L : List Sg} (h : WaysR ls ks M H kvs L) : kvs.map (·.1) = L := by
  unfold WaysR at h
  induction h with
  | nil => rfl
  | cons h t ih => rw [List.map_cons, ih, h.1]
theorem nodup_get {α : Type} {l : List α} (h : l.Nodup) {i j : Nat} {x : α} (a : l[i]? = some x) (b : l[j]? = some x) : i = j := nd_ix h a b
theorem not_in_take {α : Type} {l : List α} (h : l.Nodup) {k : Nat} {x : α} (a : l[k]? = some x) : x ∉ l.take k := fun m => by
  obtain ⟨j, hj⟩ := List.mem_iff_getElem?.mp m
  rw [List.getElem?_take] at hj
  split at hj
  · rename_i hlt
    have := nd_ix h a hj
    omega
  · cases hj
section
variable {P : Program} {w : World} {K : PySem.W.Frag} {mg : Str → Option Value} {base : Heap} {f C : Addr} {fd : FuncData}
/-! ### lot_of -/
def spLot (P : Program) (w : World) (C : Addr) : Sp := fun vs H Q _ => ∃ (b a c : Addr) (m : Int) (ls : List Int) (s0 : Sg) (ks : List (List Str)) (L : List Sg), vs = [.ref b, .ref a, .ref c, .int m] ∧ BkA C H b ls ∧ StA H a s0 ∧ SksA H c ks ∧
  s0.length ≤ ls.length ∧ s0.length ≤ 1000 ∧ ks.length ≤ 1000 ∧ IsLot (su ls ks) s0 L ∧ (L.length : Int) ≤ m ∧ L.length ≤ 1000 ∧
  ∀ (d : Addr) (kvs : List (Sg × V)) (H' : Hp), Same H H' → H d = none → DN P w H' d kvs → WaysR ls ks [] H' kvs L → Q (.ref d) H'
theorem scLot : FnScope ["book", "standing", "strokes", "most", "found", "met", "ways", "here", "there", "stroke"] ["book", "standing", "strokes", "most"] (defScope slot_of) := ⟨rfl, rfl, rfl, by decide +kernel, rfl, by decide +kernel, by decide +kernel⟩
theorem ok_lot (F : FnP K "lot_of" "lot_of" slot_of [] f fd) (T : Txt mg) (G : Cal P w K mg base 5 "called" ["book", "standing", "stroke"] (spCalled C)) : FnOk P w K mg base CX0 6 f fd ["book", "standing", "strokes", "most"] (spLot P w C) := by
  refine okF F scLot (fun vs H Q E h => ?_) (fun cdv A outer s H vs Q E hr h => ?_)
  · obtain ⟨b, a, c, m, ls, s0, ks, L, rfl, _⟩ := h
    rfl
  · obtain ⟨b, a, c, m, ls, s0, ks, L, rfl, hB, hS, hK, hl, hz, hks, hL, hm, hLz, k⟩ := h
    have hu := hu16 hr
    refine ⟨_, pss_cons (ps_set (i := 4) scLot.nd rfl (Or.inl rfl) (pe_lst (pa_cons (pv 1) pa_nil)))
      (pss_cons (ps_set (i := 5) scLot.nd rfl (Or.inl rfl) (pe_ndisp1 hu (pv 1) pe_bl))
      (pss_cons (ps_set (i := 6) scLot.nd rfl (Or.inl rfl) pe_nnew)
      (pss_cons (ps_while PassesOwn.never (pt_cmpR op_lt (pe_callB call_len_dN (by rfl) T.len PySem.boot_len (pa_cons (pv 6) pa_nil)) (pe_callB call_len_seq (by rfl) T.len PySem.boot_len (pa_cons (pv 4) pa_nil)) (nomark _))
        (pss_cons (ps_set (i := 7) scLot.nd rfl (Or.inr rfl) (pe_ix ix_list (pv 4) (pe_callB call_len_dN (by rfl) T.len PySem.boot_len (pa_cons (pv 6) pa_nil)) (fun _ _ => rfl)))
        (pss_cons (ps_ndput hu (pv 6) (pv 7) (pe_lc (own := [("stroke", 9)]) (g := gName 9) (tt := tYes) (te := tOp (rIxT K) (tCall (spCalled C) [] E0 (tCons (tVar 0) (tCons (tVar 7) (tCons (tVar 9) tNil)))) (tC (.int 0))) rfl scLot.nd (pi_list (pv 2))
            (blkOk_by (N := ["book", "standing", "strokes", "most", "found", "met", "ways", "here", "there", "stroke"]) (sc := defScope slot_of) (by decide +kernel))
            (fun _ _ _ _ _ => pg_name (i := 9) scLot.nd rfl (Or.inl rfl) (Or.inr rfl)) (fun _ _ _ _ _ => pts_nil)
            (fun _ _ _ _ _ => pe_ix ix_tup (pe_cal G hr rfl (pa_cons (pv 0) (pa_cons (pv 7) (pa_cons (pv 9) pa_nil)))) pe_int (fun _ _ => rfl))) rfl)
        (pss_cons (ps_for PassesOwn.never rfl (pi_list (pe_ndget hu (pv 6) (pv 7) (fun _ _ => rfl))) (pg_name (i := 8) scLot.nd rfl (Or.inl rfl))
          (pss_one (ps_if (pt_cmp (pc_nnotin hu (pv 8) (pv 5))) (pss_cons (ps_ndput hu (pv 5) (pv 8) pe_bl rfl) (pss_one (ps_expr (pe_bm PySem.F.plainAttrs_list PySem.F.slot_list_append PySem.F.type_list_append mt_append (pv 4) (pa_cons (pv 8) pa_nil))))) pss_nil)))
        (pss_one (ps_if (pt_cmpR op_gt (pe_callB call_len_seq (by rfl) T.len PySem.boot_len (pa_cons (pv 4) pa_nil)) (pv 3) (nomark _)) pss_never pss_nil))))))
      (pss_one (ps_ret (pv 6)))))), ?_⟩
    -- found = [standing]; met = {standing: True}; ways = {}
    refine ⟨_, rfl, by show 1 ≤ sizeLine; decide, fun fo hfo => ?_⟩
    have nf : New H (upd H fo (.lst [.ref a])) fo := New.upd hfo
    intro me H1 nm dm
    refine ⟨_, rfl, s0, a, rfl, (hS.same nf.same).same nm.same, dm, fun H2 els2 t2 dm2 => ?_⟩
    have hme0 : H me = none := nf.same.free nm.free
    have nfm : fo ≠ me := ne_of_none upd_same nm.free
    have s2 : Same H H2 := fun b' o e => by
      rw [els2 b' (ne_of_none e hme0)]
      exact nm.same _ _ (nf.same _ _ e)
    have ef2 : H2 fo = some (.lst [.ref a]) := by
      rw [els2 fo nfm]
      exact nm.same _ _ upd_same
    intro wy H3 nw dw
    have hwy0 : H wy = none := s2.free nw.free
    have nfw : fo ≠ wy := ne_of_none ef2 nw.free
    obtain ⟨_, _, xm, exm, _⟩ := id dm2
    have nmw : me ≠ wy := ne_of_none exm nw.free
    have s3 := s2.trans nw.same
    have hM : ∀ b' ∈ [fo, me, wy], H b' = none := by
      intro b' hb'
      simp only [List.mem_cons, List.not_mem_nil, or_false] at hb'
      rcases hb' with rfl | rfl | rfl
      · exact hfo
      · exact hme0
      · exact hwy0
    obtain ⟨as, hc, hcs⟩ := id hK
    -- the loop
    refine ⟨fun mm σ H' => ∃ (j : Nat) (v1 v2 : Option V) (fs : List Addr) (km kw : List (Sg × V)), mm = L.length - j ∧ j ≤ L.length ∧
        σ = [some (.ref b), some (.ref a), some (.ref c), some (.int m), some (.ref fo), some (.ref me), some (.ref wy), v1, v2, none] ∧ Same H H' ∧ H' fo = some (.lst (fs.map V.ref)) ∧ Paired (StA H') fs (lotF (su ls ks) s0 j) ∧
        DN P w H' me km ∧ km.map (·.1) = lotF (su ls ks) s0 j ∧ DN P w H' wy kw ∧ WaysR ls ks [fo, me, wy] H' kw (L.take j),
      ⟨L.length, 0, none, none, [a], [(s0, .bl true)], [], by simp, Nat.zero_le _, rfl, s3, nw.same _ _ ef2, .cons (hS.same s3) .nil, dm2.same nw.same, rfl, dw, .nil⟩, ?_⟩
    rintro mm σ H4 ⟨j, v1, v2, fs, km, kw, rfl, hj, rfl, s4, eF, pF, dM, ekM, dW, wW⟩
    have lenW : kw.length = j := by
      have := plen wW
      rw [List.length_take] at this
      omega
    have lenF : fs.length = (lotF (su ls ks) s0 j).length := plen pF
    refine ⟨_, rfl, wy, kw, rfl, dW.rd, _, rfl, fo, _, rfl, .inl (SqL.of eF), _, _, rfl, rfl, _, rfl, ?_⟩
    by_cases hlt : j < L.length
    · have hrun := hL.run j hlt
      have hd : decide (((kw.length : Nat) : Int) < ((fs.map V.ref).length : Nat)) = true := decide_eq_true (by rw [List.length_map, lenF, lenW]; omega)
      rw [hd]
      refine iteT ?_
      obtain ⟨s, hsF, hsL⟩ := hL.at hlt
      obtain ⟨q, hqf, hqs⟩ := pget2 pF hsF
      have hsmem : s ∈ L := List.mem_of_getElem? hsL
      have hslen := hL.len hsmem
      refine ⟨fun σ' H' => ∃ m', m' < L.length - j ∧ ∃ (j : Nat) (v1 v2 : Option V) (fs : List Addr) (km kw : List (Sg × V)), m' = L.length - j ∧ j ≤ L.length ∧
        σ' = [some (.ref b), some (.ref a), some (.ref c), some (.int m), some (.ref fo), some (.ref me), some (.ref wy), v1, v2, none] ∧ Same H H' ∧ H' fo = some (.lst (fs.map V.ref)) ∧ Paired (StA H') fs (lotF (su ls ks) s0 j) ∧
        DN P w H' me km ∧ km.map (·.1) = lotF (su ls ks) s0 j ∧ DN P w H' wy kw ∧ WaysR ls ks [fo, me, wy] H' kw (L.take j), fun _ _ z => z, ?_⟩
      -- here = found[len(ways)]
      refine ⟨_, rfl, _, rfl, wy, kw, rfl, dW.rd, fo, _, _, .ref q, rfl, rfl, SqL.of eF, at_of (j := j) (by rw [lenW]) (by rw [List.getElem?_map, hqf]; rfl), ?_⟩
      -- ways[here] = [..]
      refine ⟨_, rfl, c, rfl, ⟨_, SqL.of (s4 _ _ hc)⟩, fun D hD => ?_⟩
      have hnk : (as.map V.ref).length ≤ sizeLine := by
        rw [List.length_map, plen hcs]
        exact Nat.le_trans hks (by decide)
      refine lcT walk_list hD (fun i H' ys => ∃ ts : List Addr, ys = ts.map V.ref ∧ Paired (StA H') ts ((su ls ks s).take i)) (fun _ _ _ _ t ⟨ts, e, r⟩ => ⟨ts, e, pimp r fun _ _ z => z.keep t⟩) (fun H' sm => SqL.of (sm _ _ (s4 _ _ hc))) ⟨[], rfl, .nil⟩
        (fun i H' ys ⟨ts, e, r⟩ => by rw [e, List.length_map, plen r]; exact List.length_take_le _ _) hnk ?_ ?_
      · rintro i x _ H5 ys Yes No hi s5 ⟨ts, rfl, pr⟩ ⟨rfl, hx⟩ yes no
        obtain ⟨q2, kk, rfl, hq2, hkk, hsk⟩ := skA_get hcs hx
        refine ⟨rfl, yesT ?_⟩
        have s45 := s4.trans s5
        refine ⟨_, rfl, _, rfl, _, rfl, b, q, q2, ls, s, kk, rfl, hB.same s45, hqs.same s5, hsk.same s45, by omega, by omega, fun t r l H6 s6 ht hr6 => ?_⟩
        refine ⟨t, _, 0, .ref r, rfl, rfl, SqT.of ht, rfl, ?_⟩
        refine yes _ _ s6 ⟨ts ++ [r], by rw [List.map_append]; rfl, ?_⟩
        have eb : (su ls ks s).take (i + 1) = (su ls ks s).take i ++ [callS ls s kk] := take_snoc (by unfold su; rw [List.getElem?_map, hkk]; rfl)
        rw [eb]
        exact psnoc (pimp pr fun _ _ z => z.same s6) hr6
      rintro H5 ys s5 e5 ⟨ts, rfl, pr⟩
      rw [take_all (by unfold su; rw [List.length_map, List.length_map, plen hcs])] at pr
      have s45 := s4.trans s5
      have hDM : D ∉ [fo, me, wy] := by
        obtain ⟨_, _, xm, em, _⟩ := id dM
        obtain ⟨_, _, xw, ew, _⟩ := id dW
        simp only [List.mem_cons, List.not_mem_nil, or_false, not_or]
        exact ⟨(ne_of_none eF hD).symm, (ne_of_none em hD).symm, (ne_of_none ew hD).symm⟩
      refine ⟨_, rfl, _, rfl, wy, rfl, NPut.of (dW.same s5) (hqs.same s5) (by rw [lenW]; exact Nat.lt_of_lt_of_le hlt (Nat.le_trans hLz (by decide))) fun H6 els6 t6 dW6 => ?_⟩
      have km6 : KeepM [fo, me, wy] H5 H6 := KeepM.els (by simp) els6
      have s6 : Same H H6 := km6.same s45 hM
      have hno : valV kw s = none := by
        cases e : valV kw s with
        | none => rfl
        | some v =>
          have m1 := valV_in e
          rw [wW.keys] at m1
          exact absurd m1 (not_in_take hL.nodup hsL)
      rw [putK_new _ hno] at dW6
      have eD6 : H6 D = some (.lst (ts.map V.ref)) := km6 _ _ hDM e5
      have pr6 : Paired (StA H6) ts (su ls ks s) := pimp pr fun _ _ z => z.keep t6
      have wW6 : WaysR ls ks [fo, me, wy] H6 (kw ++ [(s, .ref D)]) (L.take (j + 1)) := by
        rw [take_snoc hsL]
        exact psnoc ((wW.same s5).keep km6 t6) ⟨rfl, D, rfl, hDM, ts, eD6, pr6⟩
      have eF6 : H6 fo = some (.lst (fs.map V.ref)) := by
        rw [els6 fo nfw]
        exact s5 _ _ eF
      have pF6 : Paired (StA H6) fs (lotF (su ls ks) s0 j) := pimp pF fun _ _ z => (z.same s5).keep t6
      have dM6 : DN P w H6 me km := (dM.same s5).keep t6 (els6 me nmw)
      have eGrow := lotF_succ hsF
      -- for there in ways[here]
      refine ⟨_, rfl, _, rfl, wy, .ref D, rfl, NGet.of dW6.rd ((hqs.same s5).keep t6) (by rw [valV_snoc _ _ _ _ hno, if_pos rfl]), D, rfl, ⟨_, SqL.of eD6⟩,
        for_it walk_list (fun i σ' H' => ∃ (v2 : Option V) (fs : List Addr) (km : List (Sg × V)),
          σ' = [some (.ref b), some (.ref a), some (.ref c), some (.int m), some (.ref fo), some (.ref me), some (.ref wy), some (.ref q), v2, none] ∧ Same H H' ∧ KeepM [fo, me, wy] H6 H' ∧ Tups H6 H' ∧ H' fo = some (.lst (fs.map V.ref)) ∧
          Paired (StA H') fs (grow (lotF (su ls ks) s0 j) ((su ls ks s).take i)) ∧ DN P w H' me km ∧ km.map (·.1) = grow (lotF (su ls ks) s0 j) ((su ls ks s).take i) ∧ H' wy = H6 wy)
        ⟨v2, fs, km, rfl, s6, fun _ _ _ e => e, Tups.refl _, eF6, pF6, dM6, ekM, rfl⟩ (fun i σ' H' _ ⟨_, _, _, _, _, kk, _⟩ => SqL.of (kk _ _ hDM eD6)) ?_ ?_⟩
      · rintro i x σ' _ H7 hi ⟨v2, fs, km, rfl, s7, k7, t7, eF7, pF7, dM7, ek7, ew7⟩ ⟨rfl, hx⟩
        obtain ⟨u, hu', rfl⟩ := mget hx
        obtain ⟨su', hsu, hst⟩ := pget pr6 hu'
        have hst7 := hst.keep t7
        have eb : (su ls ks s).take (i + 1) = (su ls ks s).take i ++ [su'] := take_snoc hsu
        have hlen7 : (grow (lotF (su ls ks) s0 j) ((su ls ks s).take i)).length ≤ L.length := by
          obtain ⟨r, er⟩ := grow_pre (grow (lotF (su ls ks) s0 j) ((su ls ks s).take i)) ((su ls ks s).drop i)
          have e2 : grow (grow (lotF (su ls ks) s0 j) ((su ls ks s).take i)) ((su ls ks s).drop i) = lotF (su ls ks) s0 (j + 1) := by
            rw [eGrow]
            unfold grow
            rw [← List.foldl_append, List.take_append_drop]
          rw [e2] at er
          have := congrArg List.length er
          rw [List.length_append] at this
          have h2 := hL.lenle (show j + 1 ≤ L.length from hlt)
          omega
        refine ⟨_, rfl, _, rfl, me, _, rfl, NGet.of dM7.rd hst7 rfl, _, rfl, ?_⟩
        cases e : valV km su' with
        | some v =>
          refine iteF ?_
          have hin : su' ∈ grow (lotF (su ls ks) s0 j) ((su ls ks s).take i) := by
            rw [← ek7]
            exact valV_in e
          have eg : grow (lotF (su ls ks) s0 j) ((su ls ks s).take (i + 1)) = grow (lotF (su ls ks) s0 j) ((su ls ks s).take i) := by
            rw [eb, grow_snoc]
            unfold grow1
            rw [if_pos hin]
          exact ⟨_, fs, km, rfl, s7, k7, t7, eF7, by rw [eg]; exact pF7, dM7, by rw [eg]; exact ek7, ew7⟩
        | none =>
          refine iteT ?_
          have hnin : su' ∉ grow (lotF (su ls ks) s0 j) ((su ls ks s).take i) := by
            rw [← ek7]
            exact valV_not e
          have eg : grow (lotF (su ls ks) s0 j) ((su ls ks s).take (i + 1)) = grow (lotF (su ls ks) s0 j) ((su ls ks s).take i) ++ [su'] := by
            rw [eb, grow_snoc]
            unfold grow1
            rw [if_neg hnin]
          have lkm : km.length ≤ 1000 := by
            have := congrArg List.length ek7
            rw [List.length_map] at this
            omega
          refine ⟨_, rfl, _, rfl, me, rfl, NPut.of dM7 hst7 (small1000 lkm) fun H8 els8 t8 dM8 => ?_⟩
          rw [putK_new _ e] at dM8
          have eF8 : H8 fo = some (.lst (fs.map V.ref)) := by
            rw [els8 fo nfm]
            exact eF7
          have lfs : (fs.map V.ref).length < sizeLine := by
            rw [List.length_map, plen pF7]
            exact Nat.lt_of_le_of_lt (Nat.le_trans hlen7 hLz) (by decide)
          refine ⟨_, rfl, .inl ⟨rfl, _, SqL.of eF8⟩, _, rfl, fo, _, _, rfl, rfl, eF8, lfs, ?_⟩
          have t9 : Tups H8 (upd H8 fo (.lst (fs.map V.ref ++ [.ref u]))) := tups_lst eF8
          have k8 : KeepM [fo, me, wy] H7 H8 := KeepM.els (by simp) els8
          have k9 : KeepM [fo, me, wy] H8 (upd H8 fo (.lst (fs.map V.ref ++ [.ref u]))) := KeepM.upd (by simp)
          refine ⟨_, fs ++ [u], km ++ [(su', V.bl true)], rfl, (k8.trans k9).same s7 hM, (k7.trans k8).trans k9, (t7.trans t8).trans t9, by rw [upd_same, List.map_append]; rfl, ?_, dM8.keep t9 (upd_ne nfm.symm), by rw [List.map_append, ek7, eg]; rfl, ?_⟩
          · rw [eg]
            exact psnoc (pimp pF7 fun _ _ z => (z.keep t8).keep t9) ((hst7.keep t8).keep t9)
          · rw [upd_ne nfw.symm, els8 wy nmw.symm]
            exact ew7
      · rintro σ' H7 ⟨v2, fs, km, rfl, s7, k7, t7, eF7, pF7, dM7, ek7, ew7⟩
        have eAll : grow (lotF (su ls ks) s0 j) ((su ls ks s).take (ts.map V.ref).length) = lotF (su ls ks) s0 (j + 1) := by
          rw [take_all (by rw [List.length_map, plen pr]), eGrow]
        rw [eAll] at pF7 ek7
        have h2 := hL.lenle (show j + 1 ≤ L.length from hlt)
        refine ⟨_, rfl, fo, _, rfl, .inl (SqL.of eF7), _, rfl, _, _, rfl, rfl, _, rfl, ?_⟩
        have hng : ¬ m < ((fs.map V.ref).length : Nat) := by
          rw [List.length_map, plen pF7]
          omega
        refine iteDN hng ?_
        exact ⟨L.length - (j + 1), by omega, j + 1, _, _, fs, km, _, rfl, hlt, rfl, s7, eF7, pF7, dM7, ek7, dW6.keep t7 ew7, wW6.keep k7 t7⟩
    · have hje : j = L.length := by omega
      have hd : decide (((kw.length : Nat) : Int) < ((fs.map V.ref).length : Nat)) = false := decide_eq_false (by
        rw [List.length_map, lenF, lenW, hje, hL.eq]
        omega)
      rw [hd]
      refine iteF ?_
      rw [take_all hje] at wW
      exact ⟨_, rfl, k wy kw H4 s4 hwy0 dW wW.weak⟩
end
end L2.K87
set_option Elab.async false
set_option linter.all false
set_option autoImplicit false
set_option maxRecDepth 100000
set_option maxHeartbeats 4000000
/-! Costs: a table of the mathematics, as a dict. -/
namespace L2.K87
open PySem PySem.Spec PyProof.Rows
/-- the edges behind a standing -/
def eds (ls : List Int) (ks : List (List Str)) (s : Sg) : List (Nat × Sg) := ks.map fun k => (k.length, callS ls s k)
theorem eds_snd (ls : List Int) (ks : List (List Str)) (s : Sg) : (eds ls ks s).map (·.2) = su ls ks s := by
  unfold eds su
  rw [List.map_map]
  rfl
theorem eds_len (ls : List Int) (ks : List (List Str)) (s : Sg) : (eds ls ks s).length = ks.length := List.length_map _
theorem eds_get {ls : List Int} {ks : List (List Str)} {s : Sg} {j : Nat} {k : List Str} (e : ks[j]? = some k) : (eds ls ks s)[j]? = some (k.length, callS ls s k) := by
  unfold eds
  rw [List.getElem?_map, e]
  rfl
/-- the passes came to their end with c -/
def IsRun (nx : Sg → List (Nat × Sg)) (L : List Sg) (m : Sg → Bool) (c : Tab Sg) : Prop := ∃ n, (pass nx L.reverse (passN nx L.reverse (tab0 L m) n)).2 = false ∧ (∀ j, j < n → (pass nx L.reverse (passN nx L.reverse (tab0 L m) j)).2 = true) ∧ c = passN nx L.reverse (tab0 L m) n
theorem isRun (nx : Sg → List (Nat × Sg)) (L : List Sg) (m : Sg → Bool) : ∃ c, IsRun nx L m c := by
  obtain ⟨n, h1, h2⟩ := pass_ends nx L.reverse (tab0 L m)
  exact ⟨_, n, h1, h2, rfl⟩
theorem IsRun.costs {nx : Sg → List (Nat × Sg)} {L : List Sg} {m : Sg → Bool} {c : Tab Sg} (h : IsRun nx L m c) : IsCosts nx L m c := by
  obtain ⟨n, h1, _, rfl⟩ := h
  exact isCosts_of h1
def CoA (H : Hp) (r : Addr) (a : Cost) : Prop := H r = some (.tup [.int (a.1 : Nat), .int (a.2 : Nat)])
theorem CoA.keep {H H' : Hp} {r : Addr} {a : Cost} (h : CoA H r a) (t : Tups H H') : CoA H' r a := t _ _ h
structure CoR (L : List Sg) (H : Hp) (kvs : List (Sg × V)) (c : Tab Sg) : Prop where
  at_ : ∀ s a, c s = some a → ∃ r, valV kvs s = some (.ref r) ∧ CoA H r a
  no : ∀ s, c s = none → valV kvs s = none
  nd : (kvs.map (·.1)).Nodup
  dom : ∀ s ∈ kvs.map (·.1), s ∈ L
theorem CoR.keep {L : List Sg} {H H' : Hp} {kvs : List (Sg × V)} {c : Tab Sg} (h : CoR L H kvs c) (t : Tups H H') : CoR L H' kvs c :=
  ⟨fun s a e => let ⟨r, e1, e2⟩ := h.at_ s a e; ⟨r, e1, e2.keep t⟩, h.no, h.nd, h.dom⟩
theorem nodup_le {α : Type} [DecidableEq α] : ∀ {l m : List α}, l.Nodup → (∀ x ∈ l, x ∈ m) → l.length ≤ m.length
  | [], _, _, _ => Nat.zero_le _
  | x :: l, m, h, s => by
    obtain ⟨h1, h2⟩ := List.nodup_cons.mp h
    have hx : x ∈ m := s x List.mem_cons_self
    have := nodup_le (m := m.erase x) h2 fun y hy => (List.mem_erase_of_ne (fun e : y = x => h1 (by rw [← e]; exact hy))).mpr (s y (List.mem_cons_of_mem _ hy))
    rw [List.length_erase_of_mem hx] at this
    have : 0 < m.length := List.length_pos_of_mem hx
    show l.length + 1 ≤ _
    omega
theorem CoR.len {L : List Sg} {H : Hp} {kvs : List (Sg × V)} {c : Tab Sg} (h : CoR L H kvs c) : kvs.length ≤ L.length := by
  have := nodup_le h.nd h.dom
  rwa [List.length_map] at this
theorem putK_keys {kvs : List (Sg × V)} {s : Sg} {v : V} : (valV kvs s = none ∧ (putK kvs s v).map (·.1) = kvs.map (·.1) ++ [s]) ∨ ((∃ u, valV kvs s = some u) ∧ (putK kvs s v).map (·.1) = kvs.map (·.1)) := by
  cases e : valV kvs s with
  | none =>
    refine .inl ⟨rfl, ?_⟩
    rw [putK_new _ e, List.map_append]
    rfl
  | some u =>
    refine .inr ⟨⟨u, rfl⟩, ?_⟩
    unfold putK
    rw [valV_any, e, if_pos (by rfl), List.map_map]
    refine List.map_congr_left fun kv _ => ?_
    show (if kv.1 = s then (kv.1, v) else kv).1 = kv.1
    split <;> rfl
theorem CoR.put {L : List Sg} {H : Hp} {kvs : List (Sg × V)} {c : Tab Sg} (h : CoR L H kvs c) {s : Sg} (hs : s ∈ L) {r : Addr} {a : Cost} (e : CoA H r a) : CoR L H (putK kvs s (.ref r)) (setT c s a) := by
  refine ⟨fun x b hb => ?_, fun x hx => ?_, ?_, ?_⟩
  · rw [valV_put]
    unfold setT at hb
    by_cases q : x = s
    · rw [if_pos q] at hb ⊢
      cases hb
      exact ⟨r, rfl, e⟩
    · rw [if_neg q] at hb ⊢
      exact h.at_ x b hb
  · rw [valV_put]
    unfold setT at hx
    by_cases q : x = s
    · rw [if_pos q] at hx
      cases hx
    · rw [if_neg q] at hx ⊢
      exact h.no x hx
  · rcases putK_keys (kvs := kvs) (s := s) (v := .ref r) with ⟨e, e2⟩ | ⟨_, e2⟩
    · rw [e2]
      exact nodup_snoc h.nd (valV_not e)
    · rw [e2]
      exact h.nd
  · rcases putK_keys (kvs := kvs) (s := s) (v := .ref r) with ⟨_, e2⟩ | ⟨_, e2⟩
    · rw [e2]
      intro x hx
      rcases List.mem_append.mp hx with hx | hx
      · exact h.dom x hx
      · have : x = s := by simpa using hx
        rw [this]
        exact hs
    · rw [e2]
      exact h.dom
theorem valV_at {κ : Type} [DecidableEq κ] : ∀ {kvs : List (κ × V)} {k : κ} {v : V} {i : Nat}, (kvs.map (·.1)).Nodup → kvs[i]? = some (k, v) → valV kvs k = some v
  | [], _, _, _, _, h => by simp at h
  | p :: r, k, v, 0, _, h => by
    have e : p = (k, v) := by simpa using h
    rw [valV_pos (by rw [e]), e]
  | p :: r, k, v, i + 1, hn, h => by
    have h : r[i]? = some (k, v) := by simpa using h
    obtain ⟨h1, h2⟩ := List.nodup_cons.mp hn
    rw [valV_neg fun e : p.1 = k => h1 (by show p.1 ∈ _; rw [e]; exact List.mem_map.mpr ⟨(k, v), List.mem_of_getElem? h, rfl⟩)]
    exact valV_at h2 h
theorem CoR.nil {L : List Sg} {H : Hp} {m : Sg → Bool} : CoR L H [] (tab0 [] m) := by
  refine ⟨fun s a e => ?_, fun _ _ => rfl, List.nodup_nil, fun _ h => by cases h⟩
  unfold tab0 at e
  rw [if_neg (by simp)] at e
  cases e
theorem tab0_yes {L : List Sg} {m : Sg → Bool} {i : Nat} {s : Sg} (e : L[i]? = some s) (h : m s = true) : tab0 (L.take (i + 1)) m = setT (tab0 (L.take i) m) s (0, 0) := by
  funext x
  rw [take_snoc e]
  unfold tab0 setT
  by_cases q : x = s
  · subst q
    simp [h]
  · simp [q]
theorem tab0_no {L : List Sg} {m : Sg → Bool} {i : Nat} {s : Sg} (e : L[i]? = some s) (h : m s = false) : tab0 (L.take (i + 1)) m = tab0 (L.take i) m := by
  funext x
  rw [take_snoc e]
  unfold tab0
  by_cases q : x = s
  · subst q
    simp [h]
  · simp [q]
/-- x < y of two costs -/
theorem lexLt_cost (a b : Cost) : HT.lexLt [(a.1 : Nat), (a.2 : Nat)] [((b.1 : Nat) : Int), ((b.2 : Nat) : Int)] = decide (clt a b) := by
  unfold clt
  rw [HT.lexLt_cons, HT.lexLt_cons]
  by_cases h1 : a.1 = b.1
  · by_cases h2 : a.2 = b.2
    · simp [h1, h2, HT.lexLt_nil_nil]
    · have : ¬ ((a.2 : Nat) : Int) = (b.2 : Nat) := by omega
      simp [h1, h2, this]
  · have : ¬ ((a.1 : Nat) : Int) = (b.1 : Nat) := by omega
    simp [h1, this]
/-- one edge: what stands behind it -/
theorem relax_out {s : Sg} {st : Tab Sg × Bool} {e : Nat × Sg} (h : st.1 e.2 = none) : relax s st e = st := by
  unfold relax
  rw [h]
theorem relax_in {s : Sg} {st : Tab Sg × Bool} {e : Nat × Sg} {b : Cost} (h : st.1 e.2 = some b) : relax s st e = if takes (st.1 s) (via b e.1) = true then (setT st.1 s (via b e.1), true) else st := by
  unfold relax
  rw [h]
end L2.K87
set_option Elab.async false
set_option linter.all false
set_option autoImplicit false
set_option maxRecDepth 100000
set_option maxHeartbeats 4000000
/-! dict(zip(names, values)); dicts of rests by names. -/
namespace L2.K87
open PySem PySem.Spec PyProof.Rows
/-- the rests by names as a dict holds them -/
def stK (st : Sg) : List (Key × V) := st.map fun p => (Sum.inr p.1, V.int p.2)
theorem stK_keys (st : Sg) : (stK st).map (·.1) = (st.map (·.1)).map Sum.inr := by
  unfold stK
  rw [List.map_map, List.map_map]
  rfl
theorem stK_nd {st : Sg} (h : (st.map (·.1)).Nodup) : ((stK st).map (·.1)).Nodup := by
  rw [stK_keys]
  exact List.nodup_iff_pairwise_ne.mpr (List.pairwise_map.mpr (List.Pairwise.imp (fun hne e => hne (by injection e)) (List.nodup_iff_pairwise_ne.mp h)))
theorem stK_get {st : Sg} {i : Nat} {p : Str × Int} (h : st[i]? = some p) : (stK st)[i]? = some (Sum.inr p.1, V.int p.2) := by
  unfold stK
  rw [List.getElem?_map, h]
  rfl
theorem stK_at {st : Sg} {i : Nat} {k : Key} {v : V} (h : (stK st)[i]? = some (k, v)) : ∃ p, st[i]? = some p ∧ k = Sum.inr p.1 ∧ v = V.int p.2 := by
  obtain ⟨p, hp, e⟩ := mget h
  injection e with e1 e2
  exact ⟨p, hp, e1, e2⟩
theorem stK_len (st : Sg) : (stK st).length = st.length := List.length_map _
theorem stK_val {st : Sg} (hn : (st.map (·.1)).Nodup) {i : Nat} {p : Str × Int} (h : st[i]? = some p) : valV (stK st) (Sum.inr p.1) = some (V.int p.2) := valV_at (stK_nd hn) (stK_get h)
theorem mergeK_app : ∀ (more kvs : List (Key × V)), ((kvs ++ more).map (·.1)).Nodup → mergeK kvs more = kvs ++ more
  | [], kvs, _ => (List.append_nil kvs).symm
  | p :: r, kvs, h => by
    have e1 : valV kvs p.1 = none := by
      cases q : valV kvs p.1 with
      | none => rfl
      | some v =>
        have m := valV_in q
        rw [List.map_append, List.nodup_append] at h
        exact absurd rfl (h.2.2 _ m _ (List.mem_map.mpr ⟨p, List.mem_cons_self, rfl⟩))
    show mergeK (putK kvs p.1 p.2) r = _
    rw [putK_new _ e1, mergeK_app r]
    · simp
    · simpa using h
theorem mergeK_nil {more : List (Key × V)} (h : (more.map (·.1)).Nodup) : mergeK [] more = more := by
  rw [mergeK_app more [] (by simpa using h)]
  rfl
theorem ptwo {st : Sg} : ∀ {its its2 : List Value}, Vals (st.map fun p => V.str p.1) its → Vals (st.map fun p => V.int p.2) its2 → ∃ prs : List (Key × Value), KV (stK st) prs ∧ prs.length = st.length ∧ ∀ (i : Nat) (k v : Value), its[i]? = some k → its2[i]? = some v → ∃ q, prs[i]? = some (q, v) ∧ keyIs q k = true := by
  induction st with
  | nil =>
    intro its its2 h1 h2
    cases h1
    exact ⟨[], .nil, rfl, fun i k v e => by simp at e⟩
  | cons p st ih =>
    intro its its2 h1 h2
    cases h1 with
    | @cons _ u _ us r1 t1 => cases h2 with
      | @cons _ u2 _ us2 r2 t2 =>
        obtain ⟨prs, kv, hl, hp⟩ := ih t1 t2
        refine ⟨(Sum.inr p.1, u2) :: prs, .cons ⟨rfl, r2⟩ kv, by rw [List.length_cons, hl]; rfl, fun i k v e1 e2 => ?_⟩
        cases i with
        | zero =>
          have e1' : u = k := Option.some.inj e1
          have e2' : u2 = v := Option.some.inj e2
          subst e1' e2'
          obtain ⟨t, rfl⟩ := r1
          exact ⟨_, rfl, keyIs_str _ _⟩
        | succ i =>
          obtain ⟨q, a, b⟩ := hp i k v (by simpa using e1) (by simpa using e2)
          exact ⟨q, by simpa using a, b⟩
section
variable {X : Cx}
/-- dict(zip(names, ints)) -/
def tDictZip (K : PySem.W.Frag) (ta : TA) : TE := fun σ H Q => ta σ H fun vs H1 => ∃ (a b : Addr) (st : Sg), vs = [.ref a, .ref b] ∧ SqL K H1 a (st.map fun p => V.str p.1) ∧ SqL K H1 b (st.map fun p => V.int p.2) ∧ (st.map (·.1)).Nodup ∧ ∀ p, H1 p = none → Q (.ref p) (upd H1 p (.dK (stK st)))
theorem pe_dictZip {e e2 : Expr} {ta : TA} {p p2 pos q : Pos} (hg : Gl X "dict") (hm : X.mg "dict" = none) (hg2 : Gl X "zip") (hm2 : X.mg "zip" = none) (ha : PA X [e, e2] ta) (hc : X.calm = true := by rfl)
    (hs : starEach [e, e2] X.env = (false, eval e X.env) :: starEach [e2] X.env := by rfl) (hpl : (backTo q (starEach [e2] X.env)).any (·.1) = false := by rfl) :
    PE X (.Call (.Name "dict" p) [.Call (.Name "zip" p2) [e, e2] [] q] [] pos) (tDictZip X.K ta) := by
  refine ⟨fun pins s σ H Q I h => ?_⟩
  refine Call_ (ld_blt I hg hm PyProof.Rows.boot_dict (PyProof.Rows.callWith_type1 (PyProof.Rows.args_cons ?_ rfl) rfl rfl))
  refine Call_ (ld_blt I hg2 hm2 PyProof.Rows.boot_zip (PyProof.Rows.callWith_type1 (thn (ha.run q pins s σ H _ I h) fun us s1 ⟨vs, H1, I1, r1, q1⟩ => ?_) hs hpl))
  obtain ⟨a, b, st, ex, hqx, hqy, hnd, q1⟩ := q1
  subst ex
  cases r1 with
  | cons r rr =>
    cases rr with
    | cons r' rr =>
      cases rr
      cases r
      cases r'
      obtain ⟨its, rv, p1, hz⟩ := I1.list hqx
      obtain ⟨its2, rv2, p2, _⟩ := I1.list hqy
      have la : a < s1.heap.objs.size := p1.lt
      have lb : b < s1.heap.objs.size := p2.lt
      have l1 : its.length = st.length := by rw [← rv.length, List.length_map]
      have l2 : its2.length = st.length := by rw [← rv2.length, List.length_map]
      obtain ⟨prs, kv, hl, hp⟩ := ptwo rv rv2
      refine call_zip_2 p1.isList p2.isList fun h' hz' hTI hTO h1 h2 hsz hk => PyProof.Rows.args_nil ?_
      have hmin : min its.toArray.size its2.toArray.size = st.length := by
        rw [List.size_toArray, List.size_toArray, l1, l2, Nat.min_self]
      rw [List.length_map] at hz
      refine PySem.call_dict_pairs (s := { s1 with heap := h' }) (kvs := prs) (knd := mixKind X.prog X.w) (PairArg.zip _ _ _ _ _ a b (PySem.W.ktu_apart s1.heap.objs.size a b la lb) its.toArray its2.toArray) (I1.ok.hd hc) ⟨hz', hTI, ⟨_, _, hTO⟩, h1, h2, p1.isList.at fun o e => hk _ o e, p2.isList.at fun o e => hk _ o e⟩
        ⟨by rw [hl, hmin], fun i k v ⟨e1, e2⟩ => ?_⟩ (by rw [hmin]; exact hz) fun h2' tk hd' hk2 => ?_
      · exact hp i k v (by simpa using e1) (by simpa using e2)
      · have hbig : s1.heap.objs.size ≤ h'.objs.size := by rw [hsz]; exact Nat.le_add_right _ _
        have hm : (h'.objs.size == sysModules) = false := beq_eq_false_iff_ne.mpr (Nat.ne_of_gt (Nat.lt_of_lt_of_le I1.big hbig))
        have hkeep : ∀ c o, s1.heap.get? c = some o → h2'.get? c = some o := fun c o e => hk2 c o (by
          have hlt := Heap.lt_size e
          simp only [List.mem_cons, List.not_mem_nil, or_false, not_or]
          refine ⟨?_, ?_, ?_, ?_⟩ <;> first | exact Nat.ne_of_lt hlt | exact Nat.ne_of_lt (Nat.lt_of_lt_of_le hlt (Nat.le_add_right _ _))) (hk c o e)
        have hmer : mergeK [] (stK st) = stK st := mergeK_nil (stK_nd hnd)
        have kv2 : KV (stK st) (merged [] prs) := by
          have := KV.merge kv (kvs := []) (vs := []) .nil
          rw [hmer] at this
          exact this
        exact ⟨.ref h'.objs.size, upd H1 h'.objs.size (.dK (stK st)), I1.laid (t' := tk) hkeep hbig (show ObjOk X.prog X.w _ _ _ (.dK (stK st)) from ⟨by rw [stK_len]; exact hz, hm, merged [] prs, kv2, hd'⟩), rfl, q1 _ (I1.hok.fresh hbig)⟩
end
end L2.K87
set_option Elab.async false
set_option linter.all false
set_option autoImplicit false
set_option maxRecDepth 100000
set_option maxHeartbeats 4000000
/-! sorted(set(names)), the names unlike. -/
namespace L2.K87
open PySem PySem.Spec PyProof.Rows PySem.Froz
theorem strs_got : ∀ {us : List Value} {xs : List Str}, StrsAre us xs → ∀ {i : Nat} {v : Value}, us[i]? = some v → ∃ t x, xs[i]? = some x ∧ v = .str x t
  | _, _, .nil, _, _, h => by simp at h
  | _, _, .cons y t r, 0, v, h => by
    have e : Value.str y t = v := by simpa using h
    exact ⟨t, y, rfl, e.symm⟩
  | _, _, .cons y t r, i + 1, v, h => by
    obtain ⟨t', x, e1, e2⟩ := strs_got r (i := i) (v := v) (by simpa using h)
    exact ⟨t', x, by simpa using e1, e2⟩
theorem layNew_keep (t : SetTable) (es : Array (Int × Value)) (h : Int) (x : Value) (r : Ris t.place.toList) : Ris (layNew t es h x).2.1.place.toList ∧ (layNew t es h x).2.1.led = t.led := ⟨layNew_ris t es h x r, layNew_led t es h x⟩
theorem tailTx_keep {ep : Nat} {es : Array (Int × Value)} {t : SetTable} {b : Bool} (r : Ris t.place.toList) : Ris (tailTx ep es t b).2.2.place.toList ∧ (tailTx ep es t b).2.2.led = t.led := by
  unfold tailTx
  split
  · exact ⟨relayAll_ris _ _ _, relayAll_led _ _ _⟩
  · exact ⟨r, rfl⟩
theorem addTx_keep {h : Int} {v : Value} {D : SD} (r : Ris D.2.2.place.toList) : Ris (addTx h v D).2.2.place.toList ∧ (addTx h v D).2.2.led = D.2.2.led := by
  obtain ⟨es, ep, t⟩ := D
  obtain ⟨r1, r2⟩ := layNew_keep t es h v r
  unfold addTx
  dsimp only at r1 r2 ⊢
  by_cases c : (layNew t es h v).2.1.plain = true
  · rw [if_pos c]
    obtain ⟨a, b⟩ := tailTx_keep (ep := ep) (es := (layNew t es h v).1) (t := { (layNew t es h v).2.1 with plain := false }) (b := (layNew t es h v).2.2.1) r1
    exact ⟨a, b.trans r2⟩
  · rw [if_neg c]
    obtain ⟨a, b⟩ := tailTx_keep (ep := ep) (es := (layNew t es h v).1) (t := (layNew t es h v).2.1) (b := (layNew t es h v).2.2.1) r1
    exact ⟨a, b.trans r2⟩
abbrev newSetO (ld : Bool) : Obj := { cls := .type "set", dict := none, data := .set #[] 0 (.fresh 0 0 ld) }
/-- a set of texts at S -/
def TSetA (P : Program) (w : World) (h : Heap) (S : Addr) (ys : List Str) : Prop := ∃ (D : SD) (l : List Str), h.get? S = some (sObj "set" D) ∧ TxOk P w D l ∧ l.Perm ys ∧ Ris D.2.2.place.toList ∧ (w.params.followText "set-order" = true ∨ D.2.2.led = true)
section
variable {prog : Program} {w : World} {A : Around} {R : Result → Shared → Prop} {I : Addr} {fp wr : List Addr} {G : Array GenState → Array GenState → Prop} {n : Nat} {Pv : Nat → Value → Prop} {St : Nat → Shared → Prop}
theorem txt_loop (W : WalksS prog w A.in1 I fp wr G n Pv St) (S : Addr) (hSf : S ∉ fp) (xs : List Str) (hsz : xs.length = n) (hnd : xs.Nodup) (hn1 : n + 1 < scanBound) (hval : ∀ i v, Pv i v → ∃ t x, xs[i]? = some x ∧ v = .str x t) :
    ∀ (k i : Nat) (s : Shared), n - i = k → i ≤ n → St i s → TSetA prog w s.heap S (xs.take i) → (∀ s', Moved (S :: wr) G s s' → TSetA prog w s'.heap S (xs.take n) → R (.ok (.ret .none)) s') →
      codeAny (model prog w) A (.builtin "set.update.loop" ⟨[.ref S, .ref I], []⟩) R s := by
  have hSw : S ∉ wr := fun h => hSf (W.sub _ h)
  have hsub : ∀ b ∈ wr, b ∈ S :: wr := fun b hb => List.mem_cons_of_mem _ hb
  intro k
  induction k with
  | zero =>
    intro i s hk hi hst hS hR
    obtain rfl : i = n := by omega
    refine codeAny_builtin PyProof.Rows.F.entry_set_update_loop ?_
    rw [Around.under_plainId PyProof.Rows.F.plain_set_update_loop _]
    show wpAny _ A.in1 (pyNext (.ref I) >>= _) _ _ s
    refine wpAny_bind (W.done s _ _ hst fun s' hm => ?_)
    obtain ⟨D, l, ho, q⟩ := hS
    exact wpAny_pure (hR s' (hm.mono hsub) ⟨D, l, hm.heap S _ hSw ho, q⟩)
  | succ k ih =>
    intro i s hk hi hst hS hR
    have hlt : i < n := by omega
    refine codeAny_builtin PyProof.Rows.F.entry_set_update_loop ?_
    rw [Around.under_plainId PyProof.Rows.F.plain_set_update_loop _]
    show wpAny _ A.in1 (pyNext (.ref I) >>= _) _ _ s
    refine wpAny_bind (W.item i s _ _ hlt hst fun v s' hP hst' hm => ?_)
    obtain ⟨t, x, hx, rfl⟩ := hval i v hP
    obtain ⟨D, l, ho, F, pm, rs, ld⟩ := hS
    have ho' := hm.heap S _ hSw ho
    have hxl : x ∉ l := fun m => not_in_take hnd hx (pm.mem_iff.mp m)
    have hll : l.length = i := by
      rw [pm.length_eq, List.length_take]
      omega
    show wpAny _ A.in1 (holding [Value.str x t] (setAdd S (.str x t)) >>= _) _ _ s'
    refine wpAny_bind (wpAny_holding ?_)
    unfold setAdd
    refine wpAny_holding ?_
    refine wpAny_bind ((PySem.strKind prog w).pyHash (k := x) (strKind_is _ _ _ _) ?_)
    refine add_x (s := { s' with toks := s'.toks + 1 }) ho' F hxl (by rw [hll]; omega) ?_
    have hsb := Heap.SameBut.update s'.heap S (fun _ => sObj "set" (addTx (hashStr w x) (.str x t) D))
    obtain ⟨k1, k2⟩ := addTx_keep (h := hashStr w x) (v := .str x t) rs
    have hS2 : TSetA prog w (s'.heap.update S (fun _ => sObj "set" (addTx (hashStr w x) (.str x t) D))) S (xs.take (i + 1)) := by
      refine ⟨_, x :: l, get_upd _ ho' rfl, add_ok t F, ?_, k1, by rw [k2]; exact ld⟩
      rw [take_snoc hx]
      exact (List.perm_append_comm (l₁ := [x]) (l₂ := l)).trans (pm.append_right [x])
    refine wpAny_pure ⟨plainId_quiet PyProof.Rows.F.plain_set_update_loop _, ih (i + 1) _ (by omega) hlt (W.frame _ s' _ _ hst' (Nat.le_succ _) fun b hb o e => ?_) hS2 fun s'' hm'' hS'' => ?_⟩
    · rw [hsb.2 b (fun h : b = S => hSf (by rw [← h]; exact hb))]
      exact e
    · refine hR s'' (Moved.trans W.gtrans ((hm.mono hsub).then_heap (Nat.le_succ _) fun b o hb e => ?_) hm'') hS''
      rw [hsb.2 b (fun h : b = S => hb (by rw [h]; exact List.mem_cons_self))]
      exact e
end
section
variable {prog : Program} {w : World} {A : Around} {E : Value → Shared → Prop} {s : Shared}
theorem call_setTxt {l : Addr} {items : Array Value} {xs : List Str} {Q : Value → Shared → Prop} (hh : A.handled = none) (hl : s.heap.IsList l items) (hi : StrsAre items.toList xs) (hnd : xs.Nodup) (hn1 : xs.length + 1 < scanBound)
    (h : ∀ (h' : Heap) (tk : Nat), TSetA prog w h' s.heap.objs.size xs → (∀ b o, s.heap.get? b = some o → h'.get? b = some o) → Q (.ref s.heap.objs.size) { s with heap := h', toks := tk }) : wpAny (model prog w) A (call (.type "set") [.ref l]) Q E s := by
  obtain ⟨ld, eld⟩ : ∃ ld, (!w.params.followText "set-order") = ld := ⟨_, rfl⟩
  obtain ⟨no, eno⟩ : ∃ no : Obj, no = { cls := .type "set", dict := none, data := .set #[] 0 (.fresh 0 0 ld) } := ⟨_, rfl⟩
  have nos : no = sObj "set" (#[], 0, .fresh 0 0 ld) := eno
  obtain ⟨c, tl, hmro⟩ := F.called_set.mro
  have hmade := F.called_set.made
  have hsub := F.called_set.sub
  refine wpAny_call (codeAny_of_tree ?_)
  show wpAny _ _ (callAny (.type "set") _) _ _ _
  refine wpAny_pure ⟨Code.quiet_builtin _ (by decide +kernel), codeAny_builtin F.entry_type_call ?_⟩
  rw [Around.under_plain (weight_type_call_type "set" [.ref l] []) rfl]
  have h1 := F.called_set.notType
  have h2 := F.called_set.canCreate
  have hct := F.typeCall_set_1 (.ref l)
  repeat (any_goals (first | assumption | wp_step))

  refine codeAny_mono (code_set_led1 (.ref l) (E := E) (Q₁ := fun obj s₁ => obj = .ref s.heap.objs.size ∧ s₁ = { s with heap := s.heap.push no }) ⟨rfl, by rw [eno, ← eld]⟩) fun r s₁ hr => ?_
  cases r with
  | error e => exact hr
  | ok fl =>
    cases fl with
    | ret obj =>
      obtain ⟨rfl, rfl⟩ := hr
      have hS : (s.heap.push no).get? s.heap.objs.size = some no := Heap.get?_push_size _ (by rw [eno] <;> rfl)
      have hT : Shared.TypeIs { s with heap := s.heap.push no } (.ref s.heap.objs.size) "set" := ⟨_, hS, by rw [eno]⟩
      have hli := F.called_set.init.lookup
      have hbi := F.called_set.init.bind (.ref s.heap.objs.size)
      repeat (any_goals (first | assumption | wp_step))

      refine codeAny_mono (codeAny_call_builtin (R := wants (fun r s₂ => r = .none ∧ ∃ h' tk, s₂ = { s with heap := h', toks := tk } ∧ TSetA prog w h' s.heap.objs.size xs ∧ (∀ b o, s.heap.get? b = some o → h'.get? b = some o)) E) F.called_set.init.plain F.entry_set_init (check_set_init_1 hT ?_)) fun r₂ s₂ hr₂ => ?_
      · subst eno
        obtain ⟨ol, hol, hcl, nl, hdl⟩ := hl
        obtain ⟨ocls, odict, odata, oslots⟩ := ol
        simp only at hcl hdl
        subst hcl; subst hdl
        have hol' : (s.heap.push (newSetO ld)).get? l = some { cls := .type "list", dict := odict, data := .seq items nl, slots := oslots } := Heap.get?_push_of_some _ hol
        have hsls := F.sub_list_set
        have hslf := F.sub_list_frozenset
        have hne : (Value.type "list" == Value.type "dict") = false := by decide
        have hl1 : (s.heap.push (newSetO ld)).IsList l items := ⟨_, hol', rfl, nl, rfl⟩
        unfold Builtin.«set.__init__» noKeywords Builtin.Frozenset.updateFrom
        generalize hPI : pyIter = PI
        wp_walk
        subst hPI

        refine wpAny_pyIter_list hl1 ?_
        refine wpAny_bind (wpAny_runValue ?_)
        have hlS : l < s.heap.objs.size := Heap.lt_size hol
        have hh3 : A.in1.in1.in1.handled = none := by simp [hh]
        have hneI : l ≠ (s.heap.push (newSetO ld)).objs.size := by
          rw [Heap.size_push]
          exact Nat.ne_of_lt (Nat.lt_succ_of_lt hlS)
        have hSf : s.heap.objs.size ∉ [(s.heap.push (newSetO ld)).objs.size, l] := by
          rw [Heap.size_push]
          simp only [List.mem_cons, List.not_mem_nil, or_false, not_or]
          exact ⟨Nat.ne_of_lt (Nat.lt_succ_self _), Nat.ne_of_gt hlS⟩
        have hsz : xs.length = items.size := by rw [← StrsAre.len_eq hi, Array.length_toList]
        have hval : ∀ (i : Nat) (v : Value), items[i]? = some v → ∃ t x, xs[i]? = some x ∧ v = .str x t := fun i v hv => by
          exact strs_got hi (by rw [Array.getElem?_toList]; exact hv)
        have fresh : ∀ b o, s.heap.get? b = some o → b ≠ s.heap.objs.size ∧ b ≠ (s.heap.push (newSetO ld)).objs.size := fun b o e => by
          have hlt := Heap.lt_size e
          rw [Heap.size_push]
          exact ⟨Nat.ne_of_lt hlt, Nat.ne_of_lt (Nat.lt_succ_of_lt hlt)⟩
        refine txt_loop ((Walks.list hh3 _ l hneI items).toS) s.heap.objs.size hSf xs hsz hnd (by rw [← hsz]; exact hn1) hval (items.size - 0) 0 _ (by omega) (Nat.zero_le _) ⟨⟨_, Heap.get?_push_size _ rfl, rfl, rfl⟩, (hl1.push _)⟩ ?hS0 ?hR
        case hS0 =>
          refine ⟨(#[], 0, .fresh 0 0 ld), [], ?_, TxOk.nil rfl, List.Perm.refl _, List.Pairwise.nil, ?_⟩
          · rw [← nos]
            exact Heap.get?_push_of_some _ hS
          · rw [← eld]
            cases w.params.followText "set-order"
            · exact .inr rfl
            · exact .inl rfl
        case hR =>
          intro s' hm hS'
          obtain ⟨h', g', d', tk', os'⟩ := s'
          have eg : g' = s.gens := hm.gens
          have ed : d' = s.drawn := hm.drawn
          have eo : os' = s.os := hm.os
          subst eg; subst ed; subst eo
          show wpAny _ _ _ _ _ _
          refine wpAny_pure ?_
          show wpAny _ _ (ret Value.none) _ _ _
          rw [take_all hsz.symm] at hS'
          refine wpAny_pure ⟨rfl, h', tk', rfl, hS', fun b o e => ?_⟩
          obtain ⟨hb1, hb2⟩ := fresh b o e
          exact hm.heap b o (by simp only [List.mem_cons, List.not_mem_nil, or_false, not_or]; exact ⟨hb1, hb2⟩) (Heap.get?_push_of_some _ (Heap.get?_push_of_some _ e))

      · cases r₂ with
        | error e => exact hr₂
        | ok fl₂ =>
          cases fl₂ with
          | ret r =>
            obtain ⟨rfl, h', tk, rfl, hS', hk'⟩ := hr₂
            repeat (any_goals (first | assumption | wp_step))
            exact h _ _ hS' hk'
          | _ => exact hr₂.elim
    | _ => exact hr.elim
end
end L2.K87
set_option Elab.async false
set_option linter.all false
set_option autoImplicit false
set_option maxRecDepth 100000
set_option maxHeartbeats 4000000
namespace L2.K87
open PySem PySem.Spec PyProof.Rows PySem.Froz
/-- a ≤ b of texts -/
abbrev leT (a b : Str) : Bool := decide (a.cps.toList ≤ b.cps.toList)
theorem str_ext {a b : Str} (h : a.cps.toList = b.cps.toList) : a = b := by
  obtain ⟨x⟩ := a
  obtain ⟨y⟩ := b
  have : x = y := Array.toList_inj.mp h
  rw [this]
theorem leT_trans (a b c : Str) (h1 : leT a b = true) (h2 : leT b c = true) : leT a c = true := by
  simp only [leT, decide_eq_true_eq] at *
  exact List.le_trans h1 h2
theorem leT_total (a b : Str) : (leT a b || leT b a) = true := by
  simp only [leT, Bool.or_eq_true, decide_eq_true_eq]
  exact List.le_total ..
theorem leT_anti {a b : Str} (h1 : leT a b = true) (h2 : leT b a = true) : a = b := by
  simp only [leT, decide_eq_true_eq] at *
  exact str_ext (List.le_antisymm h1 h2)
/-- rising: le and unlike -/
theorem sorted_uniq {a b : List Str} (p : a.Perm b) (ha : a.Pairwise fun x y => leT x y = true) (hb : b.Pairwise fun x y => leT x y = true) : a = b :=
  List.Perm.eq_of_pairwise (le := fun x y => leT x y = true) (fun _ _ _ _ h1 h2 => leT_anti h1 h2) ha hb p
theorem perm_of_sub {α : Type} [DecidableEq α] : ∀ {l m : List α}, l.Nodup → (∀ x ∈ l, x ∈ m) → m.length = l.length → m.Perm l
  | [], m, _, _, e => by
    have : m = [] := List.eq_nil_of_length_eq_zero e
    rw [this]
  | x :: l, m, hn, h, e => by
    obtain ⟨h1, h2⟩ := List.nodup_cons.mp hn
    have hx : x ∈ m := h x List.mem_cons_self
    have el : (m.erase x).length = l.length := by
      rw [List.length_erase_of_mem hx, e]
      rfl
    have := perm_of_sub (l := l) (m := m.erase x) h2 (fun y hy => (List.mem_erase_of_ne (fun e : y = x => h1 (by rw [← e]; exact hy))).mpr (h y (List.mem_cons_of_mem _ hy))) el
    exact (List.perm_cons_erase hx).trans (this.cons x)
def txtOf : Value → Str
  | .str x _ => x
  | _ => Str.empty
theorem txt_each : ∀ {vs : List Value}, (∀ v ∈ vs, ∃ x t, v = Value.str x t) → PySem.W.EachIs (fun v x => ∃ t, v = Value.str x t) vs (vs.map txtOf)
  | [], _ => .nil
  | v :: vs, h => by
    obtain ⟨x, t, e⟩ := h v List.mem_cons_self
    subst e
    exact .cons ⟨t, rfl⟩ (txt_each fun u hu => h u (List.mem_cons_of_mem _ hu))
theorem each_strs : ∀ {us : List Value} {ks : List Str}, PySem.W.EachIs (fun v x => ∃ t, v = Value.str x t) us ks → Vals (ks.map V.str) us
  | _, _, .nil => .nil
  | _, _, .cons ⟨t, e⟩ r => by
    subst e
    exact .cons ⟨t, rfl⟩ (each_strs r)
section
variable {P : Program} {w : World} {A : Around} {E : Value → Shared → Prop} {s : Shared}
theorem sorted_txt {a : Addr} {xs : List Str} {Q : Value → Shared → Prop} (R : TSetA P w s.heap a xs) (hnd : xs.Nodup) (hh : A.handled = none) (hu : A.units + 16 < cLine) (hz : xs.length ≤ 1000)
    (hQ : ∀ s' p (out : List Value) (c : Nat) (ys : List Str), (∀ b o, s.heap.get? b = some o → s'.heap.get? b = some o) → s'.gens = s.gens → s'.os = s.os → s.heap.objs.size ≤ p → s'.heap.get? p = some (seqObj "list" out.toArray c) → Vals (ys.map V.str) out → ys.Perm xs → (ys.Pairwise fun x y => leT x y = true) → Q (.ref p) s') :
    wpAny (model P w) A (call (.builtin "sorted") [.ref a]) Q E s := by
  obtain ⟨D, l, ho, F, pm, rs, ld⟩ := R
  obtain ⟨es, ep, t⟩ := D
  have hsz : es.size = xs.length := by rw [← pm.length_eq]; exact F.sz
  refine Calls.call_function_entry PyProof.Rows.kind_sorted PyProof.Rows.plain_sorted PyProof.Rows.entry_sorted (PyProof.Rows.args_sorted1 _) ?_
  unfold Builtin.«sorted»
  refine wpAny_bind (m := checkCount "sorted" 1 1 _) (wpAny_pure ?_)
  refine wpAny_bind (collect_set (A := A.in1) (es := es) (ep := ep) (t := t) hh ⟨_, ho, rfl, rfl⟩ F.fit (by rw [hsz]; unfold scanBound; omega) rs ld fun s1 vs k1 hz1 g1 o1 pv => ?_)
  have hlen : vs.length = xs.length := by rw [pv.length_eq, List.length_map, Array.length_toList, hsz]
  have hstr : ∀ v ∈ vs, ∃ x t, v = Value.str x t := fun v hv => by
    obtain ⟨e, he, ev⟩ := List.mem_map.mp (pv.mem_iff.mp hv)
    obtain ⟨⟨k, hk, _⟩, _⟩ := F.el e he
    obtain ⟨t', e'⟩ := Value.isStrOf_shape (x := k) (v := e.2) hk
    exact ⟨k, t', by rw [← ev]; exact e'⟩
  have hE := txt_each hstr
  have hnl : l.Nodup := pm.nodup_iff.mpr hnd
  have hpk : (vs.map txtOf).Perm l := perm_of_sub hnl (fun x hx => by
    obtain ⟨e, he, hk⟩ := (F.mem x).mp hx
    obtain ⟨t', e'⟩ := Value.isStrOf_shape (x := x) (v := e.2) hk
    exact List.mem_map.mpr ⟨e.2, pv.mem_iff.mpr (List.mem_map.mpr ⟨e, he, rfl⟩), by rw [e']; rfl⟩) (by rw [List.length_map, hlen, pm.length_eq])
  have h16 : (vs.map txtOf).length ≤ sizeLine := by
    rw [List.length_map, hlen]
    exact Nat.le_trans hz (by decide)
  refine wpAny_bind (wpAny_newList ?_ (by rw [List.length_map] at h16; exact h16))
  have hoL : (s1.heap.push (seqObj "list" vs.toArray 0)).get? s1.heap.objs.size = some (seqObj "list" vs.toArray 0) := Heap.get?_push_size _ rfl
  refine wpAny_bind (wpAny_holding (PySem.W.list_sort_data (A := A.in1) (s := { s1 with heap := s1.heap.push (seqObj "list" vs.toArray 0) }) (enc := fun i : Str => PyData.str i) hoL hE
    (hE.mono fun v x ⟨t, e⟩ => by subst e; exact ⟨[], .str x t, fun z => nomatch z⟩) (PySem.W.AllAlike.of fun b b' => by simp [PySem.W.alike]) (PySem.W.Sortable.others fun b => ⟨(fun z => nomatch z), fun xs z => nomatch z⟩) h16 (fun b _ => by show A.units + 1 + 1 + (PyData.str b).depth < cLine; simp only [PyData.depth]; omega) fun out ol oe => ?_))
  obtain ⟨c, hc⟩ := PyProof.Rows.sortedHeap_at (vs := vs) (out := List.toArray out) hoL
  rw [PySem.W.dataLe_str (fun x : Str => x)] at oe
  refine wpAny_pure ⟨_, rfl, hQ _ s1.heap.objs.size out c _ (fun b u e => ?_) g1 o1 hz1 hc (each_strs oe) ((List.mergeSort_perm ..).trans (hpk.trans pm)) (List.pairwise_mergeSort (le := leT) leT_trans leT_total _)⟩
  have q := k1 b u e
  have hlt := Heap.lt_size q
  show (sortedHeap (s1.heap.push (seqObj "list" vs.toArray 0)) s1.heap.objs.size vs out.toArray).get? b = some u
  rw [sortedHeap_old (Nat.ne_of_lt hlt) (by rw [size_push']; exact Nat.lt_succ_of_lt hlt)]
  exact Heap.get?_push_of_some _ q
end
section
variable {X : Cx}
/-- sorted(set(xs)) -/
def tSortSet (K : PySem.W.Frag) (ta : TE) : TE := fun σ H Q => ta σ H fun x H1 => ∃ (l : Addr) (xs : List Str), x = .ref l ∧ SqL K H1 l (xs.map V.str) ∧ xs.Nodup ∧ xs.length ≤ 1000 ∧
  ∀ (ys : List Str) (p : Addr), ys.Perm xs → (ys.Pairwise fun x y => leT x y = true) → H1 p = none → Q (.ref p) (upd H1 p (.lst (ys.map V.str)))
theorem pe_sortSet {a : Expr} {ta : TE} {p p2 q pos : Pos} (hu : X.A.units + 16 < cLine) (hg : Gl X "sorted") (hm : X.mg "sorted" = none) (hg2 : Gl X "set") (hm2 : X.mg "set" = none) (ha : PE X a ta) (hc : X.calm = true := by rfl)
    (na : starEach [a] X.env = (false, eval a X.env) :: starEach [] X.env := by rfl) : PE X (.Call (.Name "sorted" p) [.Call (.Name "set" p2) [a] [] q] [] pos) (tSortSet X.K ta) := by
  refine ⟨fun pins s σ H Q I h => ?_⟩
  refine Call_ (ld_blt I hg hm PyProof.Rows.boot_sorted (PyProof.Rows.callWith_builtin1 (PyProof.Rows.args_cons ?_ rfl) rfl rfl))
  refine Call_ (ld_blt I hg2 hm2 PyProof.Rows.boot_set ?_)
  refine PyProof.Rows.callWith_type1 (PyProof.Rows.args_cons (thn (ha.run pins s σ H _ I h) fun v s1 ⟨x, H1, I1, r1, l, xs, ex, hq, hnd, hl, q1⟩ => PyProof.Rows.args_nil ?_) na) na rfl
  subst ex
  cases r1
  obtain ⟨its, r, pl, hz⟩ := I1.list hq
  refine call_setTxt (I1.ok.hd hc) pl.isList (by simpa using Vals.strs r) hnd (by unfold scanBound; omega) fun h' tk hS hk => PyProof.Rows.args_nil ?_
  have I2 : Inv X pins σ H1 { s1 with heap := h', toks := tk } := I1.kept hk
  obtain ⟨s2, es2⟩ : ∃ s2 : Shared, s2 = { s1 with heap := h', toks := tk } := ⟨_, rfl⟩
  have hS : TSetA X.prog X.w s2.heap s1.heap.objs.size xs := by rw [es2]; exact hS
  rw [← es2] at I2 ⊢
  refine sorted_txt hS hnd (I2.ok.hd hc) hu hl fun s' p out c ys k g o hp hg rv pm pw => ?_
  have hn : H1 p = none := I2.hok.fresh hp
  have hlen : (ys.map V.str).length ≤ sizeLine := by
    rw [List.length_map, pm.length_eq]
    exact Nat.le_trans hl (by decide)
  have J : Inv X pins σ (upd H1 p (.lst (ys.map V.str))) { s2 with heap := s'.heap, gens := s'.gens, drawn := s'.drawn, toks := s'.toks } :=
    I2.call (ch := []) (Un.laid k hp hn) (I2.hok.laid k hp ⟨hlen, out, c, rv, hg⟩) (by rw [g]; exact I2.bare) (fun _ z => nomatch z)
  have e : s' = { s2 with heap := s'.heap, gens := s'.gens, drawn := s'.drawn, toks := s'.toks } := by
    cases s'
    cases s2
    cases o
    rfl
  rw [e]
  exact ⟨.ref p, _, J, rfl, q1 ys p pm pw hn⟩
end
end L2.K87
set_option Elab.async false
set_option linter.all false
set_option autoImplicit false
set_option maxRecDepth 100000
set_option maxHeartbeats 4000000
/-! enumerate over a tuple. -/
namespace L2.K87
open PySem PySem.Spec PyProof.Rows PySem.Builtin
theorem meets_enum_newT (l : Addr) (items : Array Value) (n : Nat) (dct : Option Addr) (sl : Array (Option Value)) :
    Meets (Builtin.«enumerate.__new__» ⟨[.type "enumerate", .ref l], []⟩) (fun _ R s => s.heap.get? l = some { cls := .type "tuple", dict := dct, data := .seq items n, slots := sl } ∧
      R (.ok (.ret (.ref (s.heap.push { cls := .type "tuple_iterator", data := .fields #[.ref l, .int 0 0] }).objs.size)))
        { s with heap := (s.heap.push { cls := .type "tuple_iterator", data := .fields #[.ref l, .int 0 0] }).push { cls := .type "enumerate", data := .fields #[.none, .bool false, .ref s.heap.objs.size, rawInt 0, .none, .none] } }) :=
  .of_wp fun prog w A R s h => by
    obtain ⟨hp, g, d, tk, os⟩ := s; obtain ⟨hl, h⟩ := h
    have hsub := sub_enumerate
    have hL : Heap.IsTuple (Shared.heap ⟨hp, g, d, tk, os⟩) l items := ⟨_, hl, rfl, n, rfl⟩
    wp_walk using wpAny_loadPart' hl
    refine wpAny_stack_any fun st => wpAny_pure ?_
    split
    · rename_i c _ _ _ _ _
      cases (c == Value.type "enumerate")
      · wp_walk using wpAny_loadPart' hl, wpAny_pyIter_tuple hL
        exact ⟨_, rfl, h⟩
      · wp_walk using wpAny_loadPart' hl, wpAny_pyIter_tuple hL
        exact ⟨_, rfl, h⟩
    · wp_walk using wpAny_loadPart' hl, wpAny_pyIter_tuple hL
      exact ⟨_, rfl, h⟩
section
variable {prog : Program} {w : World} {A : Around} {E : Value → Shared → Prop} {s : Shared}
theorem call_enumT {l : Addr} {items : Array Value} {Q : Value → Shared → Prop} (hL : s.heap.IsTuple l items)
    (h : ∀ h', IsEnum h' (s.heap.objs.size + 1) s.heap.objs.size 0 .none → h'.IsTupleIter s.heap.objs.size l 0 → (∀ b o, s.heap.get? b = some o → h'.get? b = some o) → Q (.ref (s.heap.objs.size + 1)) { s with heap := h' }) :
    wpAny (model prog w) A (call (.type "enumerate") [.ref l]) Q E s := by
  obtain ⟨⟨c, dct, dt, sl⟩, hl, hc, n, hd⟩ := hL
  replace hc : c = .type "tuple" := hc
  replace hd : dt = .seq items n := hd
  subst hc hd
  obtain ⟨io, eio⟩ : ∃ io : Obj, io = { cls := .type "tuple_iterator", data := .fields #[.ref l, .int 0 0] } := ⟨_, rfl⟩
  have hz : (s.heap.push io).objs.size = s.heap.objs.size + 1 := Heap.size_push ..
  refine callType_new F.called_enumerate (by decide) (F.typeCall_enumerate_1 _) (F.newCall_enumerate_1 _) (fun obj => F.args_object_init_2 obj _) F.entry_enumerate_new (meets_enum_newT l items n dct sl) ⟨hl, ?_⟩
  show _ ∧ _
  rw [← eio, hz]
  have he : IsEnum ((s.heap.push io).push { cls := .type "enumerate", data := .fields #[.none, .bool false, .ref s.heap.objs.size, rawInt 0, .none, .none] }) (s.heap.objs.size + 1) s.heap.objs.size 0 .none := by
    have := Heap.get?_push_size (s.heap.push io) (o := { cls := .type "enumerate", data := .fields #[.none, .bool false, .ref s.heap.objs.size, rawInt 0, .none, .none] }) rfl
    rw [hz] at this
    exact this
  exact ⟨⟨_, he, rfl⟩, h _ he ⟨_, Heap.get?_push_of_some _ (Heap.get?_push_size _ (by rw [eio] <;> rfl)), by rw [eio], by rw [eio]; rfl⟩ fun b o x => Heap.get?_push_of_some _ (Heap.get?_push_of_some _ x)⟩
end
/-- the tuple at a as it stands at each turn, each item in a new pair -/
def IteT (K : PySem.W.Frag) (a : Addr) : It :=
  ⟨fun i H => ∃ (xs : List V) (x : V), SqT K H a xs ∧ xs[i]? = some x, fun i H v H' => ∃ T x, v = .ref T ∧ H T = none ∧ H' = upd H T (.tup [.int (i : Nat), x]) ∧ ∀ xs, SqT K H a xs → xs[i]? = some x, fun i H => ∃ xs : List V, SqT K H a xs ∧ xs.length ≤ i⟩
theorem turn_enumT {P : Program} {w : World} {K : PySem.W.Frag} {elts : List Expr} {kk : Nat} {tpos : Pos} (a e it : Addr) (hat : a ≠ it) (hae : a ≠ e) :
    Turn P w K (.Tuple elts kk tpos) (IteT K a) [e, it] e (fun i h => (∃ old, IsEnum h e it ((i : Nat) : Int) old) ∧ h.IsTupleIter it a i ∧ e ≠ it) where
  mem := by simp
  obj := fun i h st b hb => by
    obtain ⟨⟨old, he⟩, ⟨o, ho, hc, hd⟩, _⟩ := st
    have e' : b = e ∨ b = it := by simpa using hb
    rcases e' with z | z
    · rw [z]
      exact ⟨_, he, fun v q => nomatch q⟩
    · rw [z]
      exact ⟨o, ho, fun v q => by rw [hd] at q; cases q⟩
  keep := fun i h h' st k => let ⟨⟨old, he⟩, hi, hne⟩ := st; ⟨⟨old, k e (by simp) _ he⟩, hi.at fun o q => k it (by simp) o q, hne⟩
  item := by
    intro X hP hw hK hc i pins s σ H E I hf st hg
    subst hP hw hK
    obtain ⟨⟨old, he⟩, hit, hne⟩ := st
    obtain ⟨xs, x, hq, hx⟩ := hg
    obtain ⟨its, rv, p, hz⟩ := I.tuple hq
    obtain ⟨u, hu, ru⟩ := rv.get hx
    have hel : e < s.heap.objs.size := Heap.lt_size he
    have hil : it < s.heap.objs.size := by obtain ⟨_, q, _⟩ := hit; exact Heap.lt_size q
    have hlt : i < its.toArray.size := by
      rw [List.size_toArray]
      exact (List.getElem?_eq_some_iff.mp hu).1
    refine wpAny_pyNext_enum_itemD (Draws.tuple (A := X.A.in1) (I.ok.hd hc) it a hat its.toArray) he ⟨hit, p⟩ hlt hne (by simp only [List.mem_cons, List.not_mem_nil, or_false, not_or]; exact ⟨hne, hae.symm⟩) fun y h' tk hP ho hst' hT hsz hk => ?_
    have hy : y = u := by
      have : its.toArray[i]? = some u := by simpa using hu
      rw [this] at hP
      exact (Option.some.inj hP).symm
    subst hy
    refine ⟨_, rfl, wpAny_letOwnedTupleGo_enum (s := { s with heap := h', toks := tk + 1 }) ho fun h'' he' sb => ?_⟩
    have hT2 : h''.get? s.heap.objs.size = some { cls := .type "tuple", data := .seq #[.int i tk, y] } := (sb.2 _ (Nat.ne_of_gt hel)).trans hT
    have new : ObjOk X.prog X.w (upd H s.heap.objs.size (.tup [.int (i : Nat), x])) h'' s.heap.objs.size (.tup [.int (i : Nat), x]) :=
      ⟨by show 2 ≤ sizeLine; decide, [.int i tk, y], .cons ⟨_, rfl⟩ (.cons ru .nil), ⟨_, hT2, rfl, _, rfl⟩⟩
    have I1 : Inv X pins σ (upd H s.heap.objs.size (.tup [.int (i : Nat), x])) { s with heap := h'', toks := tk + 1 } :=
      I.turnedNew (ch := [e, it]) (fun b ob hb q => (sb.2 b (fun z => hb (by simp [z]))).trans (hk b ob (fun z => hb (by simp [z])) (fun z => hb (by simp [z])) q)) hf (Nat.le_refl _) new
    refine ⟨.ref s.heap.objs.size, _, I1, rfl, ⟨_, x, rfl, I.hok.fresh (Nat.le_refl _), rfl, fun ys hy => by rw [I.tuple_inj hy hq]; exact hx⟩, ⟨⟨y, ?_⟩, hst'.1.at fun o q => (sb.2 it (Ne.symm hne)).trans q, hne⟩, fun b hb => ?_⟩
    · have e1 : ((i + 1 : Nat) : Int) = (i : Int) + 1 := by omega
      rw [e1]
      exact he'
    · have hb' : b < s.heap.objs.size := by
        have e' : b = e ∨ b = it := by simpa using hb
        rcases e' with z | z
        · rw [z]
          exact hel
        · rw [z]
          exact hil
      rw [upd_ne (Nat.ne_of_lt hb')]
      exact (hf b hb).1
  done := by
    intro X hP hw hK hc i pins s σ H E I hf st hg
    subst hP hw hK
    obtain ⟨⟨old, he⟩, hit, hne⟩ := st
    obtain ⟨xs, hq, hx⟩ := hg
    obtain ⟨its, rv, p, hz⟩ := I.tuple hq
    obtain ⟨f0, f1, f2, f3, f4, f5⟩ := hf it (by simp)
    have hl := rv.length
    have hT : s.TypeIs (.ref e) "enumerate" := ⟨_, he, rfl⟩
    unfold pyNext
    refine wpAny_bind (wpAny_attempt (wpAny_callSpecial?_slot (name := Str.ofString "__next__") hT F.slot_enumerate_next (wpAny_call_entry F.slot_enumerate_next hT F.entry_enumerate_next ?_ (F.args_enumerate_next_1 _))))
    show wpAny _ _ (field (.ref e) 2 >>= _) _ _ _
    refine wpAny_bind (wpAny_field he rfl (x := .ref it) rfl ?_)
    refine wpAny_bind (wpAny_nextOf_tuple_end (by exact I.ok.hd hc) hit p (by simp; omega) fun h' x he' hx' => ?_)
    obtain ⟨o, ho, hc'⟩ := hx'
    refine wpAny_bind (wpAny_isInstance (T := "StopIteration") (b := true) ⟨o, ho, hc'⟩ isSubtype_stop ?_)
    exact wpAny_pure ⟨rfl, I.turned (t' := s.toks) (fun b o hb q => he' b o hb q) f0 f1 f3 f4 f5⟩
  self := fun A i s Q E st h => let ⟨⟨_, he⟩, _⟩ := st; wpAny_pyIter_enum he h
def iEnumT (K : PySem.W.Frag) (ta : TA) : TI := fun σ H R => ta σ H fun vs H1 => ∃ a xs, vs = [.ref a] ∧ SqT K H1 a xs ∧ R (IteT K a) H1
theorem pi_enumT {X : Cx} {e : Expr} {ta : TA} {p pos tpos : Pos} {elts : List Expr} {kk : Nat} (hg : Gl X "enumerate") (hm : X.mg "enumerate" = none) (ha : PA X [e] ta) (hs : starEach [e] X.env = [(false, eval e X.env)] := by rfl) :
    PI X (.Tuple elts kk tpos) (.Call (.Name "enumerate" p) [e] [] pos) (iEnumT X.K ta) := by
  refine ⟨fun pins s σ H R I h => ?_⟩
  refine Call_ (ld_blt I hg hm boot_enumerate (PyProof.Rows.callWith_type1 (thn (ha.run pos pins s σ H _ I h) fun us s1 ⟨vs, H1, I1, r1, q1⟩ => ?_) hs rfl))
  obtain ⟨a, xs, ex, hq, q⟩ := q1
  subst ex
  cases r1 with
  | cons r rr =>
    cases rr
    cases r
    obtain ⟨its, rv, p', hz⟩ := I1.tuple hq
    have halt : a < s1.heap.objs.size := by obtain ⟨o, ho, _⟩ := p'; exact Heap.lt_size ho
    refine call_enumT p' fun h' he hit hk => wpAny_pyIter_enum he ?_
    have I2 : Inv X pins σ H1 { s1 with heap := h' } := I1.kept (t' := s1.toks) hk
    refine ⟨s1.heap.objs.size + 1, [s1.heap.objs.size + 1, s1.heap.objs.size], _, _, H1, rfl, I2, turn_enumT a (s1.heap.objs.size + 1) s1.heap.objs.size (Nat.ne_of_lt halt) (Nat.ne_of_lt (Nat.lt_succ_of_lt halt)), ⟨⟨.none, he⟩, hit, Nat.succ_ne_self _⟩, fun b hb => ?_, q⟩
    have e' : b = s1.heap.objs.size + 1 ∨ b = s1.heap.objs.size := by simpa using hb
    have hle : s1.heap.objs.size ≤ b := by
      rcases e' with z | z
      · rw [z]
        exact Nat.le_add_right _ _
      · rw [z]
        exact Nat.le_refl _
    exact I1.fpOk hle (I1.hok.fresh hle)
theorem walk_enumT {K : PySem.W.Frag} {a : Addr} {xs : List V} : Walk (IteT K a) xs.length (fun H => SqT K H a xs) (YPair (fun i => some (.int (i : Nat))) (fun i => xs[i]?)) := by
  refine ⟨fun i _ hi q => ⟨xs, xs[i], q, by simp [hi]⟩, fun _ q => ⟨xs, q, Nat.le_refl _⟩, fun i H v H' _ q y => ?_⟩
  obtain ⟨T, x, h1, h2, h3, h4⟩ := y
  exact ⟨T, .int (i : Nat), x, h1, h2, h3, rfl, h4 xs q⟩
end L2.K87
set_option Elab.async false
set_option linter.all false
set_option autoImplicit false
set_option maxRecDepth 100000
set_option maxHeartbeats 4000000
namespace L2.K87
open PySem PySem.Spec PyProof.Rows
def inSt (ns : List Str) (st : Sg) : Sg := st.filter fun p => decide (p.1 ∈ ns)
def meetsS (st : Sg) : Wish → Bool
  | .groups n => decide (((dist (st.map (·.2))).length : Int) = n)
  | .together ns => decide ((dist ((inSt ns st).map (·.2))).length = 1)
section
variable {P : Program} {w : World} {K : PySem.W.Frag} {mg : Str → Option Value} {base : Heap} {f : Addr} {fd : FuncData}
/-! ### meets -/
def spMeets : Sp := fun vs H Q _ => ∃ (a c : Addr) (st : Sg) (wi : Wish), vs = [.ref a, .ref c] ∧ StA H a st ∧ WiA H c wi ∧ st.length ≤ 1000 ∧ ∀ (H' : Hp), Same H H' → Q (.bl (meetsS st wi)) H'
theorem scMeets : FnScope ["standing", "wish", "word", "what", "rests", "name", "rest"] ["standing", "wish"] (defScope smeets) := ⟨rfl, rfl, rfl, by decide +kernel, rfl, by decide +kernel, by decide +kernel⟩
theorem gw : ¬ (("together" : Str) = "groups") := by decide +kernel
theorem ok_meets (F : FnP K "meets" "meets" smeets [] f fd) (T : Txt mg) (G : Cal P w K mg base 1 "groups_of" ["standing"] spGroups) : FnOk P w K mg base CX0 2 f fd ["standing", "wish"] spMeets := by
  refine okF F scMeets (fun vs H Q E h => ?_) (fun cdv A outer s H vs Q E hr h => ?_)
  · obtain ⟨a, c, st, wi, rfl, _⟩ := h
    rfl
  · obtain ⟨a, c, st, wi, rfl, hS, hW, hz, k⟩ := h
    refine ⟨_, pss_cons (ps_asg (pv 1) (pg2 (i := 2) (j := 3) rfl scMeets.nd rfl rfl (Or.inl rfl) (Or.inr rfl) (Or.inl rfl) (Or.inl rfl)))
      (pss_cons (ps_if (pt_cmpR op_eq (pv 2) pe_str (nomark _)) (pss_one (ps_ret (pe_cmpR op_eq (pe_callB call_len_seq (by rfl) T.len PySem.boot_len (pa_cons (pe_cal G hr rfl (pa_cons (pv 0) pa_nil)) pa_nil)) (pv 3) (nomark _)))) pss_nil)
      (pss_cons (ps_setLc (i := 4) (own := [("name", 5), ("rest", 6)]) (g := g2 K 5 6) (tt := tTest (tOp (rIn K false) (tVar 5) (tVar 3))) rfl scMeets.nd rfl rfl (sw_true rfl rfl rfl (by decide +kernel)) (pi_tup (pv 0)) (blkOk_by (N := ["standing", "wish", "word", "what", "rests", "name", "rest"]) (sc := defScope smeets) (by decide +kernel))
        (fun _ _ _ _ _ => pg2 (i := 5) (j := 6) rfl scMeets.nd rfl rfl (Or.inl rfl) (Or.inl rfl) (Or.inr rfl) (Or.inr rfl)) (fun _ _ _ _ _ => pts_one (pt_cmpR op_in_seq (pv 5) (pv 3) rfl)) (fun _ _ _ _ _ => pv 6))
      (pss_one (ps_ret (pe_cmpR op_eq (pe_lenSet (by rfl) T.len (by rfl) T.set (pv 4)) pe_int (nomark _)))))), ?_⟩
    cases wi with
    | groups n =>
      refine ⟨_, rfl, c, _, rfl, SqT.of hW, rfl, _, _, rfl, _, _, rfl, rfl, ?_⟩
      refine ⟨_, rfl, rfl, _, rfl, ?_⟩
      refine iteD rfl ?_
      refine ⟨_, rfl, a, st, rfl, hS, hz, fun r ys H1 s1 e1 el => ?_⟩
      refine ⟨r, ys, rfl, .inl (SqL.of e1), _, rfl, rfl, ?_⟩
      have e := k H1 s1
      show Q (.bl (decide (V.int ((ys.length : Nat) : Int) = V.int n))) H1
      rw [decI, el]
      exact e
    | together ns =>
      obtain ⟨l, hc, hl⟩ := hW
      obtain ⟨qs, ha, hq⟩ := hS
      refine ⟨_, rfl, c, _, rfl, SqT.of hc, rfl, _, _, rfl, _, _, rfl, rfl, ?_⟩
      refine ⟨_, rfl, rfl, _, rfl, ?_⟩
      refine iteDN (fun z => gw (by injection z)) ?_
      refine ⟨_, rfl, a, rfl, ⟨_, SqT.of ha⟩, fun D hD => ?_⟩
      have hn : (qs.map V.ref).length ≤ sizeLine := by rw [stA_len hq]; exact Nat.le_trans hz (by decide)
      refine lcT walk_tup hD (fun i H' ys => ys = ((inSt ns (st.take i)).map (·.2)).map V.int) (fun _ _ _ _ _ e => e) (fun H' s => SqT.of (s _ _ ha)) rfl
        (fun i H' ys e => by rw [e, List.length_map, List.length_map]; exact Nat.le_trans (List.length_filter_le _ _) (List.length_take_le _ _)) hn ?_ ?_
      · rintro i x _ H1 ys Yes No hi s1 rfl ⟨rfl, hx⟩ yes no
        obtain ⟨q, p, rfl, hqi, hpi, hp⟩ := stA_get hq hx
        refine ⟨q, _, rfl, SqT.of (s1 _ _ hp), rfl, _, _, rfl, _, _, rfl, rfl, rfl, ?_⟩
        have eu : inSt ns (st.take (i + 1)) = inSt ns (st.take i) ++ (if p.1 ∈ ns then [p] else []) := by
          unfold inSt
          rw [take_snoc hpi, List.filter_append]
          by_cases h1 : p.1 ∈ ns <;> simp [h1]
        refine ⟨_, rfl, _, rfl, l, _, rfl, .inl (SqL.of (s1 _ _ hl)), rfl, flat_strs ns, _, rfl, ?_⟩
        show if (inV (V.str p.1) (ns.map V.str)) = true then _ else _
        rw [inV_str]
        by_cases h1 : p.1 ∈ ns
        · refine iteD h1 ?_
          exact ⟨_, rfl, yes _ _ (Same.refl _) (by rw [eu, if_pos h1, List.map_append, List.map_append]; rfl)⟩
        · refine iteDN h1 ?_
          exact no _ (Same.refl _) (by rw [eu, if_neg h1, List.append_nil])
      · rintro H1 ys s1 e1 rfl
        rw [take_all (stA_len hq)] at e1
        have hl2 : ((inSt ns st).map (·.2)).length ≤ 4000 := by
          rw [List.length_map]
          have := List.length_filter_le (fun p : Str × Int => decide (p.1 ∈ ns)) st
          unfold inSt
          omega
        refine ⟨_, rfl, D, (inSt ns st).map (·.2), rfl, SqL.of e1, hl2, rfl, ?_⟩
        have e := k H1 s1
        show Q (.bl (decide (V.int (((dist ((inSt ns st).map (·.2))).length : Nat) : Int) = V.int 1))) H1
        rw [decI]
        have e2 : decide ((((dist ((inSt ns st).map (·.2))).length : Nat) : Int) = 1) = meetsS st (.together ns) := by
          show _ = decide ((dist ((inSt ns st).map (·.2))).length = 1)
          by_cases h : (dist ((inSt ns st).map (·.2))).length = 1
          · have h' : (((dist ((inSt ns st).map (·.2))).length : Nat) : Int) = 1 := by omega
            rw [decide_eq_true h, decide_eq_true h']
          · have h' : ¬ (((dist ((inSt ns st).map (·.2))).length : Nat) : Int) = 1 := by omega
            rw [decide_eq_false h, decide_eq_false h']
        rw [e2]
        exact e
end
end L2.K87
set_option Elab.async false
set_option linter.all false
set_option autoImplicit false
set_option maxRecDepth 100000
set_option maxHeartbeats 4000000
namespace L2.K87
open PySem PySem.Spec PyProof.Rows
theorem swd_true {kx vx : Expr} {gs : List Comprehension} {scope : Scope} {pos py : Pos} {y : Str} {l : Nat} {env : Env} (hk : env.scope.kind = .function) (hy : env.scope.names.lookup y = some .local) (hl : (py.line == pos.line) = true)
    (ha : (scope.names.any fun (n, k) => n == y && (k == .local || k == .cell)) = false) : swapsWith (.DictComp kx vx gs scope pos) (some (.Name y py)) l env = pure true := by
  have ky : env.kindOf y = some .local := hy
  have hb : env.blockKind = .function := by unfold Env.blockKind; rw [hk]; rfl
  unfold swapsWith
  simp only [hb, ky, ha, Expr.pos, hl]
  rfl
/-! ### a locked dict -/
theorem DN.ext {P : Program} {w : World} {H : Hp} {d : Addr} {kvs : List (Sg × V)} (h : DN P w H d kvs) : ∃ φ, H d = some (.ext φ) := by
  obtain ⟨_, _, xs, e, _⟩ := h
  exact ⟨_, e⟩
theorem WiA.keepX {H H' : Hp} {a p : Addr} {wi : Wish} (h : WiA H a wi) (s : SameX p H H') (hx : ∃ φ, H p = some (.ext φ)) : WiA H' a wi := by
  obtain ⟨φ, hx⟩ := hx
  have nt : ∀ b xs, H b = some (.tup xs) → b ≠ p := fun b xs e z => by rw [z, hx] at e; cases e
  have nl : ∀ b xs, H b = some (.lst xs) → b ≠ p := fun b xs e z => by rw [z, hx] at e; cases e
  cases wi with
  | groups n => exact s _ _ (nt _ _ h) h
  | together ns =>
    obtain ⟨l, e1, e2⟩ := h
    exact ⟨l, s _ _ (nt _ _ e1) e1, s _ _ (nl _ _ e2) e2⟩
theorem SameX.tups {H H' : Hp} {p : Addr} {u : HO} (s : SameX p H H') (h : H p = some u) (nt : ∀ xs, u ≠ .tup xs) : Tups H H' := fun b xs e => s b _ (fun z => by rw [z, h] at e; exact nt xs (Option.some.inj e)) e
theorem unlock_same {H H' : Hp} {p : Addr} {u f : HO} (s : SameX p (upd H p f) H') (h : H p = some u) : Same H (upd H' p u) := fun b o e => by
  by_cases hb : b = p
  · subst hb
    rw [upd_same]
    rw [h] at e
    exact e
  · rw [upd_ne hb]
    exact s b o hb (by rw [upd_ne hb]; exact e)
theorem KeepM.sameX {H H' : Hp} {p d : Addr} (k : KeepM [d] H H') (hd : H d = none) : Same H H' := fun b o e => k b o (by
  intro z
  have : b = d := by simpa using z
  rw [this, hd] at e
  cases e) e
section
variable {P : Program} {w : World} {K : PySem.W.Frag} {mg : Str → Option Value} {base : Heap} {f C : Addr} {fd : FuncData}
/-! ### costs_of -/
def spCosts (P : Program) (w : World) : Sp := fun vs H Q _ => ∃ (d a c : Addr) (kw : List (Sg × V)) (ls : List Int) (ks : List (List Str)) (L : List Sg) (wi : Wish) (c0 : Tab Sg), vs = [.ref d, .ref a, .ref c] ∧ DN P w H d kw ∧ WaysR ls ks [] H kw L ∧ SksA H a ks ∧ WiA H c wi ∧
  L.Nodup ∧ L.length ≤ 1000 ∧ ks.length ≤ 1000 ∧ (∀ s ∈ L, s.length ≤ 1000) ∧ IsRun (eds ls ks) L (fun s => meetsS s wi) c0 ∧
  ∀ (p : Addr) (kvs : List (Sg × V)) (H' : Hp), Same H H' → H p = none → DN P w H' p kvs → CoR L H' kvs c0 → Q (.ref p) H'
theorem scCosts : FnScope ["ways", "strokes", "wish", "found", "going", "here", "stroke", "there", "new"] ["ways", "strokes", "wish"] (defScope scosts_of) := ⟨rfl, rfl, rfl, by decide +kernel, rfl, by decide +kernel, by decide +kernel⟩
theorem takes_clt {o : Option Cost} {b n : Cost} (e : o = some b) : takes o n = decide (clt n b) := by
  rw [e]
  rfl
theorem ok_costs (F : FnP K "costs_of" "costs_of" scosts_of [] f fd) (T : Txt mg) (G : Cal P w K mg base 2 "meets" ["standing", "wish"] spMeets) : FnOk P w K mg base CX0 3 f fd ["ways", "strokes", "wish"] (spCosts P w) := by
  refine okF F scCosts (fun vs H Q E h => ?_) (fun cdv A outer s H vs Q E hr h => ?_)
  · obtain ⟨d, a, c, kw, ls, ks, L, wi, c0, rfl, _⟩ := h
    rfl
  · obtain ⟨wy, a, c, kw, ls, ks, L, wi, c0, rfl, hD, hWy, hK, hW, hLn, hLz, hkz, hsz, hrun, k⟩ := h
    have hu := hu16 hr
    have hul := Nat.lt_of_le_of_lt (Nat.le_add_right _ 16) hu
    refine ⟨_, pss_cons (ps_lock (ps_setNDc (i := 3) (own := [("here", 5)]) (g := gName 5) (tt := tB (tCall spMeets [] E0 (tCons (tVar 5) (tCons (tVar 2) tNil)))) (tk := tVar 5) (tv := tTup (tCons (tC (.int 0)) (tCons (tC (.int 0)) tNil)))
        rfl hu scCosts.nd rfl rfl (swd_true rfl rfl rfl (by decide +kernel)) (pi_nkeys (pv 0)) (blkOk_by (N := ["ways", "strokes", "wish", "found", "going", "here", "stroke", "there", "new"]) (sc := defScope scosts_of) (by decide +kernel))
        ⟨fun _ _ _ _ _ => pg_name (i := 5) scCosts.nd rfl (Or.inl rfl) (Or.inr rfl), fun _ _ _ _ _ => pts_one (pt_val (pe_cal G hr rfl (pa_cons (pv 5) (pa_cons (pv 2) pa_nil)))), fun _ _ _ _ _ => pv 5, fun _ _ _ _ _ => pe_tup (pa_cons pe_int (pa_cons pe_int pa_nil))⟩))
      (pss_cons (ps_set (i := 4) scCosts.nd rfl (Or.inl rfl) pe_bl)
      (pss_cons (ps_while PassesOwn.never (pt_val (pv 4))
        (pss_cons (ps_set (i := 4) scCosts.nd rfl (Or.inl rfl) pe_bl)
        (pss_one (ps_for PassesOwn.never rfl (RT.pi_revA rfl T.rev (pe_callTy (call_list_dN rfl) (by rfl) T.lst (by decide +kernel) (pa_cons (pv 0) pa_nil))) (pg_name (i := 5) scCosts.nd rfl (Or.inl rfl))
          (pss_one (ps_for PassesOwn.never rfl (pi_zip rfl T.zip (pa_cons (pv 1) (pa_cons (pe_ndget hu (pv 0) (pv 5) (fun _ _ => rfl)) pa_nil))) (pg2 (i := 6) (j := 7) rfl scCosts.nd rfl rfl (Or.inl rfl) (Or.inl rfl) (Or.inl rfl) (Or.inl rfl))
            (pss_one (ps_if (pt_cmp (pc_nin hu (pv 7) (pv 3)))
              (pss_cons (ps_set (i := 8) scCosts.nd rfl (Or.inl rfl) (pe_tup (pa_cons (pe_op op_add (pe_ix ix_tup (pe_ndget hu (pv 3) (pv 7) (fun _ _ => rfl)) pe_int (fun _ _ => rfl)) (pe_callB call_len_seq (by rfl) T.len PySem.boot_len (pa_cons (pv 6) pa_nil)))
                  (pa_cons (pe_op op_add (pe_ix ix_tup (pe_ndget hu (pv 3) (pv 7) (fun _ _ => rfl)) pe_int (fun _ _ => rfl)) pe_int) pa_nil))))
              (pss_one (ps_if (PW.pt (pw_or (pt_cmp (pc_nnotin hu (pv 5) (pv 3))) (pw_or1 (pt_cmpR (op_ltT hul) (pv 8) (pe_ndget hu (pv 3) (pv 5) (fun _ _ => rfl)) (nomark _)))))
                (pss_cons (ps_ndput hu (pv 3) (pv 5) (pv 8) rfl) (pss_one (ps_set (i := 4) scCosts.nd rfl (Or.inl rfl) pe_bl))) pss_nil))) pss_nil))))))))
      (pss_one (ps_ret (pv 3))))), ?_⟩
    have hlz : kw.length ≤ 1000 := by rw [plen hWy]; exact hLz
    -- the costs at first
    obtain ⟨u, hu0, hm, hlock⟩ := hD.lock
    refine ⟨wy, u, hu0, hm, fun od => ?_⟩
    obtain ⟨φ, hφ⟩ := hD.ext
    have uext : u = .ext φ := by
      rw [hu0] at hφ
      exact Option.some.inj hφ
    have nfz : ∀ xs, HO.frz od u ≠ .tup xs := fun _ z => nomatch z
    have tL : Tups H (upd H wy (.frz od u)) := tups_upd hu0 (by rw [uext]; exact fun _ z => nomatch z)
    have xL : SameX wy H (upd H wy (.frz od u)) := SameX.upd
    refine ⟨_, rfl, wy, od, kw, rfl, hlock od, fun D H2 nD dD => ?_⟩
    have s2 : Same (upd H wy (.frz od u)) H2 := nD.same
    have hDH : (upd H wy (.frz od u)) D = none := nD.free
    have hDw : D ≠ wy := fun z => by rw [z, upd_same] at hDH; cases hDH
    have hD0 : H D = none := by rwa [upd_ne hDw] at hDH
    refine ndc_it walk_nkeys (fun i H' => ∃ kvs, KeepM [D] H2 H' ∧ Tups H2 H' ∧ DN P w H' D kvs ∧ CoR L H' kvs (tab0 (L.take i) fun s => meetsS s wi)) ⟨[], fun _ _ _ e => e, Tups.refl _, dD, CoR.nil⟩
      (fun i H' _ ⟨_, kk, tt, _⟩ => ?_) ?_ ?_
    · refine ((hlock od).same s2).keep tt ?_
      have e : H2 wy = some (.frz od u) := s2 _ _ upd_same
      rw [e]
      exact kk _ _ (by simpa using hDw.symm) e
    · rintro i x _ H3 hi ⟨kvs, k3, t3, d3, c3⟩ ⟨rfl, s, v, q, hk, rfl, hq⟩
      obtain ⟨s', hs', es, _⟩ := pget hWy hk
      have es : s = s' := es
      subst es
      have sX : Same (upd H wy (.frz od u)) H3 := fun b o e => k3 _ _ (by
        intro z
        have : b = D := by simpa using z
        rw [this, hDH] at e
        cases e) (s2 _ _ e)
      have hsm : s ∈ L := List.mem_of_getElem? hs'
      refine ⟨rfl, _, rfl, _, rfl, q, c, s, wi, rfl, hq, ?_, hsz s hsm, fun H4 s4 => ?_⟩
      · exact (hW.keepX xL ⟨φ, hφ⟩).same sX
      refine ⟨_, rfl, ?_⟩
      have k4 : KeepM [D] H2 H4 := k3.trans (KeepM.of s4)
      by_cases hmeet : meetsS s wi = true
      · rw [hmeet]
        refine iteT ?_
        refine ⟨_, rfl, by show 2 ≤ sizeLine; decide, fun r hr0 => ?_⟩
        have nr : New H4 (upd H4 r (.tup [.int 0, .int 0])) r := New.upd hr0
        refine NPut.of ((d3.same s4).same nr.same) ((hq.same s4).same nr.same) (Nat.lt_of_le_of_lt c3.len (Nat.lt_of_le_of_lt hLz (by decide))) fun H6 els6 t6 d6 => ?_
        refine ⟨_, (k4.trans (KeepM.of nr.same)).trans (KeepM.els (by simp) els6), ((t3.trans (tps s4)).trans (tps nr.same)).trans t6, d6, ?_⟩
        rw [tab0_yes hs' hmeet]
        refine (((c3.keep (tps s4)).keep (tps nr.same)).keep t6).put hsm ?_
        exact t6 _ _ upd_same
      · have hmeet : meetsS s wi = false := by simpa using hmeet
        rw [hmeet]
        refine iteF ?_
        refine ⟨kvs, k4, t3.trans (tps s4), d3.same s4, ?_⟩
        rw [tab0_no hs' hmeet]
        exact c3.keep (tps s4)
    rintro H3 ⟨kvs, k3, t3, d3, c3⟩
    rw [take_all (plen hWy)] at c3
    have sX : Same (upd H wy (.frz od u)) H3 := fun b o e => k3 _ _ (by
      intro z
      have : b = D := by simpa using z
      rw [this, hDH] at e
      cases e) (s2 _ _ e)
    have e3 : H3 wy = some (.frz od u) := sX _ _ upd_same
    refine ⟨e3, ?_⟩
    have tU : Tups H3 (upd H3 wy u) := tups_upd e3 nfz
    have s4 : Same H (upd H3 wy u) := unlock_same (fun b o _ e => sX b o e) hu0
    have d4 : DN P w (upd H3 wy u) D kvs := d3.keep tU (upd_ne hDw)
    have c4 := c3.keep tU
    -- the passes
    obtain ⟨as, ha, has⟩ := id hK
    obtain ⟨n, hn1, hn2, hn3⟩ := hrun
    subst hn3
    refine ⟨fun mm σ H' => ∃ (g : Bool) (v5 v6 v7 v8 : Option V) (kvs : List (Sg × V)) (c1 : Tab Sg), σ = [some (.ref wy), some (.ref a), some (.ref c), some (.ref D), some (.bl g), v5, v6, v7, v8] ∧ Same H H' ∧ DN P w H' D kvs ∧ CoR L H' kvs c1 ∧
        ((g = true ∧ ∃ j, j ≤ n ∧ mm = n + 1 - j ∧ c1 = passN (eds ls ks) L.reverse (tab0 L fun s => meetsS s wi) j) ∨ (g = false ∧ mm = 0 ∧ c1 = passN (eds ls ks) L.reverse (tab0 L fun s => meetsS s wi) n)),
      ⟨n + 1, true, none, none, none, none, kvs, _, rfl, s4, d4, c4, .inl ⟨rfl, 0, Nat.zero_le _, rfl, rfl⟩⟩, ?_⟩
    rintro mm σ H4 ⟨g, v5, v6, v7, v8, kvs, c1, rfl, s4, d4, c4, hj⟩
    refine ⟨_, rfl, _, rfl, ?_⟩
    rcases hj with ⟨rfl, j, hj, rfl, rfl⟩ | ⟨rfl, rfl, rfl⟩
    · refine iteT ?_
      refine ⟨fun σ' H' => ∃ m', m' < n + 1 - j ∧ ∃ (g : Bool) (v5 v6 v7 v8 : Option V) (kvs : List (Sg × V)) (c1 : Tab Sg), σ' = [some (.ref wy), some (.ref a), some (.ref c), some (.ref D), some (.bl g), v5, v6, v7, v8] ∧ Same H H' ∧ DN P w H' D kvs ∧ CoR L H' kvs c1 ∧
        ((g = true ∧ ∃ j, j ≤ n ∧ m' = n + 1 - j ∧ c1 = passN (eds ls ks) L.reverse (tab0 L fun s => meetsS s wi) j) ∨ (g = false ∧ m' = 0 ∧ c1 = passN (eds ls ks) L.reverse (tab0 L fun s => meetsS s wi) n)), fun _ _ z => z, ?_⟩
      obtain ⟨cj, ecj⟩ : ∃ cj, passN (eds ls ks) L.reverse (tab0 L fun s => meetsS s wi) j = cj := ⟨_, rfl⟩
      have hpass : (pass (eds ls ks) L.reverse cj).2 = true ∧ j < n ∨ (pass (eds ls ks) L.reverse cj).2 = false ∧ j = n := by
        rw [← ecj]
        by_cases h : j < n
        · exact .inl ⟨hn2 j h, h⟩
        · have : j = n := by omega
          subst this
          exact .inr ⟨hn1, rfl⟩
      have ecj1 : (pass (eds ls ks) L.reverse cj).1 = passN (eds ls ks) L.reverse (tab0 L fun s => meetsS s wi) (j + 1) := by
        rw [← ecj]
        rfl
      rw [ecj] at c4
      have D4 : DR P w H4 wy kw := (hD.same s4).rd
      refine ⟨_, rfl, wy, kw, rfl, D4, fun B bs hB hbs => ?_⟩
      have nB : New H4 (upd H4 B (.lst (bs.map V.ref))) B := New.upd hB
      have hbl : bs.length = L.length := by rw [← plen hbs, plen hWy]
      have hBD : B ≠ D := by
        obtain ⟨φ', e⟩ := d4.ext
        exact (ne_of_none e hB).symm
      refine ⟨B, bs.map V.ref, rfl, .inl ⟨SqL.of upd_same, ?_⟩⟩
      refine for_it walk_rev (fun i σ' H' => ∃ (v5 v6 v7 v8 : Option V) (kvs : List (Sg × V)), σ' = [some (.ref wy), some (.ref a), some (.ref c), some (.ref D), some (.bl ((L.reverse.take i).foldl (relaxAll (eds ls ks)) (cj, false)).2), v5, v6, v7, v8] ∧ Same H H' ∧ KeepM [D] (upd H4 B (.lst (bs.map V.ref))) H' ∧ Tups (upd H4 B (.lst (bs.map V.ref))) H' ∧
          DN P w H' D kvs ∧ CoR L H' kvs ((L.reverse.take i).foldl (relaxAll (eds ls ks)) (cj, false)).1)
        ⟨v5, v6, v7, v8, kvs, rfl, s4.trans nB.same, fun _ _ _ e => e, Tups.refl _, d4.same nB.same, c4.keep (tps nB.same)⟩ (fun i σ' H' _ ⟨_, _, _, _, _, _, _, kk, _⟩ => SqL.of (kk _ _ (by simpa using hBD) upd_same)) ?_ ?_
      · rintro i x σ' _ H5 hi ⟨v5, v6, v7, v8, kvs, rfl, s5, k5, t5, d5, c5⟩ ⟨rfl, hx⟩
        rw [List.length_map] at hx hi
        obtain ⟨q, hq, rfl⟩ := mget hx
        obtain ⟨kv, hkv, hst⟩ := pget2 hbs hq
        obtain ⟨s, hs, es, r, er, _, hr0⟩ := pget hWy hkv
        obtain ⟨s', v'⟩ := kv
        have es : s' = s := es
        have er : v' = .ref r := er
        subst es er
        have hsm : s' ∈ L := List.mem_of_getElem? hs
        have hrev : L.reverse[i]? = some s' := by
          rw [List.getElem?_reverse (by omega)]
          have : L.length - 1 - i = bs.length - 1 - i := by omega
          rw [this]
          exact hs
        have hq5 : StA H5 q s' := (hst.same nB.same).keep t5
        have D5 : DR P w H5 wy kw := (hD.same s5).rd
        obtain ⟨ts, hts, pts⟩ := hr0
        have hnr : valV kw s' = some (.ref r) := valV_at (by rw [hWy.keys]; exact hLn) hkv
        have eTake : L.reverse.take (i + 1) = L.reverse.take i ++ [s'] := take_snoc hrev
        obtain ⟨st0, est0⟩ : ∃ st0, (L.reverse.take i).foldl (relaxAll (eds ls ks)) (cj, false) = st0 := ⟨_, rfl⟩
        have est1 : (L.reverse.take (i + 1)).foldl (relaxAll (eds ls ks)) (cj, false) = (eds ls ks s').foldl (relax s') st0 := by
          rw [eTake, List.foldl_append, est0]
          rfl
        rw [est0] at c5 ⊢
        simp only [est1]
        refine ⟨_, rfl, _, rfl, _, rfl, wy, _, rfl, NGet.of D5 hq5 hnr, a, r, as.map V.ref, ts.map V.ref, rfl, SqL.of (s5 _ _ ha), SqL.of (s5 _ _ hts), ?_⟩
        have hlz2 : ks.length = min (as.map V.ref).length (ts.map V.ref).length := by
          rw [List.length_map, List.length_map, plen has, plen pts]
          unfold su
          rw [List.length_map]
          omega
        refine for_it (walk_zip hlz2) (fun i2 σ' H' => ∃ (v6 v7 v8 : Option V) (kvs : List (Sg × V)), σ' = [some (.ref wy), some (.ref a), some (.ref c), some (.ref D), some (.bl (((eds ls ks s').take i2).foldl (relax s') st0).2), some (.ref q), v6, v7, v8] ∧ Same H H' ∧ KeepM [D] (upd H4 B (.lst (bs.map V.ref))) H' ∧ Tups (upd H4 B (.lst (bs.map V.ref))) H' ∧
            DN P w H' D kvs ∧ CoR L H' kvs (((eds ls ks s').take i2).foldl (relax s') st0).1)
          ⟨v6, v7, v8, kvs, rfl, s5, k5, t5, d5, c5⟩ (fun i2 σ' H' _ ⟨_, _, _, _, _, s6, _⟩ => ⟨SqL.of (s6 _ _ ha), SqL.of (s6 _ _ hts)⟩) ?_ ?_
        · rintro i2 x σ' H6 H7 hi2 ⟨v6, v7, v8, kvs, rfl, s6, k6, t6, d6, c6⟩ ⟨Tp, x1, y1, rfl, hTp, rfl, hx1, hy1⟩
          obtain ⟨qk, kk, rfl, hqk, hkk, hsk⟩ := skA_get has hx1
          obtain ⟨u, hu1, rfl⟩ := mget hy1
          obtain ⟨su', hsu, hst2⟩ := pget pts hu1
          have esu : su' = callS ls s' kk := by
            unfold su at hsu
            rw [List.getElem?_map, hkk] at hsu
            exact (Option.some.inj hsu).symm
          have nT : New H6 (upd H6 Tp (.tup [.ref qk, .ref u])) Tp := New.upd hTp
          have s7 := s6.trans nT.same
          have k7 := k6.trans (KeepM.of (M := [D]) nT.same)
          have t7 := t6.trans (tps nT.same)
          have d7 := d6.same nT.same
          have c7 := c6.keep (tps nT.same)
          obtain ⟨H7, eH7⟩ : ∃ H7, upd H6 Tp (.tup [.ref qk, .ref u]) = H7 := ⟨_, rfl⟩
          rw [eH7] at s7 k7 t7 d7 c7
          have eT : H7 Tp = some (.tup [.ref qk, .ref u]) := by rw [← eH7]; exact upd_same
          rw [eH7]
          have eTk : (eds ls ks s').take (i2 + 1) = (eds ls ks s').take i2 ++ [(kk.length, su')] := by
            rw [esu]
            exact take_snoc (eds_get hkk)
          obtain ⟨st2, est2⟩ : ∃ st2, ((eds ls ks s').take i2).foldl (relax s') st0 = st2 := ⟨_, rfl⟩
          have est3 : ((eds ls ks s').take (i2 + 1)).foldl (relax s') st0 = relax s' st2 (kk.length, su') := by
            rw [eTk, List.foldl_append, est2]
            rfl
          rw [est2] at c7 ⊢
          simp only [est3]
          have hu7 : StA H7 u su' := hst2.same s7
          refine ⟨Tp, _, rfl, SqT.of eT, rfl, _, _, rfl, _, _, rfl, rfl, ?_⟩
          refine ⟨_, rfl, _, rfl, D, _, rfl, NGet.of d7.rd hu7 rfl, _, rfl, ?_⟩
          cases eb : st2.1 su' with
          | none =>
            rw [c7.no _ eb]
            refine iteF ?_
            rw [relax_out (e := (kk.length, su')) eb]
            exact ⟨_, _, _, kvs, rfl, s7, k7, t7, d7, c7⟩
          | some b =>
            obtain ⟨rb, hrb, hcb⟩ := c7.at_ _ _ eb
            rw [hrb]
            refine iteT ?_
            have hkl : qk = qk := rfl
            refine ⟨_, rfl, _, rfl, D, _, rfl, NGet.of d7.rd hu7 hrb, rb, _, 0, _, rfl, rfl, SqT.of hcb, rfl, ?_⟩
            refine ⟨_, rfl, qk, _, rfl, .inl (SqL.of (hsk.same s7)), _, _, rfl, rfl, ?_⟩
            refine ⟨_, rfl, _, rfl, D, _, rfl, NGet.of d7.rd hu7 hrb, rb, _, 1, _, rfl, rfl, SqT.of hcb, rfl, _, _, rfl, rfl, ?_⟩
            refine ⟨by show 2 ≤ sizeLine; decide, fun nw hnw => ?_⟩
            have eV : (HO.tup [V.int (((b.1 : Nat) : Int) + (((kk.map V.str).length : Nat) : Int)), V.int (((b.2 : Nat) : Int) + 1)]) = .tup [.int ((via b kk.length).1 : Nat), .int ((via b kk.length).2 : Nat)] := by
              rw [List.length_map]
              rfl
            rw [eV]
            have nN : New H7 (upd H7 nw (.tup [.int ((via b kk.length).1 : Nat), .int ((via b kk.length).2 : Nat)])) nw := New.upd hnw
            have eN : upd H7 nw (.tup [.int ((via b kk.length).1 : Nat), .int ((via b kk.length).2 : Nat)]) nw = some (.tup [.int ((via b kk.length).1 : Nat), .int ((via b kk.length).2 : Nat)]) := upd_same
            obtain ⟨H8, eH8⟩ : ∃ H8, upd H7 nw (.tup [.int ((via b kk.length).1 : Nat), .int ((via b kk.length).2 : Nat)]) = H8 := ⟨_, rfl⟩
            rw [eH8] at nN eN ⊢
            have s8 := s7.trans nN.same
            have k8 := k7.trans (KeepM.of (M := [D]) nN.same)
            have t8 := t7.trans (tps nN.same)
            have d8 := d7.same nN.same
            have c8 := c7.keep (tps nN.same)
            have hq8 : StA H8 q s' := (hst.same nB.same).keep t8
            rw [relax_in (e := (kk.length, su')) eb]
            -- found[here] = new; going = True
            have put : ∀ v6 v7, sNPut P w (tVar 3) (tVar 5) (tVar 8) ⟨fun σ' H' => ∃ (v6 v7 v8 : Option V) (kvs : List (Sg × V)), σ'.set 4 (some (.bl true)) = [some (.ref wy), some (.ref a), some (.ref c), some (.ref D), some (.bl (setT st2.1 s' (via b kk.length), true).2), some (.ref q), v6, v7, v8] ∧ Same H H' ∧ KeepM [D] (upd H4 B (.lst (bs.map V.ref))) H' ∧ Tups (upd H4 B (.lst (bs.map V.ref))) H' ∧
                DN P w H' D kvs ∧ CoR L H' kvs (setT st2.1 s' (via b kk.length), true).1, fun _ _ => False, fun _ _ => False, fun _ _ => False⟩ [some (.ref wy), some (.ref a), some (.ref c), some (.ref D), some (.bl st2.2), some (.ref q), v6, v7, some (.ref nw)] H8 := by
              intro v6 v7
              refine ⟨_, rfl, _, rfl, _, rfl, D, rfl, NPut.of d8 hq8 (Nat.lt_of_le_of_lt c8.len (Nat.lt_of_le_of_lt hLz (by decide))) fun H9 els9 t9 d9 => ?_⟩
              have k9 := k8.trans (KeepM.els (M := [D]) (by simp) els9)
              have s9 : Same H H9 := fun b' o e => KeepM.els (M := [D]) (by simp) els9 _ _ (by
                intro z
                have : b' = D := by simpa using z
                rw [this, hD0] at e
                cases e) (s8 _ _ e)
              exact ⟨_, _, _, _, rfl, s9, k9, t8.trans t9, d9, (c8.keep t9).put hsm (t9 _ _ eN)⟩
            refine ⟨_, rfl, _, rfl, D, _, rfl, NGet.of d8.rd hq8 rfl, _, rfl, ?_⟩
            cases eo : st2.1 s' with
            | none =>
              rw [c8.no _ eo]
              refine iteT (iteT ?_)
              have et : takes none (via b kk.length) = true := rfl
              rw [et, if_pos rfl]
              exact put _ _
            | some o =>
              obtain ⟨ro, hro, hco⟩ := c8.at_ _ _ eo
              rw [hro]
              refine iteF ?_
              refine ⟨_, rfl, _, rfl, _, rfl, D, _, rfl, NGet.of d8.rd hq8 hro, nw, ro, [((via b kk.length).1 : Nat), ((via b kk.length).2 : Nat)], [((o.1 : Nat) : Int), ((o.2 : Nat) : Int)], rfl, rfl, SqT.of eN, SqT.of hco, _, rfl, ?_⟩
              rw [lexLt_cost]
              have et : takes (some o) (via b kk.length) = decide (clt (via b kk.length) o) := rfl
              rw [et]
              by_cases hc : clt (via b kk.length) o
              · refine iteD hc ?_
                rw [if_pos (decide_eq_true hc)]
                exact put _ _
              · refine iteDN hc ?_
                rw [if_neg (by simp [hc])]
                exact ⟨_, _, _, kvs, rfl, s8, k8, t8, d8, c8⟩
        · rintro σ' H6 ⟨v6, v7, v8, kvs, rfl, s6, k6, t6, d6, c6⟩
          rw [take_all (eds_len ls ks s').symm] at c6 ⊢
          exact ⟨_, _, _, _, kvs, rfl, s6, k6, t6, d6, c6⟩
      · rintro σ' H5 ⟨v5, v6, v7, v8, kvs, rfl, s5, k5, t5, d5, c5⟩
        have eAll : L.reverse.take (bs.map V.ref).length = L.reverse := take_all (by rw [List.length_map, List.length_reverse, hbl])
        rw [eAll] at c5 ⊢
        have e2 : L.reverse.foldl (relaxAll (eds ls ks)) (cj, false) = pass (eds ls ks) L.reverse cj := rfl
        rw [e2] at c5 ⊢
        rcases hpass with ⟨h1, h2⟩ | ⟨h1, h2⟩
        · exact ⟨n + 1 - (j + 1), by omega, _, _, _, _, _, kvs, _, rfl, s5, d5, c5, .inl ⟨h1, j + 1, h2, rfl, ecj1⟩⟩
        · exact ⟨0, by omega, _, _, _, _, _, kvs, _, rfl, s5, d5, c5, .inr ⟨h1, rfl, by rw [(pass_still h1).1, ← ecj, h2]⟩⟩
    · refine iteF ?_
      exact ⟨_, rfl, k D kvs H4 s4 hD0 d4 c4⟩
end
end L2.K87
set_option Elab.async false
set_option linter.all false
set_option autoImplicit false
set_option maxRecDepth 100000
set_option maxHeartbeats 4000000
namespace L2.K87
open PySem PySem.Spec PyProof.Rows
/-! ### prices -/
def priV : Option Nat → V
  | none => .non
  | some n => .int (n : Nat)
def PriA (H : Hp) (q : Addr) (p : Sg × Option Nat) : Prop := ∃ b, H q = some (.tup [.ref b, priV p.2]) ∧ StA H b p.1
theorem PriA.keep {H H' : Hp} {q : Addr} {p : Sg × Option Nat} (h : PriA H q p) (t : Tups H H') : PriA H' q p := by
  obtain ⟨b, e, z⟩ := h
  exact ⟨b, t _ _ e, z.keep t⟩
def TolA (H : Hp) (r : Addr) (tl : List (Sg × Option Nat)) : Prop := ∃ ps : List Addr, H r = some (.lst (ps.map V.ref)) ∧ Paired (PriA H) ps tl
theorem TolA.same {H H' : Hp} {r : Addr} {tl : List (Sg × Option Nat)} (h : TolA H r tl) (s : Same H H') : TolA H' r tl := by
  obtain ⟨ps, e, z⟩ := h
  exact ⟨ps, s _ _ e, pimp z fun _ _ y => y.keep (tps s)⟩
def tolL (L : List Sg) (c : Tab Sg) : List (Sg × Option Nat) := L.map fun s => (s, (c s).map (·.1))
theorem tolL_get {L : List Sg} {c : Tab Sg} {i : Nat} {s : Sg} (e : L[i]? = some s) : (tolL L c)[i]? = some (s, (c s).map (·.1)) := by
  unfold tolL
  rw [List.getElem?_map, e]
  rfl
section
variable {P : Program} {w : World} {K : PySem.W.Frag} {mg : Str → Option Value} {base : Heap} {f C : Addr} {fd : FuncData}
/-! ### told_prices -/
def spTold (P : Program) (w : World) : Sp := fun vs H Q _ => ∃ (d p : Addr) (kw kvs : List (Sg × V)) (L : List Sg) (c : Tab Sg), vs = [.ref d, .ref p] ∧ DN P w H d kw ∧ kw.map (·.1) = L ∧ DN P w H p kvs ∧ CoR L H kvs c ∧ d ≠ p ∧ L.length ≤ 1000 ∧
  ∀ (r : Addr) (H' : Hp), Same H H' → H r = none → TolA H' r (tolL L c) → Q (.ref r) H'
theorem scTold : FnScope ["ways", "costs", "here"] ["ways", "costs"] (defScope stold_prices) := ⟨rfl, rfl, rfl, by decide +kernel, rfl, by decide +kernel, by decide +kernel⟩
theorem ok_told (F : FnP K "told_prices" "told_prices" stold_prices [] f fd) (T : Txt mg) : FnOk P w K mg base CX0 1 f fd ["ways", "costs"] (spTold P w) := by
  refine okF F scTold (fun vs H Q E h => ?_) (fun cdv A outer s H vs Q E hr h => ?_)
  · obtain ⟨d, p, kw, kvs, L, c, rfl, _⟩ := h
    rfl
  · obtain ⟨wy, p, kw, kvs, L, c, rfl, hD, hkw, hP, hC, hne, hLz, k⟩ := h
    have hu := hu16 hr
    refine ⟨_, pss_one (ps_ret (pe_lock (pe_lc (own := [("here", 2)]) (g := gName 2) (tt := tYes) (te := tTup (tCons (tVar 2) (tCons (tIf (tB (tNIn P w (tVar 2) (tVar 1))) (tOp (rIxT K) (tNGet P w (tVar 1) (tVar 2)) (tC (.int 0))) (tC .non)) tNil))) rfl scTold.nd (pi_nkeys (pv 0))
      (blkOk_by (N := ["ways", "costs", "here"]) (sc := defScope stold_prices) (by decide +kernel)) (fun _ _ _ _ _ => pg_name (i := 2) scTold.nd rfl (Or.inl rfl) (Or.inr rfl)) (fun _ _ _ _ _ => pts_nil)
      (fun _ _ _ _ _ => pe_tup (pa_cons (pv 2) (pa_cons (pe_ifExp (pt_cmp (pc_nin hu (pv 2) (pv 1))) (pe_ix ix_tup (pe_ndget hu (pv 1) (pv 2) (fun _ _ => rfl)) pe_int (fun _ _ => rfl)) pe_non) pa_nil)))))), ?_⟩
    obtain ⟨u, hu0, hm, hlock⟩ := hD.lock
    obtain ⟨φ, hφ⟩ := hD.ext
    have uext : u = .ext φ := by
      rw [hu0] at hφ
      exact Option.some.inj hφ
    refine ⟨wy, u, hu0, hm, fun od => ?_⟩
    have nfz : ∀ xs, HO.frz od u ≠ .tup xs := fun _ z => nomatch z
    have tL : Tups H (upd H wy (.frz od u)) := tups_upd hu0 (by rw [uext]; exact fun _ z => nomatch z)
    obtain ⟨HL, eHL⟩ : ∃ HL, upd H wy (.frz od u) = HL := ⟨_, rfl⟩
    have dL : DF P w HL wy od kw := by rw [← eHL]; exact hlock od
    have xL : ∀ H', Same HL H' → SameX wy (upd H wy (.frz od u)) H' := fun H' s => by rw [eHL]; exact SameX.of s
    have eW : HL wy = some (.frz od u) := by rw [← eHL]; exact upd_same
    rw [eHL] at tL ⊢
    have dP : DN P w HL p kvs := hP.keep tL (by rw [← eHL]; exact upd_ne hne.symm)
    have cP : CoR L HL kvs c := hC.keep tL
    refine ⟨_, rfl, wy, od, kw, rfl, dL, fun D hD0 => ?_⟩
    have hDw : D ≠ wy := (ne_of_none eW hD0).symm
    have hlen : kw.length = L.length := by rw [← hkw, List.length_map]
    refine lcT walk_nkeys hD0 (fun i H' ys => ∃ ps : List Addr, ys = ps.map V.ref ∧ Paired (PriA H') ps ((tolL L c).take i)) (fun _ _ _ _ t ⟨ps, e, r⟩ => ⟨ps, e, pimp r fun _ _ z => z.keep t⟩) (fun H' s => dL.same s) ⟨[], rfl, .nil⟩
      (fun i H' ys ⟨ps, e, r⟩ => by rw [e, List.length_map, plen r]; exact List.length_take_le _ _) (by rw [hlen]; exact Nat.le_trans hLz (by decide)) ?_ ?_
    · rintro i x _ H1 ys Yes No hi s1 ⟨ps, rfl, pr⟩ ⟨rfl, st, v, q, hk, rfl, hq⟩ yes no
      have hst : L[i]? = some st := by
        rw [← hkw, List.getElem?_map, hk]
        rfl
      have eTk : (tolL L c).take (i + 1) = (tolL L c).take i ++ [(st, (c st).map (·.1))] := take_snoc (tolL_get hst)
      have fin : ∀ t, H1 t = none → Yes (.ref t) (upd H1 t (.tup [.ref q, priV ((c st).map (·.1))])) := fun t ht => by
        have nt : New H1 (upd H1 t (.tup [.ref q, priV ((c st).map (·.1))])) t := New.upd ht
        refine yes _ _ nt.same ⟨ps ++ [t], by rw [List.map_append]; rfl, ?_⟩
        rw [eTk]
        exact psnoc (pimp pr fun _ _ z => z.keep (tps nt.same)) ⟨q, upd_same, hq.same nt.same⟩
      refine ⟨rfl, yesT ?_⟩
      refine ⟨_, rfl, _, rfl, _, rfl, p, _, rfl, NGet.of (dP.same s1).rd hq rfl, _, rfl, ?_⟩
      cases ec : c st with
      | none =>
        rw [cP.no _ ec]
        refine iteF ?_
        refine ⟨by show 2 ≤ sizeLine; decide, fun t ht => ?_⟩
        have := fin t ht
        rw [ec] at this
        exact this
      | some a =>
        obtain ⟨ra, hra, hca⟩ := cP.at_ _ _ ec
        rw [hra]
        refine iteT ?_
        refine ⟨_, rfl, _, rfl, p, _, rfl, NGet.of (dP.same s1).rd hq hra, ra, _, 0, _, rfl, rfl, SqT.of (s1 _ _ hca), rfl, ?_⟩
        refine ⟨by show 2 ≤ sizeLine; decide, fun t ht => ?_⟩
        have := fin t ht
        rw [ec] at this
        exact this
    · rintro H1 ys s1 e1 ⟨ps, rfl, pr⟩
      rw [take_all (by unfold tolL; rw [List.length_map, hlen])] at pr
      have e3 : H1 wy = some (.frz od u) := s1 _ _ eW
      refine ⟨e3, k D _ (unlock_same (xL _ s1) hu0) ?_ ?_⟩
      · rw [← eHL, upd_ne hDw] at hD0
        exact hD0
      · exact ⟨ps, by rw [upd_ne hDw]; exact e1, pimp pr fun _ _ z => z.keep (tups_upd e3 nfz)⟩
/-- a def with keyword-only defaults -/
structure CalK (P : Program) (w : World) (K : PySem.W.Frag) (mg : Str → Option Value) (base : Heap) (k : Nat) (x : Str) (ps : List Str) (dvs : List V) (sp : Sp) : Prop where
  ex : ∃ (f : Addr) (fd : FuncData) (ds : List Value), FnOk P w K mg base CX0 k f fd ps sp ∧ mg x = some (.ref f) ∧ PySem.W.keepIn K (.ref f) = true ∧ Vals dvs ds ∧ Binds K fd ps ds
theorem pe_calK {X : Cx} {k : Nat} {x : Str} {ps : List Str} {dvs : List V} {sp : Sp} {p pos : Pos} {e : Expr} {es : List Expr} {t : TA} (G : CalK X.prog X.w X.K X.mg X.base k x ps dvs sp) (hr : Room k X.A) (hg : Gl X x) (ha : PA X (e :: es) t)
    (hdb : (x == ("__debug__" : Str)) = false := by decide) (he : starEach (e :: es) X.env = (false, eval e X.env) :: starEach es X.env := by rfl) (hpl : (backTo pos (starEach es X.env)).any (·.1) = false := by rfl) : PE X (.Call (.Name x p) (e :: es) [] pos) (tCall sp dvs E0 t) := by
  obtain ⟨f, fd, ds, F, g, kp, v, b⟩ := G.ex
  exact pe_call F hr hg g kp b v pass0 ha hdb he hpl
theorem len4 {α : Type} {us : List α} (h : us.length = 4) : ∃ a b c d, us = [a, b, c, d] := by
  match us, h with
  | [a, b, c, d], _ => exact ⟨a, b, c, d, rfl⟩
theorem len1 {α : Type} {us : List α} (h : us.length = 1) : ∃ a, us = [a] := by
  match us, h with
  | [a], _ => exact ⟨a, rfl⟩
abbrev psAsk : List Str := ["book", "standing", "strokes", "wish", "most"]
/-! ### prices -/
def AskOk (C : Addr) (H : Hp) (b a c wa : Addr) (ls : List Int) (s0 : Sg) (ks : List (List Str)) (wi : Wish) (L : List Sg) (c0 : Tab Sg) : Prop := BkA C H b ls ∧ StA H a s0 ∧ SksA H c ks ∧ WiA H wa wi ∧
  s0.length ≤ ls.length ∧ s0.length ≤ 1000 ∧ ks.length ≤ 1000 ∧ IsLot (su ls ks) s0 L ∧ L.length ≤ 200 ∧ IsRun (eds ls ks) L (fun s => meetsS s wi) c0
def spPrices (C : Addr) : Sp := fun vs H Q _ => ∃ (b a c wa : Addr) (ls : List Int) (s0 : Sg) (ks : List (List Str)) (wi : Wish) (L : List Sg) (c0 : Tab Sg), vs = [.ref b, .ref a, .ref c, .ref wa, .int 200] ∧ AskOk C H b a c wa ls s0 ks wi L c0 ∧
  ∀ (r : Addr) (H' : Hp), Same H H' → H r = none → TolA H' r (tolL L c0) → Q (.ref r) H'
theorem scPrices : FnScope ["book", "standing", "strokes", "wish", "most", "ways"] psAsk (defScope sprices) := ⟨rfl, rfl, rfl, by decide +kernel, rfl, by decide +kernel, by decide +kernel⟩
theorem ok_prices (F : FnP K "prices" "prices" sprices [("most", .int 200)] f fd) (T : Txt mg) (G1 : Cal P w K mg base 6 "lot_of" ["book", "standing", "strokes", "most"] (spLot P w C)) (G2 : Cal P w K mg base 3 "costs_of" ["ways", "strokes", "wish"] (spCosts P w)) (G3 : Cal P w K mg base 1 "told_prices" ["ways", "costs"] (spTold P w)) : FnOk P w K mg base CX0 7 f fd psAsk (spPrices C) := by
  refine okF F scPrices (fun vs H Q E h => ?_) (fun cdv A outer s H vs Q E hr h => ?_)
  · obtain ⟨b, a, c, wa, ls, s0, ks, wi, L, c0, rfl, _⟩ := h
    rfl
  · obtain ⟨b, a, c, wa, ls, s0, ks, wi, L, c0, rfl, ⟨hB, hS, hK, hW, hl, hz, hks, hL, hLz, hrun⟩, k⟩ := h
    refine ⟨_, pss_cons (ps_set (i := 5) scPrices.nd rfl (Or.inl rfl) (pe_cal G1 hr rfl (pa_cons (pv 0) (pa_cons (pv 1) (pa_cons (pv 2) (pa_cons (pv 4) pa_nil))))))
      (pss_one (ps_ret (pe_cal G3 (hr.mono (by decide)) rfl (pa_cons (pv 5) (pa_cons (pe_cal G2 (hr.mono (by decide)) rfl (pa_cons (pv 5) (pa_cons (pv 2) (pa_cons (pv 3) pa_nil)))) pa_nil))))), ?_⟩
    refine ⟨_, rfl, _, rfl, _, rfl, _, rfl, b, a, c, 200, ls, s0, ks, L, rfl, hB, hS, hK, hl, hz, hks, hL, by omega, by omega, fun wy kw H1 s1 hwy dW wW => ?_⟩
    refine ⟨_, rfl, _, rfl, _, rfl, _, rfl, wy, c, wa, kw, ls, ks, L, wi, c0, rfl, dW, wW, hK.same s1, hW.same s1, hL.nodup, by omega, hks, fun s hs => by rw [hL.len hs]; exact hz, hrun, fun p kvs H2 s2 hp dP cP => ?_⟩
    refine ⟨wy, p, kw, kvs, L, c0, rfl, dW.same s2, wW.keys, dP, cP, ?_, by omega, fun r H3 s3 hr3 tl => ?_⟩
    · obtain ⟨φ, e⟩ := dW.ext
      exact ne_of_none e hp
    · exact k r H3 ((s1.trans s2).trans s3) ((s1.trans s2).free hr3) tl
end
end L2.K87
set_option Elab.async false
set_option linter.all false
set_option autoImplicit false
set_option maxRecDepth 100000
set_option maxHeartbeats 4000000
namespace L2.K87
open PySem PySem.Spec PyProof.Rows
/-! ### the row told -/
def fitK (ls : List Int) (c : Tab Sg) (s : Sg) (k : List Str) : Bool := match c (callS ls s k) with
  | none => false
  | some b => decide (some (via b k.length) = c s)
def fits (ls : List Int) (ks : List (List Str)) (c : Tab Sg) (s : Sg) : List (List Str) := ks.filter (fitK ls c s)
inductive RowOf (ls : List Int) (ks : List (List Str)) (c : Tab Sg) : Sg → List (List Str) → Prop
  | nil {s : Sg} : c s = some (0, 0) → RowOf ls ks c s []
  | cons {s : Sg} {k : List Str} {rest row : List (List Str)} {a : Cost} : c s = some a → 0 < a.2 → fits ls ks c s = k :: rest → RowOf ls ks c (callS ls s k) row → RowOf ls ks c s (k :: row)
theorem fits_mem {ls : List Int} {ks : List (List Str)} {c : Tab Sg} {s : Sg} {k : List Str} (h : k ∈ fits ls ks c s) : k ∈ ks ∧ ∃ b, c (callS ls s k) = some b ∧ c s = some (via b k.length) := by
  obtain ⟨h1, h2⟩ := List.mem_filter.mp h
  refine ⟨h1, ?_⟩
  unfold fitK at h2
  cases e : c (callS ls s k) with
  | none =>
    rw [e] at h2
    cases h2
  | some b =>
    rw [e] at h2
    exact ⟨b, rfl, (of_decide_eq_true h2).symm⟩
theorem eds_mem {ls : List Int} {ks : List (List Str)} {s : Sg} {e : Nat × Sg} : e ∈ eds ls ks s ↔ ∃ k ∈ ks, e = (k.length, callS ls s k) := by
  unfold eds
  rw [List.mem_map]
  constructor
  · rintro ⟨k, hk, rfl⟩
    exact ⟨k, hk, rfl⟩
  · rintro ⟨k, hk, rfl⟩
    exact ⟨k, hk, rfl⟩
theorem rowOf_ex {ls : List Int} {ks : List (List Str)} {L : List Sg} {m : Sg → Bool} {c : Tab Sg} (h : IsCosts (eds ls ks) L m c) : ∀ (n : Nat) (s : Sg) (a : Cost), c s = some a → a.2 = n → ∃ row, RowOf ls ks c s row
  | 0, s, a, e, hn => ⟨[], .nil (by rw [e, (h.zero2 e).mp hn])⟩
  | n + 1, s, a, e, hn => by
    have ha : a ≠ (0, 0) := fun z => by rw [z] at hn; cases hn
    obtain ⟨ed, hed, b, hb, hv⟩ := h.edge e ha
    obtain ⟨k, hk, rfl⟩ := eds_mem.mp hed
    have hf : k ∈ fits ls ks c s := by
      refine List.mem_filter.mpr ⟨hk, ?_⟩
      unfold fitK
      rw [hb, e]
      exact decide_eq_true (by rw [hv])
    cases ef : fits ls ks c s with
    | nil =>
      rw [ef] at hf
      cases hf
    | cons k' rest =>
      obtain ⟨_, b', hb', hs'⟩ := fits_mem (show k' ∈ fits ls ks c s by rw [ef]; exact List.mem_cons_self)
      rw [e] at hs'
      have ea : a = via b' k'.length := Option.some.inj hs'
      have : b'.2 = n := by
        rw [ea] at hn
        unfold via at hn
        simp only at hn
        omega
      obtain ⟨row, hr⟩ := rowOf_ex h n (callS ls s k') b' hb' this
      exact ⟨_, .cons e (by omega) ef hr⟩
theorem RowOf.det {ls : List Int} {ks : List (List Str)} {c : Tab Sg} {s : Sg} {r : List (List Str)} (h : RowOf ls ks c s r) : ∀ {r' : List (List Str)}, RowOf ls ks c s r' → r = r' := by
  induction h with
  | nil e =>
    intro r' h'
    cases h' with
    | nil => rfl
    | cons e2 p _ _ =>
      rw [e] at e2
      cases e2
      cases p
  | cons e p f _ ih =>
    intro r' h'
    cases h' with
    | nil e2 =>
      rw [e] at e2
      cases e2
      cases p
    | cons e2 p2 f2 t2 =>
      rw [f] at f2
      cases f2
      rw [ih t2]
theorem RowOf.sum {ls : List Int} {ks : List (List Str)} {c : Tab Sg} {s : Sg} {r : List (List Str)} (h : RowOf ls ks c s r) : ∃ a, c s = some a ∧ (r.map List.length).sum = a.1 ∧ r.length = a.2 := by
  induction h with
  | nil e => exact ⟨_, e, rfl, rfl⟩
  | cons e p f t ih =>
    obtain ⟨b, hb, h1, h2⟩ := ih
    obtain ⟨_, b', hb', hs'⟩ := fits_mem (show _ ∈ fits ls ks c _ by rw [f]; exact List.mem_cons_self)
    rw [hb] at hb'
    cases hb'
    refine ⟨_, hs', ?_, ?_⟩
    · rw [List.map_cons, List.sum_cons, h1]
      show _ = b.1 + _
      omega
    · rw [List.length_cons, h2]
      rfl
theorem RowOf.len {ls : List Int} {ks : List (List Str)} {c : Tab Sg} {s : Sg} {r : List (List Str)} (h : RowOf ls ks c s r) {a : Cost} (e : c s = some a) : r.length = a.2 := by
  obtain ⟨b, hb, _, h2⟩ := h.sum
  rw [e] at hb
  cases hb
  exact h2
theorem RowOf.vis {ls : List Int} {ks : List (List Str)} {c : Tab Sg} {s : Sg} {r : List (List Str)} (h : RowOf ls ks c s r) : ∃ vis : List Sg, vis.length = r.length + 1 ∧ vis.Nodup ∧ ∀ x ∈ vis, ∃ b, c x = some b ∧ b.2 ≤ r.length := by
  induction h with
  | @nil s e => exact ⟨[s], rfl, by simp, fun x hx => ⟨(0, 0), by rw [show x = s by simpa using hx, e], Nat.zero_le _⟩⟩
  | @cons s k rest row a e p f t ih =>
    obtain ⟨vis, h1, h2, h3⟩ := ih
    have hl := (RowOf.cons e p f t).len e
    refine ⟨s :: vis, by rw [List.length_cons, h1]; rfl, List.nodup_cons.mpr ⟨fun hm => ?_, h2⟩, fun x hx => ?_⟩
    · obtain ⟨b, hb, hle⟩ := h3 s hm
      rw [e] at hb
      cases hb
      rw [List.length_cons] at hl
      omega
    · rcases List.mem_cons.mp hx with rfl | hx
      · exact ⟨a, e, by omega⟩
      · obtain ⟨b, hb, hle⟩ := h3 x hx
        exact ⟨b, hb, by rw [List.length_cons]; omega⟩
theorem RowOf.short {ls : List Int} {ks : List (List Str)} {L : List Sg} {m : Sg → Bool} {c : Tab Sg} (h : IsCosts (eds ls ks) L m c) {s : Sg} {r : List (List Str)} (hr : RowOf ls ks c s r) : r.length < L.length := by
  obtain ⟨vis, h1, h2, h3⟩ := hr.vis
  have := nodup_le h2 fun x hx => let ⟨b, hb, _⟩ := h3 x hx; h.gr.dom x b hb
  omega
theorem rowOf_mem {ls : List Int} {ks : List (List Str)} {c : Tab Sg} {s : Sg} {r : List (List Str)} (h : RowOf ls ks c s r) : ∀ k ∈ r, k ∈ ks := by
  induction h with
  | nil _ =>
    intro k hk
    cases hk
  | cons _ _ f _ ih =>
    intro k' hk'
    rcases List.mem_cons.mp hk' with rfl | hk'
    · exact (fits_mem (show _ ∈ fits ls ks c _ by rw [f]; exact List.mem_cons_self)).1
    · exact ih k' hk'
section
variable {P : Program} {w : World} {K : PySem.W.Frag} {mg : Str → Option Value} {base : Heap} {f C : Addr} {fd : FuncData}
/-- what fewest tells -/
def FewA (H H' : Hp) (t : Addr) (s0 : Sg) (ls : List Int) (ks : List (List Str)) (L : List Sg) (c0 : Tab Sg) : Prop :=
  (c0 s0 = none ∧ ∃ r, H' t = some (.tup [.str "never", .ref r]) ∧ H r = none ∧ TolA H' r (tolL L c0)) ∨
  ∃ (r : Addr) (as : List Addr) (row : List (List Str)), RowOf ls ks c0 s0 row ∧ H' t = some (.tup [.str "row", .ref r]) ∧ H r = none ∧ H' r = some (.lst (as.map V.ref)) ∧ Paired (fun a k => a ≠ r ∧ H a = none ∧ SkA H' a k) as row
def spFewest (C : Addr) : Sp := fun vs H Q _ => ∃ (b a c wa : Addr) (ls : List Int) (s0 : Sg) (ks : List (List Str)) (wi : Wish) (L : List Sg) (c0 : Tab Sg), vs = [.ref b, .ref a, .ref c, .ref wa, .int 200] ∧ AskOk C H b a c wa ls s0 ks wi L c0 ∧
  ∀ (t : Addr) (H' : Hp), Same H H' → H t = none → FewA H H' t s0 ls ks L c0 → Q (.ref t) H'
theorem scFewest : FnScope ["book", "standing", "strokes", "wish", "most", "ways", "costs", "found", "here", "calls", "many", "fit", "stroke", "there"] psAsk (defScope sfewest) := ⟨rfl, rfl, rfl, by decide +kernel, rfl, by decide +kernel, by decide +kernel⟩
theorem eqv_cost (a b : Cost) : PyData.eqv (.tuple [.int ((a.1 : Nat) : Int), .int ((a.2 : Nat) : Int)]) (.tuple [.int ((b.1 : Nat) : Int), .int ((b.2 : Nat) : Int)]) = decide (a = b) := by
  obtain ⟨a1, a2⟩ := a
  obtain ⟨b1, b2⟩ := b
  simp only [PyData.eqv, PyData.eqvAll, Bool.and_true]
  rw [Bool.eq_iff_iff]
  simp
  omega
theorem shaped_cost (x y : Int) : SeqAt.shaped (.tuple [.int x, .int y]) = true := rfl
theorem ok_fewest (F : FnP K "fewest" "fewest" sfewest [("most", .int 200)] f fd) (T : Txt mg) (G1 : Cal P w K mg base 6 "lot_of" ["book", "standing", "strokes", "most"] (spLot P w C)) (G2 : Cal P w K mg base 3 "costs_of" ["ways", "strokes", "wish"] (spCosts P w)) (G3 : Cal P w K mg base 1 "told_prices" ["ways", "costs"] (spTold P w)) : FnOk P w K mg base CX0 7 f fd psAsk (spFewest C) := by
  refine okF F scFewest (fun vs H Q E h => ?_) (fun cdv A outer s H vs Q E hr h => ?_)
  · obtain ⟨b, a, c, wa, ls, s0, ks, wi, L, c0, rfl, _⟩ := h
    rfl
  · obtain ⟨b, a, c, wa, ls, s0, ks, wi, L, c0, rfl, ⟨hB, hS, hK, hW, hl, hz, hks, hL, hLz, hrun⟩, k⟩ := h
    have hu := hu16 hr
    have hud := hr.units
    refine ⟨_, pss_cons (ps_set (i := 5) scFewest.nd rfl (Or.inl rfl) (pe_cal G1 hr rfl (pa_cons (pv 0) (pa_cons (pv 1) (pa_cons (pv 2) (pa_cons (pv 4) pa_nil))))))
      (pss_cons (ps_set (i := 6) scFewest.nd rfl (Or.inl rfl) (pe_cal G2 (hr.mono (by decide)) rfl (pa_cons (pv 5) (pa_cons (pv 2) (pa_cons (pv 3) pa_nil)))))
      (pss_cons (ps_if (pt_cmp (pc_nnotin hu (pv 1) (pv 6))) (pss_one (ps_ret (pe_tup (pa_cons pe_str (pa_cons (pe_cal G3 (hr.mono (by decide)) rfl (pa_cons (pv 5) (pa_cons (pv 6) pa_nil))) pa_nil))))) pss_nil)
      (pss_cons (ps_set (i := 7) scFewest.nd rfl (Or.inl rfl) (pe_lst pa_nil))
      (pss_cons (ps_set (i := 8) scFewest.nd rfl (Or.inl rfl) (pv 1))
      (pss_cons (ps_while PassesOwn.never (pt_cmpR op_gt (pe_ix ix_tup (pe_ndget hu (pv 6) (pv 8) (fun _ _ => rfl)) pe_int (fun _ _ => rfl)) pe_int (nomark _))
        (pss_cons (ps_asg (pe_ndget hu (pv 6) (pv 8) (fun _ _ => rfl)) (pg2 (i := 9) (j := 10) rfl scFewest.nd rfl rfl (Or.inl rfl) (Or.inl rfl) (Or.inl rfl) (Or.inl rfl)))
        (pss_cons (ps_set (i := 11) scFewest.nd rfl (Or.inl rfl) (pe_lst pa_nil))
        (pss_cons (ps_for PassesOwn.never rfl (pi_zip rfl T.zip (pa_cons (pv 2) (pa_cons (pe_ndget hu (pv 5) (pv 8) (fun _ _ => rfl)) pa_nil))) (pg2 (i := 12) (j := 13) rfl scFewest.nd rfl rfl (Or.inl rfl) (Or.inl rfl) (Or.inl rfl) (Or.inl rfl))
          (pss_one (ps_if (PW.pt (pw_and (pt_cmp (pc_nin hu (pv 13) (pv 6))) (pw_and1 (pt_cmpR (op_eqD hud)
              (pe_tup (pa_cons (pe_op op_add (pe_ix ix_tup (pe_ndget hu (pv 6) (pv 13) (fun _ _ => rfl)) pe_int (fun _ _ => rfl)) (pe_callB call_len_seq (by rfl) T.len PySem.boot_len (pa_cons (pv 12) pa_nil)))
                (pa_cons (pe_op op_add (pe_ix ix_tup (pe_ndget hu (pv 6) (pv 13) (fun _ _ => rfl)) pe_int (fun _ _ => rfl)) pe_int) pa_nil)))
              (pe_tup (pa_cons (pv 9) (pa_cons (pv 10) pa_nil))) (nomark _)))))
            (pss_one (ps_expr (pe_bm PySem.F.plainAttrs_list PySem.F.slot_list_append PySem.F.type_list_append mt_append (pv 11) (pa_cons (pe_tup (pa_cons (pv 12) (pa_cons (pv 13) pa_nil))) pa_nil)))) pss_nil)))
        (pss_cons (ps_asg (pe_ix ix_list (pv 11) pe_int (fun _ _ => rfl)) (pg2 (i := 12) (j := 8) rfl scFewest.nd rfl rfl (Or.inl rfl) (Or.inl rfl) (Or.inl rfl) (Or.inl rfl)))
        (pss_one (ps_expr (pe_bm PySem.F.plainAttrs_list PySem.F.slot_list_append PySem.F.type_list_append mt_append (pv 7) (pa_cons (pe_callTy call_list_of (by rfl) T.lst (by decide +kernel) (pa_cons (pv 12) pa_nil)) pa_nil)))))))))
      (pss_one (ps_ret (pe_tup (pa_cons pe_str (pa_cons (pv 7) pa_nil)))))))))), ?_⟩
    refine ⟨_, rfl, _, rfl, _, rfl, _, rfl, b, a, c, 200, ls, s0, ks, L, rfl, hB, hS, hK, hl, hz, hks, hL, by omega, by omega, fun wy kw H1 s1 hwy dW wW => ?_⟩
    refine ⟨_, rfl, _, rfl, _, rfl, wy, c, wa, kw, ls, ks, L, wi, c0, rfl, dW, wW, hK.same s1, hW.same s1, hL.nodup, by omega, hks, fun s hs => by rw [hL.len hs]; exact hz, hrun, fun p kvs H2 s2 hp dP cP => ?_⟩
    have s02 := s1.trans s2
    have dW2 := dW.same s2
    have wW2 := wW.same s2
    refine ⟨_, rfl, _, rfl, p, _, rfl, NGet.of dP.rd (hS.same s02) rfl, _, rfl, ?_⟩
    cases e0 : c0 s0 with
    | none =>
      rw [cP.no _ e0]
      refine iteT ?_
      refine ⟨_, rfl, _, rfl, wy, p, kw, kvs, L, c0, rfl, dW2, wW.keys, dP, cP, ?_, by omega, fun r H3 s3 hr3 tl => ?_⟩
      · obtain ⟨φ, e⟩ := dW.ext
        exact ne_of_none e hp
      · refine ⟨by show 2 ≤ sizeLine; decide, fun t ht => ?_⟩
        have nt : New H3 (upd H3 t (.tup [.str "never", .ref r])) t := New.upd ht
        have s03 := s02.trans s3
        exact k t _ (s03.trans nt.same) (s03.free ht) (.inl ⟨e0, r, upd_same, s02.free hr3, tl.same nt.same⟩)
    | some a0 =>
      obtain ⟨r0, hr0, hc0⟩ := cP.at_ _ _ e0
      rw [hr0]
      refine iteF ?_
      obtain ⟨row, hrow⟩ := rowOf_ex hrun.costs a0.2 s0 a0 e0 rfl
      refine ⟨Nat.zero_le _, fun F hF => ?_⟩
      have nF : New H2 (upd H2 F (.lst [])) F := New.upd hF
      refine ⟨_, rfl, ?_⟩
      obtain ⟨as, hc, hcs⟩ := id hK
      refine ⟨fun mm σ H' => ∃ (q : Addr) (s : Sg) (done rem : List (List Str)) (rs : List Addr) (v9 v10 v11 v12 v13 : Option V), mm = rem.length ∧ σ = [some (.ref b), some (.ref a), some (.ref c), some (.ref wa), some (.int 200), some (.ref wy), some (.ref p), some (.ref F), some (.ref q), v9, v10, v11, v12, v13] ∧
          Same H2 H' ∧ StA H' q s ∧ s ∈ L ∧ RowOf ls ks c0 s rem ∧ row = done ++ rem ∧ H' F = some (.lst (rs.map V.ref)) ∧ Paired (fun a k => a ≠ F ∧ H a = none ∧ SkA H' a k) rs done,
        ⟨row.length, a, s0, [], row, [], none, none, none, none, none, rfl, rfl, nF.same, (hS.same s02).same nF.same, hL.mem0, hrow, rfl, upd_same, .nil⟩, ?_⟩
      rintro mm σ H3 ⟨q, s, done, rem, rs, v9, v10, v11, v12, v13, rfl, rfl, s3, hq, hsL, hrem, erow, eF, pF⟩
      have dW3 := dW2.same s3
      have wW3 := wW2.same s3
      have dP3 := dP.same s3
      have cP3 := cP.keep (tps s3)
      obtain ⟨a1, ea1, _, _⟩ := hrem.sum
      obtain ⟨r1, hr1, hc1⟩ := cP3.at_ _ _ ea1
      refine ⟨_, rfl, _, rfl, p, _, rfl, NGet.of dP3.rd hq hr1, r1, _, 1, _, rfl, rfl, SqT.of hc1, rfl, _, _, rfl, rfl, _, rfl, ?_⟩
      cases hrem with
      | nil e =>
        rw [e] at ea1
        cases ea1
        refine iteDN (by decide) ?_
        refine ⟨_, rfl, by show 2 ≤ sizeLine; decide, fun t ht => ?_⟩
        have nt : New H3 (upd H3 t (.tup [.str "row", .ref F])) t := New.upd ht
        have s03 := s02.trans s3
        refine k t _ (s03.trans nt.same) (s03.free ht) (.inr ⟨F, rs, row, hrow, upd_same, s02.free hF, nt.same _ _ eF, ?_⟩)
        rw [erow, List.append_nil]
        exact pimp pF fun _ _ ⟨z1, z2, z3⟩ => ⟨z1, z2, z3.same nt.same⟩
      | @cons _ kk rest rem' _ ea2 hpos hfit htail =>
        rw [ea1] at ea2
        cases ea2
        refine iteD (by omega) ?_
        refine ⟨fun σ' H' => ∃ m', m' < (kk :: rem').length ∧ ∃ (q : Addr) (s : Sg) (done rem : List (List Str)) (rs : List Addr) (v9 v10 v11 v12 v13 : Option V), m' = rem.length ∧ σ' = [some (.ref b), some (.ref a), some (.ref c), some (.ref wa), some (.int 200), some (.ref wy), some (.ref p), some (.ref F), some (.ref q), v9, v10, v11, v12, v13] ∧
          Same H2 H' ∧ StA H' q s ∧ s ∈ L ∧ RowOf ls ks c0 s rem ∧ row = done ++ rem ∧ H' F = some (.lst (rs.map V.ref)) ∧ Paired (fun a k => a ≠ F ∧ H a = none ∧ SkA H' a k) rs done, fun _ _ z => z, ?_⟩
        -- calls, many = costs[here]
        refine ⟨_, rfl, _, rfl, p, _, rfl, NGet.of dP3.rd hq hr1, r1, _, rfl, SqT.of hc1, rfl, _, _, rfl, _, _, rfl, rfl, ?_⟩
        refine ⟨Nat.zero_le _, fun fa hfa => ?_⟩
        have nfa : New H3 (upd H3 fa (.lst [])) fa := New.upd hfa
        have efa : upd H3 fa (.lst []) fa = some (.lst []) := upd_same
        obtain ⟨H4, eH4⟩ : ∃ H4, upd H3 fa (.lst []) = H4 := ⟨_, rfl⟩
        rw [eH4] at nfa efa ⊢
        obtain ⟨i0, hi0⟩ := List.mem_iff_getElem?.mp hsL
        obtain ⟨kv, hkv, es, r, er, _, hr0'⟩ := pget2 wW3 hi0
        obtain ⟨s', v'⟩ := kv
        have es : s' = s := es
        have er : v' = .ref r := er
        subst es er
        have hval : valV kw s' = some (.ref r) := valV_at (by rw [wW3.keys]; exact hL.nodup) hkv
        obtain ⟨ts, hts, pts⟩ := hr0'
        have s34 := s3.trans nfa.same
        refine ⟨_, rfl, _, rfl, _, rfl, wy, _, rfl, NGet.of (dW3.same nfa.same).rd (hq.same nfa.same) hval, c, r, as.map V.ref, ts.map V.ref, rfl, SqL.of (s34 _ _ (s02 _ _ hc)), SqL.of (nfa.same _ _ hts), ?_⟩
        have hlz2 : ks.length = min (as.map V.ref).length (ts.map V.ref).length := by
          rw [List.length_map, List.length_map, plen hcs, plen pts]
          unfold su
          rw [List.length_map]
          omega
        refine for_it (walk_zip hlz2) (fun i σ' H' => ∃ (v12 v13 : Option V) (fs : List Addr), σ' = [some (.ref b), some (.ref a), some (.ref c), some (.ref wa), some (.int 200), some (.ref wy), some (.ref p), some (.ref F), some (.ref q), some (.int ((a1.1 : Nat) : Int)), some (.int ((a1.2 : Nat) : Int)), some (.ref fa), v12, v13] ∧
            Same H3 H' ∧ H' fa = some (.lst (fs.map V.ref)) ∧ Paired (fun x kk => ∃ qk u, qk ≠ fa ∧ H' x = some (.tup [.ref qk, .ref u]) ∧ SkA H' qk kk ∧ StA H' u (callS ls s' kk)) fs (fits ls (ks.take i) c0 s'))
          ⟨v12, v13, [], rfl, nfa.same, efa, .nil⟩ (fun i σ' H' _ ⟨_, _, _, _, s6, _⟩ => ⟨SqL.of ((s3.trans s6) _ _ (s02 _ _ hc)), SqL.of (s6 _ _ hts)⟩) ?_ ?_
        · rintro i x σ' H6 H7 hi ⟨v12, v13, fs, rfl, s6, efa6, pfs⟩ ⟨Tp, x1, y1, rfl, hTp, rfl, hx1, hy1⟩
          obtain ⟨qk, k1, rfl, hqk, hkk, hsk⟩ := skA_get hcs hx1
          obtain ⟨u, hu1, rfl⟩ := mget hy1
          obtain ⟨su', hsu, hst2⟩ := pget pts hu1
          have esu : su' = callS ls s' k1 := by
            unfold su at hsu
            rw [List.getElem?_map, hkk] at hsu
            exact (Option.some.inj hsu).symm
          subst esu
          have nT : New H6 (upd H6 Tp (.tup [.ref qk, .ref u])) Tp := New.upd hTp
          have eT : upd H6 Tp (.tup [.ref qk, .ref u]) Tp = some (.tup [.ref qk, .ref u]) := upd_same
          obtain ⟨H7, eH7⟩ : ∃ H7, upd H6 Tp (.tup [.ref qk, .ref u]) = H7 := ⟨_, rfl⟩
          rw [eH7] at nT eT ⊢
          have s7 := s6.trans nT.same
          have dP7 := dP3.same s7
          have cP7 := cP3.keep (tps s7)
          have eTk : fits ls (ks.take (i + 1)) c0 s' = fits ls (ks.take i) c0 s' ++ (if fitK ls c0 s' k1 = true then [k1] else []) := by
            unfold fits
            rw [take_snoc hkk, List.filter_append]
            congr 1
            by_cases h1 : fitK ls c0 s' k1 = true <;> simp [h1]
          have hu7 : StA H7 u (callS ls s' k1) := hst2.same s7
          have hsk7 : SkA H7 qk k1 := hsk.same (s02.trans (s3.trans s7))
          have pfs7 := pimp pfs fun x kk (z : ∃ qk u, qk ≠ fa ∧ H6 x = some (.tup [.ref qk, .ref u]) ∧ SkA H6 qk kk ∧ StA H6 u (callS ls s' kk)) => (show ∃ qk u, qk ≠ fa ∧ H7 x = some (.tup [.ref qk, .ref u]) ∧ SkA H7 qk kk ∧ StA H7 u (callS ls s' kk) from let ⟨q1, u1, z0, z1, z2, z3⟩ := z; ⟨q1, u1, z0, nT.same _ _ z1, z2.same nT.same, z3.same nT.same⟩)
          have efa7 := nT.same _ _ efa6
          refine ⟨Tp, _, rfl, SqT.of eT, rfl, _, _, rfl, _, _, rfl, rfl, ?_⟩
          refine ⟨_, rfl, _, rfl, p, _, rfl, NGet.of dP7.rd hu7 rfl, _, rfl, ?_⟩
          cases eb : c0 (callS ls s' k1) with
          | none =>
            rw [cP7.no _ eb]
            refine iteF (iteF ?_)
            have hf : fitK ls c0 s' k1 = false := by
              unfold fitK
              rw [eb]
            exact ⟨_, _, fs, rfl, s7, efa7, by rw [eTk, hf, if_neg (by decide), List.append_nil]; exact pfs7⟩
          | some bb =>
            obtain ⟨rb, hrb, hcb⟩ := cP7.at_ _ _ eb
            rw [hrb]
            refine iteT ?_
            refine ⟨_, rfl, _, rfl, p, _, rfl, NGet.of dP7.rd hu7 hrb, rb, _, 0, _, rfl, rfl, SqT.of hcb, rfl, ?_⟩
            refine ⟨_, rfl, qk, _, rfl, .inl (SqL.of hsk7), _, _, rfl, rfl, ?_⟩
            refine ⟨_, rfl, _, rfl, p, _, rfl, NGet.of dP7.rd hu7 hrb, rb, _, 1, _, rfl, rfl, SqT.of hcb, rfl, _, _, rfl, rfl, ?_⟩
            refine ⟨by show 2 ≤ sizeLine; decide, fun nw hnw => ?_⟩
            have eV : (HO.tup [V.int (((bb.1 : Nat) : Int) + (((k1.map V.str).length : Nat) : Int)), V.int (((bb.2 : Nat) : Int) + 1)]) = .tup [.int ((via bb k1.length).1 : Nat), .int ((via bb k1.length).2 : Nat)] := by
              rw [List.length_map]
              rfl
            rw [eV]
            have nN : New H7 (upd H7 nw (.tup [.int ((via bb k1.length).1 : Nat), .int ((via bb k1.length).2 : Nat)])) nw := New.upd hnw
            have eN : upd H7 nw (.tup [.int ((via bb k1.length).1 : Nat), .int ((via bb k1.length).2 : Nat)]) nw = some (.tup [.int ((via bb k1.length).1 : Nat), .int ((via bb k1.length).2 : Nat)]) := upd_same
            obtain ⟨H8, eH8⟩ : ∃ H8, upd H7 nw (.tup [.int ((via bb k1.length).1 : Nat), .int ((via bb k1.length).2 : Nat)]) = H8 := ⟨_, rfl⟩
            rw [eH8] at nN eN ⊢
            refine ⟨_, rfl, _, rfl, by show 2 ≤ sizeLine; decide, fun nx hnx => ?_⟩
            have nX : New H8 (upd H8 nx (.tup [.int ((a1.1 : Nat) : Int), .int ((a1.2 : Nat) : Int)])) nx := New.upd hnx
            have eX : upd H8 nx (.tup [.int ((a1.1 : Nat) : Int), .int ((a1.2 : Nat) : Int)]) nx = some (.tup [.int ((a1.1 : Nat) : Int), .int ((a1.2 : Nat) : Int)]) := upd_same
            obtain ⟨H9, eH9⟩ : ∃ H9, upd H8 nx (.tup [.int ((a1.1 : Nat) : Int), .int ((a1.2 : Nat) : Int)]) = H9 := ⟨_, rfl⟩
            rw [eH9] at nX eX ⊢
            have s79 := nN.same.trans nX.same
            refine ⟨_, _, .tup (SqT.of (nX.same _ _ eN)) (.cons (.int _) (.cons (.int _) .nil)), .tup (SqT.of eX) (.cons (.int _) (.cons (.int _) .nil)), shaped_cost _ _, shaped_cost _ _, _, rfl, ?_⟩
            rw [eqv_cost]
            have hf : fitK ls c0 s' k1 = decide (via bb k1.length = a1) := by
              unfold fitK
              rw [eb, ea1]
              simp only [Option.some.injEq]
            have pfs9 := pimp pfs7 fun x kk (z : ∃ qk u, qk ≠ fa ∧ H7 x = some (.tup [.ref qk, .ref u]) ∧ SkA H7 qk kk ∧ StA H7 u (callS ls s' kk)) => (show ∃ qk u, qk ≠ fa ∧ H9 x = some (.tup [.ref qk, .ref u]) ∧ SkA H9 qk kk ∧ StA H9 u (callS ls s' kk) from let ⟨q1, u1, z0, z1, z2, z3⟩ := z; ⟨q1, u1, z0, s79 _ _ z1, z2.same s79, z3.same s79⟩)
            have efa9 := s79 _ _ efa7
            have s9 := s7.trans s79
            by_cases hv : via bb k1.length = a1
            · refine iteD hv ?_
              refine ⟨_, rfl, .inl ⟨rfl, _, SqL.of efa9⟩, _, rfl, _, rfl, by show 2 ≤ sizeLine; decide, fun e1 he1 => ?_⟩
              have nE : New H9 (upd H9 e1 (.tup [.ref qk, .ref u])) e1 := New.upd he1
              have eE : upd H9 e1 (.tup [.ref qk, .ref u]) e1 = some (.tup [.ref qk, .ref u]) := upd_same
              obtain ⟨H10, eH10⟩ : ∃ H10, upd H9 e1 (.tup [.ref qk, .ref u]) = H10 := ⟨_, rfl⟩
              rw [eH10] at nE eE ⊢
              have efa10 := nE.same _ _ efa9
              have lfs : (fs.map V.ref).length < sizeLine := by
                rw [List.length_map, plen pfs]
                have h1 := List.length_filter_le (fitK ls c0 s') (ks.take i)
                have h2 := List.length_take_le i ks
                have h3 : (ks.take i).length ≤ ks.length := by
                  rw [List.length_take]
                  omega
                unfold fits
                exact Nat.lt_of_le_of_lt (Nat.le_trans h1 (Nat.le_trans h3 hks)) (by decide)
              refine ⟨fa, _, _, rfl, rfl, efa10, lfs, ?_⟩
              have tU : Tups H10 (upd H10 fa (.lst (fs.map V.ref ++ [.ref e1]))) := tups_lst efa10
              have sU : ∀ b' o, b' ≠ fa → H10 b' = some o → upd H10 fa (.lst (fs.map V.ref ++ [.ref e1])) b' = some o := SameX.upd
              have hqkne : qk ≠ fa := ne_of_none (hsk.same (s02.trans s3)) hfa
              refine ⟨_, _, fs ++ [e1], rfl, same_upd (s9.trans nE.same) hfa, by rw [upd_same, List.map_append]; rfl, ?_⟩
              rw [eTk, hf, decide_eq_true hv, if_pos rfl]
              refine psnoc (pimp pfs9 fun x kk z => ?_) ?_
              · obtain ⟨q1, u1, z0, z1, z2, z3⟩ := z
                exact ⟨q1, u1, z0, tU _ _ (nE.same _ _ z1), sU _ _ z0 (nE.same _ _ z2), (z3.same nE.same).keep tU⟩
              · exact ⟨qk, u, hqkne, tU _ _ eE, sU _ _ hqkne (nE.same _ _ (s79 _ _ hsk7)), ((hu7.same s79).same nE.same).keep tU⟩
            · refine iteDN hv ?_
              exact ⟨_, _, fs, rfl, s9, efa9, by rw [eTk, hf, decide_eq_false hv, if_neg (by decide), List.append_nil]; exact pfs9⟩
        · rintro σ' H6 ⟨v12, v13, fs, rfl, s6, efa6, pfs⟩
          rw [take_all rfl, hfit] at pfs
          cases pfs with
          | @cons x _ fs' _ hx pfs' =>
            obtain ⟨qk, u, _, ex, hsk, hu6⟩ := hx
            refine ⟨_, rfl, fa, _, 0, .ref x, rfl, rfl, SqL.of efa6, at_of (j := 0) rfl rfl, x, _, rfl, SqT.of ex, rfl, _, _, rfl, _, _, rfl, rfl, ?_⟩
            have eF6 := s6 _ _ eF
            refine ⟨_, rfl, .inl ⟨rfl, _, SqL.of eF6⟩, _, rfl, qk, _, rfl, .inl (SqL.of hsk), fun l hl => ?_⟩
            have nl : New H6 (upd H6 l (.lst (kk.map V.str))) l := New.upd hl
            have el : upd H6 l (.lst (kk.map V.str)) l = some (.lst (kk.map V.str)) := upd_same
            obtain ⟨H7, eH7⟩ : ∃ H7, upd H6 l (.lst (kk.map V.str)) = H7 := ⟨_, rfl⟩
            rw [eH7] at nl el ⊢
            have eF7 := nl.same _ _ eF6
            have hlF : l ≠ F := (ne_of_none eF6 hl).symm
            have lrs : (rs.map V.ref).length < sizeLine := by
              have h1 := hrow.short hrun.costs
              rw [erow, List.length_append] at h1
              rw [List.length_map, plen pF]
              exact Nat.lt_of_le_of_lt (show done.length ≤ 200 by omega) (by decide)
            refine ⟨F, _, _, rfl, rfl, eF7, lrs, ?_⟩
            have tU : Tups H7 (upd H7 F (.lst (rs.map V.ref ++ [.ref l]))) := tups_lst eF7
            have s67 := s3.trans (s6.trans nl.same)
            obtain ⟨bb, ebb, _⟩ := htail.sum
            refine ⟨rem'.length, Nat.lt_succ_self _, u, callS ls s' kk, done ++ [kk], rem', rs ++ [l], _, _, _, _, _, rfl, rfl, same_upd s67 hF, (hu6.same nl.same).keep tU, hrun.costs.gr.dom _ _ ebb, htail, by rw [erow, List.append_assoc]; rfl, by rw [upd_same, List.map_append]; rfl, ?_⟩
            refine psnoc (pimp pF fun x k z => ?_) ?_
            · obtain ⟨z1, z2, z3⟩ := z
              refine ⟨z1, z2, ?_⟩
              unfold SkA
              rw [upd_ne z1]
              exact nl.same _ _ (s6 _ _ z3)
            · refine ⟨hlF, ((s02.trans s3).trans s6).free hl, ?_⟩
              unfold SkA
              rw [upd_ne hlF]
              exact el
end
end L2.K87
set_option Elab.async false
set_option linter.all false
set_option autoImplicit false
set_option maxRecDepth 100000
set_option maxHeartbeats 4000000
namespace L2.K87
open PySem PySem.Spec PyProof.Rows
theorem iteNF {c : Prop} [Decidable c] {A B : Prop} (hc : c) (h : B) : if (!decide c) = true then A else B := by
  rw [decide_eq_true hc]
  exact iteF h
section
variable {P : Program} {w : World} {K : PySem.W.Frag} {mg : Str → Option Value} {base : Heap} {f C : Addr} {fd : FuncData}
/-! ### is_standing -/
def spStanding : Sp := fun vs H Q _ => ∃ (a l : Addr) (st : Sg), vs = [.ref a, .ref l] ∧ StA H a st ∧ H l = some (.lst ((st.map (·.1)).map V.str)) ∧ (∀ p ∈ st, 1 ≤ p.2) ∧ st.length ≤ 1000 ∧ ∀ H', Same H H' → Q (.bl true) H'
theorem scStanding : FnScope ["thing", "names", "at", "one"] ["thing", "names"] (defScope sis_standing) := ⟨rfl, rfl, rfl, by decide +kernel, rfl, by decide +kernel, by decide +kernel⟩
theorem isiT {H : Hp} {a : Addr} {xs : List V} (e : H a = some (.tup xs)) : TyX K H (.ref a) (.type "tuple") := .base (.tup e)
theorem ok_standing (F : FnP K "is_standing" "is_standing" sis_standing [] f fd) (T : Txt mg) (G : Cal P w K mg base 1 "is_whole" ["thing"] spWhole) : FnOk P w K mg base CX0 2 f fd ["thing", "names"] spStanding := by
  refine okF F scStanding (fun vs H Q E h => ?_) (fun cdv A outer s H vs Q E hr h => ?_)
  · obtain ⟨a, l, st, rfl, _⟩ := h
    rfl
  · obtain ⟨a, l, st, rfl, ⟨qs, ha, hq⟩, hl, hp, hz, k⟩ := h
    refine ⟨_, pss_cons (ps_if (PW.pt (pw_or (pt_not (pt_val (pe_callB call_isi (by rfl) T.isi (by decide +kernel) (pa_cons (pv 0) (pa_cons (pe_bltn (v := .ty "tuple") (by rfl) T.tup (by decide +kernel) rfl) pa_nil)))))
        (pw_or1 (pt_cmpR op_ne (pe_callB call_len_seq (by rfl) T.len PySem.boot_len (pa_cons (pv 0) pa_nil)) (pe_callB call_len_seq (by rfl) T.len PySem.boot_len (pa_cons (pv 1) pa_nil)) (nomark _))))) pss_never pss_nil)
      (pss_cons (ps_for PassesOwn.never rfl (pi_enumT rfl T.enm (pa_cons (pv 0) pa_nil)) (pg2 (i := 2) (j := 3) rfl scStanding.nd rfl rfl (Or.inl rfl) (Or.inl rfl) (Or.inl rfl) (Or.inl rfl))
        (pss_cons (ps_if (PW.pt (pw_or (pt_not (pt_val (pe_callB call_isi (by rfl) T.isi (by decide +kernel) (pa_cons (pv 3) (pa_cons (pe_bltn (v := .ty "tuple") (by rfl) T.tup (by decide +kernel) rfl) pa_nil)))))
            (pw_or (pt_cmpR op_ne (pe_callB call_len_seq (by rfl) T.len PySem.boot_len (pa_cons (pv 3) pa_nil)) pe_int (nomark _))
              (pw_or1 (pt_cmpR op_ne (pe_ix ix_tup (pv 3) pe_int (fun _ _ => rfl)) (pe_ix ix_list (pv 1) (pv 2) (fun _ _ => rfl)) (nomark _)))))) pss_never pss_nil)
        (pss_one (ps_if (PW.pt (pw_or (pt_not (pt_val (pe_callB call_isi (by rfl) T.isi (by decide +kernel) (pa_cons (pe_ix ix_tup (pv 3) pe_int (fun _ _ => rfl)) (pa_cons (pe_bltn (v := .ty "str") (by rfl) T.str (by decide +kernel) rfl) pa_nil)))))
            (pw_or (pt_not (pt_val (pe_cal G hr rfl (pa_cons (pe_ix ix_tup (pv 3) pe_int (fun _ _ => rfl)) pa_nil))))
              (pw_or1 (pt_cmpR op_lt (pe_ix ix_tup (pv 3) pe_int (fun _ _ => rfl)) pe_int (nomark _)))))) pss_never pss_nil))))
      (pss_one (ps_ret pe_bl))), ?_⟩
    refine ⟨_, rfl, .ref a, .ty "tuple", .type "tuple", .type "tuple", true, rfl, .ty _, isiT ha, kit_ty (by decide +kernel), true, rfl, ?_⟩
    refine iteF ?_
    have hll : (qs.map V.ref).length = ((st.map (·.1)).map V.str).length := by rw [stA_len hq, List.length_map, List.length_map]
    refine ⟨_, rfl, a, _, rfl, .inr (SqT.of ha), _, rfl, l, _, rfl, .inl (SqL.of hl), rfl, _, rfl, ?_⟩
    rw [decI, hll]
    refine iteNF (by rfl) ?_
    refine ⟨_, rfl, a, _, rfl, SqT.of ha, for_it walk_enumT (fun i σ H' => ∃ v2 v3, σ = [some (.ref a), some (.ref l), v2, v3] ∧ Same H H') ⟨none, none, rfl, Same.refl _⟩ (fun i σ H' _ ⟨_, _, _, s'⟩ => SqT.of (s' _ _ ha)) ?_ ?_⟩
    · rintro i x σ H1 H2 hi ⟨v2, v3, rfl, s1⟩ ⟨Tp, x1, y1, rfl, hTp, rfl, hx1, hy1⟩
      obtain ⟨q, p, rfl, hqi, hpi, hpr⟩ := stA_get hq hy1
      cases hx1
      have nT : New H1 (upd H1 Tp (.tup [.int (i : Nat), .ref q])) Tp := New.upd hTp
      have s2 := s1.trans nT.same
      have hpr2 := s2 _ _ hpr
      refine ⟨Tp, _, rfl, SqT.of upd_same, rfl, _, _, rfl, _, _, rfl, rfl, ?_⟩
      refine ⟨_, rfl, .ref q, .ty "tuple", .type "tuple", .type "tuple", true, rfl, .ty _, isiT hpr2, kit_ty (by decide +kernel), true, rfl, ?_⟩
      refine iteF ?_
      refine ⟨_, rfl, q, _, rfl, .inr (SqT.of hpr2), rfl, _, rfl, ?_⟩
      refine iteNF (by rfl) ?_
      refine ⟨_, rfl, q, _, 0, _, rfl, rfl, SqT.of hpr2, rfl, ?_⟩
      refine ⟨_, rfl, _, rfl, l, _, _, .str p.1, rfl, rfl, SqL.of (s2 _ _ hl), at_of (j := i) rfl (by rw [List.getElem?_map, List.getElem?_map, hpi]; rfl), rfl, _, rfl, ?_⟩
      rw [decS]
      refine iteNF (by rfl) ?_
      refine ⟨_, rfl, q, _, 0, _, rfl, rfl, SqT.of hpr2, rfl, .str p.1, .ty "str", .type "str", .type "str", true, rfl, .ty _, .base (.str _), kit_ty (by decide +kernel), true, rfl, ?_⟩
      refine iteF ?_
      refine ⟨_, rfl, q, _, 1, _, rfl, rfl, SqT.of hpr2, rfl, p.2, rfl, true, rfl, ?_⟩
      refine iteF ?_
      refine ⟨_, rfl, q, _, 1, _, rfl, rfl, SqT.of hpr2, rfl, _, _, rfl, rfl, _, rfl, ?_⟩
      have h1 := hp p (List.mem_of_getElem? hpi)
      refine iteDN (by omega) ?_
      exact ⟨_, _, rfl, s2⟩
    · rintro σ H1 ⟨v2, v3, rfl, s1⟩
      exact k H1 s1
/-! ### is_bounded -/
def spBounded : Sp := fun vs H Q _ => ∃ (o b : Option Nat) (n : Nat), vs = [priV o, .int (n : Nat), priV b] ∧ (∀ y, b = some y → ∃ x, o = some x ∧ x ≤ n + y) ∧ Q (.bl true) H
theorem scBounded : FnScope ["price", "calls", "behind"] ["price", "calls", "behind"] (defScope sis_bounded) := ⟨rfl, rfl, rfl, by decide +kernel, rfl, by decide +kernel, by decide +kernel⟩
theorem ok_bounded (F : FnP K "is_bounded" "is_bounded" sis_bounded [] f fd) : FnOk P w K mg base CX0 1 f fd ["price", "calls", "behind"] spBounded := by
  refine okF F scBounded (fun vs H Q E h => ?_) (fun cdv A outer s H vs Q E hr h => ?_)
  · obtain ⟨o, b, n, rfl, _⟩ := h
    rfl
  · obtain ⟨o, b, n, rfl, hb, k⟩ := h
    refine ⟨_, pss_cons (ps_if (pt_cmpR op_isN (pv 2) pe_non (nomark _)) (pss_one (ps_ret pe_bl)) pss_nil)
      (pss_one (ps_ret (pe_and (pe_cmpR op_notN (pv 0) pe_non (nomark _)) (pe_one (pe_cmpR op_le (pv 0) (pe_op op_add (pv 1) (pv 2)) (nomark _)))))), ?_⟩
    cases b with
    | none =>
      refine ⟨_, rfl, rfl, _, rfl, ?_⟩
      exact iteT k
    | some y =>
      obtain ⟨x, rfl, hx⟩ := hb y rfl
      refine ⟨_, rfl, rfl, _, rfl, ?_⟩
      refine iteF ?_
      refine ⟨_, rfl, rfl, _, rfl, ?_⟩
      refine iteT ?_
      refine ⟨_, rfl, _, rfl, _, rfl, _, _, rfl, rfl, _, _, rfl, rfl, ?_⟩
      have e : decide (((x : Nat) : Int) ≤ ((n : Nat) : Int) + ((y : Nat) : Int)) = true := decide_eq_true (by omega)
      show Q (.bl (decide (((x : Nat) : Int) ≤ ((n : Nat) : Int) + ((y : Nat) : Int)))) H
      rw [e]
      exact k
end
end L2.K87
set_option Elab.async false
set_option linter.all false
set_option autoImplicit false
set_option maxRecDepth 100000
set_option maxHeartbeats 4000000
/-! len(book). -/
namespace L2.K87
open PySem PySem.Spec PyProof.Rows PySem.Calls Builtin
section
variable {X : Cx} {C : Addr} {k : Nat}
theorem call_lenB (G : MCal X.prog X.w X.K X.mg X.base C k "__len__" ["self"] (spBlen C)) (hr : Room (k + 1) X.A) : CallR X (.builtin "len") (fun xs H Q => ∃ (a : Addr) (ls : List Int), xs = [.ref a] ∧ BkA C H a ls ∧ ls.length ≤ 1000 ∧ Q (.int (ls.length : Int)) H) := by
  intro pins s σ H xs us Q I r h
  obtain ⟨a, ls, rfl, hB, hl, q⟩ := h
  obtain ⟨u, rfl, rx⟩ := vals1 r
  cases rx
  obtain ⟨f, fd, F, M, b⟩ := G.ex
  obtain ⟨dx, t, ha, ht⟩ := id hB
  obtain ⟨mA, J, _⟩ := ins_get I.hok ha
  obtain ⟨od, J, _⟩ := J.look
  refine Calls.call_function_entry kind_len plain_len entry_len (args_len1 _) ?_
  unfold Builtin.«len»
  refine wpAny_bind (m := oneArg "len" _) (wpAny_pure ?_)
  refine wpAny_bind (m := callSpecial? (.ref a) (Str.ofString "__len__")) (PySem.W.special_fn I.kIn J M.at_ (beq_iff_eq.mp M.fn) ?_)
  have e0 : Env0 X.prog X.w X.K X.mg X.base X.A.in1 X.stack s H := by
    have e := I.env0
    exact ⟨e.frames, e.mod, e.bs, e.bsz, e.funs, e.frf, e.hok, e.bare⟩
  have r2 : Vals [V.ref a] [Value.ref a] := .cons rfl .nil
  refine wpAny_call (codeAny_mono (F.run X.A.in1 X.stack s H ⟨[.ref a], []⟩ [.ref a] [.ref a] (fun v H' => v = .int (ls.length : Int) ∧ Q v H') E0 hr.in1 e0 (by
    have := b s [.ref a] I.kIn (by rfl)
    simpa using this) r2 ⟨a, ls, rfl, hB, rfl, q⟩) fun r s' hq => ?_)
  cases r with
  | error e => exact pass0 pins σ H s e s' I hq
  | ok fl =>
    cases fl with
    | ret u =>
      obtain ⟨v, H', I', rv, ev, qv⟩ := I.after hq
      subst ev
      obtain ⟨t', rfl⟩ := rv
      refine wpAny_bind (wpAny_holding (wpAny_pure ?_))
      refine wpAny_bind (wpAny_letGo ?_)
      show wpAny _ _ (if ((ls.length : Nat) : Int) < 0 then _ else _) _ _ _
      rw [if_neg (by omega)]
      show wpAny _ _ (if ((ls.length : Nat) : Int) ≥ 2 ^ 63 then _ else _) _ _ _
      rw [if_neg (by omega)]
      exact wpAny_bind (wpAny_mkInt (wpAny_pure ⟨_, rfl, .int (ls.length : Int), H', I'.tok _, ⟨_, rfl⟩, qv⟩))
    | next => exact False.elim hq
    | brk => exact False.elim hq
    | cont => exact False.elim hq
end
end L2.K87
set_option Elab.async false
set_option linter.all false
set_option autoImplicit false
set_option maxRecDepth 100000
set_option maxHeartbeats 4000000
namespace L2.K87
open PySem PySem.Spec PyProof.Rows
/-! ### two fors in one comprehension -/
theorem lc2_it {J : It} {n : Nat} {G : Hp → Prop} {Y : Nat → Hp → V → Hp → Prop} (wk : Walk J n G Y) {H2 : Hp} {Qd : Hp → Prop} {B : (Hp → Prop) → V → Hp → Prop} (Pv : Nat → Hp → Prop) (h0 : Pv 0 H2) (hG : ∀ i H, i ≤ n → Pv i H → G H)
    (hs : ∀ i x H H', i < n → Pv i H → Y i H x H' → B (Pv (i + 1)) x H') (hd : ∀ H, Pv n H → Qd H) :
    ∃ W : Nat → Nat → Hp → Prop, (∃ m, W 0 m H2) ∧ ∀ i m H, W i m H → (J.stop i H ∧ Qd H) ∨ (J.go i H ∧ ∃ Nx : Hp → Prop, (∀ H', Nx H' → ∃ m', m' < m ∧ W (i + 1) m' H') ∧ ∀ x H', J.yld i H x H' → B Nx x H') := by
  refine ⟨fun i m H => m = n - i ∧ i ≤ n ∧ Pv i H, ⟨n, by simp, Nat.zero_le _, h0⟩, ?_⟩
  rintro i m H ⟨rfl, hi, p⟩
  have q := hG i H hi p
  by_cases hlt : i < n
  · exact .inr ⟨wk.goes i H hlt q, Pv (i + 1), fun H' p' => ⟨n - (i + 1), by omega, rfl, hlt, p'⟩, fun x H' y => hs i x H H' hlt p (wk.yields i H x H' hlt q y)⟩
  · have e : i = n := by omega
    subst e
    exact .inl ⟨wk.stops H q, hd H p⟩
/-! ### data of texts -/
theorem eqvAll_strs : ∀ k : List Str, PyData.eqvAll (k.map PyData.str) (k.map PyData.str) = true
  | [] => rfl
  | x :: k => by
    rw [List.map_cons, PyData.eqvAll, eqvAll_strs k, PyData.eqv]
    simp
theorem shaped_strs {k : List Str} (h : ∀ x ∈ k, PyData.strOk x = true) : SeqAt.shaped (.list (k.map PyData.str)) = true := by
  have h1 : ∀ k : List Str, (∀ x ∈ k, PyData.strOk x = true) → PyData.canLayAll0 (k.map PyData.str) = true := by
    intro k
    induction k with
    | nil => intro _; rfl
    | cons x k ih =>
      intro h
      rw [List.map_cons, PyData.canLayAll0, ih fun y hy => h y (List.mem_cons_of_mem _ hy), PyData.canLay0, h x List.mem_cons_self]
      rfl
  have h2 : ∀ k : List Str, PyData.depthAll (k.map PyData.str) = 0 := by
    intro k
    induction k with
    | nil => rfl
    | cons x k ih =>
      rw [List.map_cons, PyData.depthAll, ih, PyData.depth]
      rfl
  unfold SeqAt.shaped
  rw [PyData.canLay0, h1 k h, PyData.depth, h2]
  rfl
theorem dp_strs {K : PySem.W.Frag} {H : Hp} : ∀ k : List Str, DpAll K H (k.map V.str) (k.map PyData.str)
  | [] => .nil
  | x :: k => .cons (.str x) (dp_strs k)
theorem IsNm.ok {x : Str} (h : IsNm x) : PyData.strOk x = true := by
  obtain ⟨_, _, h3⟩ := h
  unfold PyData.strOk
  rw [← Array.all_toList, List.all_eq_true]
  intro c hc
  have hm := h3 c hc
  have : ∀ c ∈ ("abcdefghijklmnopqrstuvwxyz" : Str).cps.toList, decide (c < 0x110000) = true := by decide +kernel
  exact this c hm
/-- what a wish names -/
def wnt : Wish → List Str
  | .groups _ => []
  | .together ns => ns
/-- a standing as the program's own hall makes it -/
structure GoodS (ls : List Int) (ks : List (List Str)) (wi : Wish) (st : Sg) : Prop where
  nm : ∀ p ∈ st, IsNm p.1
  nd : (st.map (·.1)).Nodup
  ri : (st.map (·.1)).Pairwise fun x y => leT x y = true
  le : st.length ≤ ls.length
  l2 : ls.length ≤ 1000
  pos : ∀ p ∈ st, 1 ≤ p.2
  sk : ∀ k ∈ ks, ∀ n ∈ k, n ∈ st.map (·.1)
  wn : ∀ n ∈ wnt wi, n ∈ st.map (·.1)
  kz : ks.length ≤ 1000
  kk : ∀ k ∈ ks, k.length ≤ 1000
  wz : (wnt wi).length ≤ 1000
theorem GoodS.lz {ls : List Int} {ks : List (List Str)} {wi : Wish} {st : Sg} (g : GoodS ls ks wi st) : st.length ≤ 1000 := Nat.le_trans g.le g.l2
theorem flat_le : ∀ {ks : List (List Str)} {m : Nat}, (∀ k ∈ ks, k.length ≤ m) → ks.flatten.length ≤ ks.length * m
  | [], m, _ => by simp
  | k :: ks, m, h => by
    have h1 := flat_le (ks := ks) (m := m) fun x hx => h x (List.mem_cons_of_mem _ hx)
    have h2 := h k List.mem_cons_self
    rw [List.flatten_cons, List.length_append, List.length_cons, Nat.add_mul]
    omega
end L2.K87
set_option Elab.async false
set_option linter.all false
set_option autoImplicit false
set_option maxRecDepth 100000
set_option maxHeartbeats 4000000
namespace L2.K87
open PySem PySem.Spec PyProof.Rows
theorem yesR {σ : St} {H : Hp} {F : Bool → Hp → Prop} (h : F true H) : tYes σ H F := h
section
variable {P : Program} {w : World} {K : PySem.W.Frag} {mg : Str → Option Value} {base : Heap} {f C : Addr} {fd : FuncData}
/-! ### is_priced -/
def spPriced (C : Addr) : Sp := fun vs H Q _ => ∃ (q b c wa : Addr) (p : Sg × Option Nat) (ls : List Int) (ks : List (List Str)) (wi : Wish), vs = [.ref q, .ref b, .ref c, .ref wa] ∧ PriA H q p ∧ BkA C H b ls ∧ SksA H c ks ∧ WiA H wa wi ∧ GoodS ls ks wi p.1 ∧ ∀ H', Same H H' → Q (.bl true) H'
theorem scPriced : FnScope ["thing", "book", "strokes", "wish", "names", "wanted", "one", "stroke", "name"] ["thing", "book", "strokes", "wish"] (defScope sis_priced) := ⟨rfl, rfl, rfl, by decide +kernel, rfl, by decide +kernel, by decide +kernel⟩
abbrev NPr : List Str := ["thing", "book", "strokes", "wish", "names", "wanted", "one", "stroke", "name"]
abbrev tIsi (K : PySem.W.Frag) (t : TE) (T : String) : TE := tCB (rIsi K) (tCons t (tCons (tC (.ty T)) tNil))
abbrev rLenS (K : PySem.W.Frag) : List V → Hp → VK → Prop := fun xs H Q => ∃ p ys, xs = [.ref p] ∧ (SqL K H p ys ∨ SqT K H p ys) ∧ Q (.int ys.length) H
theorem ok_priced (F : FnP K "is_priced" "is_priced" sis_priced [] f fd) (T : Txt mg) (G1 : Cal P w K mg base 1 "is_whole" ["thing"] spWhole) (G2 : Cal P w K mg base 1 "is_name" ["thing"] spName) (G3 : Cal P w K mg base 2 "is_standing" ["thing", "names"] spStanding)
    (GB : MCal P w K mg base C 1 "__len__" ["self"] (spBlen C)) : FnOk P w K mg base CX0 3 f fd ["thing", "book", "strokes", "wish"] (spPriced C) := by
  refine okF F scPriced (fun vs H Q E h => ?_) (fun cdv A outer s H vs Q E hr h => ?_)
  · obtain ⟨q, b, c, wa, p, ls, ks, wi, rfl, _⟩ := h
    rfl
  · obtain ⟨q, b, c, wa, p, ls, ks, wi, rfl, ⟨a, hpr, qs, ha, hq⟩, hB, hK, hW, g, k⟩ := h
    have hu := hu16 hr
    have hud := hr.units
    have hr1 := hr.mono (show 1 ≤ 2 by decide)
    refine ⟨_, pss_cons (ps_if (PW.pt (pw_or (pt_not (pt_val (pe_callB call_isi (by rfl) T.isi (by decide +kernel) (pa_cons (pv 0) (pa_cons (pe_bltn (v := .ty "tuple") (by rfl) T.tup (by decide +kernel) rfl) pa_nil)))))
        (pw_or (pt_cmpR op_ne (pe_callB call_len_seq (by rfl) T.len PySem.boot_len (pa_cons (pv 0) pa_nil)) pe_int (nomark _))
          (pw_or1 (pt_not (pt_val (pe_callB call_isi (by rfl) T.isi (by decide +kernel) (pa_cons (pe_ix ix_tup (pv 0) pe_int (fun _ _ => rfl)) (pa_cons (pe_bltn (v := .ty "tuple") (by rfl) T.tup (by decide +kernel) rfl) pa_nil))))))))) pss_never pss_nil)
      (pss_cons (ps_if (pt_not (pt_val (pe_callB (cr_all rfl) (by rfl) T.all (by decide +kernel) (pa_cons (pe_lc (own := [("one", 6)]) (g := gName 6) (tt := tYes)
          (te := tAndV (tIsi K (tVar 6) "tuple") (tAndV (tOp rEq (tCB (rLenS K) (tCons (tVar 6) tNil)) (tC (.int 2))) (tCall spName [] E0 (tCons (tOp (rIxT K) (tVar 6) (tC (.int 0))) tNil)))) rfl scPriced.nd (pi_tup (pe_ix ix_tup (pv 0) pe_int (fun _ _ => rfl)))
          (blkOk_by (N := NPr) (sc := defScope sis_priced) (by decide +kernel)) (fun _ _ _ _ _ => pg_name (i := 6) scPriced.nd rfl (Or.inl rfl) (Or.inr rfl)) (fun _ _ _ _ _ => pts_nil)
          (fun _ _ _ _ _ => pe_and (pe_callB call_isi (by rfl) T.isi (by decide +kernel) (pa_cons (pv 6) (pa_cons (pe_bltn (v := .ty "tuple") (by rfl) T.tup (by decide +kernel) rfl) pa_nil)))
            (pe_and (pe_cmpR op_eq (pe_callB call_len_seq (by rfl) T.len PySem.boot_len (pa_cons (pv 6) pa_nil)) pe_int (nomark _)) (pe_one (pe_cal G2 hr1 rfl (pa_cons (pe_ix ix_tup (pv 6) pe_int (fun _ _ => rfl)) pa_nil)))))) pa_nil)))) pss_never pss_nil)
      (pss_cons (ps_set (i := 4) scPriced.nd rfl (Or.inr rfl) (pe_lc (own := [("one", 6)]) (g := gName 6) (tt := tYes) (te := tOp (rIxT K) (tVar 6) (tC (.int 0))) rfl scPriced.nd (pi_tup (pe_ix ix_tup (pv 0) pe_int (fun _ _ => rfl)))
          (blkOk_by (N := NPr) (sc := defScope sis_priced) (by decide +kernel)) (fun _ _ _ _ _ => pg_name (i := 6) scPriced.nd rfl (Or.inl rfl) (Or.inr rfl)) (fun _ _ _ _ _ => pts_nil) (fun _ _ _ _ _ => pe_ix ix_tup (pv 6) pe_int (fun _ _ => rfl))))
      (pss_cons (ps_if (PW.pt (pw_or (pt_cmpR (op_neD hud) (pv 4) (pe_sortSet hu rfl T.srt rfl T.set (pv 4)) (nomark _))
          (pw_or (pt_cmpR op_gt (pe_callB call_len_seq (by rfl) T.len PySem.boot_len (pa_cons (pv 4) pa_nil)) (pe_callB (call_lenB GB hr) (by rfl) T.len PySem.boot_len (pa_cons (pv 1) pa_nil)) (nomark _))
            (pw_or1 (pt_not (pt_val (pe_cal G3 hr rfl (pa_cons (pe_ix ix_tup (pv 0) pe_int (fun _ _ => rfl)) (pa_cons (pv 4) pa_nil)))))))) ) pss_never pss_nil)
      (pss_cons (ps_setLc2 (i := 5) (own := [("stroke", 7), ("name", 8)]) (vs1 := [8]) (g := gName 7) (tt := tYes) (wi1 := iList K (tVar 7)) (g1 := gName 8) (tt1 := tYes) (te := tVar 8) rfl scPriced.nd rfl rfl (sw_true rfl rfl rfl (by decide +kernel)) (pi_list (pv 2))
          (blkOk_by (N := NPr) (sc := defScope sis_priced) (by decide +kernel)) (by decide) (fun _ _ _ _ _ => pg_name (i := 7) scPriced.nd rfl (Or.inl rfl) (Or.inr rfl)) (fun _ _ _ _ _ => pts_nil) (fun _ _ _ _ _ => pi_list (pv 7))
          (fun _ _ _ _ _ => pg_name (i := 8) scPriced.nd rfl (Or.inl rfl) (Or.inr rfl)) (fun _ _ _ _ _ => pts_nil) (fun _ _ _ _ _ => pv 8))
      (pss_cons (ps_if (pt_cmpR op_eq (pe_ix ix_tup (pv 3) pe_int (fun _ _ => rfl)) pe_str (nomark _)) (pss_one (ps_set (i := 5) scPriced.nd rfl (Or.inl rfl) (pe_op op_cat (pv 5) (pe_ix ix_tup (pv 3) pe_int (fun _ _ => rfl))))) pss_nil)
      (pss_cons (ps_if (pt_not (pt_val (pe_callB (cr_all rfl) (by rfl) T.all (by decide +kernel) (pa_cons (pe_lc (own := [("name", 8)]) (g := gName 8) (tt := tYes) (te := tOp (rIn K false) (tVar 8) (tVar 4)) rfl scPriced.nd (pi_list (pv 5))
          (blkOk_by (N := NPr) (sc := defScope sis_priced) (by decide +kernel)) (fun _ _ _ _ _ => pg_name (i := 8) scPriced.nd rfl (Or.inl rfl) (Or.inr rfl)) (fun _ _ _ _ _ => pts_nil) (fun _ _ _ _ _ => pe_cmpR op_in_seq (pv 8) (pv 4) rfl)) pa_nil)))) pss_never pss_nil)
      (pss_one (ps_ret (pe_or (pe_cmpR op_isN (pe_ix ix_tup (pv 0) pe_int (fun _ _ => rfl)) pe_non (nomark _)) (pe_one (pe_and (pe_cal G1 hr1 rfl (pa_cons (pe_ix ix_tup (pv 0) pe_int (fun _ _ => rfl)) pa_nil)) (pe_one (pe_cmpR op_ge (pe_ix ix_tup (pv 0) pe_int (fun _ _ => rfl)) pe_int (nomark _)))))))))))))), ?_⟩
    have hz := g.lz
    have hn : (qs.map V.ref).length ≤ sizeLine := by rw [stA_len hq]; exact Nat.le_trans hz (by decide)
    refine ⟨_, rfl, .ref q, .ty "tuple", .type "tuple", .type "tuple", true, rfl, .ty _, isiT hpr, kit_ty (by decide +kernel), true, rfl, ?_⟩
    refine iteF ?_
    refine ⟨_, rfl, q, _, rfl, .inr (SqT.of hpr), rfl, _, rfl, ?_⟩
    refine iteNF (by rfl) ?_
    refine ⟨_, rfl, q, _, 0, _, rfl, rfl, SqT.of hpr, rfl, .ref a, .ty "tuple", .type "tuple", .type "tuple", true, rfl, .ty _, isiT ha, kit_ty (by decide +kernel), true, rfl, ?_⟩
    refine iteF ?_
    -- all are pairs of a name and something
    refine ⟨_, rfl, q, _, 0, _, rfl, rfl, SqT.of hpr, rfl, a, rfl, ⟨_, SqT.of ha⟩, fun D1 hD1 => ?_⟩
    refine lcT walk_tup hD1 (fun i H ys => ys = List.replicate i (.bl true)) (fun _ _ _ _ _ e => e) (fun H' s => SqT.of (s _ _ ha)) rfl (fun i H ys e => by rw [e, List.length_replicate]; exact Nat.le_refl _) hn ?_ ?_
    · rintro i x _ H1 ys Yes No hi s1 rfl ⟨rfl, hx⟩ yes no
      obtain ⟨q1, p1, rfl, hqi, hpi, hp1⟩ := stA_get hq hx
      have hp2 := s1 _ _ hp1
      refine ⟨rfl, yesT ?_⟩
      refine ⟨_, rfl, .ref q1, .ty "tuple", .type "tuple", .type "tuple", true, rfl, .ty _, isiT hp2, kit_ty (by decide +kernel), true, rfl, ?_⟩
      refine iteT ?_
      refine ⟨_, rfl, q1, _, rfl, .inr (SqT.of hp2), rfl, _, rfl, ?_⟩
      refine iteD (by rfl) ?_
      refine ⟨_, rfl, q1, _, 0, _, rfl, rfl, SqT.of hp2, rfl, p1.1, rfl, g.nm p1 (List.mem_of_getElem? hpi), fun H' s' => ?_⟩
      exact yes _ _ s' (by rw [List.replicate_succ'])
    rintro H1 ys1 s1 e1 rfl
    refine ⟨D1, List.replicate (qs.map V.ref).length true, rfl, SqL.of (by rw [e1, List.map_replicate]), ?_⟩
    have ea : (List.replicate (qs.map V.ref).length true).all id = true := by simp
    rw [ea]
    refine ⟨true, rfl, ?_⟩
    refine iteF ?_
    -- the names
    have hpr1 := s1 _ _ hpr
    have ha1 := s1 _ _ ha
    refine ⟨_, rfl, q, _, 0, _, rfl, rfl, SqT.of hpr1, rfl, a, rfl, ⟨_, SqT.of ha1⟩, fun D2 hD2 => ?_⟩
    refine lcT walk_tup hD2 (fun i H ys => ys = ((p.1.take i).map (·.1)).map V.str) (fun _ _ _ _ _ e => e) (fun H' s => SqT.of (s _ _ ha1)) rfl (fun i H ys e => by rw [e, List.length_map, List.length_map]; exact List.length_take_le _ _) hn ?_ ?_
    · rintro i x _ H2 ys Yes No hi s2 rfl ⟨rfl, hx⟩ yes no
      obtain ⟨q1, p1, rfl, hqi, hpi, hp1⟩ := stA_get hq hx
      have hp2 := s2 _ _ (s1 _ _ hp1)
      refine ⟨rfl, yesT ?_⟩
      refine ⟨_, rfl, q1, _, 0, _, rfl, rfl, SqT.of hp2, rfl, ?_⟩
      exact yes _ _ (Same.refl _) (by rw [take_snoc hpi, List.map_append, List.map_append]; rfl)
    rintro H2 ys2 s2 e2 rfl
    rw [take_all (stA_len hq)] at e2
    have s02 := s1.trans s2
    have hnz : (p.1.map (·.1)).length ≤ 1000 := by rw [List.length_map]; exact hz
    have hok : ∀ x ∈ p.1.map (·.1), PyData.strOk x = true := fun x hx => by
      obtain ⟨p1, hp1, rfl⟩ := List.mem_map.mp hx
      exact (g.nm p1 hp1).ok
    -- names != sorted(set(names))
    refine ⟨_, rfl, _, rfl, D2, p.1.map (·.1), rfl, SqL.of e2, g.nd, hnz, fun ys p3 pm pw hp3 => ?_⟩
    have eys : ys = p.1.map (·.1) := sorted_uniq pm pw g.ri
    subst eys
    have n3 : New H2 (upd H2 p3 (.lst ((p.1.map (·.1)).map V.str))) p3 := New.upd hp3
    have e3 : upd H2 p3 (.lst ((p.1.map (·.1)).map V.str)) p3 = some (.lst ((p.1.map (·.1)).map V.str)) := upd_same
    obtain ⟨H3, eH3⟩ : ∃ H3, upd H2 p3 (.lst ((p.1.map (·.1)).map V.str)) = H3 := ⟨_, rfl⟩
    rw [eH3] at n3 e3 ⊢
    have e2' := n3.same _ _ e2
    have s03 := s02.trans n3.same
    refine ⟨_, _, .lst (SqL.of e2') (dp_strs _), .lst (SqL.of e3) (dp_strs _), shaped_strs hok, shaped_strs hok, _, rfl, ?_⟩
    rw [PyData.eqv, eqvAll_strs]
    refine iteF ?_
    -- len(names) > len(book)
    refine ⟨_, rfl, D2, _, rfl, .inl (SqL.of e2'), _, rfl, b, ls, rfl, hB.same s03, g.l2, _, _, rfl, rfl, _, rfl, ?_⟩
    have hle := g.le
    refine iteDN (by rw [List.length_map, List.length_map]; omega) ?_
    -- not is_standing
    refine ⟨_, rfl, q, _, 0, _, rfl, rfl, SqT.of (s03 _ _ hpr), rfl, _, rfl, a, D2, p.1, rfl, ⟨qs, s03 _ _ ha, pimp hq fun _ _ z => z.keep (tps s03)⟩, e2', g.pos, hz, fun H4 s4 => ⟨true, rfl, ?_⟩⟩
    refine iteF ?_
    have s04 := s03.trans s4
    have e4 := s4 _ _ e2'
    -- wanted
    obtain ⟨as, hc, hcs⟩ := id hK
    refine ⟨_, rfl, c, rfl, ⟨_, SqL.of (s04 _ _ hc)⟩, fun D5 hD5 => ?_⟩
    have n5 : New H4 (upd H4 D5 (.lst [])) D5 := New.upd hD5
    refine lc2_it walk_list (fun i H' => Same H4 H' ∧ H' D5 = some (.lst ((ks.take i).flatten.map V.str))) ⟨n5.same, upd_same⟩ (fun i H' _ z => SqL.of (z.1 _ _ (s04 _ _ hc))) ?_ ?_
    · rintro i x _ H5 hi ⟨s5, e5⟩ ⟨rfl, hx⟩
      obtain ⟨qk, kk, rfl, hqk, hkk, hsk⟩ := skA_get hcs hx
      have hkm : kk ∈ ks := List.mem_of_getElem? hkk
      have eT : (ks.take (i + 1)).flatten = (ks.take i).flatten ++ kk := by
        rw [take_snoc hkk, List.flatten_append]
        simp
      refine ⟨rfl, yesR ?_⟩
      refine iteT ?_
      refine ⟨_, rfl, qk, rfl, ⟨kk.map V.str, SqL.of (hsk.same (s04.trans s5))⟩, ?_⟩
      refine lc2_it walk_list (fun j H' => Same H4 H' ∧ H' D5 = some (.lst (((ks.take i).flatten ++ kk.take j).map V.str))) ⟨s5, by rw [List.take_zero, List.append_nil]; exact e5⟩ (fun j H' _ z => SqL.of ((hsk.same s04).same z.1)) ?_ ?_
      · rintro j x _ H6 hj ⟨s6, e6⟩ ⟨rfl, hx6⟩
        obtain ⟨nm, hnm, rfl⟩ := mget hx6
        refine ⟨rfl, yesR ?_⟩
        refine iteT ?_
        refine ⟨_, rfl, _, e6, ?_, ?_, ?_⟩
        · rw [List.length_map, List.length_append]
          have h1 := flat_le (ks := ks.take i) (m := 1000) fun k hk => g.kk k (List.mem_of_mem_take hk)
          have h2 := g.kk kk hkm
          have h3 := g.kz
          have h4 : (ks.take i).length ≤ 1000 := by rw [List.length_take]; omega
          have h5 : (kk.take j).length ≤ 1000 := by rw [List.length_take]; omega
          have h6 : (ks.take i).length * 1000 ≤ 1000 * 1000 := Nat.mul_le_mul_right _ h4
          exact Nat.lt_of_le_of_lt (show _ ≤ 1001000 by omega) (by decide)
        · exact same_upd s6 hD5
        · rw [upd_same, take_snoc hnm, ← List.append_assoc, List.map_append (l₂ := [nm])]
          rfl
      · rintro H6 ⟨s6, e6⟩
        rw [take_all (l := kk) (by rw [List.length_map])] at e6
        exact ⟨s6, by rw [eT]; exact e6⟩
    rintro H5 ⟨s5, e5⟩
    rw [take_all (by rw [List.length_map, plen hcs])] at e5
    have s05 := s04.trans s5
    have hW5 := hW.same s05
    have hfz : ks.flatten.length ≤ 1000000 := by
      have h1 := flat_le (ks := ks) (m := 1000) g.kk
      have h3 := g.kz
      have h6 : ks.length * 1000 ≤ 1000 * 1000 := Nat.mul_le_mul_right _ h3
      omega
    have hsk5 : ∀ n ∈ ks.flatten, n ∈ p.1.map (·.1) := fun n hn => by
      obtain ⟨kk, hk1, hk2⟩ := List.mem_flatten.mp hn
      exact g.sk kk hk1 n hk2
    have hwn := g.wn
    have hwl := g.wz
    have e45 := s5 _ _ e4
    have ntg : ¬ (V.str "groups" = V.str "together") := fun z => gw (by injection z with z; exact z.symm)
    clear g
    cases wi
    case' groups n =>
      refine ⟨_, rfl, wa, _, 0, _, rfl, rfl, SqT.of hW5, rfl, rfl, _, rfl, ?_⟩
      refine iteDN ntg ?_
      have hws := hsk5
      have hwz : ks.flatten.length ≤ 1001000 := by omega
      have e6 := e5
      have s6 : Same H5 H5 := Same.refl _
      generalize ks.flatten = ws at hws hwz e6 ⊢
      generalize D5 = W at e6 ⊢
    case' together ns =>
      obtain ⟨l, hw1, hw2⟩ := hW5
      refine ⟨_, rfl, wa, _, 0, _, rfl, rfl, SqT.of hw1, rfl, rfl, _, rfl, ?_⟩
      refine iteD rfl ?_
      refine ⟨_, rfl, _, rfl, wa, _, 1, .ref l, rfl, rfl, SqT.of hw1, rfl, D5, l, _, _, rfl, rfl, e5, hw2, ?_, fun W hWn => ?_⟩
      · rw [List.length_map, List.length_map]
        have : ns.length ≤ 1000 := hwl
        exact Nat.le_trans (show _ ≤ 1001000 by omega) (by decide)
      have n6 : New H5 (upd H5 W (.lst (ks.flatten.map V.str ++ ns.map V.str))) W := New.upd hWn
      have e6 : upd H5 W (.lst (ks.flatten.map V.str ++ ns.map V.str)) W = some (.lst (ks.flatten.map V.str ++ ns.map V.str)) := upd_same
      have s6 := n6.same
      generalize upd H5 W (.lst (ks.flatten.map V.str ++ ns.map V.str)) = H6 at e6 s6 ⊢
      rw [← List.map_append] at e6
      have hws : ∀ n ∈ ks.flatten ++ ns, n ∈ p.1.map (·.1) := fun n hn => (List.mem_append.mp hn).elim (hsk5 n) (hwn n)
      have hwz : (ks.flatten ++ ns).length ≤ 1001000 := by
        rw [List.length_append]
        have : ns.length ≤ 1000 := hwl
        omega
      generalize ks.flatten ++ ns = ws at hws hwz e6 ⊢
    all_goals
      have e46 := s6 _ _ e45
      have s06 := s05.trans s6
      have hwsl : (ws.map V.str).length ≤ sizeLine := by
        rw [List.length_map]
        exact Nat.le_trans hwz (by decide)
      refine ⟨_, rfl, W, rfl, ⟨_, SqL.of e6⟩, fun D7 hD7 => ?_⟩
      refine lcT walk_list hD7 (fun i H ys => ys = List.replicate i (.bl true)) (fun _ _ _ _ _ e => e) (fun H' s => SqL.of (s _ _ e6)) rfl (fun i H ys e => by rw [e, List.length_replicate]; exact Nat.le_refl _) hwsl ?_ ?_
      · rintro i x _ H7 ys Yes No hi s7 rfl ⟨rfl, hx⟩ yes no
        obtain ⟨nm, hnm, rfl⟩ := mget hx
        refine ⟨rfl, yesT ?_⟩
        refine ⟨_, rfl, _, rfl, D2, _, rfl, .inl (SqL.of (s7 _ _ e46)), rfl, flat_strs _, ?_⟩
        rw [inV_str, decide_eq_true (hws nm (List.mem_of_getElem? hnm))]
        exact yes _ _ (Same.refl _) (by rw [List.replicate_succ']; rfl)
      rintro H7 ys7 s7 e7 rfl
      refine ⟨D7, List.replicate (ws.map V.str).length true, rfl, SqL.of (by rw [e7, List.map_replicate]), ?_⟩
      have ea7 : (List.replicate (ws.map V.str).length true).all id = true := by simp
      rw [ea7]
      refine ⟨true, rfl, ?_⟩
      refine iteF ?_
      have s07 := s06.trans s7
      cases ep : p.2 with
      | none =>
        have hp7 : H7 q = some (.tup [.ref a, .non]) := by
          have := s07 _ _ hpr
          rw [ep] at this
          exact this
        refine ⟨_, rfl, q, _, 1, _, rfl, rfl, SqT.of hp7, rfl, rfl, true, rfl, ?_⟩
        exact iteT (k _ s07)
      | some y =>
        have hp7 : H7 q = some (.tup [.ref a, .int (y : Nat)]) := by
          have := s07 _ _ hpr
          rw [ep] at this
          exact this
        refine ⟨_, rfl, q, _, 1, _, rfl, rfl, SqT.of hp7, rfl, rfl, false, rfl, ?_⟩
        refine iteF ?_
        refine ⟨_, rfl, q, _, 1, _, rfl, rfl, SqT.of hp7, rfl, (y : Int), rfl, true, rfl, ?_⟩
        refine iteT ?_
        refine ⟨_, rfl, q, _, 1, _, rfl, rfl, SqT.of hp7, rfl, _, _, rfl, rfl, ?_⟩
        show Q (.bl (decide (0 ≤ ((y : Nat) : Int)))) H7
        rw [decide_eq_true (by omega)]
        exact k _ s07
end
end L2.K87
set_option Elab.async false
set_option linter.all false
set_option autoImplicit false
set_option maxRecDepth 100000
set_option maxHeartbeats 4000000
namespace L2.K87
open PySem PySem.Spec PyProof.Rows
section
variable {P : Program} {w : World} {K : PySem.W.Frag} {mg : Str → Option Value} {base : Heap} {f C : Addr} {fd : FuncData}
/-! ### is_fair -/
structure FairL (ls : List Int) (ks : List (List Str)) (wi : Wish) (tl : List (Sg × Option Nat)) : Prop where
  len : tl.length ≤ 1000
  good : ∀ p ∈ tl, GoodS ls ks wi p.1
  nd : (tl.map (·.1)).Nodup
  mt : ∀ p ∈ tl, meetsS p.1 wi = true → p.2 = some 0
  st : ∀ p ∈ tl, ∀ k ∈ ks, ∃ o, (callS ls p.1 k, o) ∈ tl ∧ ∀ y, o = some y → ∃ x, p.2 = some x ∧ x ≤ k.length + y
def spFair (C : Addr) : Sp := fun vs H Q _ => ∃ (b c wa th : Addr) (tl : List (Sg × Option Nat)) (ls : List Int) (ks : List (List Str)) (wi : Wish), vs = [.ref b, .ref c, .ref wa, .ref th] ∧ BkA C H b ls ∧ SksA H c ks ∧ WiA H wa wi ∧ TolA H th tl ∧ ks.length ≤ 1000 ∧ FairL ls ks wi tl ∧ ∀ H', Same H H' → Q (.bl true) H'
abbrev NFa : List Str := ["book", "strokes", "wish", "thing", "there", "here", "price", "stroke", "behind", "one"]
theorem scFair : FnScope NFa ["book", "strokes", "wish", "thing"] (defScope sis_fair) := ⟨rfl, rfl, rfl, by decide +kernel, rfl, by decide +kernel, by decide +kernel⟩
def kvT (p : Sg × Option Nat) : Sg × V := (p.1, priV p.2)
theorem kvT_keys (tl : List (Sg × Option Nat)) : (tl.map kvT).map (·.1) = tl.map (·.1) := by
  rw [List.map_map]
  rfl
theorem kvT_val {tl : List (Sg × Option Nat)} (hn : (tl.map (·.1)).Nodup) {s : Sg} {o : Option Nat} (h : (s, o) ∈ tl) : valV (tl.map kvT) s = some (priV o) := by
  obtain ⟨i, hi⟩ := List.mem_iff_getElem?.mp h
  refine valV_at (i := i) (by rw [kvT_keys]; exact hn) ?_
  rw [List.getElem?_map, hi]
  rfl
theorem ok_fair (F : FnP K "is_fair" "is_fair" sis_fair [] f fd) (T : Txt mg) (G1 : Cal P w K mg base 3 "is_priced" ["thing", "book", "strokes", "wish"] (spPriced C)) (G2 : Cal P w K mg base 2 "meets" ["standing", "wish"] spMeets)
    (G3 : Cal P w K mg base 5 "called" ["book", "standing", "stroke"] (spCalled C)) (G4 : Cal P w K mg base 1 "is_bounded" ["price", "calls", "behind"] spBounded) : FnOk P w K mg base CX0 6 f fd ["book", "strokes", "wish", "thing"] (spFair C) := by
  refine okF F scFair (fun vs H Q E h => ?_) (fun cdv A outer s H vs Q E hr h => ?_)
  · obtain ⟨b, c, wa, th, tl, ls, ks, wi, rfl, _⟩ := h
    rfl
  · obtain ⟨b, c, wa, th, tl, ls, ks, wi, rfl, hB, hK, hW, ⟨ps, hth, hps⟩, hkz, g, k⟩ := h
    have hu := hu16 hr
    have hr1 := hr.mono (show 1 ≤ 5 by decide)
    have hr2 := hr.mono (show 2 ≤ 5 by decide)
    have hr3 := hr.mono (show 3 ≤ 5 by decide)
    refine ⟨_, pss_cons (ps_if (PW.pt (pw_or (pt_not (pt_val (pe_callB call_isi (by rfl) T.isi (by decide +kernel) (pa_cons (pv 3) (pa_cons (pe_bltn (v := .ty "list") (by rfl) T.lst (by decide +kernel) rfl) pa_nil)))))
        (pw_or1 (pt_not (pt_val (pe_callB (cr_all rfl) (by rfl) T.all (by decide +kernel) (pa_cons (pe_lc (own := [("one", 9)]) (g := gName 9) (tt := tYes) (te := tCall (spPriced C) [] E0 (tCons (tVar 9) (tCons (tVar 0) (tCons (tVar 1) (tCons (tVar 2) tNil))))) rfl scFair.nd (pi_list (pv 3))
          (blkOk_by (N := NFa) (sc := defScope sis_fair) (by decide +kernel)) (fun _ _ _ _ _ => pg_name (i := 9) scFair.nd rfl (Or.inl rfl) (Or.inr rfl)) (fun _ _ _ _ _ => pts_nil) (fun _ _ _ _ _ => pe_cal G1 hr3 rfl (pa_cons (pv 9) (pa_cons (pv 0) (pa_cons (pv 1) (pa_cons (pv 2) pa_nil)))))) pa_nil))))))) pss_never pss_nil)
      (pss_cons (ps_setNDc (i := 4) (own := [("here", 5), ("price", 6)]) (g := g2 K 5 6) (tt := tYes) (tk := tVar 5) (tv := tVar 6) rfl hu scFair.nd rfl rfl (swd_true rfl rfl rfl (by decide +kernel)) (pi_list (pv 3)) (blkOk_by (N := NFa) (sc := defScope sis_fair) (by decide +kernel))
        ⟨fun _ _ _ _ _ => pg2 (i := 5) (j := 6) rfl scFair.nd rfl rfl (Or.inl rfl) (Or.inl rfl) (Or.inr rfl) (Or.inr rfl), fun _ _ _ _ _ => pts_nil, fun _ _ _ _ _ => pv 5, fun _ _ _ _ _ => pv 6⟩)
      (pss_cons (ps_if (pt_cmpR op_lt (pe_callB call_len_dN (by rfl) T.len PySem.boot_len (pa_cons (pv 4) pa_nil)) (pe_callB call_len_seq (by rfl) T.len PySem.boot_len (pa_cons (pv 3) pa_nil)) (nomark _)) pss_never pss_nil)
      (pss_cons (ps_for PassesOwn.never rfl (pi_list (pv 3)) (pg2 (i := 5) (j := 6) rfl scFair.nd rfl rfl (Or.inl rfl) (Or.inl rfl) (Or.inl rfl) (Or.inl rfl))
        (pss_cons (ps_if (PW.pt (pw_and (pt_val (pe_cal G2 hr2 rfl (pa_cons (pv 5) (pa_cons (pv 2) pa_nil)))) (pw_and1 (pt_cmpR op_ne (pv 6) pe_int (nomark _))))) pss_never pss_nil)
        (pss_one (ps_for PassesOwn.never rfl (pi_list (pv 1)) (pg_name (i := 7) scFair.nd rfl (Or.inl rfl))
          (pss_cons (ps_set (i := 8) scFair.nd rfl (Or.inl rfl) (pe_ix ix_tup (pe_cal G3 hr rfl (pa_cons (pv 0) (pa_cons (pv 5) (pa_cons (pv 7) pa_nil)))) pe_int (fun _ _ => rfl)))
          (pss_one (ps_if (PW.pt (pw_or (pt_cmp (pc_nnotin hu (pv 8) (pv 4))) (pw_or1 (pt_not (pt_val (pe_cal G4 hr1 rfl (pa_cons (pv 6) (pa_cons (pe_callB call_len_seq (by rfl) T.len PySem.boot_len (pa_cons (pv 7) pa_nil)) (pa_cons (pe_ndget hu (pv 4) (pv 8) (fun _ _ => rfl)) pa_nil))))))))) pss_never pss_nil)))))))
      (pss_one (ps_ret pe_bl))))), ?_⟩
    have hn : (ps.map V.ref).length = tl.length := by rw [List.length_map, plen hps]
    have hnz : (ps.map V.ref).length ≤ sizeLine := by rw [hn]; exact Nat.le_trans g.len (by decide)
    obtain ⟨as, hc, hcs⟩ := id hK
    refine ⟨_, rfl, .ref th, .ty "list", .type "list", .type "list", true, rfl, .ty _, .base (.lst hth), kit_ty (by decide +kernel), true, rfl, ?_⟩
    refine iteF ?_
    refine ⟨_, rfl, th, rfl, ⟨_, SqL.of hth⟩, fun D1 hD1 => ?_⟩
    refine lcT walk_list hD1 (fun i H ys => ys = List.replicate i (.bl true)) (fun _ _ _ _ _ e => e) (fun H' s => SqL.of (s _ _ hth)) rfl (fun i H ys e => by rw [e, List.length_replicate]; exact Nat.le_refl _) hnz ?_ ?_
    · rintro i x _ H1 ys Yes No hi s1 rfl ⟨rfl, hx⟩ yes no
      obtain ⟨q, hq, rfl⟩ := mget hx
      obtain ⟨p, hp, hpr⟩ := pget hps hq
      refine ⟨rfl, yesT ?_⟩
      refine ⟨_, rfl, _, rfl, _, rfl, _, rfl, q, b, c, wa, p, ls, ks, wi, rfl, hpr.keep (tps s1), hB.same s1, hK.same s1, hW.same s1, g.good p (List.mem_of_getElem? hp), fun H' s' => ?_⟩
      exact yes _ _ s' (by rw [List.replicate_succ'])
    rintro H1 ys1 s1 e1 rfl
    refine ⟨D1, List.replicate (ps.map V.ref).length true, rfl, SqL.of (by rw [e1, List.map_replicate]), ?_⟩
    have ea : (List.replicate (ps.map V.ref).length true).all id = true := by simp
    rw [ea]
    refine ⟨true, rfl, ?_⟩
    refine iteF ?_
    -- there
    have hth1 := s1 _ _ hth
    refine ⟨_, rfl, th, rfl, ⟨_, SqL.of hth1⟩, fun D H2 nD dD => ?_⟩
    have hD1' : H1 D = none := nD.free
    have s02 := s1.trans nD.same
    have hth2 := s02 _ _ hth
    have keepD : ∀ {H3 : Hp}, KeepM [D] H2 H3 → Same H1 H3 := fun {H3} k3 b' o e => k3 b' o (by
      intro z
      have : b' = D := by simpa using z
      rw [this, hD1'] at e
      cases e) (nD.same _ _ e)
    refine ndc_it walk_list (fun i H' => KeepM [D] H2 H' ∧ Tups H2 H' ∧ DN P w H' D ((tl.take i).map kvT)) ⟨fun _ _ _ e => e, Tups.refl _, dD⟩ (fun i H' _ ⟨k3, _, _⟩ => SqL.of (keepD k3 _ _ hth1)) ?_ ?_
    · rintro i x _ H3 hi ⟨k3, t3, d3⟩ ⟨rfl, hx⟩
      obtain ⟨q, hq, rfl⟩ := mget hx
      obtain ⟨p, hp, a, hpq, hpa⟩ := pget hps hq
      have sX := s1.trans (keepD k3)
      refine ⟨q, _, rfl, SqT.of (sX _ _ hpq), rfl, _, _, rfl, _, _, rfl, rfl, rfl, yesR ?_⟩
      refine iteT ?_
      refine ⟨_, rfl, _, rfl, NPut.of d3 (hpa.same sX) ?_ fun H6 els6 t6 d6 => ?_⟩
      · rw [List.length_map, List.length_take]
        have := g.len
        exact Nat.lt_of_le_of_lt (show _ ≤ 1000 by omega) (by decide)
      · refine ⟨k3.trans (KeepM.els (by simp) els6), t3.trans t6, ?_⟩
        have hno : valV ((tl.take i).map kvT) p.1 = none := by
          cases e : valV ((tl.take i).map kvT) p.1 with
          | none => rfl
          | some v =>
            have m1 := valV_in e
            rw [kvT_keys, List.map_take] at m1
            exact absurd m1 (not_in_take g.nd (by rw [List.getElem?_map, hp]; rfl))
        rw [putK_new _ hno] at d6
        rw [take_snoc hp, List.map_append]
        exact d6
    rintro H3 ⟨k3, t3, d3⟩
    rw [take_all hn] at d3
    have sX := s1.trans (keepD k3)
    -- len(there) < len(thing)
    refine ⟨_, rfl, D, _, rfl, d3.rd, _, rfl, th, _, rfl, .inl (SqL.of (sX _ _ hth)), _, _, rfl, rfl, _, rfl, ?_⟩
    refine iteDN (by rw [List.length_map, hn]; omega) ?_
    -- the loops
    refine ⟨_, rfl, th, rfl, ⟨_, SqL.of (sX _ _ hth)⟩, for_it walk_list (fun i σ H' => ∃ v5 v6 v7 v8, σ = [some (.ref b), some (.ref c), some (.ref wa), some (.ref th), some (.ref D), v5, v6, v7, v8, none] ∧ Same H3 H')
      ⟨none, none, none, none, rfl, Same.refl _⟩ (fun i σ H' _ ⟨_, _, _, _, _, s'⟩ => SqL.of (s' _ _ (sX _ _ hth))) ?_ ?_⟩
    · rintro i x σ _ H4 hi ⟨v5, v6, v7, v8, rfl, s4⟩ ⟨rfl, hx⟩
      obtain ⟨q, hq, rfl⟩ := mget hx
      obtain ⟨p, hp, a, hpq, hpa⟩ := pget hps hq
      have hpm : p ∈ tl := List.mem_of_getElem? hp
      have gp := g.good p hpm
      have s04 := sX.trans s4
      refine ⟨q, _, rfl, SqT.of (s04 _ _ hpq), rfl, _, _, rfl, _, _, rfl, rfl, ?_⟩
      refine ⟨_, rfl, _, rfl, a, wa, p.1, wi, rfl, hpa.same s04, hW.same s04, gp.lz, fun H5 s5 => ⟨_, rfl, ?_⟩⟩
      have s05 := s04.trans s5
      have s35 := s4.trans s5
      cases hmt : meetsS p.1 wi
      case' true =>
        refine iteT ?_
        have ep := g.mt p hpm hmt
        refine ⟨_, rfl, (by rw [ep]; rfl), _, rfl, ?_⟩
        refine iteNF (by rw [ep]; rfl) ?_
      case' false =>
        refine iteF (iteF ?_)
      all_goals
        refine ⟨_, rfl, c, rfl, ⟨_, SqL.of (s05 _ _ hc)⟩, for_it walk_list (fun i σ H' => ∃ v7 v8, σ = [some (.ref b), some (.ref c), some (.ref wa), some (.ref th), some (.ref D), some (.ref a), some (priV p.2), v7, v8, none] ∧ Same H5 H') ⟨v7, v8, rfl, Same.refl _⟩
          (fun i σ H' _ ⟨_, _, _, s'⟩ => SqL.of (s' _ _ (s05 _ _ hc))) ?_ ?_⟩
        · rintro i x σ _ H6 hi ⟨v7, v8, rfl, s6⟩ ⟨rfl, hx⟩
          obtain ⟨qk, kk, rfl, hqk, hkk, hsk⟩ := skA_get hcs hx
          have hkm : kk ∈ ks := List.mem_of_getElem? hkk
          have s06 := s05.trans s6
          refine ⟨_, rfl, _, rfl, _, rfl, b, a, qk, ls, p.1, kk, rfl, hB.same s06, hpa.same s06, hsk.same s06, gp.le, gp.lz, fun t r l H7 s7 ht hr7 => ?_⟩
          refine ⟨t, _, 0, .ref r, rfl, rfl, SqT.of ht, rfl, ?_⟩
          have s37 := s35.trans (s6.trans s7)
          have d7 := d3.same s37
          obtain ⟨o, ho, hbd⟩ := g.st p hpm kk hkm
          have hval := kvT_val g.nd ho
          refine ⟨_, rfl, _, rfl, D, _, rfl, NGet.of d7.rd hr7 hval, _, rfl, ?_⟩
          refine iteF ?_
          refine ⟨_, rfl, _, rfl, qk, _, rfl, .inl (SqL.of (hsk.same (s06.trans s7))), _, rfl, _, rfl, D, _, rfl, NGet.of d7.rd hr7 hval, p.2, o, (kk.map V.str).length, rfl, by rw [List.length_map]; exact hbd, true, rfl, ?_⟩
          refine iteF ?_
          exact ⟨_, _, rfl, s6.trans s7⟩
        · rintro σ H6 ⟨v7, v8, rfl, s6⟩
          exact ⟨_, _, _, _, rfl, s35.trans s6⟩
    · rintro σ H4 ⟨v5, v6, v7, v8, rfl, s4⟩
      exact k H4 (sX.trans s4)
end
end L2.K87
set_option Elab.async false
set_option linter.all false
set_option autoImplicit false
set_option maxRecDepth 100000
set_option maxHeartbeats 4000000
/-! The law's bag, and what stands apart from it. -/
namespace L2.K87
open PySem PySem.Spec PyProof.Rows
/-- the heap without b -/
def Out (b : Addr) (H : Hp) : Hp := fun x => if x = b then none else H x
theorem out_ne {b x : Addr} {H : Hp} (h : x ≠ b) : Out b H x = H x := by
  unfold Out
  rw [if_neg h]
theorem out_at {b x : Addr} {H : Hp} {o : HO} (h : Out b H x = some o) : x ≠ b ∧ H x = some o := by
  unfold Out at h
  by_cases q : x = b
  · rw [if_pos q] at h
    cases h
  · rw [if_neg q] at h
    exact ⟨q, h⟩
theorem out_same (b : Addr) (H : Hp) : Same (Out b H) H := fun x o e => (out_at e).2
theorem SameX.out {b : Addr} {H H' : Hp} (s : SameX b H H') : Same (Out b H) (Out b H') := fun x o e => by
  obtain ⟨h1, h2⟩ := out_at e
  rw [out_ne h1]
  exact s x o h1 h2
theorem Same.out {b : Addr} {H H' : Hp} (s : Same H H') : Same (Out b H) (Out b H') := SameX.out (SameX.of s)
theorem out_out {b : Addr} {H : Hp} : Out b (Out b H) = Out b H := by
  funext x
  unfold Out
  split <;> rfl
/-- a bag -/
def BagA (c : Addr) (H : Hp) (b : Addr) : Prop := ∃ (x y : Int) (i : Nat) (cs : List Int), H b = some (.lst [.int x, .int y, .int (i : Nat), .ref c]) ∧ H c = some (.lst (cs.map V.int)) ∧ cs.length ≤ 63
theorem BagA.same {c : Addr} {H H' : Hp} {b : Addr} (h : BagA c H b) (s : Same H H') : BagA c H' b := by
  obtain ⟨x, y, i, cs, e1, e2, l⟩ := h
  exact ⟨x, y, i, cs, s _ _ e1, s _ _ e2, l⟩
theorem BagA.at_ {c : Addr} {H : Hp} {b : Addr} (h : BagA c H b) : ∃ o, H b = some o := by
  obtain ⟨_, _, _, _, e, _⟩ := h
  exact ⟨_, e⟩
theorem BagA.cell {c : Addr} {H : Hp} {b : Addr} (h : BagA c H b) : ∃ o, H c = some o := by
  obtain ⟨_, _, _, _, _, e, _⟩ := h
  exact ⟨_, e⟩
theorem BagA.upd {c : Addr} {H : Hp} {b F : Addr} {o : HO} (h : BagA c H b) (h1 : F ≠ b) (h2 : F ≠ c) : BagA c (upd H F o) b := by
  obtain ⟨x, y, i, cs, e1, e2, l⟩ := h
  exact ⟨x, y, i, cs, by rw [upd_ne h1.symm]; exact e1, by rw [upd_ne h2.symm]; exact e2, l⟩
theorem sameX_upd {b F : Addr} {H H' : Hp} {o : HO} (s : SameX b H H') (h : H F = none) : SameX b H (L2.upd H' F o) := fun x u n e => by
  rw [upd_ne (ne_of_none e h)]
  exact s x u n e
/-- a new thing, made apart from b, is new from the first -/
theorem SameX.free {b p : Addr} {H H' : Hp} (s : SameX b H H') (hp : p ≠ b) (h : H' p = none) : H p = none := by
  cases e : H p with
  | none => rfl
  | some o =>
    have := s p o hp e
    rw [h] at this
    cases this
section
variable {X : Cx}
/-- xs[i], by values -/
def rGetL (K : PySem.W.Frag) : V → V → Hp → VK → Prop := fun x y H Q => ∃ p xs i v, x = .ref p ∧ y = .int (i : Nat) ∧ SqL K H p xs ∧ xs[i]? = some v ∧ Q v H
theorem get_list : PGet X (rGetL X.K) := by
  intro pins s σ H o i ov iv Q I ro ri h
  obtain ⟨p, xs, j, z, rfl, rfl, hq, he, q⟩ := h
  cases ro
  obtain ⟨t, rfl⟩ := ri
  obtain ⟨its, r, pl, hz⟩ := I.list hq
  obtain ⟨w, ew, rw'⟩ := r.get he
  have hl := r.length
  have hn := line63
  have hj := get_lt he
  exact wpAny_getItem_list pl.isList (by omega) (by omega) (by simpa using ew) ⟨z, H, I, rw', q⟩
end
section
variable {P : Program} {w : World} {K : PySem.W.Frag} {mg : Str → Option Value} {base : Heap} {f C : Addr} {fd : FuncData}
end
/-- what holds behind a statement is the reading's choice -/
def tMid (t : TS) : TS := fun D σ H => ∃ R : St → Hp → Prop, t { D with nx := R } σ H ∧ ∀ σ' H', R σ' H' → D.nx σ' H'
theorem ps_mid {X : Cx} {st : Stmt} {t : TS} (h : PS X st t) : PS X st (tMid t) := by
  refine ⟨fun pins s σ H D I hw => ?_⟩
  obtain ⟨R, hw, hr⟩ := hw
  refine thn (h.run pins s σ H _ I hw) fun f s1 q => ?_
  cases f with
  | next =>
    obtain ⟨σ', H', I2, q⟩ := q
    exact ⟨σ', H', I2, hr σ' H' q⟩
  | brk => exact q
  | cont => exact q
  | ret v => exact q
section
variable {P : Program} {w : World} {K : PySem.W.Frag} {mg : Str → Option Value} {base : Heap} {f C : Addr} {fd : FuncData}
/-! ### _law_bag -/
def spLBag : Sp := fun vs H Q _ => ∃ (a : Addr) (ns : List Int), vs = [.ref a] ∧ H a = some (.lst (ns.map V.int)) ∧ ∀ (b c : Addr) (H' : Hp), Same H H' → H b = none → BagA c H' b → Q (.ref b) H'
theorem scLBag : FnScope ["_law_script", "_law_cell"] ["_law_script"] (defScope sLbag) := ⟨rfl, rfl, rfl, by decide +kernel, rfl, by decide +kernel, by decide +kernel⟩
theorem cut63 (xs : List V) : (cutV xs none (some 63)).length ≤ 63 := by
  unfold cutV HT.sIx
  simp
  omega
theorem cut_map {α : Type} (f : α → V) (ns : List α) (lo hi : Option Int) : ∃ ms : List α, cutV (ns.map f) lo hi = ms.map f ∧ (∀ x ∈ ms, x ∈ ns) :=
  ⟨(ns.drop (HT.sIx (ns.map f).length 0 lo)).take (HT.sIx (ns.map f).length (ns.map f).length hi - HT.sIx (ns.map f).length 0 lo), by unfold cutV; rw [List.map_take, List.map_drop], fun x hx => List.mem_of_mem_drop (List.mem_of_mem_take hx)⟩
theorem ok_Lbag (F : FnP K "_law_bag" "_law_bag" sLbag [] f fd) (T : Txt mg) : FnOk P w K mg base CX0 1 f fd ["_law_script"] spLBag := by
  refine okF F scLBag (fun vs H Q E h => ?_) (fun cdv A outer s H vs Q E hr h => ?_)
  · obtain ⟨a, ns, rfl, _⟩ := h
    rfl
  · obtain ⟨a, ns, rfl, ha, k⟩ := h
    refine ⟨_, pss_one (ps_ret (pe_lst (pa_cons pe_int (pa_cons pe_int (pa_cons pe_int (pa_cons (pe_lc (own := [("_law_cell", 1)]) (g := gName 1) (tt := tYes) (te := tCB (fun xs H Q => ∃ i, xs = [.int i] ∧ Q (.int (if i < 0 then -i else i)) H) (tCons (tVar 1) tNil)) rfl scLBag.nd
      (pi_list (pe_slice sl_list (pv 0) po_none (po_some pe_int))) (blkOk_by (N := ["_law_script", "_law_cell"]) (sc := defScope sLbag) (by decide +kernel)) (fun _ _ _ _ _ => pg_name (i := 1) scLBag.nd rfl (Or.inl rfl) (Or.inr rfl)) (fun _ _ _ _ _ => pts_nil)
      (fun _ _ _ _ _ => pe_callB call_abs (by rfl) T.abs (by decide +kernel) (pa_cons (pv 1) pa_nil))) pa_nil)))))), ?_⟩
    obtain ⟨ms, em, _⟩ := cut_map V.int ns none (some 63)
    have lm : ms.length ≤ 63 := by
      have := cut63 (ns.map V.int)
      rw [em, List.length_map] at this
      exact this
    refine ⟨_, rfl, _, rfl, a, _, rfl, SqL.of ha, fun p hp => ?_⟩
    rw [em]
    have np : New H (upd H p (.lst (ms.map V.int))) p := New.upd hp
    have ep : upd H p (.lst (ms.map V.int)) p = some (.lst (ms.map V.int)) := upd_same
    generalize upd H p (.lst (ms.map V.int)) = H1 at np ep ⊢
    refine ⟨p, rfl, ⟨_, SqL.of ep⟩, fun D hD => ?_⟩
    refine lcT walk_list hD (fun i H ys => ∃ cs : List Int, ys = cs.map V.int ∧ cs.length ≤ i) (fun _ _ _ _ _ e => e) (fun H' s => SqL.of (s _ _ ep)) ⟨[], rfl, Nat.zero_le _⟩ (fun i H ys ⟨cs, e, l⟩ => by rw [e, List.length_map]; exact l) (by rw [List.length_map]; exact Nat.le_trans lm (by decide)) ?_ ?_
    · rintro i x _ H2 ys Yes No hi s2 ⟨cs, rfl, l⟩ ⟨rfl, hx⟩ yes no
      obtain ⟨z, hz, rfl⟩ := mget hx
      refine ⟨rfl, yesR ?_⟩
      refine iteT ?_
      refine ⟨_, rfl, z, rfl, ?_⟩
      exact yes _ _ (Same.refl _) ⟨cs ++ [if z < 0 then -z else z], by rw [List.map_append]; rfl, by rw [List.length_append]; simp only [List.length_cons, List.length_nil]; omega⟩
    · rintro H2 ys s2 e2 ⟨cs, rfl, l⟩
      rw [List.length_map] at l
      refine ⟨by show 4 ≤ sizeLine; decide, fun b hb => ?_⟩
      have nb : New H2 (upd H2 b (.lst [.int 0, .int 1234567891, .int 0, .ref D])) b := New.upd hb
      have s02 := np.same.trans s2
      exact k b D _ (s02.trans nb.same) (s02.free hb) ⟨0, 1234567891, 0, cs, upd_same, nb.same _ _ e2, by omega⟩
end
end L2.K87
set_option Elab.async false
set_option linter.all false
set_option autoImplicit false
set_option maxRecDepth 100000
set_option maxHeartbeats 4000000
namespace L2.K87
open PySem PySem.Spec PyProof.Rows
section
variable {P : Program} {w : World} {K : PySem.W.Frag} {mg : Str → Option Value} {base : Heap} {f C : Addr} {fd : FuncData}
/-! ### _law_take -/
def spTake : Sp := fun vs H Q _ => ∃ (b c : Addr) (m : Int), vs = [.ref b, .int m] ∧ BagA c H b ∧ 1 ≤ m ∧ m ≤ 100000 ∧ ∀ (r : Int) (H' : Hp), SameX b H H' → BagA c H' b → 0 ≤ r → r < m → Q (.int r) H'
theorem scTake : FnScope ["_law_bag_here", "_law_many", "_law_cell", "_law_value", "_law_first", "_law_second"] ["_law_bag_here", "_law_many"] (defScope sLtake) := ⟨rfl, rfl, rfl, by decide +kernel, rfl, by decide +kernel, by decide +kernel⟩
theorem ok_Ltake (F : FnP K "_law_take" "_law_take" sLtake [] f fd) (T : Txt mg) : FnOk P w K mg base CX0 1 f fd ["_law_bag_here", "_law_many"] spTake := by
  refine okF F scTake (fun vs H Q E h => ?_) (fun cdv A outer s H vs Q E hr h => ?_)
  · obtain ⟨b, c, m, rfl, _⟩ := h
    rfl
  · obtain ⟨b, c, m, rfl, ⟨x, y, i, cs, hb, hc, hl⟩, hm1, hm2, k⟩ := h
    refine ⟨_, pss_cons (ps_mid (ps_if (pt_cmpR op_eq (pe_ix ix_list (pv 0) pe_int (fun _ _ => rfl)) pe_int (nomark _))
        (pss_cons (ps_set (i := 2) scTake.nd rfl (Or.inl rfl) pe_int)
        (pss_cons (ps_mid (ps_if (pt_cmpR op_lt (pe_ix ix_list (pv 0) pe_int (fun _ _ => rfl)) (pe_callB call_len_seq (by rfl) T.len PySem.boot_len (pa_cons (pe_ix ix_list (pv 0) pe_int (fun _ _ => rfl)) pa_nil)) (nomark _))
          (pss_one (ps_set (i := 2) scTake.nd rfl (Or.inl rfl) (pe_ix ix_list (pe_ix ix_list (pv 0) pe_int (fun _ _ => rfl)) (pe_ix ix_list (pv 0) pe_int (fun _ _ => rfl)) (fun _ _ => rfl)))) pss_nil))
        (pss_cons (ps_augS (pv 0) pe_int get_list pe_int ip_add set_list)
        (pss_cons (ps_mid (ps_if (pt_cmpR op_ge (pv 2) pe_int (nomark _)) (pss_one (ps_asg (pv 2) (pg_sub (pv 0) pe_int set_list))) pss_nil))
        (pss_one (ps_asg (pe_op op_mod (pe_op op_add (pe_op op_add (pe_op op_mul (pe_ix ix_list (pv 0) pe_int (fun _ _ => rfl)) pe_int) (pe_op op_mod (pv 2) pe_int)) (pe_op op_mul pe_int (pe_ix ix_list (pv 0) pe_int (fun _ _ => rfl)))) pe_int) (pg_sub (pv 0) pe_int set_list))))))) pss_nil))
      (pss_cons (ps_if (pt_cmpR op_gt (pe_ix ix_list (pv 0) pe_int (fun _ _ => rfl)) pe_int (nomark _))
        (pss_cons (ps_set (i := 3) scTake.nd rfl (Or.inl rfl) (pe_op op_mod (pe_ix ix_list (pv 0) pe_int (fun _ _ => rfl)) (pv 1)))
        (pss_cons (ps_asg (pe_op op_fdiv (pe_ix ix_list (pv 0) pe_int (fun _ _ => rfl)) (pv 1)) (pg_sub (pv 0) pe_int set_list))
        (pss_one (ps_ret (pv 3))))) pss_nil)
      (pss_cons (ps_set (i := 4) scTake.nd rfl (Or.inl rfl) (pe_op op_mod (pe_op op_mul (pe_op op_add (pe_ix ix_list (pv 0) pe_int (fun _ _ => rfl)) pe_int) pe_int) pe_int))
      (pss_cons (ps_set (i := 5) scTake.nd rfl (Or.inl rfl) (pe_op op_mod (pe_op op_mul (pe_op op_mod (pe_op op_mul (pv 4) (pv 4)) pe_int) pe_int) pe_int))
      (pss_cons (ps_if (pt_cmpR op_gt (pv 1) pe_int (nomark _)) pss_never pss_nil)
      (pss_one (ps_ret (pe_op op_mod (pe_op op_fdiv (pv 5) pe_int) (pv 1)))))))), ?_⟩
    have hbc : b ≠ c := fun z => by
      rw [z, hc] at hb
      have := HO.lst.inj (Option.some.inj hb)
      cases cs with
      | nil => cases this
      | cons a cs => cases cs with
        | nil => cases this
        | cons a cs => cases cs with
          | nil => cases this
          | cons a cs => cases cs with
            | nil => cases this
            | cons a cs =>
              have h2 := congrArg (fun l => l[3]?) this
              simp at h2
    refine ⟨fun σ' H' => ∃ (v2 : Option V) (x y : Int) (i : Nat), σ' = [some (.ref b), some (.int m), v2, none, none, none] ∧ SameX b H H' ∧ H' b = some (.lst [.int x, .int y, .int (i : Nat), .ref c]), ?_, ?_⟩
    · refine ⟨_, rfl, b, _, 0, _, rfl, rfl, SqL.of hb, at_of (j := 0) rfl rfl, rfl, _, rfl, ?_⟩
      by_cases hx : x = 0
      · subst hx
        refine iteD rfl ?_
        refine ⟨fun σ' H' => H' = H ∧ ∃ z : Int, σ' = [some (.ref b), some (.int m), some (.int z), none, none, none], ?_, ?_⟩
        · refine ⟨_, rfl, b, _, 2, _, rfl, rfl, SqL.of hb, at_of (j := 2) rfl rfl, _, rfl, b, _, 3, _, rfl, rfl, SqL.of hb, at_of (j := 3) rfl rfl, c, _, rfl, .inl (SqL.of hc), _, _, rfl, rfl, _, rfl, ?_⟩
          by_cases hi : i < cs.length
          · obtain ⟨z, hz⟩ := lt_get hi
            refine iteD (by rw [List.length_map]; omega) ?_
            refine ⟨_, rfl, b, _, 3, _, rfl, rfl, SqL.of hb, at_of (j := 3) rfl rfl, _, rfl, b, _, 2, .int (i : Nat), rfl, rfl, SqL.of hb, at_of (j := 2) rfl rfl, c, _, _, .int z, rfl, rfl, SqL.of hc, at_of (j := i) rfl (by rw [List.getElem?_map, hz]; rfl), ?_⟩
            exact ⟨rfl, z, rfl⟩
          · refine iteDN (by rw [List.length_map]; omega) ?_
            exact ⟨rfl, 0, rfl⟩
        · rintro σ' H' ⟨rfl, z, rfl⟩
          -- bag[2] += 1
          refine ⟨_, rfl, b, _, 2, _, rfl, rfl, SqL.of hb, rfl, _, _, rfl, rfl, b, _, 2, 2, rfl, rfl, hb, rfl, ?_⟩
          have e1 : upd H' b (.lst ([V.int 0, V.int y, V.int (i : Nat), V.ref c].set 2 (.int ((i : Nat) + 1)))) b = some (.lst [.int 0, .int y, .int ((i + 1 : Nat) : Int), .ref c]) := by
            rw [upd_same]
            rfl
          have s1 : SameX b H' (upd H' b (.lst ([V.int 0, V.int y, V.int (i : Nat), V.ref c].set 2 (.int ((i : Nat) + 1))))) := SameX.upd
          generalize upd H' b (.lst ([V.int 0, V.int y, V.int (i : Nat), V.ref c].set 2 (.int ((i : Nat) + 1)))) = H1 at e1 s1 ⊢
          refine ⟨fun σ' H2 => ∃ x : Int, SameX b H' H2 ∧ H2 b = some (.lst [.int x, .int y, .int ((i + 1 : Nat) : Int), .ref c]) ∧ σ' = [some (.ref b), some (.int m), some (.int z), none, none, none], ?_, ?_⟩
          · refine ⟨_, rfl, _, _, rfl, rfl, _, rfl, ?_⟩
            by_cases hz : (1000000000000000000 : Int) ≤ z
            · refine iteD hz ?_
              refine ⟨_, rfl, _, rfl, b, _, 0, 0, rfl, rfl, e1, rfl, ?_⟩
              exact ⟨z, s1.trans SameX.upd, by rw [upd_same]; rfl, rfl⟩
            · refine iteDN hz ?_
              exact ⟨0, s1, e1, rfl⟩
          · rintro σ' H2 ⟨x, s2, e2, rfl⟩
            refine ⟨_, rfl, b, _, 1, _, rfl, rfl, SqL.of e2, at_of (j := 1) rfl rfl, _, _, rfl, rfl, .inr ⟨by decide, by decide⟩, _, rfl, _, _, rfl, rfl, (by show (0 : Int) < _; decide), _, _, rfl, rfl, ?_⟩
            refine ⟨_, rfl, b, _, 2, _, rfl, rfl, SqL.of e2, at_of (j := 2) rfl rfl, _, _, rfl, rfl, .inl ⟨by decide, by decide⟩, _, _, rfl, rfl, _, _, rfl, rfl, (by show (0 : Int) < _; decide), ?_⟩
            refine ⟨_, rfl, b, _, 1, 1, rfl, rfl, e2, rfl, ?_⟩
            exact ⟨_, _, _, _, rfl, s2.trans SameX.upd, by rw [upd_same]; rfl⟩
      · refine iteDN (fun z => hx (by injection z)) ?_
        exact ⟨_, _, _, _, rfl, SameX.refl _ _, hb⟩
    rintro σ' H1 ⟨v2, x, y, i, rfl, s1, e1⟩
    have hc1 : H1 c = some (.lst (cs.map V.int)) := s1 c _ hbc.symm hc
    have bag : ∀ H2, SameX b H1 H2 → (∃ x y i, H2 b = some (.lst [.int x, .int y, .int ((i : Nat) : Int), .ref c])) → BagA c H2 b := fun H2 s2 ⟨x, y, i, e⟩ => ⟨x, y, i, cs, e, s2 c _ hbc.symm hc1, hl⟩
    refine ⟨_, rfl, b, _, 0, _, rfl, rfl, SqL.of e1, at_of (j := 0) rfl rfl, _, _, rfl, rfl, _, rfl, ?_⟩
    by_cases hx : 0 < x
    · refine iteD hx ?_
      refine ⟨_, rfl, b, _, 0, _, rfl, rfl, SqL.of e1, at_of (j := 0) rfl rfl, _, rfl, _, _, rfl, rfl, by omega, ?_⟩
      refine ⟨_, rfl, b, _, 0, _, rfl, rfl, SqL.of e1, at_of (j := 0) rfl rfl, _, rfl, _, _, rfl, rfl, ⟨by omega, by omega⟩, ?_⟩
      refine ⟨_, rfl, b, _, 0, 0, rfl, rfl, e1, rfl, ?_⟩
      refine ⟨_, rfl, ?_⟩
      exact k _ _ (s1.trans SameX.upd) (bag _ SameX.upd ⟨_, _, _, by rw [upd_same]; rfl⟩) (Int.emod_nonneg _ (by omega)) (Int.emod_lt_of_pos _ (by omega))
    · refine iteDN hx ?_
      have hf1 : ∀ z : Int, 0 ≤ z % 1000000007 ∧ z % 1000000007 < 1000000007 := fun z => ⟨Int.emod_nonneg _ (by decide), Int.emod_lt_of_pos _ (by decide)⟩
      refine ⟨_, rfl, b, _, 1, _, rfl, rfl, SqL.of e1, at_of (j := 1) rfl rfl, _, _, rfl, rfl, _, _, rfl, rfl, .inr ⟨by decide, by decide⟩, _, _, rfl, rfl, (by show (0 : Int) < _; decide), ?_⟩
      obtain ⟨h1, h2⟩ := hf1 ((y + 1) * 39373)
      generalize (y + 1) * 39373 % 1000000007 = z1 at h1 h2 ⊢
      refine ⟨_, rfl, _, rfl, _, _, rfl, rfl, .inl ⟨by omega, by omega⟩, _, _, rfl, rfl, (by show (0 : Int) < _; decide), _, _, rfl, rfl, .inr ⟨by decide, by decide⟩, _, _, rfl, rfl, (by show (0 : Int) < _; decide), ?_⟩
      refine ⟨_, rfl, _, _, rfl, rfl, _, rfl, ?_⟩
      refine iteDN (by omega) ?_
      refine ⟨_, rfl, _, _, rfl, rfl, ⟨by decide, by decide⟩, _, rfl, _, _, rfl, rfl, by omega, ?_⟩
      exact k _ _ s1 (bag _ (SameX.refl _ _) ⟨_, _, _, e1⟩) (Int.emod_nonneg _ (by omega)) (Int.emod_lt_of_pos _ (by omega))
end
end L2.K87
set_option Elab.async false
set_option linter.all false
set_option autoImplicit false
set_option maxRecDepth 100000
set_option maxHeartbeats 4000000
namespace L2.K87
open PySem PySem.Spec PyProof.Rows
/-! ### a sign times -/
theorem rep_fold (c : Nat) : ∀ (n : Nat) (acc : Array Nat), (List.replicate n #[c]).foldl (· ++ ·) acc = acc ++ (List.replicate n c).toArray
  | 0, acc => by simp
  | n + 1, acc => by
    rw [List.replicate_succ, List.foldl_cons, rep_fold c n, List.replicate_succ]
    apply Array.ext'
    simp
/-- a text of these signs -/
def txt (l : List Nat) : Str := ⟨l.toArray⟩
theorem txt_app (a b : List Nat) : txt a ++ txt b = txt (a ++ b) := by
  show (⟨a.toArray ++ b.toArray⟩ : Str) = ⟨(a ++ b).toArray⟩
  have e : a.toArray ++ b.toArray = (a ++ b).toArray := by
    apply Array.ext'
    simp
  rw [e]
theorem txt_len (a : List Nat) : (txt a).length = a.length := rfl
section
variable {X : Cx}
def rMul1 : R2 := fun x y H Q => ∃ (c n : Nat), x = .str (txt [c]) ∧ y = .int (n : Nat) ∧ n ≤ 1000 ∧ Q (.str (txt (List.replicate n c))) H
theorem op_mul1 : OpR X (binaryOp .Mult) rMul1 := by
  intro pins s σ H x y v u Q I rx ry h
  obtain ⟨c, n, rfl, rfl, hn, q⟩ := h
  obtain ⟨t, rfl⟩ := rx
  obtain ⟨t', rfl⟩ := ry
  refine P.mul_str (by simp; omega) (fun h1 _ => ?_) (fun h1 _ => ?_) ?_
  · have e : ((txt [c]).length : Int) = 1 := rfl
    rw [e]
    have h2 : (1 : Int) ≤ ((n : Nat) : Int) := by omega
    have h3 : (1 : Int) ≤ (2 ^ 63 - 1) / ((n : Nat) : Int) := (Int.le_ediv_iff_mul_le (by omega)).mpr (by omega)
    omega
  · have e : (txt [c]).length = 1 := rfl
    rw [e]
    have h2 : 1 * ((n : Nat) : Int).toNat ≤ 1000 := by omega
    have h3 : 1 * ((n : Nat) : Int).toNat ≤ sizeLine := Nat.le_trans h2 (by decide)
    unfold Builtin.Str.tooLong
    exact decide_eq_false (by omega)
  · by_cases h0 : ((n : Nat) : Int) < 1
    · rw [if_pos h0]
      have : n = 0 := by omega
      subst this
      exact ⟨by decide, .str Str.empty, H, I.tok _, ⟨_, rfl⟩, q⟩
    · rw [if_neg h0]
      by_cases h1 : (((n : Nat) : Int) == 1 || (txt [c]).length == 0) = true
      · rw [if_pos h1]
        have : n = 1 := by
          have e : (txt [c]).length = 1 := rfl
          rw [e] at h1
          simp at h1
          omega
        subst this
        exact ⟨.str (txt [c]), H, I, ⟨t, rfl⟩, q⟩
      · rw [if_neg h1]
        have e2 : (⟨(List.replicate ((n : Nat) : Int).toNat (txt [c]).cps).foldl (· ++ ·) #[]⟩ : Str) = txt (List.replicate n c) := by
          show (⟨(List.replicate ((n : Nat) : Int).toNat #[c]).foldl (· ++ ·) #[]⟩ : Str) = _
          rw [rep_fold, Int.toNat_natCast]
          unfold txt
          simp
        rw [e2]
        refine ⟨?_, .str (txt (List.replicate n c)), H, I.tok _, ⟨_, rfl⟩, q⟩
        rw [txt_len, List.length_replicate]
        exact Nat.le_trans hn (by decide)
end
/-! ### the names -/
def hd (turn k : Nat) : Nat := 97 + (turn + k) % 26
def nmL (way turn d t k : Nat) : List Nat := (if way = 0 then hd turn k :: List.replicate t d else List.replicate t d ++ [hd turn k]) ++ List.replicate (k / 26) 98
theorem nmL_len (way turn d t k : Nat) : (nmL way turn d t k).length = 1 + t + k / 26 := by
  unfold nmL
  split <;> simp <;> omega
theorem hd_inj {turn j k : Nat} (h : hd turn j = hd turn k) (hq : j / 26 = k / 26) : j = k := by
  unfold hd at h
  omega
theorem nmL_inj {way turn d t j k : Nat} (h : nmL way turn d t j = nmL way turn d t k) : j = k := by
  have hl := congrArg List.length h
  rw [nmL_len, nmL_len] at hl
  have hq : j / 26 = k / 26 := by omega
  refine hd_inj (turn := turn) ?_ hq
  unfold nmL at h
  rw [hq] at h
  have h := List.append_cancel_right h
  split at h
  · exact (List.cons.inj h).1
  · have h := List.append_cancel_left h
    simpa using h
theorem letters_eq : ("abcdefghijklmnopqrstuvwxyz" : Str).cps.toList = (List.range 26).map (97 + ·) := by decide +kernel
theorem letters_mem {c : Nat} : c ∈ ("abcdefghijklmnopqrstuvwxyz" : Str).cps.toList ↔ 97 ≤ c ∧ c < 123 := by
  rw [letters_eq, List.mem_map]
  constructor
  · rintro ⟨i, hi, rfl⟩
    rw [List.mem_range] at hi
    omega
  · intro h
    exact ⟨c - 97, by rw [List.mem_range]; omega, by omega⟩
theorem letters_atN {i : Nat} (h : i < 26) : ("abcdefghijklmnopqrstuvwxyz" : Str).cps.toList[i]? = some (97 + i) := by
  rw [letters_eq, List.getElem?_map, List.getElem?_range h]
  rfl
theorem atN {α : Type} {xs : List α} {i : Nat} {v : α} (h : xs[i]? = some v) : atI xs (i : Nat) = some v := by
  have hl : i < xs.length := (List.getElem?_eq_some_iff.mp h).1
  unfold atI ixN
  rw [if_pos (by omega)]
  rw [if_pos (by omega)]
  exact h
theorem letters_at {i : Nat} (h : i < 26) : atI ("abcdefghijklmnopqrstuvwxyz" : Str).cps.toList (i : Nat) = some (97 + i) := by
  exact atN (letters_atN h)
theorem nmL_ok {way turn d t k : Nat} (hd1 : 97 ≤ d ∧ d < 123) (ht : t ≤ 6) (hk : k < 52) : IsNm (txt (nmL way turn d t k)) := by
  refine ⟨by rw [txt_len, nmL_len]; omega, by rw [txt_len, nmL_len]; omega, fun c hc => letters_mem.mpr ?_⟩
  have hc : c ∈ nmL way turn d t k := by
    have : (txt (nmL way turn d t k)).cps.toList = nmL way turn d t k := by simp [txt]
    rwa [this] at hc
  unfold nmL hd at hc
  rcases List.mem_append.mp hc with hc | hc
  · split at hc
    · rcases List.mem_cons.mp hc with rfl | hc
      · omega
      · have := (List.mem_replicate.mp hc).2
        omega
    · rcases List.mem_append.mp hc with hc | hc
      · have := (List.mem_replicate.mp hc).2
        omega
      · have : c = 97 + (turn + k) % 26 := by simpa using hc
        omega
  · have := (List.mem_replicate.mp hc).2
    omega
end L2.K87
set_option Elab.async false
set_option linter.all false
set_option autoImplicit false
set_option maxRecDepth 100000
set_option maxHeartbeats 4000000
namespace L2.K87
open PySem PySem.Spec PyProof.Rows
section
variable {P : Program} {w : World} {K : PySem.W.Frag} {mg : Str → Option Value} {base : Heap} {f C : Addr} {fd : FuncData}
/-! ### _law_names -/
abbrev abc : Str := "abcdefghijklmnopqrstuvwxyz"
def spNames : Sp := fun vs H Q _ => ∃ (b c : Addr) (n : Nat), vs = [.ref b, .int (n : Nat)] ∧ BagA c H b ∧ n ≤ 50 ∧ ∀ (r : Addr) (ns : List Str) (H' : Hp), SameX b H H' → BagA c H' b → H r = none → H' r = some (.lst (ns.map V.str)) → ns.length = n → ns.Nodup → (∀ x ∈ ns, IsNm x) → Q (.ref r) H'
abbrev NNm : List Str := ["_law_bag_here", "_law_many", "_law_letters", "_law_turn", "_law_tail", "_law_way", "_law_found", "_law_k", "_law_head"]
theorem scNames : FnScope NNm ["_law_bag_here", "_law_many"] (defScope sLnames) := ⟨rfl, rfl, rfl, by decide +kernel, rfl, by decide +kernel, by decide +kernel⟩
theorem txt1 (c : Nat) : (⟨#[c]⟩ : Str) = txt [c] := rfl
theorem ok_Lnames (F : FnP K "_law_names" "_law_names" sLnames [] f fd) (T : Txt mg) (G : Cal P w K mg base 1 "_law_take" ["_law_bag_here", "_law_many"] spTake) : FnOk P w K mg base CX0 2 f fd ["_law_bag_here", "_law_many"] spNames := by
  refine okF F scNames (fun vs H Q E h => ?_) (fun cdv A outer s H vs Q E hr h => ?_)
  · obtain ⟨b, c, n, rfl, _⟩ := h
    rfl
  · obtain ⟨b, c, n, rfl, hB, hn, k⟩ := h
    refine ⟨_, pss_cons (ps_set (i := 2) scNames.nd rfl (Or.inl rfl) pe_str)
      (pss_cons (ps_set (i := 3) scNames.nd rfl (Or.inl rfl) (pe_cal G hr rfl (pa_cons (pv 0) (pa_cons pe_int pa_nil))))
      (pss_cons (ps_set (i := 4) scNames.nd rfl (Or.inl rfl) (pe_op op_mul1 (pe_ix ix_str (pv 2) (pe_cal G hr rfl (pa_cons (pv 0) (pa_cons pe_int pa_nil))) (fun _ _ => rfl)) (pe_cal G hr rfl (pa_cons (pv 0) (pa_cons pe_int pa_nil)))))
      (pss_cons (ps_set (i := 5) scNames.nd rfl (Or.inl rfl) (pe_cal G hr rfl (pa_cons (pv 0) (pa_cons pe_int pa_nil))))
      (pss_cons (ps_set (i := 6) scNames.nd rfl (Or.inl rfl) (pe_lst pa_nil))
      (pss_cons (ps_for PassesOwn.never rfl (pi_range1 rfl T.rng (pa_cons (pv 1) pa_nil)) (pg_name (i := 7) scNames.nd rfl (Or.inl rfl))
        (pss_cons (ps_set (i := 8) scNames.nd rfl (Or.inl rfl) (pe_ix ix_str (pv 2) (pe_op op_mod (pe_op op_add (pv 3) (pv 7)) pe_int) (fun _ _ => rfl)))
        (pss_one (ps_expr (pe_bm PySem.F.plainAttrs_list PySem.F.slot_list_append PySem.F.type_list_append mt_append (pv 6)
          (pa_cons (pe_op op_add_str (pe_ix ix_list (pe_lst (pa_cons (pe_op op_add_str (pv 8) (pv 4)) (pa_cons (pe_op op_add_str (pv 4) (pv 8)) pa_nil))) (pv 5) (fun _ _ => rfl)) (pe_op op_mul1 pe_str (pe_op op_fdiv (pv 7) pe_int))) pa_nil))))))
      (pss_one (ps_ret (pv 6)))))))), ?_⟩
    refine ⟨_, rfl, b, c, 26, rfl, hB, by decide, by decide, fun r1 H1 s1 B1 h1 h2 => ?_⟩
    obtain ⟨turn, rfl⟩ := Int.eq_ofNat_of_zero_le h1
    refine ⟨_, rfl, _, rfl, b, c, 26, rfl, B1, by decide, by decide, fun r2 H2 s2 B2 h3 h4 => ?_⟩
    obtain ⟨d, rfl⟩ := Int.eq_ofNat_of_zero_le h3
    refine ⟨abc, (d : Int), 97 + d, rfl, rfl, by decide, letters_at (by omega), ?_⟩
    refine ⟨_, rfl, b, c, 7, rfl, B2, by decide, by decide, fun r3 H3 s3 B3 h5 h6 => ?_⟩
    obtain ⟨t, rfl⟩ := Int.eq_ofNat_of_zero_le h5
    refine ⟨97 + d, t, rfl, rfl, by omega, ?_⟩
    refine ⟨_, rfl, b, c, 2, rfl, B3, by decide, by decide, fun r4 H4 s4 B4 h7 h8 => ?_⟩
    obtain ⟨way, rfl⟩ := Int.eq_ofNat_of_zero_le h7
    refine ⟨Nat.zero_le _, fun F hF => ?_⟩
    have s04 := ((s1.trans s2).trans s3).trans s4
    have nF : New H4 (upd H4 F (.lst [])) F := New.upd hF
    obtain ⟨o, eb⟩ := B4.at_
    have hFb : F ≠ b := (ne_of_none eb hF).symm
    refine ⟨_, rfl, (n : Int), rfl, by omega, by omega, for_it walk_range (fun i σ H' => ∃ v7 v8, σ = [some (.ref b), some (.int (n : Nat)), some (.str abc), some (.int (turn : Nat)), some (.str (txt (List.replicate t (97 + d)))), some (.int (way : Nat)), some (.ref F), v7, v8] ∧ Same H4 H' ∧ H' F = some (.lst (((List.range i).map fun k => txt (nmL way turn (97 + d) t k)).map V.str)))
      ⟨none, none, rfl, nF.same, upd_same⟩ (fun _ _ _ _ _ => trivial) ?_ ?_⟩
    · rintro i x σ _ H5 hi ⟨v7, v8, rfl, s5, e5⟩ ⟨rfl, hx⟩
      have hi : i < n := by simpa using hi
      have e0 : (0 : Int) + ((i : Nat) : Int) = (i : Nat) := by omega
      have hx : x = V.int ((i : Nat) : Int) := hx.trans (congrArg V.int e0)
      subst hx
      have em : (((turn : Nat) : Int) + ((i : Nat) : Int)) % 26 = (((turn + i) % 26 : Nat) : Int) := by omega
      refine ⟨_, rfl, _, rfl, _, rfl, _, _, rfl, rfl, _, _, rfl, rfl, (by show (0 : Int) < _; decide), ?_⟩
      have hat0 : atI abc.cps.toList ((((turn : Nat) : Int) + ((i : Nat) : Int)) % 26) = some (hd turn i) := by
        rw [em]
        exact letters_at (Nat.mod_lt _ (by decide))
      refine ⟨abc, _, hd turn i, rfl, rfl, by decide, hat0, ?_⟩
      refine ⟨_, rfl, .inl ⟨rfl, _, SqL.of e5⟩, ?_⟩
      have lt : (txt (List.replicate t (97 + d))).length = t := by rw [txt_len, List.length_replicate]
      have lh : (txt [hd turn i]).length = 1 := rfl
      refine ⟨_, rfl, _, rfl, txt [hd turn i], _, rfl, rfl, by rw [lt, lh]; exact Nat.le_trans (show 1 + t ≤ 100 by omega) (by decide), ?_⟩
      refine ⟨_, rfl, _, rfl, _, txt [hd turn i], rfl, rfl, by rw [lt, lh]; exact Nat.le_trans (show t + 1 ≤ 100 by omega) (by decide), ?_⟩
      rw [txt_app, txt_app]
      refine ⟨by show 2 ≤ sizeLine; decide, fun p hp => ?_⟩
      have np : New H5 (upd H5 p (.lst [.str (txt ([hd turn i] ++ List.replicate t (97 + d))), .str (txt (List.replicate t (97 + d) ++ [hd turn i]))])) p := New.upd hp
      have ep : upd H5 p (.lst [.str (txt ([hd turn i] ++ List.replicate t (97 + d))), .str (txt (List.replicate t (97 + d) ++ [hd turn i]))]) p = some (.lst [.str (txt ([hd turn i] ++ List.replicate t (97 + d))), .str (txt (List.replicate t (97 + d) ++ [hd turn i]))]) := upd_same
      generalize upd H5 p (.lst [.str (txt ([hd turn i] ++ List.replicate t (97 + d))), .str (txt (List.replicate t (97 + d) ++ [hd turn i]))]) = H6 at np ep ⊢
      have hw : way = 0 ∨ way = 1 := by omega
      have hat : [V.str (txt ([hd turn i] ++ List.replicate t (97 + d))), V.str (txt (List.replicate t (97 + d) ++ [hd turn i]))][way]? = some (.str (txt (if way = 0 then hd turn i :: List.replicate t (97 + d) else List.replicate t (97 + d) ++ [hd turn i]))) := by
        rcases hw with rfl | rfl
        · rfl
        · rfl
      refine ⟨_, rfl, p, _, _, _, rfl, rfl, SqL.of ep, atN hat, ?_⟩
      refine ⟨_, rfl, _, _, rfl, rfl, ⟨by decide, by decide⟩, ?_⟩
      have eq26 : ((i : Nat) : Int) / 26 = ((i / 26 : Nat) : Int) := by omega
      refine ⟨98, i / 26, rfl, congrArg V.int eq26, by omega, ?_⟩
      refine ⟨_, _, rfl, rfl, ?_, ?_⟩
      · rw [txt_len, txt_len, List.length_replicate]
        have : (if way = 0 then hd turn i :: List.replicate t (97 + d) else List.replicate t (97 + d) ++ [hd turn i]).length ≤ 7 := by
          split <;> simp <;> omega
        exact Nat.le_trans (show _ ≤ 100 by omega) (by decide)
      rw [txt_app]
      have e6 := np.same _ _ e5
      refine ⟨F, _, _, rfl, rfl, e6, ?_, ?_⟩
      · rw [List.length_map, List.length_map, List.length_range]
        exact Nat.lt_of_le_of_lt (show i ≤ 100 by omega) (by decide)
      · refine ⟨_, _, rfl, same_upd (s5.trans np.same) hF, ?_⟩
        rw [upd_same, List.range_succ, List.map_append, List.map_append]
        rfl
    · rintro σ H5 ⟨v7, v8, rfl, s5, e5⟩
      have en : (((n : Nat) : Int)).toNat = n := by omega
      rw [en] at e5
      have s05 := s04.trans (SameX.of s5)
      have hF0 : H F = none := s04.free hFb hF
      refine ⟨_, rfl, k F _ H5 s05 (B4.same s5) hF0 e5 (by rw [List.length_map, List.length_range]) ?_ ?_⟩
      · refine List.nodup_iff_pairwise_ne.mpr (List.pairwise_map.mpr (List.Pairwise.imp ?_ List.nodup_range))
        intro i j hij h
        refine hij (nmL_inj (way := way) (turn := turn) (d := 97 + d) (t := t) ?_)
        have := congrArg (fun z : Str => z.cps.toList) h
        simpa [txt] using this
      · intro x hx
        obtain ⟨i, hi, rfl⟩ := List.mem_map.mp hx
        have := List.mem_range.mp hi
        exact nmL_ok (by omega) (by omega) (by omega)
end
end L2.K87
set_option Elab.async false
set_option linter.all false
set_option autoImplicit false
set_option maxRecDepth 100000
set_option maxHeartbeats 4000000
namespace L2.K87
open PySem PySem.Spec PyProof.Rows
section
variable {P : Program} {w : World} {K : PySem.W.Frag} {mg : Str → Option Value} {base : Heap} {f C : Addr} {fd : FuncData}
/-! ### _law_spans, _law_rests -/
def spSpans : Sp := fun vs H Q _ => ∃ (b c : Addr) (n : Nat) (m : Int), vs = [.ref b, .int (n : Nat), .int m] ∧ BagA c H b ∧ n ≤ 50 ∧ 1 ≤ m ∧ m ≤ 1000 ∧
  ∀ (r : Addr) (xs : List Int) (H' : Hp), SameX b H H' → BagA c H' b → H r = none → H' r = some (.lst (xs.map V.int)) → xs.length = n → (∀ x ∈ xs, 1 ≤ x ∧ x ≤ 1000) → Q (.ref r) H'
abbrev NSp : List Str := ["_law_bag_here", "_law_many", "_law_most", "_law_way", "_law_one", "_law_found", "_law_k", "_law_some"]
theorem scSpans : FnScope NSp ["_law_bag_here", "_law_many", "_law_most"] (defScope sLspans) := ⟨rfl, rfl, rfl, by decide +kernel, rfl, by decide +kernel, by decide +kernel⟩
theorem pick4 {a b c d z : Int} {j : Nat} {P : Int → Prop} (h : [V.int a, .int b, .int c, .int d][j]? = some (.int z)) (ha : P a) (hb : P b) (hc : P c) (hd : P d) : P z := by
  match j, h with
  | 0, h => cases h; exact ha
  | 1, h => cases h; exact hb
  | 2, h => cases h; exact hc
  | 3, h => cases h; exact hd
theorem has4 (a b c d : Int) {j : Nat} (h : j < 4) : ∃ z, [V.int a, .int b, .int c, .int d][j]? = some (.int z) := by
  match j, h with
  | 0, _ => exact ⟨_, rfl⟩
  | 1, _ => exact ⟨_, rfl⟩
  | 2, _ => exact ⟨_, rfl⟩
  | 3, _ => exact ⟨_, rfl⟩
theorem pick2 (a d : Int) {j : Nat} (h : j < 2) : ∃ z, [V.int a, .int d][j]? = some (.int z) ∧ (z = a ∨ z = d) := by
  match j, h with
  | 0, _ => exact ⟨_, rfl, .inl rfl⟩
  | 1, _ => exact ⟨_, rfl, .inr rfl⟩
theorem ok_Lspans (F : FnP K "_law_spans" "_law_spans" sLspans [] f fd) (T : Txt mg) (G : Cal P w K mg base 1 "_law_take" ["_law_bag_here", "_law_many"] spTake) : FnOk P w K mg base CX0 2 f fd ["_law_bag_here", "_law_many", "_law_most"] spSpans := by
  refine okF F scSpans (fun vs H Q E h => ?_) (fun cdv A outer s H vs Q E hr h => ?_)
  · obtain ⟨b, c, n, m, rfl, _⟩ := h
    rfl
  · obtain ⟨b, c, n, m, rfl, hB, hn, hm1, hm2, k⟩ := h
    refine ⟨_, pss_cons (ps_set (i := 3) scSpans.nd rfl (Or.inl rfl) (pe_cal G hr rfl (pa_cons (pv 0) (pa_cons pe_int pa_nil))))
      (pss_cons (ps_if (pt_cmpR op_lt (pv 3) pe_int (nomark _)) (pss_one (ps_ret (pe_lc (own := [("_law_k", 6)]) (g := gName 6) (tt := tYes) (te := tOp (rI0 fun i j => .int (i + j)) (tVar 6) (tC (.int 1))) rfl scSpans.nd (pi_range1 rfl T.rng (pa_cons (pv 1) pa_nil))
          (blkOk_by (N := NSp) (sc := defScope sLspans) (by decide +kernel)) (fun _ _ _ _ _ => pg_name (i := 6) scSpans.nd rfl (Or.inl rfl) (Or.inr rfl)) (fun _ _ _ _ _ => pts_nil) (fun _ _ _ _ _ => pe_op op_add (pv 6) pe_int)))) pss_nil)
      (pss_cons (ps_set (i := 4) scSpans.nd rfl (Or.inl rfl) (pe_op op_add pe_int (pe_cal G hr rfl (pa_cons (pv 0) (pa_cons (pv 2) pa_nil)))))
      (pss_cons (ps_set (i := 5) scSpans.nd rfl (Or.inl rfl) (pe_lst pa_nil))
      (pss_cons (ps_for PassesOwn.never rfl (pi_range1 rfl T.rng (pa_cons (pv 1) pa_nil)) (pg_name (i := 6) scSpans.nd rfl (Or.inl rfl))
        (pss_cons (ps_set (i := 7) scSpans.nd rfl (Or.inl rfl) (pe_lst (pa_cons (pe_op op_add pe_int (pe_cal G hr rfl (pa_cons (pv 0) (pa_cons (pe_callB (call_min2 rfl) (by rfl) T.min (by decide +kernel) (pa_cons pe_int (pa_cons (pv 2) pa_nil))) pa_nil))))
            (pa_cons (pe_op op_add pe_int (pe_cal G hr rfl (pa_cons (pv 0) (pa_cons (pv 2) pa_nil)))) (pa_cons (pv 4)
            (pa_cons (pe_ix ix_list (pe_lst (pa_cons pe_int (pa_cons (pv 2) pa_nil))) (pe_cal G hr rfl (pa_cons (pv 0) (pa_cons pe_int pa_nil))) (fun _ _ => rfl)) pa_nil))))))
        (pss_one (ps_expr (pe_bm PySem.F.plainAttrs_list PySem.F.slot_list_append PySem.F.type_list_append mt_append (pv 5) (pa_cons (pe_ix ix_list (pv 7) (pe_op op_sub (pv 3) pe_int) (fun _ _ => rfl)) pa_nil))))))
      (pss_one (ps_ret (pv 5))))))), ?_⟩
    refine ⟨_, rfl, b, c, 6, rfl, hB, by decide, by decide, fun r1 H1 s1 B1 h1 h2 => ?_⟩
    obtain ⟨way, rfl⟩ := Int.eq_ofNat_of_zero_le h1
    obtain ⟨o, eb⟩ := B1.at_
    obtain ⟨oc, ec⟩ := hB.cell
    refine ⟨_, rfl, _, _, rfl, rfl, _, rfl, ?_⟩
    by_cases hw : ((way : Nat) : Int) < 2
    · refine iteD hw ?_
      refine ⟨_, rfl, (n : Int), rfl, by omega, by omega, fun D hD => ?_⟩
      have en : (((n : Nat) : Int) - 0).toNat = n := by omega
      refine lcT walk_range hD (fun i H ys => ∃ xs : List Int, ys = xs.map V.int ∧ xs.length = i ∧ ∀ x ∈ xs, 1 ≤ x ∧ x ≤ ((i : Nat) : Int)) (fun _ _ _ _ _ e => e) (fun _ _ => trivial) ⟨[], rfl, rfl, fun x hx => by cases hx⟩ (fun i H ys ⟨xs, e, l, _⟩ => by rw [e, List.length_map]; omega) (by exact Nat.le_trans (show _ ≤ 50 by omega) (by decide)) ?_ ?_
      · rintro i x _ H2 ys Yes No hi s2 ⟨xs, rfl, l, hxs⟩ ⟨rfl, hx⟩ yes no
        have e0 : (0 : Int) + ((i : Nat) : Int) = (i : Nat) := by omega
        have hx : x = V.int ((i : Nat) : Int) := hx.trans (congrArg V.int e0)
        subst hx
        refine ⟨rfl, yesR ?_⟩
        refine iteT ?_
        refine ⟨_, rfl, _, _, rfl, rfl, ?_⟩
        refine yes _ _ (Same.refl _) ⟨xs ++ [(i : Int) + 1], by rw [List.map_append]; rfl, by rw [List.length_append, l]; rfl, fun x hx => ?_⟩
        rcases List.mem_append.mp hx with hx | hx
        · have := hxs x hx
          omega
        · have : x = (i : Int) + 1 := by simpa using hx
          omega
      · rintro H2 ys s2 e2 ⟨xs, rfl, l, hxs⟩
        have hDb : D ≠ b := (ne_of_none eb hD).symm
        exact k D xs H2 (s1.trans (SameX.of s2)) (B1.same s2) (s1.free hDb hD) e2 (by omega) fun x hx => by have := hxs x hx; omega
    · refine iteDN hw ?_
      refine ⟨_, rfl, _, rfl, b, c, m, rfl, B1, hm1, by omega, fun r2 H2 s2 B2 h3 h4 => ⟨_, _, rfl, rfl, ?_⟩⟩
      refine ⟨Nat.zero_le _, fun F hF => ?_⟩
      have s02 := s1.trans s2
      obtain ⟨o2, eb2⟩ := B2.at_
      have hFb : F ≠ b := (ne_of_none eb2 hF).symm
      have hF0 : H F = none := s02.free hFb hF
      have hFc : F ≠ c := (ne_of_none ec hF0).symm
      refine ⟨_, rfl, (n : Int), rfl, by omega, by omega, for_it walk_range (fun i σ H' => ∃ v6 v7 xs, σ = [some (.ref b), some (.int (n : Nat)), some (.int m), some (.int (way : Nat)), some (.int (1 + r2)), some (.ref F), v6, v7] ∧ SameX b H H' ∧ BagA c H' b ∧ H' F = some (.lst (xs.map V.int)) ∧ xs.length = i ∧ ∀ x ∈ xs, 1 ≤ x ∧ x ≤ 1000)
        ⟨none, none, [], rfl, sameX_upd s02 hF0, B2.upd hFb hFc, upd_same, rfl, fun x hx => by cases hx⟩ (fun _ _ _ _ _ => trivial) ?_ ?_⟩
      · rintro i x σ _ H3 hi ⟨v6, v7, xs, rfl, s3, B3, e3, l, hxs⟩ ⟨rfl, hx⟩
        have hi : i < n := by simpa using hi
        refine ⟨_, rfl, _, rfl, 4, m, rfl, b, c, _, rfl, B3, by split <;> omega, by split <;> omega, fun r4 H4 s4 B4 h5 h6 => ⟨_, _, rfl, rfl, ?_⟩⟩
        have h6' : r4 < 4 ∧ r4 < m := by split at h6 <;> omega
        refine ⟨_, rfl, _, rfl, b, c, m, rfl, B4, hm1, by omega, fun r5 H5 s5 B5 h7 h8 => ⟨_, _, rfl, rfl, ?_⟩⟩
        refine ⟨_, rfl, _, rfl, by show 2 ≤ sizeLine; decide, fun p hp => ?_⟩
        obtain ⟨o5, eb5⟩ := B5.at_
        obtain ⟨oc5, ec5⟩ := B5.cell
        have hpb : p ≠ b := (ne_of_none eb5 hp).symm
        have hpc : p ≠ c := (ne_of_none ec5 hp).symm
        have s05 := (s3.trans s4).trans s5
        have hp0 : H p = none := s05.free hpb hp
        have e5 : H5 F = some (.lst (xs.map V.int)) := s5 F _ hFb (s4 F _ hFb e3)
        have hpF : p ≠ F := (ne_of_none e5 hp).symm
        have B6 : BagA c (upd H5 p (.lst [.int 1, .int m])) b := B5.upd hpb hpc
        have e6 : upd H5 p (.lst [.int 1, .int m]) F = some (.lst (xs.map V.int)) := by
          rw [upd_ne hpF.symm]
          exact e5
        have ep : upd H5 p (.lst [.int 1, .int m]) p = some (.lst [.int 1, .int m]) := upd_same
        have s6 : SameX b H (upd H5 p (.lst [.int 1, .int m])) := sameX_upd s05 hp0
        generalize upd H5 p (.lst [.int 1, .int m]) = H6 at B6 e6 ep s6 ⊢
        refine ⟨_, rfl, b, c, 2, rfl, B6, by decide, by decide, fun r7 H7 s7 B7 h9 h10 => ?_⟩
        obtain ⟨j, rfl⟩ := Int.eq_ofNat_of_zero_le h9
        obtain ⟨z, hz, hz2⟩ := pick2 1 m (j := j) (by omega)
        refine ⟨p, _, _, .int z, rfl, rfl, SqL.of (s7 _ _ hpb ep), atN hz, ?_⟩
        refine ⟨by show 4 ≤ sizeLine; decide, fun q hq => ?_⟩
        have e7 : H7 F = some (.lst (xs.map V.int)) := s7 F _ hFb e6
        obtain ⟨o7, eb7⟩ := B7.at_
        obtain ⟨oc7, ec7⟩ := B7.cell
        have hqb : q ≠ b := (ne_of_none eb7 hq).symm
        have hqc : q ≠ c := (ne_of_none ec7 hq).symm
        have hqF : q ≠ F := (ne_of_none e7 hq).symm
        have s07 := s6.trans s7
        have hq0 : H q = none := s07.free hqb hq
        obtain ⟨j2, hj2⟩ : ∃ j2 : Nat, ((way : Nat) : Int) - 2 = (j2 : Nat) := ⟨way - 2, by omega⟩
        obtain ⟨z2, hz3⟩ := has4 (1 + r4) (1 + r5) (1 + r2) z (j := j2) (by omega)
        have hz4 : 1 ≤ z2 ∧ z2 ≤ 1000 := pick4 (P := fun z => 1 ≤ z ∧ z ≤ 1000) hz3 (by omega) (by omega) (by omega) (by omega)
        have eq : upd H7 q (.lst [.int (1 + r4), .int (1 + r5), .int (1 + r2), .int z]) q = some (.lst [.int (1 + r4), .int (1 + r5), .int (1 + r2), .int z]) := upd_same
        have e8 : upd H7 q (.lst [.int (1 + r4), .int (1 + r5), .int (1 + r2), .int z]) F = some (.lst (xs.map V.int)) := by
          rw [upd_ne hqF.symm]
          exact e7
        have B8 : BagA c (upd H7 q (.lst [.int (1 + r4), .int (1 + r5), .int (1 + r2), .int z])) b := B7.upd hqb hqc
        have s8 : SameX b H (upd H7 q (.lst [.int (1 + r4), .int (1 + r5), .int (1 + r2), .int z])) := sameX_upd s07 hq0
        generalize upd H7 q (.lst [.int (1 + r4), .int (1 + r5), .int (1 + r2), .int z]) = H8 at eq e8 B8 s8 ⊢
        refine ⟨_, rfl, .inl ⟨rfl, _, SqL.of e8⟩, _, rfl, _, rfl, _, _, rfl, rfl, q, _, _, .int z2, rfl, rfl, SqL.of eq, at_of (j := j2) hj2 hz3, F, _, _, rfl, rfl, e8, ?_, ?_⟩
        · rw [List.length_map, l]
          exact Nat.lt_of_le_of_lt (show i ≤ 50 by omega) (by decide)
        · refine ⟨_, _, xs ++ [z2], rfl, sameX_upd s8 hF0, B8.upd hFb hFc, by rw [upd_same, List.map_append]; rfl, by rw [List.length_append, l]; rfl, fun x hx => ?_⟩
          rcases List.mem_append.mp hx with hx | hx
          · exact hxs x hx
          · have : x = z2 := by simpa using hx
            rw [this]
            exact hz4
      · rintro σ H3 ⟨v6, v7, xs, rfl, s3, B3, e3, l, hxs⟩
        exact ⟨_, rfl, k F xs H3 s3 B3 hF0 e3 (by omega) hxs⟩
/-! ### _law_rests -/
abbrev NRs : List Str := ["_law_bag_here", "_law_many", "_law_most", "_law_way", "_law_one", "_law_other", "_law_found", "_law_k", "_law_some"]
theorem scRests : FnScope NRs ["_law_bag_here", "_law_many", "_law_most"] (defScope sLrests) := ⟨rfl, rfl, rfl, by decide +kernel, rfl, by decide +kernel, by decide +kernel⟩
theorem ok_Lrests (F : FnP K "_law_rests" "_law_rests" sLrests [] f fd) (T : Txt mg) (G : Cal P w K mg base 1 "_law_take" ["_law_bag_here", "_law_many"] spTake) : FnOk P w K mg base CX0 2 f fd ["_law_bag_here", "_law_many", "_law_most"] spSpans := by
  refine okF F scRests (fun vs H Q E h => ?_) (fun cdv A outer s H vs Q E hr h => ?_)
  · obtain ⟨b, c, n, m, rfl, _⟩ := h
    rfl
  · obtain ⟨b, c, n, m, rfl, hB, hn, hm1, hm2, k⟩ := h
    refine ⟨_, pss_cons (ps_set (i := 3) scRests.nd rfl (Or.inl rfl) (pe_cal G hr rfl (pa_cons (pv 0) (pa_cons pe_int pa_nil))))
      (pss_cons (ps_par (i := 4) (j := 5) rfl scRests.nd rfl rfl (by decide) rfl rfl (pa_cons (pe_op op_add pe_int (pe_cal G hr rfl (pa_cons (pv 0) (pa_cons (pv 2) pa_nil)))) (pa_cons (pe_op op_add pe_int (pe_cal G hr rfl (pa_cons (pv 0) (pa_cons (pv 2) pa_nil)))) pa_nil)) (by rfl))
      (pss_cons (ps_set (i := 6) scRests.nd rfl (Or.inl rfl) (pe_lst pa_nil))
      (pss_cons (ps_for PassesOwn.never rfl (pi_range1 rfl T.rng (pa_cons (pv 1) pa_nil)) (pg_name (i := 7) scRests.nd rfl (Or.inl rfl))
        (pss_cons (ps_set (i := 8) scRests.nd rfl (Or.inl rfl) (pe_lst (pa_cons (pe_op op_add pe_int (pe_cal G hr rfl (pa_cons (pv 0) (pa_cons (pv 2) pa_nil)))) (pa_cons (pe_op op_add pe_int (pe_cal G hr rfl (pa_cons (pv 0) (pa_cons (pe_callB (call_min2 rfl) (by rfl) T.min (by decide +kernel) (pa_cons pe_int (pa_cons (pv 2) pa_nil))) pa_nil))))
            (pa_cons (pv 4)
            (pa_cons (pe_ix ix_list (pe_lst (pa_cons (pv 4) (pa_cons (pv 5) pa_nil))) (pe_cal G hr rfl (pa_cons (pv 0) (pa_cons pe_int pa_nil))) (fun _ _ => rfl)) pa_nil))))))
        (pss_one (ps_expr (pe_bm PySem.F.plainAttrs_list PySem.F.slot_list_append PySem.F.type_list_append mt_append (pv 6) (pa_cons (pe_ix ix_list (pv 8) (pv 3) (fun _ _ => rfl)) pa_nil))))))
      (pss_one (ps_ret (pv 6)))))), ?_⟩
    refine ⟨_, rfl, b, c, 4, rfl, hB, by decide, by decide, fun r1 H1 s1 B1 h1 h2 => ?_⟩
    obtain ⟨way, rfl⟩ := Int.eq_ofNat_of_zero_le h1
    obtain ⟨oc, ec⟩ := hB.cell
    refine ⟨_, rfl, _, rfl, b, c, m, rfl, B1, hm1, by omega, fun r2 H2 s2 B2 h3 h4 => ⟨_, _, rfl, rfl, ?_⟩⟩
    refine ⟨_, rfl, _, rfl, b, c, m, rfl, B2, hm1, by omega, fun r2' H2' s2' B2' h3' h4' => ⟨_, _, rfl, rfl, ?_⟩⟩
    refine ⟨_, _, rfl, ?_⟩
    refine ⟨Nat.zero_le _, fun F hF => ?_⟩
    have s02 := (s1.trans s2).trans s2'
    obtain ⟨o2, eb2⟩ := B2'.at_
    have hFb : F ≠ b := (ne_of_none eb2 hF).symm
    have hF0 : H F = none := s02.free hFb hF
    have hFc : F ≠ c := (ne_of_none ec hF0).symm
    refine ⟨_, rfl, (n : Int), rfl, by omega, by omega, for_it walk_range (fun i σ H' => ∃ v6 v7 xs, σ = [some (.ref b), some (.int (n : Nat)), some (.int m), some (.int (way : Nat)), some (.int (1 + r2)), some (.int (1 + r2')), some (.ref F), v6, v7] ∧ SameX b H H' ∧ BagA c H' b ∧ H' F = some (.lst (xs.map V.int)) ∧ xs.length = i ∧ ∀ x ∈ xs, 1 ≤ x ∧ x ≤ 1000)
      ⟨none, none, [], rfl, sameX_upd s02 hF0, B2'.upd hFb hFc, upd_same, rfl, fun x hx => by cases hx⟩ (fun _ _ _ _ _ => trivial) ?_ ?_⟩
    · rintro i x σ _ H3 hi ⟨v6, v7, xs, rfl, s3, B3, e3, l, hxs⟩ ⟨rfl, hx⟩
      have hi : i < n := by simpa using hi
      refine ⟨_, rfl, _, rfl, b, c, m, rfl, B3, hm1, by omega, fun r4 H4 s4 B4 h5 h6 => ⟨_, _, rfl, rfl, ?_⟩⟩
      refine ⟨_, rfl, _, rfl, 3, m, rfl, b, c, _, rfl, B4, by split <;> omega, by split <;> omega, fun r5 H5 s5 B5 h7 h8 => ⟨_, _, rfl, rfl, ?_⟩⟩
      have h8' : r5 < 3 ∧ r5 < m := by split at h8 <;> omega
      refine ⟨_, rfl, _, rfl, _, rfl, by show 2 ≤ sizeLine; decide, fun p hp => ?_⟩
      obtain ⟨o5, eb5⟩ := B5.at_
      obtain ⟨oc5, ec5⟩ := B5.cell
      have hpb : p ≠ b := (ne_of_none eb5 hp).symm
      have hpc : p ≠ c := (ne_of_none ec5 hp).symm
      have s05 := (s3.trans s4).trans s5
      have hp0 : H p = none := s05.free hpb hp
      have e5 : H5 F = some (.lst (xs.map V.int)) := s5 F _ hFb (s4 F _ hFb e3)
      have hpF : p ≠ F := (ne_of_none e5 hp).symm
      have B6 : BagA c (upd H5 p (.lst [.int (1 + r2), .int (1 + r2')])) b := B5.upd hpb hpc
      have e6 : upd H5 p (.lst [.int (1 + r2), .int (1 + r2')]) F = some (.lst (xs.map V.int)) := by
        rw [upd_ne hpF.symm]
        exact e5
      have ep : upd H5 p (.lst [.int (1 + r2), .int (1 + r2')]) p = some (.lst [.int (1 + r2), .int (1 + r2')]) := upd_same
      have s6 : SameX b H (upd H5 p (.lst [.int (1 + r2), .int (1 + r2')])) := sameX_upd s05 hp0
      generalize upd H5 p (.lst [.int (1 + r2), .int (1 + r2')]) = H6 at B6 e6 ep s6 ⊢
      refine ⟨_, rfl, b, c, 2, rfl, B6, by decide, by decide, fun r7 H7 s7 B7 h9 h10 => ?_⟩
      obtain ⟨j, rfl⟩ := Int.eq_ofNat_of_zero_le h9
      obtain ⟨z, hz, hz2⟩ := pick2 (1 + r2) (1 + r2') (j := j) (by omega)
      refine ⟨p, _, _, .int z, rfl, rfl, SqL.of (s7 _ _ hpb ep), atN hz, ?_⟩
      refine ⟨by show 4 ≤ sizeLine; decide, fun q hq => ?_⟩
      have e7 : H7 F = some (.lst (xs.map V.int)) := s7 F _ hFb e6
      obtain ⟨o7, eb7⟩ := B7.at_
      obtain ⟨oc7, ec7⟩ := B7.cell
      have hqb : q ≠ b := (ne_of_none eb7 hq).symm
      have hqc : q ≠ c := (ne_of_none ec7 hq).symm
      have hqF : q ≠ F := (ne_of_none e7 hq).symm
      have s07 := s6.trans s7
      have hq0 : H q = none := s07.free hqb hq
      obtain ⟨z2, hz3⟩ := has4 (1 + r4) (1 + r5) (1 + r2) z (j := way) (by omega)
      have hz4 : 1 ≤ z2 ∧ z2 ≤ 1000 := pick4 (P := fun z => 1 ≤ z ∧ z ≤ 1000) hz3 (by omega) (by omega) (by omega) (by omega)
      have eq : upd H7 q (.lst [.int (1 + r4), .int (1 + r5), .int (1 + r2), .int z]) q = some (.lst [.int (1 + r4), .int (1 + r5), .int (1 + r2), .int z]) := upd_same
      have e8 : upd H7 q (.lst [.int (1 + r4), .int (1 + r5), .int (1 + r2), .int z]) F = some (.lst (xs.map V.int)) := by
        rw [upd_ne hqF.symm]
        exact e7
      have B8 : BagA c (upd H7 q (.lst [.int (1 + r4), .int (1 + r5), .int (1 + r2), .int z])) b := B7.upd hqb hqc
      have s8 : SameX b H (upd H7 q (.lst [.int (1 + r4), .int (1 + r5), .int (1 + r2), .int z])) := sameX_upd s07 hq0
      generalize upd H7 q (.lst [.int (1 + r4), .int (1 + r5), .int (1 + r2), .int z]) = H8 at eq e8 B8 s8 ⊢
      refine ⟨_, rfl, .inl ⟨rfl, _, SqL.of e8⟩, _, rfl, _, rfl, q, _, _, .int z2, rfl, rfl, SqL.of eq, atN hz3, F, _, _, rfl, rfl, e8, ?_, ?_⟩
      · rw [List.length_map, l]
        exact Nat.lt_of_le_of_lt (show i ≤ 50 by omega) (by decide)
      · refine ⟨_, _, xs ++ [z2], rfl, sameX_upd s8 hF0, B8.upd hFb hFc, by rw [upd_same, List.map_append]; rfl, by rw [List.length_append, l]; rfl, fun x hx => ?_⟩
        rcases List.mem_append.mp hx with hx | hx
        · exact hxs x hx
        · have : x = z2 := by simpa using hx
          rw [this]
          exact hz4
    · rintro σ H3 ⟨v6, v7, xs, rfl, s3, B3, e3, l, hxs⟩
      exact ⟨_, rfl, k F xs H3 s3 B3 hF0 e3 (by omega) hxs⟩
end
end L2.K87
set_option Elab.async false
set_option linter.all false
set_option autoImplicit false
set_option maxRecDepth 100000
set_option maxHeartbeats 4000000
/-! The order of standings. -/
namespace L2.K87
open PySem PySem.Spec PyProof.Rows
theorem encP_ne {a b : Str × Int} (h : a.1 ≠ b.1) : PySem.W.dataLe false encP a b = leT a.1 b.1 := by
  show (!PySem.W.dataLt (.tuple [.str b.1, .int b.2]) (.tuple [.str a.1, .int a.2])) = _
  rw [PySem.W.dataLt_pair (by simp [PySem.W.alike]) (by simp [PySem.W.alike])]
  have e : PyData.eqv (.str b.1) (.str a.1) = false := by
    simp only [PyData.eqv]
    exact beq_eq_false_iff_ne.mpr fun z => h z.symm
  rw [e, if_neg Bool.false_ne_true, PySem.W.dataLt_str, PySem.W.not_lt_str]
structure SortedSt (st : Sg) : Prop where
  nd : (st.map (·.1)).Nodup
  ri : (st.map (·.1)).Pairwise fun x y => leT x y = true
theorem SortedSt.of {st st' : Sg} (h : SortedSt st) (e : st'.map (·.1) = st.map (·.1)) : SortedSt st' := ⟨by rw [e]; exact h.nd, by rw [e]; exact h.ri⟩
theorem sortP_sorted {st : Sg} (hn : (st.map (·.1)).Nodup) : SortedSt (sortP st) := by
  have hp := sortP_perm st
  have hn2 : ((sortP st).map (·.1)).Nodup := (hp.map _).nodup_iff.mpr hn
  refine ⟨hn2, ?_⟩
  have h1 := PySem.W.sort_pairwise (PySem.W.sortLe_total (PyProof.Rows.listOrd PyProof.Rows.itemOrd) false fun b => PySem.W.keyToks (encP b)) st
  have h1 : (sortP st).Pairwise fun a b => PySem.W.dataLe false encP a b = true := h1
  have h2 : (sortP st).Pairwise fun a b => a.1 ≠ b.1 := List.pairwise_map.mp (List.nodup_iff_pairwise_ne.mp hn2)
  refine List.pairwise_map.mpr (List.Pairwise.imp₂ ?_ h1 h2)
  intro a b h3 h4
  rw [← encP_ne h4]
  exact h3
theorem sortP_id {st : Sg} (h : SortedSt st) : sortP st = st := by
  have h2 : st.Pairwise fun a b => a.1 ≠ b.1 := List.pairwise_map.mp (List.nodup_iff_pairwise_ne.mp h.nd)
  have h1 : st.Pairwise fun a b => leT a.1 b.1 = true := List.pairwise_map.mp h.ri
  refine List.mergeSort_of_pairwise (List.Pairwise.imp₂ ?_ h1 h2)
  intro a b h3 h4
  rw [encP_ne h4]
  exact h3
theorem sorted_call {ls : List Int} {st : Sg} {k : List Str} (h : SortedSt st) : SortedSt (callS ls st k) := h.of (map_fst_call ls st k)
end L2.K87
set_option Elab.async false
set_option linter.all false
set_option autoImplicit false
set_option maxRecDepth 100000
set_option maxHeartbeats 4000000
/-! Strokes, standings, wishes, prices as plain data. -/
namespace L2.K87
open PySem PySem.Spec PyProof.Rows
def LayD (d : PyData) (n : Nat) : Prop := d.canLay0 = true ∧ d.depth ≤ n
theorem LayD.shaped {d : PyData} {n : Nat} (h : LayD d n) (hn : n ≤ 64 := by decide) : SeqAt.shaped d = true := by
  unfold SeqAt.shaped
  rw [h.1, decide_eq_true (Nat.le_trans h.2 hn)]
  rfl
theorem lay_all {ds : List PyData} {n : Nat} (h : ∀ d ∈ ds, LayD d n) : PyData.canLayAll0 ds = true ∧ PyData.depthAll ds ≤ n := by
  induction ds with
  | nil => exact ⟨rfl, Nat.zero_le _⟩
  | cons d ds ih =>
    obtain ⟨h1, h2⟩ := ih fun x hx => h x (List.mem_cons_of_mem _ hx)
    obtain ⟨h3, h4⟩ := h d List.mem_cons_self
    refine ⟨?_, ?_⟩
    · rw [PyData.canLayAll0, h1, h3]
      rfl
    · rw [PyData.depthAll]
      omega
theorem lay_list {ds : List PyData} {n : Nat} (h : ∀ d ∈ ds, LayD d n) : LayD (.list ds) (n + 1) := by
  obtain ⟨h1, h2⟩ := lay_all h
  exact ⟨by rw [PyData.canLay0]; exact h1, by rw [PyData.depth]; omega⟩
theorem lay_tup {ds : List PyData} {n : Nat} (h : ∀ d ∈ ds, LayD d n) : LayD (.tuple ds) (n + 1) := by
  obtain ⟨h1, h2⟩ := lay_all h
  exact ⟨by rw [PyData.canLay0]; exact h1, by rw [PyData.depth]; omega⟩
theorem LayD.mono {d : PyData} {m n : Nat} (h : LayD d m) (l : m ≤ n) : LayD d n := ⟨h.1, Nat.le_trans h.2 l⟩
theorem lay_int (i : Int) (n : Nat) : LayD (.int i) n := ⟨rfl, by rw [PyData.depth]; omega⟩
theorem lay_none (n : Nat) : LayD .none n := ⟨rfl, by rw [PyData.depth]; omega⟩
theorem lay_str {x : Str} (h : PyData.strOk x = true) (n : Nat) : LayD (.str x) n := ⟨by rw [PyData.canLay0]; exact h, by rw [PyData.depth]; omega⟩
theorem lay2 {a b : PyData} {n : Nat} (h1 : LayD a n) (h2 : LayD b n) : LayD (.tuple [a, b]) (n + 1) := lay_tup fun d hd => by
  simp only [List.mem_cons, List.not_mem_nil, or_false] at hd
  rcases hd with rfl | rfl
  · exact h1
  · exact h2
/-! ### strokes -/
def dSk (k : List Str) : PyData := .list (k.map PyData.str)
def dSks (ks : List (List Str)) : PyData := .list (ks.map dSk)
theorem lay_sk {k : List Str} (h : ∀ x ∈ k, PyData.strOk x = true) : LayD (dSk k) 1 := lay_list (n := 0) fun d hd => by
  obtain ⟨x, hx, rfl⟩ := List.mem_map.mp hd
  exact lay_str (h x hx) 0
theorem lay_sks {ks : List (List Str)} (h : ∀ k ∈ ks, ∀ x ∈ k, PyData.strOk x = true) : LayD (dSks ks) 2 := lay_list (n := 1) fun d hd => by
  obtain ⟨k, hk, rfl⟩ := List.mem_map.mp hd
  exact lay_sk (h k hk)
theorem dp_sk {K : PySem.W.Frag} {H : Hp} {a : Addr} {k : List Str} (h : SkA H a k) : Dp K H (.ref a) (dSk k) := .lst (SqL.of h) (dp_strs k)
theorem dp_all {K : PySem.W.Frag} {H : Hp} {α : Type} {F : Addr → α → Prop} {g : α → PyData} {as : List Addr} {xs : List α} (h : Paired F as xs) (f : ∀ a x, F a x → Dp K H (.ref a) (g x)) : DpAll K H (as.map V.ref) (xs.map g) := by
  induction h with
  | nil => exact .nil
  | cons r t ih => exact .cons (f _ _ r) ih
theorem dp_sks {K : PySem.W.Frag} {H : Hp} {a : Addr} {ks : List (List Str)} (h : SksA H a ks) : Dp K H (.ref a) (dSks ks) := by
  obtain ⟨as, e, r⟩ := h
  exact .lst (SqL.of e) (dp_all r fun _ _ z => dp_sk z)
/-! ### standings, prices, wishes -/
def dSt (st : Sg) : PyData := .tuple (st.map encP)
theorem lay_st {st : Sg} (h : ∀ p ∈ st, PyData.strOk p.1 = true) : LayD (dSt st) 2 := lay_tup (n := 1) fun d hd => by
  obtain ⟨p, hp, rfl⟩ := List.mem_map.mp hd
  exact lay2 (lay_str (h p hp) 0) (lay_int p.2 0)
theorem dp_st {K : PySem.W.Frag} {H : Hp} {a : Addr} {st : Sg} (h : StA H a st) : Dp K H (.ref a) (dSt st) := by
  obtain ⟨qs, e, r⟩ := h
  exact .tup (SqT.of e) (dp_all r fun _ p z => .tup (SqT.of z) (.cons (.str p.1) (.cons (.int p.2) .nil)))
def dO : Option Nat → PyData
  | none => .none
  | some n => .int (n : Nat)
theorem lay_o (o : Option Nat) (n : Nat) : LayD (dO o) n := by
  cases o with
  | none => exact lay_none n
  | some x => exact lay_int _ n
theorem dp_o {K : PySem.W.Frag} {H : Hp} (o : Option Nat) : Dp K H (priV o) (dO o) := by
  cases o with
  | none => exact .non
  | some x => exact .int _
def dPri (p : Sg × Option Nat) : PyData := .tuple [dSt p.1, dO p.2]
def dTol (tl : List (Sg × Option Nat)) : PyData := .list (tl.map dPri)
theorem lay_pri {p : Sg × Option Nat} (h : ∀ q ∈ p.1, PyData.strOk q.1 = true) : LayD (dPri p) 3 := lay2 (lay_st h) (lay_o p.2 2)
theorem lay_tol {tl : List (Sg × Option Nat)} (h : ∀ p ∈ tl, ∀ q ∈ p.1, PyData.strOk q.1 = true) : LayD (dTol tl) 4 := lay_list (n := 3) fun d hd => by
  obtain ⟨p, hp, rfl⟩ := List.mem_map.mp hd
  exact lay_pri (h p hp)
theorem dp_pri {K : PySem.W.Frag} {H : Hp} {q : Addr} {p : Sg × Option Nat} (h : PriA H q p) : Dp K H (.ref q) (dPri p) := by
  obtain ⟨b, e, z⟩ := h
  exact .tup (SqT.of e) (.cons (dp_st z) (.cons (dp_o p.2) .nil))
theorem dp_tol {K : PySem.W.Frag} {H : Hp} {r : Addr} {tl : List (Sg × Option Nat)} (h : TolA H r tl) : Dp K H (.ref r) (dTol tl) := by
  obtain ⟨ps, e, z⟩ := h
  exact .lst (SqL.of e) (dp_all z fun _ _ y => dp_pri y)
def dWi : Wish → PyData
  | .groups n => .tuple [.str "groups", .int n]
  | .together ns => .tuple [.str "together", dSk ns]
theorem lay_wi {wi : Wish} (h : ∀ x ∈ wnt wi, PyData.strOk x = true) : LayD (dWi wi) 2 := by
  cases wi with
  | groups n => exact lay2 (lay_str (by decide +kernel) 1) (lay_int n 1)
  | together ns => exact lay2 (lay_str (by decide +kernel) 1) (lay_sk h)
theorem dp_wi {K : PySem.W.Frag} {H : Hp} {a : Addr} {wi : Wish} (h : WiA H a wi) : Dp K H (.ref a) (dWi wi) := by
  cases wi with
  | groups n => exact .tup (SqT.of h) (.cons (.str _) (.cons (.int _) .nil))
  | together ns =>
    obtain ⟨l, e1, e2⟩ := h
    exact .tup (SqT.of e1) (.cons (.str _) (.cons (dp_sk e2) .nil))
/-! ### equality of data with itself -/
mutual
theorem eqv_self : ∀ d : PyData, d.canLay0 = true → PyData.eqv d d = true
  | .none, _ => rfl
  | .bool b, _ => by rw [PyData.eqv]; simp
  | .int i, _ => by rw [PyData.eqv]; simp
  | .str x, _ => by rw [PyData.eqv]; simp
  | .list ds, h => by
    rw [PyData.canLay0] at h
    rw [PyData.eqv]
    exact eqvAll_self ds h
  | .tuple ds, h => by
    rw [PyData.canLay0] at h
    rw [PyData.eqv]
    exact eqvAll_self ds h
  | .dict kvs, h => by
    rw [PyData.canLay0] at h
    cases h
theorem eqvAll_self : ∀ ds : List PyData, PyData.canLayAll0 ds = true → PyData.eqvAll ds ds = true
  | [], _ => rfl
  | d :: ds, h => by
    rw [PyData.canLayAll0] at h
    obtain ⟨h1, h2⟩ := Bool.and_eq_true_iff.mp h
    rw [PyData.eqvAll, eqv_self d h1, eqvAll_self ds h2]
    rfl
end
end L2.K87
set_option Elab.async false
set_option linter.all false
set_option autoImplicit false
set_option maxRecDepth 100000
set_option maxHeartbeats 4000000
namespace L2.K87
open PySem PySem.Spec PyProof.Rows
section
variable {P : Program} {w : World} {K : PySem.W.Frag} {mg : Str → Option Value} {base : Heap} {f C : Addr} {fd : FuncData}
/-! ### _law_hall -/
structure HallS (st : Sg) : Prop where
  nd : (st.map (·.1)).Nodup
  nm : ∀ p ∈ st, IsNm p.1
  pos : ∀ p ∈ st, 1 ≤ p.2
def spHall : Sp := fun vs H Q _ => ∃ (b c : Addr) (n : Nat) (m l : Int), vs = [.ref b, .int (n : Nat), .int m, .int l] ∧ BagA c H b ∧ 1 ≤ n ∧ n ≤ 40 ∧ 1 ≤ m ∧ m ≤ 1000 ∧ 1 ≤ l ∧ l ≤ 1000 ∧
  ∀ (t sp d : Addr) (ls : List Int) (st : Sg) (H' : Hp), SameX b H H' → BagA c H' b → H t = none → H sp = none → H d = none → H' t = some (.tup [.ref sp, .ref d]) → H' sp = some (.lst (ls.map V.int)) → H' d = some (.dK (stK st)) →
    1 ≤ ls.length → ls.length ≤ n → (∀ x ∈ ls, 1 ≤ x ∧ x ≤ 1000) → HallS st → st.length ≤ ls.length → Q (.ref t) H'
abbrev NHa : List Str := ["_law_bag_here", "_law_many", "_law_most", "_law_longest", "_law_size", "_law_spans_here", "_law_there"]
theorem scHall : FnScope NHa ["_law_bag_here", "_law_many", "_law_most", "_law_longest"] (defScope sLhall) := ⟨rfl, rfl, rfl, by decide +kernel, rfl, by decide +kernel, by decide +kernel⟩
theorem zip_fst {ns : List Str} {xs : List Int} (h : xs.length = ns.length) : (ns.zip xs).map (·.1) = ns := by
  rw [List.map_fst_zip]
  omega
theorem zip_snd {ns : List Str} {xs : List Int} (h : xs.length = ns.length) : (ns.zip xs).map (·.2) = xs := by
  rw [List.map_snd_zip]
  omega
theorem ok_Lhall (F : FnP K "_law_hall" "_law_hall" sLhall [] f fd) (T : Txt mg) (G : Cal P w K mg base 1 "_law_take" ["_law_bag_here", "_law_many"] spTake) (G2 : Cal P w K mg base 2 "_law_names" ["_law_bag_here", "_law_many"] spNames)
    (G3 : Cal P w K mg base 2 "_law_spans" ["_law_bag_here", "_law_many", "_law_most"] spSpans) (G4 : Cal P w K mg base 2 "_law_rests" ["_law_bag_here", "_law_many", "_law_most"] spSpans) : FnOk P w K mg base CX0 3 f fd ["_law_bag_here", "_law_many", "_law_most", "_law_longest"] spHall := by
  refine okF F scHall (fun vs H Q E h => ?_) (fun cdv A outer s H vs Q E hr h => ?_)
  · obtain ⟨b, c, n, m, l, rfl, _⟩ := h
    rfl
  · obtain ⟨b, c, n, m, l, rfl, hB, hn1, hn2, hm1, hm2, hl1, hl2, k⟩ := h
    have hr1 := hr.mono (show 1 ≤ 2 by decide)
    refine ⟨_, pss_cons (ps_set (i := 4) scHall.nd rfl (Or.inl rfl) (pe_op op_add pe_int (pe_cal G hr1 rfl (pa_cons (pv 0) (pa_cons (pv 1) pa_nil)))))
      (pss_cons (ps_set (i := 5) scHall.nd rfl (Or.inl rfl) (pe_cal G3 hr rfl (pa_cons (pv 0) (pa_cons (pv 4) (pa_cons (pv 2) pa_nil)))))
      (pss_cons (ps_set (i := 6) scHall.nd rfl (Or.inl rfl) (pe_ix ix_list (pe_lst (pa_cons (pe_cal G hr1 rfl (pa_cons (pv 0) (pa_cons (pe_op op_add (pv 4) pe_int) pa_nil))) (pa_cons (pv 4) pa_nil)))
          (pe_callTy call_int1 (by rfl) T.int (by decide +kernel) (pa_cons (pe_cmpR op_eq (pe_cal G hr1 rfl (pa_cons (pv 0) (pa_cons pe_int pa_nil))) pe_int (nomark _)) pa_nil)) (fun _ _ => rfl)))
      (pss_one (ps_ret (pe_tup (pa_cons (pv 5) (pa_cons (pe_dictZip rfl T.dic rfl T.zip (pa_cons (pe_cal G2 hr rfl (pa_cons (pv 0) (pa_cons (pv 6) pa_nil))) (pa_cons (pe_cal G4 hr rfl (pa_cons (pv 0) (pa_cons (pv 6) (pa_cons (pv 3) pa_nil)))) pa_nil))) pa_nil))))))), ?_⟩
    obtain ⟨oc, ec⟩ := hB.cell
    refine ⟨_, rfl, _, rfl, b, c, (n : Int), rfl, hB, by omega, by omega, fun r1 H1 s1 B1 h1 h2 => ⟨_, _, rfl, rfl, ?_⟩⟩
    obtain ⟨z, rfl⟩ := Int.eq_ofNat_of_zero_le h1
    have ez : (1 : Int) + ((z : Nat) : Int) = ((1 + z : Nat) : Int) := by omega
    refine ⟨_, rfl, _, rfl, _, rfl, b, c, 1 + z, m, congrArg (fun q : Int => [V.ref b, V.int q, V.int m]) ez, B1, by omega, hm1, hm2, fun sp ls H2 s2 B2 hsp esp lls hls => ?_⟩
    have s02 := s1.trans s2
    obtain ⟨o2, eb2⟩ := B2.at_
    have hspb : sp ≠ b := fun z => by
      obtain ⟨o, e⟩ := B1.at_
      rw [z, e] at hsp
      cases hsp
    have hsp0 : H sp = none := s1.free hspb hsp
    refine ⟨_, rfl, _, rfl, _, _, rfl, rfl, b, c, _, rfl, B2, by omega, by omega, fun r3 H3 s3 B3 h3 h4 => ?_⟩
    obtain ⟨z3, rfl⟩ := Int.eq_ofNat_of_zero_le h3
    refine ⟨_, rfl, by show 2 ≤ sizeLine; decide, fun p hp => ?_⟩
    obtain ⟨o3, eb3⟩ := B3.at_
    obtain ⟨oc3, ec3⟩ := B3.cell
    have hpb : p ≠ b := (ne_of_none eb3 hp).symm
    have hpc : p ≠ c := (ne_of_none ec3 hp).symm
    have s03 := s02.trans s3
    have hp0 : H p = none := s03.free hpb hp
    have esp3 := s3 sp _ hspb esp
    have hpsp : p ≠ sp := (ne_of_none esp3 hp).symm
    have B4 : BagA c (upd H3 p (.lst [.int ((z3 : Nat) : Int), .int (1 + ((z : Nat) : Int))])) b := B3.upd hpb hpc
    have s4 : SameX b H (upd H3 p (.lst [.int ((z3 : Nat) : Int), .int (1 + ((z : Nat) : Int))])) := sameX_upd s03 hp0
    have ep : upd H3 p (.lst [.int ((z3 : Nat) : Int), .int (1 + ((z : Nat) : Int))]) p = some (.lst [.int ((z3 : Nat) : Int), .int (1 + ((z : Nat) : Int))]) := upd_same
    have esp4 : upd H3 p (.lst [.int ((z3 : Nat) : Int), .int (1 + ((z : Nat) : Int))]) sp = some (.lst (ls.map V.int)) := by
      rw [upd_ne hpsp.symm]
      exact esp3
    generalize upd H3 p (.lst [.int ((z3 : Nat) : Int), .int (1 + ((z : Nat) : Int))]) = H4 at B4 s4 ep esp4 ⊢
    refine ⟨_, rfl, b, c, 4, rfl, B4, by decide, by decide, fun r5 H5 s5 B5 h5 h6 => ⟨rfl, .inr ⟨_, rfl, ?_⟩⟩⟩
    obtain ⟨there, hthere, hat⟩ : ∃ y : Nat, y ≤ 1 + z ∧ ∀ j : Int, (j = 0 ∨ j = 1) → ∃ y : Nat, y ≤ 1 + z ∧ atI [V.int ((z3 : Nat) : Int), .int (1 + ((z : Nat) : Int))] j = some (.int (y : Nat)) := by
      refine ⟨0, Nat.zero_le _, fun j hj => ?_⟩
      rcases hj with rfl | rfl
      · exact ⟨z3, by omega, at_of (j := 0) rfl rfl⟩
      · exact ⟨1 + z, Nat.le_refl _, at_of (j := 1) rfl (by rw [← ez]; rfl)⟩
    obtain ⟨y, hy, hy2⟩ := hat (if (decide (V.int r5 = V.int 0)) = true then 1 else 0) (by split <;> simp)
    refine ⟨p, _, _, _, rfl, rfl, SqL.of (s5 p _ hpb ep), hy2, ?_⟩
    have s05 := s4.trans s5
    refine ⟨_, rfl, ?_⟩
    refine ⟨_, rfl, _, rfl, b, c, y, rfl, B5, by omega, fun nr ns H6 s6 B6 hnr enr lns hnd hnm => ?_⟩
    have hnrb : nr ≠ b := fun z => by
      obtain ⟨o, e⟩ := B5.at_
      rw [z, e] at hnr
      cases hnr
    refine ⟨_, rfl, _, rfl, _, rfl, b, c, y, l, rfl, B6, by omega, hl1, hl2, fun rr xs H7 s7 B7 hrr err lxs hxs => ?_⟩
    have s57 := s6.trans s7
    have lxn : xs.length = ns.length := by omega
    refine ⟨nr, rr, ns.zip xs, rfl, ?_, ?_, ?_, fun d hd => ?_⟩
    · have e : (ns.zip xs).map (fun p => V.str p.1) = ns.map V.str := by
        have := congrArg (List.map V.str) (zip_fst lxn)
        rw [List.map_map] at this
        exact this
      rw [e]
      exact SqL.of (s7 nr _ hnrb enr)
    · have e : (ns.zip xs).map (fun p => V.int p.2) = xs.map V.int := by
        have := congrArg (List.map V.int) (zip_snd lxn)
        rw [List.map_map] at this
        exact this
      rw [e]
      exact SqL.of err
    · rw [zip_fst lxn]
      exact hnd
    obtain ⟨o7, eb7⟩ := B7.at_
    obtain ⟨oc7, ec7⟩ := B7.cell
    have hdb : d ≠ b := (ne_of_none eb7 hd).symm
    have hdc : d ≠ c := (ne_of_none ec7 hd).symm
    have s07 := s05.trans s57
    have hd0 : H d = none := s07.free hdb hd
    have esp7 := s57 sp _ hspb (s5 sp _ hspb esp4)
    have hdsp : d ≠ sp := (ne_of_none esp7 hd).symm
    refine ⟨by show 2 ≤ sizeLine; decide, fun t ht => ?_⟩
    have B8 : BagA c (upd H7 d (.dK (stK (ns.zip xs)))) b := B7.upd hdb hdc
    have s8 : SameX b H (upd H7 d (.dK (stK (ns.zip xs)))) := sameX_upd s07 hd0
    have ed : upd H7 d (.dK (stK (ns.zip xs))) d = some (.dK (stK (ns.zip xs))) := upd_same
    have esp8 : upd H7 d (.dK (stK (ns.zip xs))) sp = some (.lst (ls.map V.int)) := by
      rw [upd_ne hdsp.symm]
      exact esp7
    generalize upd H7 d (.dK (stK (ns.zip xs))) = H8 at ht B8 s8 ed esp8 ⊢
    obtain ⟨o8, eb8⟩ := B8.at_
    obtain ⟨oc8, ec8⟩ := B8.cell
    have htb : t ≠ b := (ne_of_none eb8 ht).symm
    have htc : t ≠ c := (ne_of_none ec8 ht).symm
    have ht0 : H t = none := s8.free htb ht
    have nt : New H8 (upd H8 t (.tup [.ref sp, .ref d])) t := New.upd ht
    refine k t sp d ls (ns.zip xs) _ (sameX_upd s8 ht0) (B8.upd htb htc) ht0 hsp0 hd0 upd_same (nt.same _ _ esp8) (nt.same _ _ ed) (by omega) (by omega) hls ⟨by rw [zip_fst lxn]; exact hnd, fun p hp => hnm _ (List.of_mem_zip hp).1, fun p hp => (hxs _ (List.of_mem_zip hp).2).1⟩ ?_
    rw [List.length_zip]
    omega
/-! ### _law_stand -/
def spLStand : Sp := fun vs H Q _ => ∃ (d : Addr) (st : Sg), vs = [.ref d] ∧ H d = some (.dK (stK st)) ∧ (st.map (·.1)).Nodup ∧ st.length ≤ 60 ∧ ∀ (r : Addr) (H' : Hp), Same H H' → H r = none → StA H' r (sortP st) → Q (.ref r) H'
theorem scLStand : FnScope ["_law_rests_here", "_law_name"] ["_law_rests_here"] (defScope sLstand) := ⟨rfl, rfl, rfl, by decide +kernel, rfl, by decide +kernel, by decide +kernel⟩
theorem ok_Lstand (F : FnP K "_law_stand" "_law_stand" sLstand [] f fd) (T : Txt mg) : FnOk P w K mg base CX0 1 f fd ["_law_rests_here"] spLStand := by
  refine okF F scLStand (fun vs H Q E h => ?_) (fun cdv A outer s H vs Q E hr h => ?_)
  · obtain ⟨d, st, rfl, _⟩ := h
    rfl
  · obtain ⟨d, st, rfl, hd, hnd, hz, k⟩ := h
    have hu := hu16 hr
    have h1 := hu1 hr
    refine ⟨_, pss_one (ps_ret (pe_lock (pe_callTy call_tuple_of (by rfl) T.tup (by decide +kernel) (pa_cons (pe_callB (call_sortedP hu) (by rfl) T.srt (by decide +kernel) (pa_cons (pe_lc (own := [("_law_name", 1)]) (g := gName 1) (tt := tYes) (te := tTup (tCons (tVar 1) (tCons (tDGet (tVar 0) (tVar 1)) tNil)))
      rfl scLStand.nd (pi_keys (pv 0)) (blkOk_by (N := ["_law_rests_here", "_law_name"]) (sc := defScope sLstand) (by decide +kernel)) (fun _ _ _ _ _ => pg_name (i := 1) scLStand.nd rfl (Or.inl rfl) (Or.inr rfl)) (fun _ _ _ _ _ => pts_nil)
      (fun _ _ _ _ _ => pe_tup (pa_cons (pv 1) (pa_cons (pe_dget h1 (pv 0) (pv 1) (fun _ _ => rfl)) pa_nil)))) pa_nil)) pa_nil)))), ?_⟩
    refine ⟨d, _, hd, True.intro, fun od => ?_⟩
    have eL : upd H d (.frz od (.dK (stK st))) d = some (.frz od (.dK (stK st))) := upd_same
    have xL : SameX d H (upd H d (.frz od (.dK (stK st)))) := SameX.upd
    obtain ⟨HL, eHL⟩ : ∃ HL, upd H d (.frz od (.dK (stK st))) = HL := ⟨_, rfl⟩
    rw [eHL] at eL xL ⊢
    refine ⟨_, rfl, d, od, rfl, .inl ⟨_, eL, fun D hD => ?_⟩⟩
    refine lcT walk_keys hD (fun i H' ys => ∃ ps : List Addr, ys = ps.map V.ref ∧ Paired (PrA H') ps (st.take i)) (fun _ _ _ _ t ⟨ps, e, r⟩ => ⟨ps, e, pimp r fun _ _ z => z.keep t⟩) (fun H' s => s _ _ eL) ⟨[], rfl, .nil⟩
      (fun i H' ys ⟨ps, e, r⟩ => by rw [e, List.length_map, plen r]; exact List.length_take_le _ _) (by rw [stK_len]; exact Nat.le_trans hz (by decide)) ?_ ?_
    · rintro i x _ H1 ys Yes No hi s1 ⟨ps, rfl, pr⟩ ⟨rfl, kk, v, hk, rfl⟩ yes no
      obtain ⟨p, hp, rfl, rfl⟩ := stK_at hk
      refine ⟨rfl, yesT ?_⟩
      refine ⟨_, rfl, _, rfl, _, rfl, d, _, rfl, .inl ⟨_, _, .inr ⟨_, s1 _ _ eL⟩, rfl, (stK_val hnd hp).symm⟩, ?_⟩
      refine ⟨by show 2 ≤ sizeLine; decide, fun t ht => ?_⟩
      have nt : New H1 (upd H1 t (.tup [.str p.1, .int p.2])) t := New.upd ht
      refine yes _ _ nt.same ⟨ps ++ [t], by rw [List.map_append]; rfl, ?_⟩
      rw [take_snoc hp]
      exact psnoc (pimp pr fun _ _ z => z.keep (tps nt.same)) upd_same
    rintro H1 ys s1 e1 ⟨ps, rfl, pr⟩
    rw [take_all (stK_len st)] at pr
    refine ⟨D, ps, st, rfl, SqL.of e1, pr, by omega, fun rs q prs hq => ?_⟩
    have nq : New H1 (upd H1 q (.lst (rs.map V.ref))) q := New.upd hq
    refine ⟨q, _, rfl, .inl ⟨SqL.of upd_same, fun r hr' => ?_⟩⟩
    have nr : New (upd H1 q (.lst (rs.map V.ref))) (upd (upd H1 q (.lst (rs.map V.ref))) r (.tup (rs.map V.ref))) r := New.upd hr'
    have s03 := (s1.trans nq.same).trans nr.same
    have er : upd (upd H1 q (.lst (rs.map V.ref))) r (.tup (rs.map V.ref)) r = some (.tup (rs.map V.ref)) := upd_same
    have pr3 := pimp prs fun _ _ z => (z.keep (tps nq.same)).keep (tps nr.same)
    have hrd : r ≠ d := (ne_of_none ((s1.trans nq.same) _ _ eL) hr').symm
    have hr0 : H r = none := xL.free hrd ((s1.trans nq.same).free hr')
    generalize upd (upd H1 q (.lst (rs.map V.ref))) r (.tup (rs.map V.ref)) = H3 at s03 er pr3 ⊢
    have e3 := s03 _ _ eL
    have tU : Tups H3 (upd H3 d (.dK (stK st))) := tups_upd e3 (fun _ z => nomatch z)
    refine ⟨e3, k r _ (unlock_same (fun b o hb e => s03 b o (by rw [← eHL]; exact e)) hd) hr0 ⟨rs, tU _ _ er, pimp pr3 fun _ _ z => z.keep tU⟩⟩
end
end L2.K87
set_option Elab.async false
set_option linter.all false
set_option autoImplicit false
set_option maxRecDepth 100000
set_option maxHeartbeats 4000000
namespace L2.K87
open PySem PySem.Spec PyProof.Rows
def decP (p : Str × Int) : Str × Int := (p.1, p.2 - 1)
def setU (v : Int) (us : List Str) (s : Sg) : Sg := s.map fun p => if p.1 ∈ us then (p.1, v) else p
theorem setU_keys (v : Int) (us : List Str) (s : Sg) : (setU v us s).map (·.1) = s.map (·.1) := by
  unfold setU
  rw [List.map_map]
  refine List.map_congr_left fun p _ => ?_
  show (if p.1 ∈ us then (p.1, v) else p).1 = p.1
  split <;> rfl
theorem setU_nil (v : Int) (s : Sg) : setU v [] s = s := by
  unfold setU
  simp
theorem setU_snoc (v : Int) (us : List Str) (n : Str) (s : Sg) : setU v (us ++ [n]) s = (setU v us s).map fun p => if p.1 = n then (p.1, v) else p := by
  unfold setU
  rw [List.map_map]
  refine List.map_congr_left fun p _ => ?_
  show (if p.1 ∈ us ++ [n] then (p.1, v) else p) = (if (if p.1 ∈ us then (p.1, v) else p).1 = n then ((if p.1 ∈ us then (p.1, v) else p).1, v) else (if p.1 ∈ us then (p.1, v) else p))
  have m1 : (p.1 ∈ us ++ [n]) ↔ (p.1 ∈ us ∨ p.1 = n) := by simp
  by_cases h1 : p.1 ∈ us
  · rw [if_pos (m1.mpr (.inl h1)), if_pos h1]
    show (p.1, v) = if p.1 = n then (p.1, v) else (p.1, v)
    split <;> rfl
  · rw [if_neg h1]
    by_cases h2 : p.1 = n
    · rw [if_pos (m1.mpr (.inr h2)), if_pos h2]
    · rw [if_neg (fun h => (m1.mp h).elim h1 h2), if_neg h2]
theorem pmapR {α β γ : Type} {F : α → β → Prop} {G : α → γ → Prop} {g : β → γ} {l : List α} {m : List β} (h : Paired F l m) (f : ∀ a b, F a b → G a (g b)) : Paired G l (m.map g) := by
  induction h with
  | nil => exact .nil
  | cons r t ih => exact .cons (f _ _ r) ih
theorem decS_keys (s : Sg) : (s.map decP).map (·.1) = s.map (·.1) := by
  rw [List.map_map]
  rfl
theorem put_stK {s : Sg} {n : Str} {v : Int} (h : n ∈ s.map (·.1)) : putK (stK s) (Sum.inr n) (.int v) = stK (s.map fun p => if p.1 = n then (p.1, v) else p) := by
  have ha : ((stK s).any fun kv => decide (kv.1 = Sum.inr n)) = true := by
    obtain ⟨p, hp, e⟩ := List.mem_map.mp h
    exact List.any_eq_true.mpr ⟨(Sum.inr p.1, V.int p.2), List.mem_map.mpr ⟨p, hp, rfl⟩, decide_eq_true (by rw [← e])⟩
  unfold putK
  rw [if_pos ha]
  unfold stK
  rw [List.map_map, List.map_map]
  refine List.map_congr_left fun p _ => ?_
  show (if (Sum.inr p.1 : Key) = Sum.inr n then ((Sum.inr p.1 : Key), V.int v) else (Sum.inr p.1, V.int p.2)) = (Sum.inr (if p.1 = n then (p.1, v) else p).1, V.int (if p.1 = n then (p.1, v) else p).2)
  by_cases h2 : p.1 = n
  · simp [h2]
  · have : ¬ (Sum.inr p.1 : Key) = Sum.inr n := fun z => h2 (by injection z)
    simp [h2, this]
theorem nodup_fst {s : Sg} (h : (s.map (·.1)).Nodup) {p q : Str × Int} (hp : p ∈ s) (hq : q ∈ s) (e : p.1 = q.1) : p = q := by
  obtain ⟨i, hi⟩ := List.mem_iff_getElem?.mp hp
  obtain ⟨j, hj⟩ := List.mem_iff_getElem?.mp hq
  have h1 : (s.map (·.1))[i]? = some p.1 := by rw [List.getElem?_map, hi]; rfl
  have h2 : (s.map (·.1))[j]? = some p.1 := by rw [List.getElem?_map, hj, e]; rfl
  have := nodup_get h h1 h2
  subst this
  rw [hi] at hj
  exact Option.some.inj hj
theorem ups_mem {s : Sg} (h : (s.map (·.1)).Nodup) {p : Str × Int} (hp : p ∈ s) : p.1 ∈ ups s ↔ p.2 = 1 := by
  unfold ups
  constructor
  · intro hm
    obtain ⟨q, hq, e⟩ := List.mem_map.mp hm
    obtain ⟨h1, h2⟩ := List.mem_filter.mp hq
    have := nodup_fst h h1 hp e
    rw [← this]
    exact of_decide_eq_true h2
  · intro h2
    exact List.mem_map.mpr ⟨p, List.mem_filter.mpr ⟨hp, decide_eq_true h2⟩, rfl⟩
theorem after_eq {ls : List Int} {s : Sg} {us : List Str} (h : (s.map (·.1)).Nodup) (pm : us.Perm (ups s)) : setU (ls.getD (us.length - 1) 0) us (s.map decP) = beatS ls s := by
  unfold setU beatS
  rw [List.map_map]
  refine List.map_congr_left fun p hp => ?_
  show (if (decP p).1 ∈ us then ((decP p).1, ls.getD (us.length - 1) 0) else decP p) = beatP ls (ups s).length p
  have hiff : (decP p).1 ∈ us ↔ p.2 = 1 := (pm.mem_iff (a := p.1)).trans (ups_mem h hp)
  rw [pm.length_eq]
  unfold beatP
  by_cases h2 : p.2 = 1
  · rw [if_pos (hiff.mpr h2), if_pos h2]
    rfl
  · rw [if_neg (fun z => h2 (hiff.mp z)), if_neg h2]
    rfl
section
variable {P : Program} {w : World} {K : PySem.W.Frag} {mg : Str → Option Value} {base : Heap} {f C : Addr} {fd : FuncData}
/-! ### _law_after -/
def spAfter : Sp := fun vs H Q _ => ∃ (sp d : Addr) (ls : List Int) (st : Sg), vs = [.ref sp, .ref d] ∧ H sp = some (.lst (ls.map V.int)) ∧ H d = some (.dK (stK st)) ∧ (st.map (·.1)).Nodup ∧ st.length ≤ 60 ∧ st.length ≤ ls.length ∧
  ∀ (t d' u : Addr) (H' : Hp), Same H H' → H d' = none → H' t = some (.tup [.ref d', .ref u]) → H' d' = some (.dK (stK (beatS ls st))) → Q (.ref t) H'
abbrev NAf : List Str := ["_law_spans_here", "_law_rests_here", "_law_behind", "_law_up", "_law_name"]
theorem scAfter : FnScope NAf ["_law_spans_here", "_law_rests_here"] (defScope sLafter) := ⟨rfl, rfl, rfl, by decide +kernel, rfl, by decide +kernel, by decide +kernel⟩
theorem ok_Lafter (F : FnP K "_law_after" "_law_after" sLafter [] f fd) (T : Txt mg) : FnOk P w K mg base CX0 1 f fd ["_law_spans_here", "_law_rests_here"] spAfter := by
  refine okF F scAfter (fun vs H Q E h => ?_) (fun cdv A outer s H vs Q E hr h => ?_)
  · obtain ⟨sp, d, ls, st, rfl, _⟩ := h
    rfl
  · obtain ⟨sp, d, ls, st, rfl, hsp, hd, hnd, hz, hl, k⟩ := h
    have h1 := hu1 hr
    refine ⟨_, pss_cons (ps_set (i := 2) scAfter.nd rfl (Or.inr rfl) (pe_lock (pe_callTy (call_dictP rfl) (by rfl) T.dic (by decide +kernel) (pa_cons (pe_lc (own := [("_law_name", 4)]) (g := gName 4) (tt := tYes) (te := tTup (tCons (tVar 4) (tCons (tOp (rI0 fun i j => .int (i - j)) (tDGet (tVar 1) (tVar 4)) (tC (.int 1))) tNil)))
          rfl scAfter.nd (pi_keys (pv 1)) (blkOk_by (N := NAf) (sc := defScope sLafter) (by decide +kernel)) (fun _ _ _ _ _ => pg_name (i := 4) scAfter.nd rfl (Or.inl rfl) (Or.inr rfl)) (fun _ _ _ _ _ => pts_nil)
          (fun _ _ _ _ _ => pe_tup (pa_cons (pv 4) (pa_cons (pe_op op_sub (pe_dget h1 (pv 1) (pv 4) (fun _ _ => rfl)) pe_int) pa_nil)))) pa_nil))))
      (pss_cons (ps_set (i := 3) scAfter.nd rfl (Or.inl rfl) (pe_lock (pe_callB cr_sortedS (by rfl) T.srt (by decide +kernel) (pa_cons (pe_lc (own := [("_law_name", 4)]) (g := gName 4) (tt := tTest (tOp rEq (tDGet (tVar 2) (tVar 4)) (tC (.int 0)))) (te := tVar 4)
          rfl scAfter.nd (pi_keys (pv 2)) (blkOk_by (N := NAf) (sc := defScope sLafter) (by decide +kernel)) (fun _ _ _ _ _ => pg_name (i := 4) scAfter.nd rfl (Or.inl rfl) (Or.inr rfl)) (fun _ _ _ _ _ => pts_one (pt_cmpR op_eq (pe_dget h1 (pv 2) (pv 4) (fun _ _ => rfl)) pe_int (nomark _))) (fun _ _ _ _ _ => pv 4)) pa_nil))))
      (pss_cons (ps_for PassesOwn.never rfl (pi_list (pv 3)) (pg_name (i := 4) scAfter.nd rfl (Or.inl rfl)) (pss_one (ps_dput h1 (pv 2) (pv 4) (pe_ix ix_list (pv 0) (pe_op op_sub (pe_callB call_len_seq (by rfl) T.len PySem.boot_len (pa_cons (pv 3) pa_nil)) pe_int) (fun _ _ => rfl)) rfl)))
      (pss_one (ps_ret (pe_tup (pa_cons (pv 2) (pa_cons (pv 3) pa_nil))))))), ?_⟩
    -- behind
    refine ⟨d, _, hd, True.intro, fun od => ?_⟩
    have eL : upd H d (.frz od (.dK (stK st))) d = some (.frz od (.dK (stK st))) := upd_same
    have xL : SameX d H (upd H d (.frz od (.dK (stK st)))) := SameX.upd
    obtain ⟨HL, eHL⟩ : ∃ HL, upd H d (.frz od (.dK (stK st))) = HL := ⟨_, rfl⟩
    rw [eHL] at eL xL ⊢
    refine ⟨_, rfl, d, od, rfl, .inl ⟨_, eL, fun D hD => ?_⟩⟩
    refine lcT walk_keys hD (fun i H' ys => ∃ ps : List Addr, ys = ps.map V.ref ∧ Paired (PrA H') ps ((st.map decP).take i)) (fun _ _ _ _ t ⟨ps, e, r⟩ => ⟨ps, e, pimp r fun _ _ z => z.keep t⟩) (fun H' s => s _ _ eL) ⟨[], rfl, .nil⟩
      (fun i H' ys ⟨ps, e, r⟩ => by rw [e, List.length_map, plen r]; exact List.length_take_le _ _) (by rw [stK_len]; exact Nat.le_trans hz (by decide)) ?_ ?_
    · rintro i x _ H1 ys Yes No hi s1 ⟨ps, rfl, pr⟩ ⟨rfl, kk, v, hk, rfl⟩ yes no
      obtain ⟨p, hp, rfl, rfl⟩ := stK_at hk
      refine ⟨rfl, yesT ?_⟩
      refine ⟨_, rfl, _, rfl, _, rfl, d, _, rfl, .inl ⟨_, _, .inr ⟨_, s1 _ _ eL⟩, rfl, (stK_val hnd hp).symm⟩, _, _, rfl, rfl, ?_⟩
      refine ⟨by show 2 ≤ sizeLine; decide, fun t ht => ?_⟩
      have nt : New H1 (upd H1 t (.tup [.str p.1, .int (p.2 - 1)])) t := New.upd ht
      refine yes _ _ nt.same ⟨ps ++ [t], by rw [List.map_append]; rfl, ?_⟩
      rw [take_snoc (x := decP p) (by rw [List.getElem?_map, hp]; rfl)]
      exact psnoc (pimp pr fun _ _ z => z.keep (tps nt.same)) upd_same
    rintro H1 ys s1 e1 ⟨ps, rfl, pr⟩
    rw [take_all (by rw [stK_len, List.length_map])] at pr
    refine ⟨D, ps, stK (st.map decP), rfl, SqL.of e1, ?_, fun B hB => ?_⟩
    · unfold stK
      exact pmapR pr fun _ _ z => SqT.of z
    have hnd2 : ((st.map decP).map (·.1)).Nodup := by rw [decS_keys]; exact hnd
    rw [mergeK_nil (stK_nd hnd2)]
    have nB : New H1 (upd H1 B (.dK (stK (st.map decP)))) B := New.upd hB
    have eB : upd H1 B (.dK (stK (st.map decP))) B = some (.dK (stK (st.map decP))) := upd_same
    have hBd : B ≠ d := (ne_of_none (s1 _ _ eL) hB).symm
    have hB0 : H B = none := xL.free hBd (s1.free hB)
    have s2 := s1.trans nB.same
    generalize upd H1 B (.dK (stK (st.map decP))) = H2 at eB s2 ⊢
    have e2 := s2 _ _ eL
    refine ⟨e2, ?_⟩
    have s3 : Same H (upd H2 d (.dK (stK st))) := unlock_same (fun b o hb e => s2 b o (by rw [← eHL]; exact e)) hd
    have eB3 : upd H2 d (.dK (stK st)) B = some (.dK (stK (st.map decP))) := by rw [upd_ne hBd]; exact eB
    generalize upd H2 d (.dK (stK st)) = H3 at s3 eB3 ⊢
    -- up
    refine ⟨B, _, eB3, True.intro, fun od2 => ?_⟩
    have eL2 : upd H3 B (.frz od2 (.dK (stK (st.map decP)))) B = some (.frz od2 (.dK (stK (st.map decP)))) := upd_same
    have xL2 : SameX B H3 (upd H3 B (.frz od2 (.dK (stK (st.map decP))))) := SameX.upd
    obtain ⟨HM, eHM⟩ : ∃ HM, upd H3 B (.frz od2 (.dK (stK (st.map decP)))) = HM := ⟨_, rfl⟩
    rw [eHM] at eL2 xL2 ⊢
    refine ⟨_, rfl, B, od2, rfl, .inl ⟨_, eL2, fun D2 hD2 => ?_⟩⟩
    refine lcT walk_keys hD2 (fun i H' ys => ys = (ups (st.take i)).map V.str) (fun _ _ _ _ _ e => e) (fun H' s => s _ _ eL2) rfl
      (fun i H' ys e => by rw [e, List.length_map]; exact Nat.le_trans (ups_le _) (List.length_take_le _ _)) (by rw [stK_len, List.length_map]; exact Nat.le_trans hz (by decide)) ?_ ?_
    · rintro i x _ H4 ys Yes No hi s4 rfl ⟨rfl, kk, v, hk, rfl⟩ yes no
      obtain ⟨p', hp', rfl, rfl⟩ := stK_at hk
      obtain ⟨p, hp, rfl⟩ := mget hp'
      have eu : ups (st.take (i + 1)) = ups (st.take i) ++ (if p.2 = 1 then [p.1] else []) := by
        unfold ups
        rw [take_snoc hp, List.filter_append, List.map_append]
        by_cases h1 : p.2 = 1 <;> simp [h1]
      refine ⟨rfl, ?_⟩
      refine ⟨_, rfl, _, rfl, B, _, rfl, .inl ⟨_, _, .inr ⟨_, s4 _ _ eL2⟩, rfl, (stK_val hnd2 hp').symm⟩, rfl, _, rfl, ?_⟩
      by_cases h1 : p.2 = 1
      · refine iteD (by show V.int (p.2 - 1) = V.int 0; rw [h1]; rfl) ?_
        exact ⟨_, rfl, yes _ _ (Same.refl _) (by rw [eu, if_pos h1, List.map_append]; rfl)⟩
      · refine iteDN (fun z => by have z2 : p.2 - 1 = 0 := (by injection z); exact h1 (by omega)) ?_
        exact no _ (Same.refl _) (by rw [eu, if_neg h1, List.append_nil])
    rintro H4 ys4 s4 e4 rfl
    rw [take_all (by rw [stK_len, List.length_map])] at e4
    have hul := ups_le st
    refine ⟨D2, ups st, rfl, SqL.of e4, by omega, fun us U pm _ hU => ?_⟩
    have nU : New H4 (upd H4 U (.lst (us.map V.str))) U := New.upd hU
    have eU : upd H4 U (.lst (us.map V.str)) U = some (.lst (us.map V.str)) := upd_same
    have s5 := s4.trans nU.same
    have hUB : U ≠ B := (ne_of_none (s4 _ _ eL2) hU).symm
    generalize upd H4 U (.lst (us.map V.str)) = H5 at eU s5 ⊢
    have e5 := s5 _ _ eL2
    refine ⟨e5, ?_⟩
    have s6 : Same H3 (upd H5 B (.dK (stK (st.map decP)))) := unlock_same (fun b o hb e => s5 b o (by rw [← eHM]; exact e)) eB3
    have eU6 : upd H5 B (.dK (stK (st.map decP))) U = some (.lst (us.map V.str)) := by rw [upd_ne hUB]; exact eU
    have eB6 : upd H5 B (.dK (stK (st.map decP))) B = some (.dK (stK (st.map decP))) := upd_same
    generalize upd H5 B (.dK (stK (st.map decP))) = H6 at s6 eU6 eB6 ⊢
    have s06 := s3.trans s6
    -- the loop
    refine ⟨_, rfl, U, rfl, ⟨_, SqL.of eU6⟩, for_it walk_list (fun i σ H' => ∃ v4, σ = [some (.ref sp), some (.ref d), some (.ref B), some (.ref U), v4] ∧ Same H H' ∧ H' U = some (.lst (us.map V.str)) ∧ H' B = some (.dK (stK (setU (ls.getD (us.length - 1) 0) (us.take i) (st.map decP)))))
      ⟨none, rfl, s06, eU6, by rw [List.take_zero, setU_nil]; exact eB6⟩ (fun i σ H' _ ⟨_, _, _, e, _⟩ => SqL.of e) ?_ ?_⟩
    · rintro i x σ _ H7 hi ⟨v4, rfl, s7, e7, eB7⟩ ⟨rfl, hx⟩
      obtain ⟨n, hn, rfl⟩ := mget hx
      have hlt := get_lt hn
      have hup := pm.length_eq
      have hat : ls[us.length - 1]? = some (ls.getD (us.length - 1) 0) := by
        have : us.length - 1 < ls.length := by omega
        rw [List.getD_eq_getElem?_getD, List.getElem?_eq_getElem this]
        rfl
      have eix : (((us.map V.str).length : Nat) : Int) - 1 = ((us.length - 1 : Nat) : Int) := by
        rw [List.length_map]
        omega
      refine ⟨_, rfl, _, rfl, U, _, rfl, .inl (SqL.of e7), _, _, rfl, rfl, sp, _, _, .int (ls.getD (us.length - 1) 0), rfl, rfl, SqL.of (s7 _ _ hsp), at_of (j := us.length - 1) eix (by rw [List.getElem?_map, hat]; rfl), ?_⟩
      refine ⟨_, rfl, _, rfl, B, _, rfl, DPut.k (k := Sum.inr n) eB7 (by rw [stK_len]; unfold setU; rw [List.length_map, List.length_map]; exact Nat.lt_of_le_of_lt hz (by decide)), ?_⟩
      have hn2 : n ∈ (setU (ls.getD (us.length - 1) 0) (us.take i) (st.map decP)).map (·.1) := by
        rw [setU_keys, decS_keys]
        have hm : n ∈ ups st := pm.mem_iff.mp (List.mem_of_getElem? hn)
        unfold ups at hm
        obtain ⟨q, hq, e⟩ := List.mem_map.mp hm
        exact List.mem_map.mpr ⟨q, (List.mem_filter.mp hq).1, e⟩
      rw [put_stK hn2]
      have hUB : U ≠ B := fun z => by rw [z, eB7] at e7; cases e7
      refine ⟨_, rfl, same_upd s7 hB0, by rw [upd_ne hUB]; exact e7, ?_⟩
      rw [upd_same, take_snoc hn, setU_snoc]
    · rintro σ H7 ⟨v4, rfl, s7, e7, eB7⟩
      rw [take_all (by rw [List.length_map]), after_eq hnd pm] at eB7
      refine ⟨_, rfl, _, rfl, by show 2 ≤ sizeLine; decide, fun t ht => ?_⟩
      have nt : New H7 (upd H7 t (.tup [.ref B, .ref U])) t := New.upd ht
      exact k t B U _ (s7.trans nt.same) hB0 upd_same (nt.same _ _ eB7)
end
end L2.K87
set_option Elab.async false
set_option linter.all false
set_option autoImplicit false
set_option maxRecDepth 100000
set_option maxHeartbeats 4000000
namespace L2.K87
open PySem PySem.Spec PyProof.Rows
section
variable {P : Program} {w : World} {K : PySem.W.Frag} {mg : Str → Option Value} {base : Heap} {f C : Addr} {fd : FuncData}
/-! ### _law_called -/
def spLCalled : Sp := fun vs H Q _ => ∃ (sp a c : Addr) (ls : List Int) (st : Sg) (k : List Str), vs = [.ref sp, .ref a, .ref c] ∧ H sp = some (.lst (ls.map V.int)) ∧ StA H a st ∧ SkA H c k ∧ SortedSt st ∧ st.length ≤ 60 ∧ st.length ≤ ls.length ∧
  ∀ (t r u : Addr) (H' : Hp), Same H H' → H' t = some (.tup [.ref r, .ref u]) → StA H' r (callS ls st k) → Q (.ref t) H'
abbrev NLc : List Str := ["_law_spans_here", "_law_stand_here", "_law_stroke", "_law_rests_here", "_law_behind", "_law_up", "_law_name", "_law_rest"]
theorem scLCalled : FnScope NLc ["_law_spans_here", "_law_stand_here", "_law_stroke"] (defScope sLcalled) := ⟨rfl, rfl, rfl, by decide +kernel, rfl, by decide +kernel, by decide +kernel⟩
abbrev rInt1 : List V → Hp → VK → Prop := fun xs H Q => (∃ i, xs = [.int i] ∧ Q (.int i) H) ∨ ∃ k : Bool, xs = [.bl k] ∧ Q (.int (if k then 1 else 0)) H
theorem ok_Lcalled (F : FnP K "_law_called" "_law_called" sLcalled [] f fd) (T : Txt mg) (G1 : Cal P w K mg base 1 "_law_after" ["_law_spans_here", "_law_rests_here"] spAfter) (G2 : Cal P w K mg base 1 "_law_stand" ["_law_rests_here"] spLStand) : FnOk P w K mg base CX0 2 f fd ["_law_spans_here", "_law_stand_here", "_law_stroke"] spLCalled := by
  refine okF F scLCalled (fun vs H Q E h => ?_) (fun cdv A outer s H vs Q E hr h => ?_)
  · obtain ⟨sp, a, c, ls, st, k, rfl, _⟩ := h
    rfl
  · obtain ⟨sp, a, c, ls, st, kk, rfl, hsp, ⟨qs, ha, hq⟩, hk, hso, hz, hl, k⟩ := h
    refine ⟨_, pss_cons (ps_set (i := 3) scLCalled.nd rfl (Or.inl rfl) (pe_callTy (call_dictP rfl) (by rfl) T.dic (by decide +kernel) (pa_cons (pe_lc (own := [("_law_name", 6), ("_law_rest", 7)]) (g := g2 K 6 7) (tt := tYes)
          (te := tTup (tCons (tVar 6) (tCons (tOp (rIxL K) (tLst (tCons (tVar 7) (tCons (tC (.int 1)) tNil))) (tCB rInt1 (tCons (tOp (rIn K false) (tVar 6) (tVar 2)) tNil))) tNil)))
          rfl scLCalled.nd (pi_tup (pv 1)) (blkOk_by (N := NLc) (sc := defScope sLcalled) (by decide +kernel)) (fun _ _ _ _ _ => pg2 (i := 6) (j := 7) rfl scLCalled.nd rfl rfl (Or.inl rfl) (Or.inl rfl) (Or.inr rfl) (Or.inr rfl)) (fun _ _ _ _ _ => pts_nil)
          (fun _ _ _ _ _ => pe_tup (pa_cons (pv 6) (pa_cons (pe_ix ix_list (pe_lst (pa_cons (pv 7) (pa_cons pe_int pa_nil))) (pe_callTy call_int1 (by rfl) T.int (by decide +kernel) (pa_cons (pe_cmpR op_in_seq (pv 6) (pv 2) rfl) pa_nil)) (fun _ _ => rfl)) pa_nil)))) pa_nil)))
      (pss_cons (ps_asg (pe_cal G1 hr rfl (pa_cons (pv 0) (pa_cons (pv 3) pa_nil))) (pg2 (i := 4) (j := 5) rfl scLCalled.nd rfl rfl (Or.inl rfl) (Or.inl rfl) (Or.inl rfl) (Or.inl rfl)))
      (pss_one (ps_ret (pe_tup (pa_cons (pe_cal G2 hr rfl (pa_cons (pv 4) pa_nil)) (pa_cons (pv 5) pa_nil)))))), ?_⟩
    have hn : (qs.map V.ref).length ≤ sizeLine := by rw [stA_len hq]; exact Nat.le_trans hz (by decide)
    refine ⟨_, rfl, a, rfl, ⟨_, SqT.of ha⟩, fun D hD => ?_⟩
    refine lcT walk_tup hD (fun i H' ys => ∃ ps : List Addr, ys = ps.map V.ref ∧ Paired (PrA H') ps ((withC st kk).take i)) (fun _ _ _ _ t ⟨ps, e, r⟩ => ⟨ps, e, pimp r fun _ _ z => z.keep t⟩) (fun H' s => SqT.of (s _ _ ha)) ⟨[], rfl, .nil⟩
      (fun i H' ys ⟨ps, e, r⟩ => by rw [e, List.length_map, plen r]; exact List.length_take_le _ _) hn ?_ ?_
    · rintro i x _ H1 ys Yes No hi s1 ⟨ps, rfl, pr⟩ ⟨rfl, hx⟩ yes no
      obtain ⟨q, p, rfl, hqi, hpi, hp⟩ := stA_get hq hx
      refine ⟨q, _, rfl, SqT.of (s1 _ _ hp), rfl, _, _, rfl, _, _, rfl, rfl, rfl, yesT ?_⟩
      refine ⟨_, rfl, _, rfl, by show 2 ≤ sizeLine; decide, fun l hl0 => ?_⟩
      have nl : New H1 (upd H1 l (.lst [.int p.2, .int 1])) l := New.upd hl0
      have el : upd H1 l (.lst [.int p.2, .int 1]) l = some (.lst [.int p.2, .int 1]) := upd_same
      generalize upd H1 l (.lst [.int p.2, .int 1]) = H2 at nl el ⊢
      refine ⟨_, rfl, _, rfl, c, _, rfl, .inl (SqL.of ((hk.same s1).same nl.same)), rfl, flat_strs kk, .inr ⟨_, rfl, ?_⟩⟩
      have hv : atI [V.int p.2, .int 1] (if (if false = true then !(inV (V.str p.1) (kk.map V.str)) else inV (V.str p.1) (kk.map V.str)) = true then 1 else 0) = some (V.int (withP kk p).2) := by
        show atI [V.int p.2, .int 1] (if inV (V.str p.1) (kk.map V.str) = true then 1 else 0) = _
        rw [inV_str]
        unfold withP
        by_cases h1 : p.1 ∈ kk
        · rw [decide_eq_true h1, if_pos rfl, if_pos h1]
          exact at_of (j := 1) rfl rfl
        · rw [decide_eq_false h1, if_neg (by decide), if_neg h1]
          exact at_of (j := 0) rfl rfl
      refine ⟨l, _, _, _, rfl, rfl, SqL.of el, hv, by show 2 ≤ sizeLine; decide, fun t ht => ?_⟩
      have nt : New H2 (upd H2 t (.tup [.str p.1, .int (withP kk p).2])) t := New.upd ht
      refine yes _ _ (nl.same.trans nt.same) ⟨ps ++ [t], by rw [List.map_append]; rfl, ?_⟩
      rw [take_snoc (x := withP kk p) (by unfold withC; rw [List.getElem?_map, hpi]; rfl)]
      exact psnoc (pimp pr fun _ _ z => (z.keep (tps nl.same)).keep (tps nt.same)) upd_same
    rintro H1 ys s1 e1 ⟨ps, rfl, pr⟩
    rw [take_all (by rw [stA_len hq, withC_len])] at pr
    have hso2 : SortedSt (withC st kk) := hso.of (map_fst_with st kk)
    refine ⟨D, ps, stK (withC st kk), rfl, SqL.of e1, ?_, fun B hB => ?_⟩
    · unfold stK
      exact pmapR pr fun _ _ z => SqT.of z
    rw [mergeK_nil (stK_nd hso2.nd)]
    have nB : New H1 (upd H1 B (.dK (stK (withC st kk)))) B := New.upd hB
    have eB : upd H1 B (.dK (stK (withC st kk))) B = some (.dK (stK (withC st kk))) := upd_same
    have s2 := s1.trans nB.same
    generalize upd H1 B (.dK (stK (withC st kk))) = H2 at eB s2 ⊢
    refine ⟨_, rfl, _, rfl, sp, B, ls, withC st kk, rfl, s2 _ _ hsp, eB, hso2.nd, by rw [withC_len]; exact hz, by rw [withC_len]; exact hl, fun t d' u H3 s3 hd' ht ed => ?_⟩
    refine ⟨t, _, rfl, SqT.of ht, rfl, _, _, rfl, _, _, rfl, rfl, ?_⟩
    have hso3 : SortedSt (beatS ls (withC st kk)) := hso2.of (map_fst_beat ls _)
    refine ⟨_, rfl, d', _, rfl, ed, hso3.nd, by rw [beatS_len, withC_len]; exact hz, fun r H4 s4 hr0 hr4 => ?_⟩
    rw [sortP_id hso3] at hr4
    refine ⟨_, rfl, by show 2 ≤ sizeLine; decide, fun t2 ht2 => ?_⟩
    have nt : New H4 (upd H4 t2 (.tup [.ref r, .ref u])) t2 := New.upd ht2
    exact k t2 r u _ ((s2.trans s3).trans (s4.trans nt.same)) upd_same (hr4.same nt.same)
/-! ### _law_meets -/
abbrev NLm : List Str := ["_law_stand_here", "_law_wish_here", "_law_rests_here", "_law_name", "_law_rest"]
theorem scLMeets : FnScope NLm ["_law_stand_here", "_law_wish_here"] (defScope sLmeets) := ⟨rfl, rfl, rfl, by decide +kernel, rfl, by decide +kernel, by decide +kernel⟩
theorem eqvAll_ints0 (x : Int) (xs : List Int) : PyData.eqvAll ((x :: xs).map PyData.int) [] = false := rfl
theorem shaped_ints (k : List Int) : SeqAt.shaped (.list (k.map PyData.int)) = true := by
  have h1 : ∀ k : List Int, PyData.canLayAll0 (k.map PyData.int) = true := by
    intro k
    induction k with
    | nil => rfl
    | cons x k ih =>
      rw [List.map_cons, PyData.canLayAll0, ih, PyData.canLay0]
      rfl
  have h2 : ∀ k : List Int, PyData.depthAll (k.map PyData.int) = 0 := by
    intro k
    induction k with
    | nil => rfl
    | cons x k ih =>
      rw [List.map_cons, PyData.depthAll, ih, PyData.depth]
      rfl
  unfold SeqAt.shaped
  rw [PyData.canLay0, h1 k, PyData.depth, h2]
  rfl
theorem dp_ints {K : PySem.W.Frag} {H : Hp} : ∀ k : List Int, DpAll K H (k.map V.int) (k.map PyData.int)
  | [] => .nil
  | x :: k => .cons (.int x) (dp_ints k)
theorem one_dist {xs : List Int} {m M : Int} (hm : m ∈ xs) (hM : M ∈ xs) (h1 : ∀ y ∈ xs, m ≤ y) (h2 : ∀ y ∈ xs, y ≤ M) : (m = M) ↔ (dist xs).length = 1 := by
  have nd := dist_nodup xs
  have md := (dist_mem xs m).mpr hm
  have Md := (dist_mem xs M).mpr hM
  constructor
  · intro e
    subst e
    have all : ∀ y ∈ dist xs, y = m := fun y hy => by
      have hy := (dist_mem xs y).mp hy
      have a := h1 y hy
      have b := h2 y hy
      omega
    cases hd : dist xs with
    | nil =>
      rw [hd] at md
      cases md
    | cons a l => cases l with
      | nil => rfl
      | cons b l =>
        rw [hd] at all nd
        have e1 := all a List.mem_cons_self
        have e2 := all b (List.mem_cons_of_mem _ List.mem_cons_self)
        have := (List.nodup_cons.mp nd).1
        rw [e1, e2] at this
        exact absurd List.mem_cons_self this
  · intro e
    match hd : dist xs, e with
    | [a], _ =>
      rw [hd] at md Md
      have e1 : m = a := by simpa using md
      have e2 : M = a := by simpa using Md
      rw [e1, e2]
theorem ok_Lmeets (F : FnP K "_law_meets" "_law_meets" sLmeets [] f fd) (T : Txt mg) : FnOk P w K mg base CX0 1 f fd ["_law_stand_here", "_law_wish_here"] spMeets := by
  refine okF F scLMeets (fun vs H Q E h => ?_) (fun cdv A outer s H vs Q E hr h => ?_)
  · obtain ⟨a, c, st, wi, rfl, _⟩ := h
    rfl
  · obtain ⟨a, c, st, wi, rfl, ⟨qs, ha, hq⟩, hW, hz, k⟩ := h
    have hud := hr.units
    refine ⟨_, pss_cons (ps_if (pt_cmpR op_eq (pe_ix ix_tup (pv 1) pe_int (fun _ _ => rfl)) pe_str (nomark _))
        (pss_one (ps_ret (pe_cmpR op_eq (pe_lenSet (by rfl) T.len (by rfl) T.set (pe_lc (own := [("_law_name", 3), ("_law_rest", 4)]) (g := g2 K 3 4) (tt := tYes) (te := tVar 4) rfl scLMeets.nd (pi_tup (pv 0)) (blkOk_by (N := NLm) (sc := defScope sLmeets) (by decide +kernel))
          (fun _ _ _ _ _ => pg2 (i := 3) (j := 4) rfl scLMeets.nd rfl rfl (Or.inl rfl) (Or.inl rfl) (Or.inr rfl) (Or.inr rfl)) (fun _ _ _ _ _ => pts_nil) (fun _ _ _ _ _ => pv 4))) (pe_ix ix_tup (pv 1) pe_int (fun _ _ => rfl)) (nomark _)))) pss_nil)
      (pss_cons (ps_setLc (i := 2) (own := [("_law_name", 3), ("_law_rest", 4)]) (g := g2 K 3 4) (tt := tTest (tOp (rIn K false) (tVar 3) (tOp (rIxT K) (tVar 1) (tC (.int 1))))) rfl scLMeets.nd rfl rfl (sw_true rfl rfl rfl (by decide +kernel)) (pi_tup (pv 0)) (blkOk_by (N := NLm) (sc := defScope sLmeets) (by decide +kernel))
        (fun _ _ _ _ _ => pg2 (i := 3) (j := 4) rfl scLMeets.nd rfl rfl (Or.inl rfl) (Or.inl rfl) (Or.inr rfl) (Or.inr rfl)) (fun _ _ _ _ _ => pts_one (pt_cmpR op_in_seq (pv 3) (pe_ix ix_tup (pv 1) pe_int (fun _ _ => rfl)) rfl)) (fun _ _ _ _ _ => pv 4))
      (pss_one (ps_ret (pe_and (pe_cmpR (op_neD hud) (pv 2) (pe_lst pa_nil) (nomark _)) (pe_one (pe_cmpR op_eq (pe_callB (cr_min rfl) (by rfl) T.min (by decide +kernel) (pa_cons (pv 2) pa_nil)) (pe_callB (cr_max rfl) (by rfl) T.max (by decide +kernel) (pa_cons (pv 2) pa_nil)) (nomark _))))))), ?_⟩
    have hn : (qs.map V.ref).length ≤ sizeLine := by rw [stA_len hq]; exact Nat.le_trans hz (by decide)
    cases wi with
    | groups n =>
      refine ⟨_, rfl, c, _, 0, _, rfl, rfl, SqT.of hW, at_of (j := 0) rfl rfl, rfl, _, rfl, ?_⟩
      refine iteD rfl ?_
      refine ⟨_, rfl, a, rfl, ⟨_, SqT.of ha⟩, fun D hD => ?_⟩
      refine lcT walk_tup hD (fun i H' ys => ys = ((st.take i).map (·.2)).map V.int) (fun _ _ _ _ _ e => e) (fun H' s => SqT.of (s _ _ ha)) rfl
        (fun i H' ys e => by rw [e, List.length_map, List.length_map]; exact List.length_take_le _ _) hn ?_ ?_
      · rintro i x _ H1 ys Yes No hi s1 rfl ⟨rfl, hx⟩ yes no
        obtain ⟨q, p, rfl, hqi, hpi, hp⟩ := stA_get hq hx
        refine ⟨q, _, rfl, SqT.of (s1 _ _ hp), rfl, _, _, rfl, _, _, rfl, rfl, rfl, yesT ?_⟩
        exact ⟨_, rfl, yes _ _ (Same.refl _) (by rw [take_snoc hpi, List.map_append, List.map_append]; rfl)⟩
      · rintro H1 ys s1 e1 rfl
        rw [take_all (stA_len hq)] at e1
        refine ⟨D, st.map (·.2), rfl, SqL.of e1, by rw [List.length_map]; omega, _, rfl, c, _, 1, .int n, rfl, rfl, SqT.of (s1 _ _ hW), at_of (j := 1) rfl rfl, rfl, ?_⟩
        have e := k H1 s1
        rw [decI]
        exact e
    | together ns =>
      obtain ⟨l, hc, hl⟩ := hW
      refine ⟨_, rfl, c, _, 0, _, rfl, rfl, SqT.of hc, at_of (j := 0) rfl rfl, rfl, _, rfl, ?_⟩
      refine iteDN (fun z => gw (by injection z)) ?_
      refine ⟨_, rfl, a, rfl, ⟨_, SqT.of ha⟩, fun D hD => ?_⟩
      refine lcT walk_tup hD (fun i H' ys => ys = ((inSt ns (st.take i)).map (·.2)).map V.int) (fun _ _ _ _ _ e => e) (fun H' s => SqT.of (s _ _ ha)) rfl
        (fun i H' ys e => by rw [e, List.length_map, List.length_map]; exact Nat.le_trans (List.length_filter_le _ _) (List.length_take_le _ _)) hn ?_ ?_
      · rintro i x _ H1 ys Yes No hi s1 rfl ⟨rfl, hx⟩ yes no
        obtain ⟨q, p, rfl, hqi, hpi, hp⟩ := stA_get hq hx
        refine ⟨q, _, rfl, SqT.of (s1 _ _ hp), rfl, _, _, rfl, _, _, rfl, rfl, rfl, ?_⟩
        have eu : inSt ns (st.take (i + 1)) = inSt ns (st.take i) ++ (if p.1 ∈ ns then [p] else []) := by
          unfold inSt
          rw [take_snoc hpi, List.filter_append]
          by_cases h1 : p.1 ∈ ns <;> simp [h1]
        refine ⟨_, rfl, _, rfl, c, _, 1, .ref l, rfl, rfl, SqT.of (s1 _ _ hc), at_of (j := 1) rfl rfl, l, _, rfl, .inl (SqL.of (s1 _ _ hl)), rfl, flat_strs ns, _, rfl, ?_⟩
        show if (inV (V.str p.1) (ns.map V.str)) = true then _ else _
        rw [inV_str]
        by_cases h1 : p.1 ∈ ns
        · refine iteD h1 ?_
          exact ⟨_, rfl, yes _ _ (Same.refl _) (by rw [eu, if_pos h1, List.map_append, List.map_append]; rfl)⟩
        · refine iteDN h1 ?_
          exact no _ (Same.refl _) (by rw [eu, if_neg h1, List.append_nil])
      · rintro H1 ys s1 e1 rfl
        rw [take_all (stA_len hq)] at e1
        have em : meetsS st (.together ns) = decide ((dist ((inSt ns st).map (·.2))).length = 1) := rfl
        generalize (inSt ns st).map (·.2) = xs at e1 em
        refine ⟨_, rfl, Nat.zero_le _, fun p0 hp0 => ?_⟩
        have n0 : New H1 (upd H1 p0 (.lst [])) p0 := New.upd hp0
        have e0 : upd H1 p0 (.lst []) p0 = some (.lst []) := upd_same
        have s2 := s1.trans n0.same
        have e2 := n0.same _ _ e1
        generalize upd H1 p0 (.lst []) = H2 at e0 s2 e2 ⊢
        refine ⟨_, _, .lst (SqL.of e2) (dp_ints xs), .lst (SqL.of e0) .nil, shaped_ints xs, rfl, _, rfl, ?_⟩
        have kk := k H2 s2
        rw [em] at kk
        cases xs with
        | nil => exact iteF kk
        | cons x0 xs =>
          refine iteT ?_
          refine ⟨_, rfl, D, _, rfl, SqL.of e2, by simp, fun m hm h1 => ?_⟩
          refine ⟨_, rfl, D, _, rfl, SqL.of e2, by simp, fun M hM h2 => ⟨rfl, ?_⟩⟩
          have hiff := one_dist hm hM h1 h2
          have ed : decide (m = M) = decide ((dist (x0 :: xs)).length = 1) := by
            by_cases h : m = M
            · rw [decide_eq_true h, decide_eq_true (hiff.mp h)]
            · rw [decide_eq_false h, decide_eq_false fun z => h (hiff.mpr z)]
          rw [decI, ed]
          exact kk
end
end L2.K87
set_option Elab.async false
set_option linter.all false
set_option autoImplicit false
set_option maxRecDepth 100000
set_option maxHeartbeats 4000000
namespace L2.K87
open PySem PySem.Spec PyProof.Rows
section
variable {P : Program} {w : World} {K : PySem.W.Frag} {mg : Str → Option Value} {base : Heap} {f C : Addr} {fd : FuncData}
theorem BagA.ne_strs {c b a : Addr} {H : Hp} {k : List Str} (h : BagA c H b) (e : H a = some (.lst (k.map V.str))) : a ≠ b := fun z => by
  obtain ⟨x, y, i, cs, e1, _⟩ := h
  rw [z, e1] at e
  have e := HO.lst.inj (Option.some.inj e)
  cases k with
  | nil => cases e
  | cons n k => cases e
theorem BagA.ne_refs {c b a : Addr} {H : Hp} {as : List Addr} (h : BagA c H b) (e : H a = some (.lst (as.map V.ref))) : a ≠ b := fun z => by
  obtain ⟨x, y, i, cs, e1, _⟩ := h
  rw [z, e1] at e
  have e := HO.lst.inj (Option.some.inj e)
  cases as with
  | nil => cases e
  | cons n k => cases e
/-! ### _law_strokes -/
def spStrokes : Sp := fun vs H Q _ => ∃ (b c nl : Addr) (ns : List Str) (m : Nat), vs = [.ref b, .ref nl, .int (m : Nat)] ∧ BagA c H b ∧ H nl = some (.lst (ns.map V.str)) ∧ ns.length ≤ 60 ∧ (∀ n ∈ ns, IsNm n) ∧ 1 ≤ m ∧ m ≤ 100 ∧
  ∀ (r : Addr) (ks : List (List Str)) (H' : Hp), SameX b H H' → BagA c H' b → H r = none → SksA H' r ks → 1 ≤ ks.length → ks.length ≤ m + 2 → (∀ k ∈ ks, ∀ n ∈ k, n ∈ ns) → (∀ k ∈ ks, k.length ≤ 60) → Q (.ref r) H'
abbrev NSk : List Str := ["_law_bag_here", "_law_names_here", "_law_bound", "_law_found", "_law_k", "_law_stroke", "_law_name"]
theorem scStrokes : FnScope NSk ["_law_bag_here", "_law_names_here", "_law_bound"] (defScope sLstrokes) := ⟨rfl, rfl, rfl, by decide +kernel, rfl, by decide +kernel, by decide +kernel⟩
theorem ok_Lstrokes (F : FnP K "_law_strokes" "_law_strokes" sLstrokes [] f fd) (T : Txt mg) (G : Cal P w K mg base 1 "_law_take" ["_law_bag_here", "_law_many"] spTake) : FnOk P w K mg base CX0 2 f fd ["_law_bag_here", "_law_names_here", "_law_bound"] spStrokes := by
  refine okF F scStrokes (fun vs H Q E h => ?_) (fun cdv A outer s H vs Q E hr h => ?_)
  · obtain ⟨b, c, nl, ns, m, rfl, _⟩ := h
    rfl
  · obtain ⟨b, c, nl, ns, m, rfl, hB, hnl, hns, hnm, hm1, hm2, k⟩ := h
    have hud : (A.deeper (envOfC (Str.ofString "_law_strokes") (defScope sLstrokes) s.heap.objs.size f cdv)).units + 65 < cLine := by have := hr.un; omega
    refine ⟨_, pss_cons (ps_set (i := 3) scStrokes.nd rfl (Or.inl rfl) (pe_slice sl_list (pe_lst (pa_cons (pe_lst pa_nil) pa_nil)) po_none (po_some (pe_cal G hr rfl (pa_cons (pv 0) (pa_cons pe_int pa_nil))))))
      (pss_cons (ps_for PassesOwn.never rfl (pi_range1 rfl T.rng (pa_cons (pe_op op_add pe_int (pe_cal G hr rfl (pa_cons (pv 0) (pa_cons (pv 2) pa_nil)))) pa_nil)) (pg_name (i := 4) scStrokes.nd rfl (Or.inl rfl))
        (pss_cons (ps_setLc (i := 5) (own := [("_law_name", 6)]) (g := gName 6) (tt := tTest (tOp rEq (tCall spTake [] E0 (tCons (tVar 0) (tCons (tC (.int 3)) tNil))) (tC (.int 0)))) (te := tVar 6) rfl scStrokes.nd rfl rfl (sw_true rfl rfl rfl (by decide +kernel)) (pi_list (pe_callB cr_sortedS (by rfl) T.srt (by decide +kernel) (pa_cons (pv 1) pa_nil)))
            (blkOk_by (N := NSk) (sc := defScope sLstrokes) (by decide +kernel)) (fun _ _ _ _ _ => pg_name (i := 6) scStrokes.nd rfl (Or.inl rfl) (Or.inr rfl)) (fun _ _ _ _ _ => pts_one (pt_cmpR op_eq (pe_cal G hr rfl (pa_cons (pv 0) (pa_cons pe_int pa_nil))) pe_int (nomark _))) (fun _ _ _ _ _ => pv 6))
        (pss_one (ps_if (pt_cmpR (op_notInD hud) (pv 5) (pv 3) rfl) (pss_one (ps_expr (pe_bm PySem.F.plainAttrs_list PySem.F.slot_list_append PySem.F.type_list_append mt_append (pv 3) (pa_cons (pv 5) pa_nil)))) pss_nil))))
      (pss_one (ps_ret (pv 3)))), ?_⟩
    obtain ⟨oc, ec⟩ := hB.cell
    have hnlb : nl ≠ b := hB.ne_strs hnl
    refine ⟨Nat.zero_le _, fun e0 he0 => ⟨by show 1 ≤ sizeLine; decide, fun p0 hp0 => ?_⟩⟩
    have n1 : New H (upd H e0 (.lst [])) e0 := New.upd he0
    have n2 : New (upd H e0 (.lst [])) (upd (upd H e0 (.lst [])) p0 (.lst [.ref e0])) p0 := New.upd hp0
    have ee0 : upd (upd H e0 (.lst [])) p0 (.lst [.ref e0]) e0 = some (.lst []) := n2.same _ _ upd_same
    have ep0 : upd (upd H e0 (.lst [])) p0 (.lst [.ref e0]) p0 = some (.lst [.ref e0]) := upd_same
    have s2 := n1.same.trans n2.same
    generalize upd (upd H e0 (.lst [])) p0 (.lst [.ref e0]) = H2 at ee0 ep0 s2 ⊢
    refine ⟨_, rfl, b, c, 3, rfl, hB.same s2, by decide, by decide, fun r3 H3 s3 B3 h3 h4 => ⟨_, rfl, ?_⟩⟩
    have hp0b : p0 ≠ b := (hB.same s2).ne_refs (as := [e0]) ep0
    have he0b : e0 ≠ b := (hB.same s2).ne_strs (k := []) ee0
    have ep3 := s3 p0 _ hp0b ep0
    have ee3 := s3 e0 _ he0b ee0
    have s03 := (SameX.of s2).trans s3
    obtain ⟨as0, ks0, ecut, hl0, hp3⟩ : ∃ (as0 : List Addr) (ks0 : List (List Str)), cutV [V.ref e0] none (some r3) = as0.map V.ref ∧ ks0.length ≤ 1 ∧ (as0 = [] ∧ ks0 = [] ∨ as0 = [e0] ∧ ks0 = [[]]) := by
      by_cases h : r3 = 0
      · exact ⟨[], [], by rw [h]; rfl, by simp, .inl ⟨rfl, rfl⟩⟩
      · have : r3 = 1 ∨ r3 = 2 := by omega
        rcases this with rfl | rfl
        · exact ⟨[e0], [[]], rfl, by simp, .inr ⟨rfl, rfl⟩⟩
        · exact ⟨[e0], [[]], rfl, by simp, .inr ⟨rfl, rfl⟩⟩
    refine ⟨p0, _, rfl, SqL.of ep3, fun F hF => ?_⟩
    rw [ecut]
    have hFe : F ≠ e0 := (ne_of_none ee3 hF).symm
    obtain ⟨o3, eb3⟩ := B3.at_
    have hFb : F ≠ b := (ne_of_none eb3 hF).symm
    have hF0 : H F = none := s03.free hFb hF
    have hFc : F ≠ c := (ne_of_none ec hF0).symm
    have hFnl : F ≠ nl := (ne_of_none (s03 nl _ hnlb hnl) hF).symm
    have pr0 : Paired (fun a k => a ≠ F ∧ SkA (upd H3 F (.lst (as0.map V.ref))) a k) as0 ks0 := by
      rcases hp3 with ⟨rfl, rfl⟩ | ⟨rfl, rfl⟩
      · exact .nil
      · refine .cons ⟨hFe.symm, ?_⟩ .nil
        unfold SkA
        rw [upd_ne hFe.symm]
        exact ee3
    have hin0 : ∀ k ∈ ks0, (∀ n ∈ k, n ∈ ns) ∧ k.length ≤ 60 := by
      rcases hp3 with ⟨_, rfl⟩ | ⟨_, rfl⟩
      · intro k hk
        cases hk
      · intro k hk
        have : k = [] := by simpa using hk
        rw [this]
        exact ⟨fun n hn => (by cases hn), Nat.zero_le _⟩
    have B4 : BagA c (upd H3 F (.lst (as0.map V.ref))) b := B3.upd hFb hFc
    have s04 : SameX b H (upd H3 F (.lst (as0.map V.ref))) := sameX_upd s03 hF0
    have eF4 : upd H3 F (.lst (as0.map V.ref)) F = some (.lst (as0.map V.ref)) := upd_same
    generalize upd H3 F (.lst (as0.map V.ref)) = H4 at pr0 B4 s04 eF4 ⊢
    refine ⟨_, rfl, _, rfl, b, c, _, rfl, B4, by omega, by omega, fun r5 H5 s5 B5 h5 h6 => ⟨_, _, rfl, rfl, ?_⟩⟩
    have s05 := s04.trans s5
    have pr5 : Paired (fun a k => a ≠ F ∧ SkA H5 a k) as0 ks0 := pimp pr0 fun a k ⟨z1, z2⟩ => ⟨z1, s5 a _ (B4.ne_strs z2) z2⟩
    refine ⟨(1 : Int) + r5, rfl, by omega, by omega, for_it walk_range (fun i σ H' => ∃ (v4 v5 : Option V) (as : List Addr) (ks : List (List Str)), σ = [some (.ref b), some (.ref nl), some (.int (m : Nat)), some (.ref F), v4, v5, none] ∧ SameX b H H' ∧ BagA c H' b ∧ H' F = some (.lst (as.map V.ref)) ∧ Paired (fun a k => a ≠ F ∧ SkA H' a k) as ks ∧
        (∀ k ∈ ks, (∀ n ∈ k, n ∈ ns) ∧ k.length ≤ 60) ∧ ks.length ≤ 1 + i ∧ (0 < i → 1 ≤ ks.length))
      ⟨none, none, as0, ks0, rfl, s05, B5, s5 F _ hFb eF4, pr5, hin0, by omega, fun h => absurd h (Nat.lt_irrefl _)⟩ (fun _ _ _ _ _ => trivial) ?_ ?_⟩
    · rintro i x σ _ H6 hi ⟨v4, v5, as, ks, rfl, s6, B6, eF6, pr6, hin, hl, _⟩ ⟨rfl, hx⟩
      have hi2 : i < 1 + m := by
        have : ((1 : Int) + r5).toNat ≤ 1 + m := by omega
        omega
      -- sorted(names)
      refine ⟨_, rfl, nl, ns, rfl, SqL.of (s6 nl _ hnlb hnl), by omega, fun ys S pm _ hS => ?_⟩
      obtain ⟨o6, eb6⟩ := B6.at_
      obtain ⟨oc6, ec6⟩ := B6.cell
      have hSb : S ≠ b := (ne_of_none eb6 hS).symm
      have hSc : S ≠ c := (ne_of_none ec6 hS).symm
      have hSF : S ≠ F := (ne_of_none eF6 hS).symm
      have hS0 : H S = none := s6.free hSb hS
      have nS : New H6 (upd H6 S (.lst (ys.map V.str))) S := New.upd hS
      have eS : upd H6 S (.lst (ys.map V.str)) S = some (.lst (ys.map V.str)) := upd_same
      have B7 := B6.same nS.same
      have s67 := nS.same
      have s07 : SameX b H (upd H6 S (.lst (ys.map V.str))) := sameX_upd s6 hS0
      generalize upd H6 S (.lst (ys.map V.str)) = H7 at eS B7 s67 s07 ⊢
      refine ⟨S, rfl, ⟨_, SqL.of eS⟩, fun D hD => ?_⟩
      obtain ⟨o7, eb7⟩ := B7.at_
      obtain ⟨oc7, ec7⟩ := B7.cell
      have hDb : D ≠ b := (ne_of_none eb7 hD).symm
      have hDc : D ≠ c := (ne_of_none ec7 hD).symm
      have hDS : D ≠ S := (ne_of_none eS hD).symm
      have hDF : D ≠ F := (ne_of_none (s67 _ _ eF6) hD).symm
      have hylen : ys.length ≤ 60 := by rw [pm.length_eq]; exact hns
      refine lc_it walk_list (fun j H' => SameX b H7 H' ∧ BagA c H' b ∧ ∃ zs : List Str, H' D = some (.lst (zs.map V.str)) ∧ zs.length ≤ j ∧ ∀ n ∈ zs, n ∈ ns)
        ⟨SameX.of (New.upd hD).same, B7.upd hDb hDc, [], upd_same, Nat.le_refl _, fun n hn => by cases hn⟩ (fun j H' _ ⟨z, _⟩ => SqL.of (z S _ hSb eS)) ?_ ?_
      · rintro j x _ H8 hj ⟨s8, B8, zs, e8, hzl, hzs⟩ ⟨rfl, hx8⟩
        obtain ⟨n, hn, rfl⟩ := mget hx8
        have hnn : n ∈ ns := pm.mem_iff.mp (List.mem_of_getElem? hn)
        refine ⟨rfl, ?_⟩
        refine ⟨_, rfl, b, c, 3, rfl, B8, by decide, by decide, fun r9 H9 s9 B9 h9 h10 => ⟨rfl, _, rfl, ?_⟩⟩
        have e9 := s9 D _ hDb e8
        by_cases h0 : r9 = 0
        · refine iteD (by rw [h0]) ?_
          refine ⟨_, rfl, _, e9, ?_, ?_⟩
          · rw [List.length_map]
            exact Nat.lt_of_le_of_lt (show zs.length ≤ 60 by rw [List.length_map] at hj; omega) (by decide)
          · refine ⟨sameX_upd (s8.trans s9) hD, B9.upd hDb hDc, zs ++ [n], by rw [upd_same, List.map_append]; rfl, by rw [List.length_append]; simp only [List.length_cons, List.length_nil]; omega, fun q hq => ?_⟩
            rcases List.mem_append.mp hq with hq | hq
            · exact hzs q hq
            · have : q = n := by simpa using hq
              rw [this]
              exact hnn
        · refine iteDN (fun z => h0 (by injection z)) ?_
          exact ⟨s8.trans s9, B9, zs, e9, by omega, hzs⟩
      · rintro H8 ⟨s8, B8, zs, e8, hzl, hzs⟩
        rw [List.length_map] at hzl
        have s08 := s07.trans s8
        have eF8 := s8 F _ hFb (s67 _ _ eF6)
        have pr8 : Paired (fun a k => a ≠ F ∧ SkA H8 a k) as ks := pimp pr6 fun a k ⟨z1, z2⟩ => ⟨z1, s8 a _ (B6.ne_strs z2) (s67 _ _ z2)⟩
        have okz : ∀ x ∈ zs, PyData.strOk x = true := fun x hx => (hnm x (hzs x hx)).ok
        have okk : ∀ k ∈ ks, ∀ x ∈ k, PyData.strOk x = true := fun k hk x hx => (hnm x ((hin k hk).1 x hx)).ok
        refine ⟨_, rfl, _, rfl, dSk zs, ks.map dSk, dp_sk e8, .lst (SqL.of eF8) (dp_all pr8 fun _ _ z => dp_sk z.2), (lay_sk okz).shaped, (lay_sks okk).shaped, _, rfl, ?_⟩
        by_cases hany : ((ks.map dSk).any fun z => PyData.eqv z (dSk zs)) = true
        · rw [hany]
          refine iteF ?_
          have : ks ≠ [] := fun z => by rw [z] at hany; cases hany
          exact ⟨_, _, as, ks, rfl, s08, B8, eF8, pr8, hin, by omega, fun _ => List.length_pos_iff.mpr this⟩
        · have hany : ((ks.map dSk).any fun z => PyData.eqv z (dSk zs)) = false := by simpa using hany
          rw [hany]
          refine iteT ?_
          have lks := plen pr8
          refine ⟨_, rfl, .inl ⟨rfl, _, SqL.of eF8⟩, _, rfl, F, _, _, rfl, rfl, eF8, ?_, ?_⟩
          · rw [List.length_map, lks]
            exact Nat.lt_of_le_of_lt (show ks.length ≤ 1000 by omega) (by decide)
          · refine ⟨_, _, as ++ [D], ks ++ [zs], rfl, sameX_upd s08 hF0, B8.upd hFb hFc, by rw [upd_same, List.map_append]; rfl, ?_, fun k hk => ?_, by rw [List.length_append]; simp only [List.length_cons, List.length_nil]; omega, fun _ => by rw [List.length_append]; simp⟩
            · refine psnoc (pimp pr8 fun a k z => ⟨z.1, (upd_ne z.1).trans z.2⟩) ⟨hDF, (upd_ne hDF).trans e8⟩
            · rcases List.mem_append.mp hk with hk | hk
              · exact hin k hk
              · have : k = zs := by simpa using hk
                rw [this]
                exact ⟨hzs, by omega⟩
    · rintro σ H6 ⟨v4, v5, as, ks, rfl, s6, B6, eF6, pr6, hin, hl, hl1⟩
      refine ⟨_, rfl, k F ks H6 s6 B6 hF0 ⟨as, eF6, pimp pr6 fun _ _ z => z.2⟩ (hl1 (by omega)) (by omega) (fun k hk => (hin k hk).1) fun k hk => (hin k hk).2⟩
end
end L2.K87
set_option Elab.async false
set_option linter.all false
set_option autoImplicit false
set_option maxRecDepth 100000
set_option maxHeartbeats 4000000
namespace L2.K87
open PySem PySem.Spec PyProof.Rows
/-! ### apart from the bag -/
theorem tups_out {c b : Addr} {H : Hp} (h : BagA c H b) : Tups H (Out b H) := fun x xs e => by
  obtain ⟨_, _, _, _, e1, _⟩ := h
  have : x ≠ b := fun z => by rw [z, e1] at e; cases e
  rw [out_ne this]
  exact e
theorem BagA.ne_ints {c b a : Addr} {H : Hp} {k : List Int} (h : BagA c H b) (e : H a = some (.lst (k.map V.int))) : a ≠ b := fun z => by
  obtain ⟨x, y, i, cs, e1, _⟩ := h
  rw [z, e1] at e
  have e := HO.lst.inj (Option.some.inj e)
  have h2 := congrArg (fun l => l[3]?) e
  match k, h2 with
  | [], h2 => simp at h2
  | [_], h2 => simp at h2
  | [_, _], h2 => simp at h2
  | [_, _, _], h2 => simp at h2
  | _ :: _ :: _ :: _ :: _, h2 => simp at h2
theorem SkA.out {c b a : Addr} {H : Hp} {k : List Str} (h : SkA H a k) (hB : BagA c H b) : SkA (Out b H) a k := (out_ne (hB.ne_strs h)).trans h
theorem SksA.out {c b a : Addr} {H : Hp} {ks : List (List Str)} (h : SksA H a ks) (hB : BagA c H b) : SksA (Out b H) a ks := by
  obtain ⟨as, e, r⟩ := h
  exact ⟨as, (out_ne (hB.ne_refs e)).trans e, pimp r fun _ _ z => z.out hB⟩
theorem WiA.out {c b a : Addr} {H : Hp} {wi : Wish} (h : WiA H a wi) (hB : BagA c H b) : WiA (Out b H) a wi := by
  cases wi with
  | groups n => exact tups_out hB _ _ h
  | together ns =>
    obtain ⟨l, e1, e2⟩ := h
    exact ⟨l, tups_out hB _ _ e1, SkA.out e2 hB⟩
section
variable {P : Program} {w : World} {K : PySem.W.Frag} {mg : Str → Option Value} {base : Heap} {f C : Addr} {fd : FuncData}
/-! ### _law_wish -/
def spLWish : Sp := fun vs H Q _ => ∃ (b c nl : Addr) (ns : List Str), vs = [.ref b, .ref nl] ∧ BagA c H b ∧ H nl = some (.lst (ns.map V.str)) ∧ ns.length ≤ 60 ∧ (∀ n ∈ ns, IsNm n) ∧
  ∀ (t : Addr) (wi : Wish) (H' : Hp), SameX b H H' → BagA c H' b → H t = none → WiA H' t wi → (∀ n ∈ wnt wi, n ∈ ns) → (wnt wi).length ≤ 60 → (∀ n, wi = .groups n → 0 ≤ n ∧ n ≤ 100) → Q (.ref t) H'
abbrev NLw : List Str := ["_law_bag_here", "_law_names_here", "_law_some", "_law_turn", "_law_name"]
theorem scLWish : FnScope NLw ["_law_bag_here", "_law_names_here"] (defScope sLwish) := ⟨rfl, rfl, rfl, by decide +kernel, rfl, by decide +kernel, by decide +kernel⟩
theorem dp_nil {K : PySem.W.Frag} {H : Hp} {a : Addr} (e : H a = some (.lst [])) : Dp K H (.ref a) (.list []) := .lst (SqL.of e) .nil
theorem ok_Lwish (F : FnP K "_law_wish" "_law_wish" sLwish [] f fd) (T : Txt mg) (G : Cal P w K mg base 1 "_law_take" ["_law_bag_here", "_law_many"] spTake) : FnOk P w K mg base CX0 2 f fd ["_law_bag_here", "_law_names_here"] spLWish := by
  refine okF F scLWish (fun vs H Q E h => ?_) (fun cdv A outer s H vs Q E hr h => ?_)
  · obtain ⟨b, c, nl, ns, rfl, _⟩ := h
    rfl
  · obtain ⟨b, c, nl, ns, rfl, hB, hnl, hns, hnm, k⟩ := h
    have hud := hr.units
    refine ⟨_, pss_cons (ps_setLc (i := 2) (own := [("_law_name", 4)]) (g := gName 4) (tt := tTest (tOp rEq (tCall spTake [] E0 (tCons (tVar 0) (tCons (tC (.int 2)) tNil))) (tC (.int 0)))) (te := tVar 4) rfl scLWish.nd rfl rfl (sw_true rfl rfl rfl (by decide +kernel)) (pi_list (pe_callB cr_sortedS (by rfl) T.srt (by decide +kernel) (pa_cons (pv 1) pa_nil)))
            (blkOk_by (N := NLw) (sc := defScope sLwish) (by decide +kernel)) (fun _ _ _ _ _ => pg_name (i := 4) scLWish.nd rfl (Or.inl rfl) (Or.inr rfl)) (fun _ _ _ _ _ => pts_one (pt_cmpR op_eq (pe_cal G hr rfl (pa_cons (pv 0) (pa_cons pe_int pa_nil))) pe_int (nomark _))) (fun _ _ _ _ _ => pv 4))
      (pss_cons (ps_if (PW.pt (pw_or (pt_cmpR (op_eqD hud) (pv 2) (pe_lst pa_nil) (nomark _)) (pw_or1 (pt_cmpR op_eq (pe_cal G hr rfl (pa_cons (pv 0) (pa_cons pe_int pa_nil))) pe_int (nomark _)))))
          (pss_one (ps_ret (pe_tup (pa_cons pe_str (pa_cons (pe_cal G hr rfl (pa_cons (pv 0) (pa_cons (pe_op op_add (pe_callB call_len_seq (by rfl) T.len PySem.boot_len (pa_cons (pv 1) pa_nil)) pe_int) pa_nil))) pa_nil))))) pss_nil)
      (pss_cons (ps_set (i := 3) scLWish.nd rfl (Or.inl rfl) (pe_cal G hr rfl (pa_cons (pv 0) (pa_cons (pe_callB call_len_seq (by rfl) T.len PySem.boot_len (pa_cons (pv 2) pa_nil)) pa_nil))))
      (pss_one (ps_ret (pe_tup (pa_cons pe_str (pa_cons (pe_op op_cat (pe_slice sl_list (pv 2) (po_some (pv 3)) po_none) (pe_slice sl_list (pv 2) po_none (po_some (pv 3)))) pa_nil))))))), ?_⟩
    have hnlb : nl ≠ b := hB.ne_strs hnl
    refine ⟨_, rfl, nl, ns, rfl, SqL.of hnl, by omega, fun ys S pm _ hS => ?_⟩
    obtain ⟨o6, eb6⟩ := hB.at_
    obtain ⟨oc6, ec6⟩ := hB.cell
    have hSb : S ≠ b := (ne_of_none eb6 hS).symm
    have hSc : S ≠ c := (ne_of_none ec6 hS).symm
    have nS : New H (upd H S (.lst (ys.map V.str))) S := New.upd hS
    have eS : upd H S (.lst (ys.map V.str)) S = some (.lst (ys.map V.str)) := upd_same
    have B7 := hB.same nS.same
    have s67 := nS.same
    generalize upd H S (.lst (ys.map V.str)) = H7 at eS B7 s67 ⊢
    have s07 : SameX b H H7 := SameX.of s67
    refine ⟨S, rfl, ⟨_, SqL.of eS⟩, fun D hD => ?_⟩
    obtain ⟨o7, eb7⟩ := B7.at_
    obtain ⟨oc7, ec7⟩ := B7.cell
    have hDb : D ≠ b := (ne_of_none eb7 hD).symm
    have hDc : D ≠ c := (ne_of_none ec7 hD).symm
    have hD0 : H D = none := s67.free hD
    have hylen : ys.length ≤ 60 := by rw [pm.length_eq]; exact hns
    refine lc_it walk_list (fun j H' => SameX b H7 H' ∧ BagA c H' b ∧ ∃ zs : List Str, H' D = some (.lst (zs.map V.str)) ∧ zs.length ≤ j ∧ ∀ n ∈ zs, n ∈ ns)
      ⟨SameX.of (New.upd hD).same, B7.upd hDb hDc, [], upd_same, Nat.le_refl _, fun n hn => (by cases hn)⟩ (fun j H' _ ⟨z, _⟩ => SqL.of (z S _ hSb eS)) ?_ ?_
    · rintro j x _ H8 hj ⟨s8, B8, zs, e8, hzl, hzs⟩ ⟨rfl, hx8⟩
      obtain ⟨n, hn, rfl⟩ := mget hx8
      have hnn : n ∈ ns := pm.mem_iff.mp (List.mem_of_getElem? hn)
      refine ⟨rfl, ?_⟩
      refine ⟨_, rfl, b, c, 2, rfl, B8, by decide, by decide, fun r9 H9 s9 B9 h9 h10 => ⟨rfl, _, rfl, ?_⟩⟩
      have e9 := s9 D _ hDb e8
      by_cases h0 : r9 = 0
      · refine iteD (by rw [h0]) ?_
        refine ⟨_, rfl, _, e9, ?_, ?_⟩
        · rw [List.length_map]
          exact Nat.lt_of_le_of_lt (show zs.length ≤ 60 by rw [List.length_map] at hj; omega) (by decide)
        · refine ⟨sameX_upd (s8.trans s9) hD, B9.upd hDb hDc, zs ++ [n], by rw [upd_same, List.map_append]; rfl, by rw [List.length_append]; simp only [List.length_cons, List.length_nil]; omega, fun q hq => ?_⟩
          rcases List.mem_append.mp hq with hq | hq
          · exact hzs q hq
          · have : q = n := by simpa using hq
            rw [this]
            exact hnn
      · refine iteDN (fun z => h0 (by injection z)) ?_
        exact ⟨s8.trans s9, B9, zs, e9, by omega, hzs⟩
    rintro H8 ⟨s8, B8, zs, e8, hzl, hzs⟩
    rw [List.length_map] at hzl
    have s08 := s07.trans s8
    refine ⟨_, rfl, Nat.zero_le _, fun q hq => ?_⟩
    have nq : New H8 (upd H8 q (.lst [])) q := New.upd hq
    have eq : upd H8 q (.lst []) q = some (.lst []) := upd_same
    have B9 := B8.same nq.same
    have s09 := s08.trans (SameX.of nq.same)
    have e9 := nq.same _ _ e8
    generalize upd H8 q (.lst []) = H9 at eq B9 s09 e9 ⊢
    have okz : ∀ x ∈ zs, PyData.strOk x = true := fun x hx => (hnm x (hzs x hx)).ok
    refine ⟨_, _, dp_sk e9, dp_nil eq, (lay_sk okz).shaped, rfl, _, rfl, ?_⟩
    have groups : ∀ H9, SameX b H H9 → BagA c H9 b → tRet (tTup (tCons (tC (.str "groups")) (tCons (tCall spTake [] E0 (tCons (tVar 0) (tCons (tOp (rI0 fun i j => .int (i + j)) (tCB (fun xs H Q => ∃ p ys, xs = [.ref p] ∧ (SqL K H p ys ∨ SqT K H p ys) ∧ Q (.int ys.length) H) (tCons (tVar 1) tNil)) (tC (.int 2))) tNil))) tNil))) { nx := fun _ H' => Q .non H', rt := Q } [some (.ref b), some (.ref nl), some (.ref D), none, none] H9 := by
      intro H9 s09 B9
      refine ⟨_, rfl, _, rfl, nl, _, rfl, .inl (SqL.of (s09 nl _ hnlb hnl)), _, _, rfl, rfl, b, c, _, rfl, B9, by rw [List.length_map]; omega, by rw [List.length_map]; omega, fun r10 H10 s10 B10 h11 h12 => ?_⟩
      refine ⟨by show 2 ≤ sizeLine; decide, fun t ht => ?_⟩
      obtain ⟨o10, eb10⟩ := B10.at_
      obtain ⟨oc10, ec10⟩ := B10.cell
      have htb : t ≠ b := (ne_of_none eb10 ht).symm
      have htc : t ≠ c := (ne_of_none ec10 ht).symm
      have s010 := s09.trans s10
      have ht0 : H t = none := s010.free htb ht
      exact k t (.groups r10) _ (sameX_upd s010 ht0) (B10.upd htb htc) ht0 upd_same (fun n hn => (by cases hn)) (Nat.zero_le _) (fun n e => by cases e; rw [List.length_map] at h12; omega)
    cases zs with
    | nil => exact iteT (iteT (groups H9 s09 B9))
    | cons z0 zs =>
      refine iteF ?_
      refine ⟨_, rfl, b, c, 2, rfl, B9, by decide, by decide, fun r10 H10 s10 B10 h9 h10 => ⟨rfl, _, rfl, ?_⟩⟩
      have s010 := s09.trans s10
      have e10 := s10 D _ hDb e9
      by_cases h0 : r10 = 0
      · refine iteD (by rw [h0]) ?_
        exact groups H10 s010 B10
      · refine iteDN (fun z => h0 (by injection z)) ?_
        generalize hzz : z0 :: zs = ws at e10 hzs hzl
        have hws : 1 ≤ ws.length := by rw [← hzz]; simp
        refine ⟨_, rfl, _, rfl, D, _, rfl, .inl (SqL.of e10), b, c, _, rfl, B10, by rw [List.length_map]; omega, by rw [List.length_map]; omega, fun r11 H11 s11 B11 h13 h14 => ?_⟩
        have e11 := s11 D _ hDb e10
        have s011 := s010.trans s11
        obtain ⟨l1, c1, m1⟩ := cut_map V.str ws (some r11) none
        obtain ⟨l2, c2, m2⟩ := cut_map V.str ws none (some r11)
        have ll1 : l1.length ≤ ws.length := by
          have := cutV_length (ws.map V.str) (some r11) none
          rw [c1, List.length_map, List.length_map] at this
          exact this
        have ll2 : l1.length + l2.length ≤ 60 := by
          have h1 : (ws.map V.str).length = ws.length := List.length_map _
          have h2 := congrArg List.length c1
          have h3 := congrArg List.length c2
          unfold cutV HT.sIx at h2 h3
          simp only [List.length_map, List.length_take, List.length_drop, Option.getD_none] at h2 h3
          omega
        refine ⟨_, rfl, _, rfl, _, rfl, D, _, rfl, SqL.of e11, fun q1 hq1 => ?_⟩
        rw [c1]
        obtain ⟨o11, eb11⟩ := B11.at_
        obtain ⟨oc11, ec11⟩ := B11.cell
        have hq1b : q1 ≠ b := (ne_of_none eb11 hq1).symm
        have hq1c : q1 ≠ c := (ne_of_none ec11 hq1).symm
        have hq10 : H q1 = none := s011.free hq1b hq1
        have nq1 : New H11 (upd H11 q1 (.lst (l1.map V.str))) q1 := New.upd hq1
        have eq1 : upd H11 q1 (.lst (l1.map V.str)) q1 = some (.lst (l1.map V.str)) := upd_same
        have B12 := B11.same nq1.same
        have e12 := nq1.same _ _ e11
        have s012 : SameX b H (upd H11 q1 (.lst (l1.map V.str))) := s011.trans (SameX.of nq1.same)
        generalize upd H11 q1 (.lst (l1.map V.str)) = H12 at eq1 B12 e12 s012 ⊢
        refine ⟨_, rfl, _, rfl, _, rfl, D, _, rfl, SqL.of e12, fun q2 hq2 => ?_⟩
        rw [c2]
        have nq2 : New H12 (upd H12 q2 (.lst (l2.map V.str))) q2 := New.upd hq2
        have eq2 : upd H12 q2 (.lst (l2.map V.str)) q2 = some (.lst (l2.map V.str)) := upd_same
        have B13 := B12.same nq2.same
        have eq13 := nq2.same _ _ eq1
        have s013 : SameX b H (upd H12 q2 (.lst (l2.map V.str))) := s012.trans (SameX.of nq2.same)
        generalize upd H12 q2 (.lst (l2.map V.str)) = H13 at eq2 B13 eq13 s013 ⊢
        refine ⟨q1, q2, _, _, rfl, rfl, eq13, eq2, ?_, fun q3 hq3 => ?_⟩
        · rw [List.length_map, List.length_map]
          exact Nat.le_trans ll2 (by decide)
        rw [← List.map_append]
        have nq3 : New H13 (upd H13 q3 (.lst ((l1 ++ l2).map V.str))) q3 := New.upd hq3
        have eq3 : upd H13 q3 (.lst ((l1 ++ l2).map V.str)) q3 = some (.lst ((l1 ++ l2).map V.str)) := upd_same
        have B14 := B13.same nq3.same
        have s014 : SameX b H (upd H13 q3 (.lst ((l1 ++ l2).map V.str))) := s013.trans (SameX.of nq3.same)
        generalize upd H13 q3 (.lst ((l1 ++ l2).map V.str)) = H14 at eq3 B14 s014 ⊢
        refine ⟨by show 2 ≤ sizeLine; decide, fun t ht => ?_⟩
        obtain ⟨o14, eb14⟩ := B14.at_
        have htb : t ≠ b := (ne_of_none eb14 ht).symm
        have nt : New H14 (upd H14 t (.tup [.str "together", .ref q3])) t := New.upd ht
        refine k t (.together (l1 ++ l2)) _ (s014.trans (SameX.of nt.same)) (B14.same nt.same) (s014.free htb ht) ⟨q3, upd_same, nt.same _ _ eq3⟩ (fun n hn => ?_) ?_ (fun n e => by cases e)
        · rcases List.mem_append.mp hn with hn | hn
          · exact hzs n (m1 n hn)
          · exact hzs n (m2 n hn)
        · show (l1 ++ l2).length ≤ 60
          rw [List.length_append]
          exact ll2
end
end L2.K87
set_option Elab.async false
set_option linter.all false
set_option autoImplicit false
set_option maxRecDepth 100000
set_option maxHeartbeats 4000000
namespace L2.K87
open PySem PySem.Spec PyProof.Rows
/-- what is drawn, in plain words -/
structure GotW (ls : List Int) (s0 : Sg) (ks : List (List Str)) : Prop where
  l1 : 1 ≤ ls.length
  l2 : ls.length ≤ 40
  lr : ∀ x ∈ ls, 1 ≤ x ∧ x ≤ 1000
  so : SortedSt s0
  nm : ∀ p ∈ s0, IsNm p.1
  pos : ∀ p ∈ s0, 1 ≤ p.2
  le : s0.length ≤ ls.length
  k1 : 1 ≤ ks.length
  k2 : ks.length ≤ 8
  sk : ∀ k ∈ ks, ∀ n ∈ k, n ∈ s0.map (·.1)
  kz : ∀ k ∈ ks, k.length ≤ 60
structure GotI (s0 : Sg) (wi : Wish) : Prop where
  wn : ∀ n ∈ wnt wi, n ∈ s0.map (·.1)
  wz : (wnt wi).length ≤ 60
  gn : ∀ n, wi = .groups n → 0 ≤ n ∧ n ≤ 100
structure WA (H : Hp) (sp a sk : Addr) (ls : List Int) (s0 : Sg) (ks : List (List Str)) : Prop where
  sp : H sp = some (.lst (ls.map V.int))
  st : StA H a s0
  sk : SksA H sk ks
theorem WA.same {H H' : Hp} {sp a sk : Addr} {ls : List Int} {s0 : Sg} {ks : List (List Str)} (h : WA H sp a sk ls s0 ks) (s : Same H H') : WA H' sp a sk ls s0 ks := ⟨s _ _ h.sp, h.st.same s, h.sk.same s⟩
section
variable {P : Program} {w : World} {K : PySem.W.Frag} {mg : Str → Option Value} {base : Heap} {f C : Addr} {fd : FuncData}
theorem kv_strs (st : Sg) : (stK st).map (fun kv => kV kv.1) = (st.map (·.1)).map V.str := by
  unfold stK
  rw [List.map_map, List.map_map]
  rfl
/-! ### _law_wished -/
def spWished : Sp := fun vs H Q _ => ∃ (b c sz : Addr), vs = [.ref b, .ref sz, .int 4, .int 4] ∧ BagA c H b ∧ H sz = some (.lst ([2, 3, 4, 40].map V.int)) ∧
  ∀ (t sp a sk wa : Addr) (ls : List Int) (s0 : Sg) (ks : List (List Str)) (wi : Wish) (H' : Hp), SameX b H H' → BagA c H' b → H' t = some (.tup [.ref sp, .ref a, .ref sk, .ref wa]) → WA (Out b H') sp a sk ls s0 ks → WiA (Out b H') wa wi → GotW ls s0 ks → GotI s0 wi → Q (.ref t) H'
abbrev NWd : List Str := ["_law_bag_here", "_law_sizes", "_law_top", "_law_longest", "_law_spans_here", "_law_rests_here", "_law_strokes_here"]
theorem scWished : FnScope NWd ["_law_bag_here", "_law_sizes", "_law_top", "_law_longest"] (defScope sLwished) := ⟨rfl, rfl, rfl, by decide +kernel, rfl, by decide +kernel, by decide +kernel⟩
theorem cut8 {α : Type} (f : α → V) (as : List α) : cutV (as.map f) none (some 8) = (as.take 8).map f := by
  unfold cutV
  rw [show (8 : Int) = ((8 : Nat) : Int) from rfl, HT.sIx_nat, HT.sIx_none, List.drop_zero, Nat.sub_zero, ← List.map_take]
  congr 1
  rw [List.length_map, List.take_eq_take_iff]
  omega
theorem ok_Lwished (F : FnP K "_law_wished" "_law_wished" sLwished [] f fd) (T : Txt mg) (G : Cal P w K mg base 1 "_law_take" ["_law_bag_here", "_law_many"] spTake) (G2 : Cal P w K mg base 3 "_law_hall" ["_law_bag_here", "_law_many", "_law_most", "_law_longest"] spHall)
    (G3 : Cal P w K mg base 2 "_law_strokes" ["_law_bag_here", "_law_names_here", "_law_bound"] spStrokes) (G4 : Cal P w K mg base 1 "_law_stand" ["_law_rests_here"] spLStand) (G5 : Cal P w K mg base 2 "_law_wish" ["_law_bag_here", "_law_names_here"] spLWish) :
    FnOk P w K mg base CX0 4 f fd ["_law_bag_here", "_law_sizes", "_law_top", "_law_longest"] spWished := by
  refine okF F scWished (fun vs H Q E h => ?_) (fun cdv A outer s H vs Q E hr h => ?_)
  · obtain ⟨b, c, sz, rfl, _⟩ := h
    rfl
  · obtain ⟨b, c, sz, rfl, hB, hsz, k⟩ := h
    have hr1 := hr.mono (show 1 ≤ 3 by decide)
    have hr2 := hr.mono (show 2 ≤ 3 by decide)
    refine ⟨_, pss_cons (ps_asg (pe_cal G2 hr rfl (pa_cons (pv 0) (pa_cons (pe_ix ix_list (pv 1) (pe_cal G hr1 rfl (pa_cons (pv 0) (pa_cons (pe_callB call_len_seq (by rfl) T.len PySem.boot_len (pa_cons (pv 1) pa_nil)) pa_nil))) (fun _ _ => rfl)) (pa_cons (pv 2) (pa_cons (pv 3) pa_nil))))) (pg2 (i := 4) (j := 5) rfl scWished.nd rfl rfl (Or.inl rfl) (Or.inl rfl) (Or.inl rfl) (Or.inl rfl)))
      (pss_cons (ps_set (i := 6) scWished.nd rfl (Or.inl rfl) (pe_slice sl_list (pe_cal G3 hr2 rfl (pa_cons (pv 0) (pa_cons (pe_callTy (call_listD rfl) (by rfl) T.lst (by decide +kernel) (pa_cons (pv 5) pa_nil)) (pa_cons (pe_ix ix_list (pe_lst (pa_cons pe_int (pa_cons pe_int (pa_cons pe_int pa_nil)))) (pe_cal G hr1 rfl (pa_cons (pv 0) (pa_cons pe_int pa_nil))) (fun _ _ => rfl)) pa_nil)))) po_none (po_some pe_int)))
      (pss_one (ps_ret (pe_tup (pa_cons (pv 4) (pa_cons (pe_cal G4 hr1 rfl (pa_cons (pv 5) pa_nil)) (pa_cons (pv 6) (pa_cons (pe_cal G5 hr2 rfl (pa_cons (pv 0) (pa_cons (pe_callTy (call_listD rfl) (by rfl) T.lst (by decide +kernel) (pa_cons (pv 5) pa_nil)) pa_nil))) pa_nil)))))))), ?_⟩
    have hszb : sz ≠ b := hB.ne_ints hsz
    refine ⟨_, rfl, _, rfl, _, rfl, _, rfl, sz, _, rfl, .inl (SqL.of hsz), b, c, 4, rfl, hB, by decide, by decide, fun r1 H1 s1 B1 h1 h2 => ?_⟩
    obtain ⟨j, rfl⟩ := Int.eq_ofNat_of_zero_le h1
    obtain ⟨n, hn1, hn2, hat⟩ : ∃ n : Nat, 1 ≤ n ∧ n ≤ 40 ∧ ([2, 3, 4, 40].map V.int)[j]? = some (.int (n : Nat)) := by
      match j, h2 with
      | 0, _ => exact ⟨2, by decide, by decide, rfl⟩
      | 1, _ => exact ⟨3, by decide, by decide, rfl⟩
      | 2, _ => exact ⟨4, by decide, by decide, rfl⟩
      | 3, _ => exact ⟨40, by decide, by decide, rfl⟩
      | n + 4, h2 => omega
    refine ⟨sz, _, _, .int (n : Nat), rfl, rfl, SqL.of (s1 sz _ hszb hsz), atN hat, ?_⟩
    refine ⟨_, rfl, _, rfl, b, c, n, 4, 4, rfl, B1, hn1, hn2, by decide, by decide, by decide, by decide, fun t1 sp d ls st H2 s2 B2 ht1 hsp0 hd0 et esp ed hl1 hl2 hlr hS hle => ?_⟩
    have hspb : sp ≠ b := B2.ne_ints esp
    have hdb : d ≠ b := fun z => by
      obtain ⟨x, y, i, cs, e1, _⟩ := B2
      rw [z, e1] at ed
      cases ed
    refine ⟨t1, _, rfl, SqT.of et, rfl, _, _, rfl, _, _, rfl, rfl, ?_⟩
    have s02 := s1.trans s2
    -- strokes
    refine ⟨_, rfl, _, rfl, d, _, rfl, .inl ed, fun nl hnl => ?_⟩
    rw [kv_strs]
    have nl1 : New H2 (upd H2 nl (.lst ((st.map (·.1)).map V.str))) nl := New.upd hnl
    have enl : upd H2 nl (.lst ((st.map (·.1)).map V.str)) nl = some (.lst ((st.map (·.1)).map V.str)) := upd_same
    have B3 := B2.same nl1.same
    have s03 := s02.trans (SameX.of nl1.same)
    have esp3 := nl1.same _ _ esp
    have ed3 := nl1.same _ _ ed
    generalize upd H2 nl (.lst ((st.map (·.1)).map V.str)) = H3 at enl B3 s03 esp3 ed3 ⊢
    refine ⟨by show 3 ≤ sizeLine; decide, fun q hq => ?_⟩
    have nq : New H3 (upd H3 q (.lst ([2, 2, 7].map V.int))) q := New.upd hq
    have eq : upd H3 q (.lst ([2, 2, 7].map V.int)) q = some (.lst ([2, 2, 7].map V.int)) := upd_same
    have B4 := B3.same nq.same
    have s04 := s03.trans (SameX.of nq.same)
    have esp4 := nq.same _ _ esp3
    have ed4 := nq.same _ _ ed3
    have enl4 := nq.same _ _ enl
    generalize H4e : upd H3 q (.lst ([2, 2, 7].map V.int)) = H4 at eq B4 s04 esp4 ed4 enl4
    have H4e' : upd H3 q (.lst [.int 2, .int 2, .int 7]) = H4 := H4e
    rw [H4e']
    have hqb : q ≠ b := B4.ne_ints eq
    have hnlb : nl ≠ b := B4.ne_strs enl4
    refine ⟨_, rfl, b, c, 3, rfl, B4, by decide, by decide, fun r5 H5 s5 B5 h5 h6 => ?_⟩
    obtain ⟨j2, rfl⟩ := Int.eq_ofNat_of_zero_le h5
    obtain ⟨m, hm1, hm2, hat2⟩ : ∃ m : Nat, 1 ≤ m ∧ m ≤ 100 ∧ ([2, 2, 7].map V.int)[j2]? = some (.int (m : Nat)) := by
      match j2, h6 with
      | 0, _ => exact ⟨2, by decide, by decide, rfl⟩
      | 1, _ => exact ⟨2, by decide, by decide, rfl⟩
      | 2, _ => exact ⟨7, by decide, by decide, rfl⟩
      | n + 3, h6 => omega
    refine ⟨q, _, _, .int (m : Nat), rfl, rfl, SqL.of (s5 q _ hqb eq), atN hat2, ?_⟩
    have lns : (st.map (·.1)).length ≤ 60 := by rw [List.length_map]; omega
    have hnms : ∀ n ∈ st.map (·.1), IsNm n := fun n hn => by
      obtain ⟨p, hp, rfl⟩ := List.mem_map.mp hn
      exact hS.nm p hp
    refine ⟨b, c, nl, st.map (·.1), m, rfl, B5, s5 nl _ hnlb enl4, lns, hnms, hm1, hm2, fun r6 ks H6 s6 B6 hr6 hks hk1 hk2 hkin hkz => ?_⟩
    obtain ⟨as, eas, pas⟩ := hks
    refine ⟨8, rfl, r6, _, rfl, SqL.of eas, fun sk hsk => ?_⟩
    rw [cut8]
    have s06 := (s04.trans s5).trans s6
    have esp6 := s6 sp _ hspb (s5 sp _ hspb esp4)
    have ed6 := s6 d _ hdb (s5 d _ hdb ed4)
    have n7 : New H6 (upd H6 sk (.lst ((as.take 8).map V.ref))) sk := New.upd hsk
    have e7 : upd H6 sk (.lst ((as.take 8).map V.ref)) sk = some (.lst ((as.take 8).map V.ref)) := upd_same
    have B7 := B6.same n7.same
    have s07 := s06.trans (SameX.of n7.same)
    have pas7 := pimp pas fun _ _ z => SkA.same z n7.same
    have esp7 := n7.same _ _ esp6
    have ed7 := n7.same _ _ ed6
    generalize upd H6 sk (.lst ((as.take 8).map V.ref)) = H7 at e7 B7 s07 pas7 esp7 ed7 ⊢
    have sks7 : SksA H7 sk (ks.take 8) := ⟨as.take 8, e7, ptake pas7 8⟩
    -- the standing, the wish
    refine ⟨_, rfl, _, rfl, d, st, rfl, ed7, hS.nd, by omega, fun a H8 s8 ha0 ha => ?_⟩
    refine ⟨_, rfl, _, rfl, _, rfl, d, _, rfl, .inl (s8 _ _ ed7), fun nl2 hnl2 => ?_⟩
    rw [kv_strs]
    have n9 : New H8 (upd H8 nl2 (.lst ((st.map (·.1)).map V.str))) nl2 := New.upd hnl2
    have e9 : upd H8 nl2 (.lst ((st.map (·.1)).map V.str)) nl2 = some (.lst ((st.map (·.1)).map V.str)) := upd_same
    have s79 := s8.trans n9.same
    have B9 := B7.same s79
    have ha9 := ha.same n9.same
    generalize upd H8 nl2 (.lst ((st.map (·.1)).map V.str)) = H9 at e9 s79 B9 ha9 ⊢
    have W9 : WA (Out b H9) sp a sk ls (sortP st) (ks.take 8) := ⟨(out_ne hspb).trans (s79 _ _ esp7), ha9.keep (tups_out B9), (sks7.same s79).out B9⟩
    have s09 := s07.trans (SameX.of s79)
    refine ⟨b, c, nl2, st.map (·.1), rfl, B9, e9, lns, hnms, fun wa wi H10 s10 B10 hwa0 hwa hwn hwz hgn => ?_⟩
    refine ⟨by show 4 ≤ sizeLine; decide, fun t ht => ?_⟩
    have nt : New H10 (upd H10 t (.tup [.ref sp, .ref a, .ref sk, .ref wa])) t := New.upd ht
    have B11 := B10.same nt.same
    have hmem : ∀ n, n ∈ st.map (·.1) → n ∈ (sortP st).map (·.1) := fun n hn => ((sortP_perm st).map _).mem_iff.mpr hn
    have hlp : (sortP st).length = st.length := (sortP_perm st).length_eq
    refine k t sp a sk wa ls (sortP st) (ks.take 8) wi _ ((s09.trans s10).trans (SameX.of nt.same)) B11 upd_same ((W9.same s10.out).same (Same.out nt.same)) ((hwa.out B10).same (Same.out nt.same)) ?_ ⟨fun n hn => hmem n (hwn n hn), hwz, hgn⟩
    refine ⟨hl1, by omega, hlr, sortP_sorted hS.nd, fun p hp => hS.nm p ((sortP_perm st).mem_iff.mp hp), fun p hp => hS.pos p ((sortP_perm st).mem_iff.mp hp), by omega, ?_, ?_, fun k hk n hn => hmem n (hkin k (List.mem_of_mem_take hk) n hn), fun k hk => hkz k (List.mem_of_mem_take hk)⟩
    · rw [List.length_take]
      omega
    · rw [List.length_take]
      omega
end
end L2.K87
set_option Elab.async false
set_option linter.all false
set_option autoImplicit false
set_option maxRecDepth 100000
set_option maxHeartbeats 4000000
namespace L2.K87
open PySem PySem.Spec PyProof.Rows
theorem lot_fst {ls : List Int} {ks : List (List Str)} {s0 : Sg} : ∀ k, ∀ s ∈ lotF (su ls ks) s0 k, s.map (·.1) = s0.map (·.1)
  | 0 => fun s hs => by
    have : s = s0 := by simpa [lotF] using hs
    rw [this]
  | k + 1 => fun s hs => by
    cases e : (lotF (su ls ks) s0 k)[k]? with
    | none =>
      have : lotF (su ls ks) s0 (k + 1) = lotF (su ls ks) s0 k := by
        rw [lotF]
        simp only [e]
      rw [this] at hs
      exact lot_fst k s hs
    | some t =>
      rw [lotF_succ e] at hs
      rcases grow_mem.mp hs with hs | hs
      · exact lot_fst k s hs
      · obtain ⟨n, _, rfl⟩ := List.mem_map.mp hs
        rw [map_fst_call]
        exact lot_fst k t (List.mem_of_getElem? e)
theorem IsLot.fst {ls : List Int} {ks : List (List Str)} {s0 : Sg} {L : List Sg} (h : IsLot (su ls ks) s0 L) {s : Sg} (hs : s ∈ L) : s.map (·.1) = s0.map (·.1) := by
  have := lot_fst (ls := ls) (ks := ks) (s0 := s0) L.length s
  rw [h.eq] at this
  exact this hs
section
variable {P : Program} {w : World} {K : PySem.W.Frag} {mg : Str → Option Value} {base : Heap} {f C : Addr} {fd : FuncData}
/-! ### _law_lot -/
def spLLot : Sp := fun vs H Q _ => ∃ (sp a sk : Addr) (ls : List Int) (s0 : Sg) (ks : List (List Str)) (m : Nat), vs = [.ref sp, .ref a, .ref sk, .int (m : Nat)] ∧ WA H sp a sk ls s0 ks ∧ GotW ls s0 ks ∧ 1 ≤ m ∧ m ≤ 200 ∧
  (∀ H', Same H H' → Q .non H') ∧ ∀ (r : Addr) (L : List Sg) (H' : Hp), Same H H' → H r = none → LsA H' r L → IsLot (su ls ks) s0 L → L.length ≤ m → Q (.ref r) H'
abbrev NLl : List Str := ["_law_spans_here", "_law_stand_here", "_law_strokes_here", "_law_bound", "_law_found", "_law_known_ones", "_law_at", "_law_stroke", "_law_there"]
theorem scLLot : FnScope NLl ["_law_spans_here", "_law_stand_here", "_law_strokes_here", "_law_bound"] (defScope sLlot) := ⟨rfl, rfl, rfl, by decide +kernel, rfl, by decide +kernel, by decide +kernel⟩
theorem ok_Llot (F : FnP K "_law_lot" "_law_lot" sLlot [] f fd) (T : Txt mg) (G : Cal P w K mg base 2 "_law_called" ["_law_spans_here", "_law_stand_here", "_law_stroke"] spLCalled) : FnOk P w K mg base CX0 3 f fd ["_law_spans_here", "_law_stand_here", "_law_strokes_here", "_law_bound"] spLLot := by
  refine okF F scLLot (fun vs H Q E h => ?_) (fun cdv A outer s H vs Q E hr h => ?_)
  · obtain ⟨sp, a, sk, ls, s0, ks, m, rfl, _⟩ := h
    rfl
  · obtain ⟨sp, a, sk, ls, s0, ks, m, rfl, hWA, gw, hm1, hm2, knone, k⟩ := h
    have hu := hu16 hr
    refine ⟨_, pss_cons (ps_par3 (i := 4) (j := 5) (l := 6) rfl scLLot.nd rfl rfl rfl (by decide) (by decide) (by decide) rfl rfl rfl (pa_cons (pe_lst (pa_cons (pv 1) pa_nil)) (pa_cons (pe_ndisp1 hu (pv 1) pe_bl) (pa_cons pe_int pa_nil))) (by rfl))
      (pss_cons (ps_while PassesOwn.never (pt_cmpR op_lt (pv 6) (pe_callB call_len_seq (by rfl) T.len PySem.boot_len (pa_cons (pv 4) pa_nil)) (nomark _))
        (pss_cons (ps_for PassesOwn.never rfl (pi_list (pv 2)) (pg_name (i := 7) scLLot.nd rfl (Or.inl rfl))
          (pss_cons (ps_set (i := 8) scLLot.nd rfl (Or.inl rfl) (pe_ix ix_tup (pe_cal G hr rfl (pa_cons (pv 0) (pa_cons (pe_ix ix_list (pv 4) (pv 6) (fun _ _ => rfl)) (pa_cons (pv 7) pa_nil)))) pe_int (fun _ _ => rfl)))
          (pss_cons (ps_mid (ps_if (pt_cmp (pc_nnotin hu (pv 8) (pv 5))) (pss_cons (ps_ndput hu (pv 5) (pv 8) pe_bl rfl) (pss_one (ps_expr (pe_bm PySem.F.plainAttrs_list PySem.F.slot_list_append PySem.F.type_list_append mt_append (pv 4) (pa_cons (pv 8) pa_nil))))) pss_nil))
          (pss_one (ps_if (pt_cmpR op_gt (pe_callB call_len_seq (by rfl) T.len PySem.boot_len (pa_cons (pv 4) pa_nil)) (pv 3) (nomark _)) (pss_one (ps_ret pe_non)) pss_nil)))))
        (pss_one (ps_set (i := 6) scLLot.nd rfl (Or.inl rfl) (pe_op op_add (pv 6) pe_int)))))
      (pss_one (ps_ret (pv 4)))), ?_⟩
    obtain ⟨hsp, hS, as, hc, hcs⟩ := id hWA
    refine ⟨_, rfl, by show 1 ≤ sizeLine; decide, fun fo hfo => ?_⟩
    have nf : New H (upd H fo (.lst [.ref a])) fo := New.upd hfo
    intro me H1 nm dm
    refine ⟨_, rfl, s0, a, rfl, (hS.same nf.same).same nm.same, dm, fun H2 els2 t2 dm2 => ?_⟩
    have hme0 : H me = none := nf.same.free nm.free
    have nfm : fo ≠ me := ne_of_none upd_same nm.free
    have s2 : Same H H2 := fun b' o e => by
      rw [els2 b' (ne_of_none e hme0)]
      exact nm.same _ _ (nf.same _ _ e)
    have ef2 : H2 fo = some (.lst [.ref a]) := by
      rw [els2 fo nfm]
      exact nm.same _ _ upd_same
    refine ⟨_, _, _, rfl, ?_⟩
    have hM : ∀ b' ∈ [fo, me], H b' = none := by
      intro b' hb'
      simp only [List.mem_cons, List.not_mem_nil, or_false] at hb'
      rcases hb' with rfl | rfl
      · exact hfo
      · exact hme0
    refine ⟨fun mm σ H' => ∃ (j : Nat) (v7 v8 : Option V) (fs : List Addr) (km : List (Sg × V)), mm = m + 1 - j ∧ (∀ i, i < j → i < (lotF (su ls ks) s0 i).length) ∧ (lotF (su ls ks) s0 j).length ≤ m ∧
        σ = [some (.ref sp), some (.ref a), some (.ref sk), some (.int (m : Nat)), some (.ref fo), some (.ref me), some (.int (j : Nat)), v7, v8] ∧ Same H H' ∧ H' fo = some (.lst (fs.map V.ref)) ∧ Paired (StA H') fs (lotF (su ls ks) s0 j) ∧
        DN P w H' me km ∧ km.map (·.1) = lotF (su ls ks) s0 j,
      ⟨m + 1, 0, none, none, [a], [(s0, .bl true)], rfl, fun i hi => absurd hi (Nat.not_lt_zero _), hm1, rfl, s2, ef2, .cons (hS.same s2) .nil, dm2, rfl⟩, ?_⟩
    rintro mm σ H4 ⟨j, v7, v8, fs, km, rfl, hrun, hlen, rfl, s4, eF, pF, dM, ekM⟩
    have lenF : fs.length = (lotF (su ls ks) s0 j).length := plen pF
    refine ⟨_, rfl, _, rfl, fo, _, rfl, .inl (SqL.of eF), _, _, rfl, rfl, _, rfl, ?_⟩
    by_cases hlt : j < (lotF (su ls ks) s0 j).length
    · refine iteD (by rw [List.length_map, lenF]; omega) ?_
      obtain ⟨s, hsF⟩ := lt_get hlt
      obtain ⟨q, hqf, hqs⟩ := pget2 pF hsF
      have hsm := List.mem_of_getElem? hsF
      have hslen : s.length = s0.length := lot_len j s hsm
      have hso : SortedSt s := gw.so.of (lot_fst j s hsm)
      have eGrow := lotF_succ hsF
      have hle := gw.le
      have hl2 := gw.l2
      refine ⟨fun σ' H' => ∃ m', m' < m + 1 - j ∧ ∃ (j : Nat) (v7 v8 : Option V) (fs : List Addr) (km : List (Sg × V)), m' = m + 1 - j ∧ (∀ i, i < j → i < (lotF (su ls ks) s0 i).length) ∧ (lotF (su ls ks) s0 j).length ≤ m ∧
        σ' = [some (.ref sp), some (.ref a), some (.ref sk), some (.int (m : Nat)), some (.ref fo), some (.ref me), some (.int (j : Nat)), v7, v8] ∧ Same H H' ∧ H' fo = some (.lst (fs.map V.ref)) ∧ Paired (StA H') fs (lotF (su ls ks) s0 j) ∧
        DN P w H' me km ∧ km.map (·.1) = lotF (su ls ks) s0 j, fun _ _ z => z, ?_⟩
      refine ⟨_, rfl, sk, rfl, ⟨_, SqL.of (s4 _ _ hc)⟩, for_it walk_list (fun i σ' H' => ∃ (v7 v8 : Option V) (fs : List Addr) (km : List (Sg × V)),
          σ' = [some (.ref sp), some (.ref a), some (.ref sk), some (.int (m : Nat)), some (.ref fo), some (.ref me), some (.int (j : Nat)), v7, v8] ∧ Same H H' ∧ H' fo = some (.lst (fs.map V.ref)) ∧ Paired (StA H') fs (grow (lotF (su ls ks) s0 j) ((su ls ks s).take i)) ∧
          DN P w H' me km ∧ km.map (·.1) = grow (lotF (su ls ks) s0 j) ((su ls ks s).take i) ∧ (grow (lotF (su ls ks) s0 j) ((su ls ks s).take i)).length ≤ m)
        ⟨v7, v8, fs, km, rfl, s4, eF, pF, dM, ekM, hlen⟩ (fun i σ' H' _ ⟨_, _, _, _, _, s', _⟩ => SqL.of (s' _ _ hc)) ?_ ?_⟩
      · rintro i x σ' _ H5 hi ⟨v7, v8, fs, km, rfl, s5, eF5, pF5, dM5, ekM5, hl5⟩ ⟨rfl, hx⟩
        obtain ⟨qk, kk, rfl, hqk, hkk, hsk⟩ := skA_get hcs hx
        have hget : (grow (lotF (su ls ks) s0 j) ((su ls ks s).take i))[j]? = some s := by
          obtain ⟨r, er⟩ := grow_pre (lotF (su ls ks) s0 j) ((su ls ks s).take i)
          rw [er, List.getElem?_append_left hlt]
          exact hsF
        obtain ⟨q5, hq5, hs5⟩ := pget2 pF5 hget
        have eb : (su ls ks s).take (i + 1) = (su ls ks s).take i ++ [callS ls s kk] := take_snoc (by unfold su; rw [List.getElem?_map, hkk]; rfl)
        refine ⟨_, rfl, _, rfl, _, rfl, fo, _, _, .ref q5, rfl, rfl, SqL.of eF5, atN (by rw [List.getElem?_map, hq5]; rfl), ?_⟩
        refine ⟨_, rfl, sp, q5, qk, ls, s, kk, rfl, s5 _ _ hsp, hs5, hsk.same s5, hso, by omega, by omega, fun t r u H6 s6 ht hr6 => ?_⟩
        refine ⟨t, _, 0, .ref r, rfl, rfl, SqT.of ht, rfl, ?_⟩
        have s06 := s5.trans s6
        have dM6 := dM5.same s6
        have eF6 := s6 _ _ eF5
        have pF6 := pimp pF5 fun _ _ z => z.same s6
        have lkm : km.length ≤ m := by
          have := congrArg List.length ekM5
          rw [List.length_map] at this
          omega
        have lfs : fs.length ≤ m := by
          rw [plen pF5]
          exact hl5
        refine ⟨fun σ' H' => ∃ (fs : List Addr) (km : List (Sg × V)), σ' = [some (.ref sp), some (.ref a), some (.ref sk), some (.int (m : Nat)), some (.ref fo), some (.ref me), some (.int (j : Nat)), some (.ref qk), some (.ref r)] ∧ Same H H' ∧ H' fo = some (.lst (fs.map V.ref)) ∧ Paired (StA H') fs (grow (lotF (su ls ks) s0 j) ((su ls ks s).take (i + 1))) ∧
            DN P w H' me km ∧ km.map (·.1) = grow (lotF (su ls ks) s0 j) ((su ls ks s).take (i + 1)), ?_, ?_⟩
        · refine ⟨_, rfl, _, rfl, me, _, rfl, NGet.of dM6.rd hr6 rfl, _, rfl, ?_⟩
          rw [eb, grow_snoc]
          cases e : valV km (callS ls s kk) with
          | some v =>
            refine iteF ?_
            have hin : callS ls s kk ∈ grow (lotF (su ls ks) s0 j) ((su ls ks s).take i) := by
              rw [← ekM5]
              exact valV_in e
            unfold grow1
            rw [if_pos hin]
            exact ⟨fs, km, rfl, s06, eF6, pF6, dM6, ekM5⟩
          | none =>
            refine iteT ?_
            have hnin : callS ls s kk ∉ grow (lotF (su ls ks) s0 j) ((su ls ks s).take i) := by
              rw [← ekM5]
              exact valV_not e
            unfold grow1
            rw [if_neg hnin]
            refine ⟨_, rfl, _, rfl, me, rfl, NPut.of dM6 hr6 (Nat.lt_of_le_of_lt lkm (Nat.lt_of_le_of_lt hm2 (by decide))) fun H8 els8 t8 dM8 => ?_⟩
            rw [putK_new _ e] at dM8
            have eF8 : H8 fo = some (.lst (fs.map V.ref)) := by
              rw [els8 fo nfm]
              exact eF6
            refine ⟨_, rfl, .inl ⟨rfl, _, SqL.of eF8⟩, _, rfl, fo, _, _, rfl, rfl, eF8, by rw [List.length_map]; exact Nat.lt_of_le_of_lt lfs (Nat.lt_of_le_of_lt hm2 (by decide)), ?_⟩
            have t9 : Tups H8 (upd H8 fo (.lst (fs.map V.ref ++ [.ref r]))) := tups_lst eF8
            have k8 : KeepM [fo, me] H6 H8 := KeepM.els (by simp) els8
            have k9 : KeepM [fo, me] H8 (upd H8 fo (.lst (fs.map V.ref ++ [.ref r]))) := KeepM.upd (by simp)
            refine ⟨fs ++ [r], km ++ [(callS ls s kk, V.bl true)], rfl, (k8.trans k9).same s06 hM, by rw [upd_same, List.map_append]; rfl, ?_, dM8.keep t9 (upd_ne nfm.symm), by rw [List.map_append, ekM5]; rfl⟩
            exact psnoc (pimp pF6 fun _ _ z => (z.keep t8).keep t9) ((hr6.keep t8).keep t9)
        · rintro σ' H7 ⟨fs, km, rfl, s7, eF7, pF7, dM7, ekM7⟩
          refine ⟨_, rfl, fo, _, rfl, .inl (SqL.of eF7), _, rfl, _, _, rfl, rfl, _, rfl, ?_⟩
          by_cases hgt : ((m : Nat) : Int) < ((fs.map V.ref).length : Nat)
          · refine iteD hgt ?_
            exact knone H7 s7
          · refine iteDN hgt ?_
            refine ⟨_, _, fs, km, rfl, s7, eF7, pF7, dM7, ekM7, ?_⟩
            rw [← plen pF7]
            rw [List.length_map] at hgt
            omega
      · rintro σ' H5 ⟨v7, v8, fs, km, rfl, s5, eF5, pF5, dM5, ekM5, hl5⟩
        have eAll : grow (lotF (su ls ks) s0 j) ((su ls ks s).take (as.map V.ref).length) = lotF (su ls ks) s0 (j + 1) := by
          rw [take_all (by unfold su; rw [List.length_map, List.length_map, plen hcs]), eGrow]
        rw [eAll] at pF5 ekM5 hl5
        refine ⟨_, rfl, _, _, rfl, rfl, m + 1 - (j + 1), by omega, j + 1, _, _, fs, km, rfl, fun i hi => ?_, hl5, rfl, s5, eF5, pF5, dM5, ekM5⟩
        by_cases h : i < j
        · exact hrun i h
        · have : i = j := by omega
          rw [this]
          exact hlt
    · refine iteDN (by rw [List.length_map, lenF]; omega) ?_
      exact ⟨_, rfl, k fo _ H4 s4 hfo ⟨fs, eF, pF⟩ (isLot_of hrun (by omega)) hlen⟩
end
end L2.K87
set_option Elab.async false
set_option linter.all false
set_option autoImplicit false
set_option maxRecDepth 100000
set_option maxHeartbeats 4000000
namespace L2.K87
open PySem PySem.Spec PyProof.Rows
/-- an edge: calls and standing -/
def EgA (H : Hp) (t : Addr) (e : Nat × Sg) : Prop := ∃ b, H t = some (.tup [.int (e.1 : Nat), .ref b]) ∧ StA H b e.2
theorem EgA.keep {H H' : Hp} {t : Addr} {e : Nat × Sg} (h : EgA H t e) (s : Tups H H') : EgA H' t e := by
  obtain ⟨b, e1, z⟩ := h
  exact ⟨b, s _ _ e1, z.keep s⟩
/-- a standing with its edges -/
def EdA (ls : List Int) (ks : List (List Str)) (M : List Addr) (H : Hp) (q : Addr) (s : Sg) : Prop := ∃ b rl ts, H q = some (.tup [.ref b, .ref rl]) ∧ StA H b s ∧ rl ∉ M ∧ H rl = some (.lst (ts.map V.ref)) ∧ Paired (EgA H) ts (eds ls ks s)
theorem EdA.keep {ls : List Int} {ks : List (List Str)} {M : List Addr} {H H' : Hp} {q : Addr} {s : Sg} (h : EdA ls ks M H q s) (k : KeepM M H H') (t : Tups H H') : EdA ls ks M H' q s := by
  obtain ⟨b, rl, ts, e1, z, n, e2, r⟩ := h
  exact ⟨b, rl, ts, t _ _ e1, z.keep t, n, k _ _ n e2, pimp r fun _ _ y => y.keep t⟩
theorem EdA.same {ls : List Int} {ks : List (List Str)} {M : List Addr} {H H' : Hp} {q : Addr} {s : Sg} (h : EdA ls ks M H q s) (k : Same H H') : EdA ls ks M H' q s := h.keep (KeepM.of k) (tps k)
section
variable {P : Program} {w : World} {K : PySem.W.Frag} {mg : Str → Option Value} {base : Heap} {f C : Addr} {fd : FuncData}
/-! ### _law_costs -/
def spLCosts (P : Program) (w : World) : Sp := fun vs H Q _ => ∃ (sp lr sk wa : Addr) (ls : List Int) (s0 : Sg) (ks : List (List Str)) (L : List Sg) (wi : Wish) (c0 : Tab Sg), vs = [.ref sp, .ref lr, .ref sk, .ref wa] ∧ H sp = some (.lst (ls.map V.int)) ∧ LsA H lr L ∧ SksA H sk ks ∧ WiA H wa wi ∧ GotW ls s0 ks ∧
  IsLot (su ls ks) s0 L ∧ L.length ≤ 200 ∧ IsRun (eds ls ks) L (fun s => meetsS s wi) c0 ∧ ∀ (p : Addr) (kvs : List (Sg × V)) (H' : Hp), Same H H' → H p = none → DN P w H' p kvs → CoR L H' kvs c0 → Q (.ref p) H'
abbrev NLc2 : List Str := ["_law_spans_here", "_law_some", "_law_strokes_here", "_law_wish_here", "_law_found", "_law_going", "_law_edges", "_law_stand_here", "_law_row", "_law_calls", "_law_there", "_law_new", "_law_stroke"]
theorem scLCosts : FnScope NLc2 ["_law_spans_here", "_law_some", "_law_strokes_here", "_law_wish_here"] (defScope sLcosts) := ⟨rfl, rfl, rfl, by decide +kernel, rfl, by decide +kernel, by decide +kernel⟩
theorem ok_Lcosts (F : FnP K "_law_costs" "_law_costs" sLcosts [] f fd) (T : Txt mg) (G : Cal P w K mg base 2 "_law_called" ["_law_spans_here", "_law_stand_here", "_law_stroke"] spLCalled) (G2 : Cal P w K mg base 1 "_law_meets" ["_law_stand_here", "_law_wish_here"] spMeets) :
    FnOk P w K mg base CX0 3 f fd ["_law_spans_here", "_law_some", "_law_strokes_here", "_law_wish_here"] (spLCosts P w) := by
  refine okF F scLCosts (fun vs H Q E h => ?_) (fun cdv A outer s H vs Q E hr h => ?_)
  · obtain ⟨sp, lr, sk, wa, ls, s0, ks, L, wi, c0, rfl, _⟩ := h
    rfl
  · obtain ⟨sp, lr, sk, wa, ls, s0, ks, L, wi, c0, rfl, hsp, hL0, hK, hW, gw, hL, hLz, hrun, k⟩ := h
    have hu := hu16 hr
    have hul := Nat.lt_of_le_of_lt (Nat.le_add_right _ 16) hu
    have hr1 := hr.mono (show 1 ≤ 2 by decide)
    refine ⟨_, pss_cons (ps_par3 (i := 4) (j := 5) (l := 6) rfl scLCosts.nd rfl rfl rfl (by decide) (by decide) (by decide) rfl rfl rfl (pa_cons (pe_callTy (call_dict_N rfl hu) (by rfl) T.dic (by decide +kernel) (pa_cons (pe_lc (own := [("_law_stand_here", 7)]) (g := gName 7) (tt := tB (tCall spMeets [] E0 (tCons (tVar 7) (tCons (tVar 3) tNil)))) (te := tTup (tCons (tVar 7) (tCons (tTup (tCons (tC (.int 0)) (tCons (tC (.int 0)) tNil))) tNil)))
          rfl scLCosts.nd (pi_list (pv 1)) (blkOk_by (N := NLc2) (sc := defScope sLcosts) (by decide +kernel)) (fun _ _ _ _ _ => pg_name (i := 7) scLCosts.nd rfl (Or.inl rfl) (Or.inr rfl)) (fun _ _ _ _ _ => pts_one (pt_val (pe_cal G2 hr1 rfl (pa_cons (pv 7) (pa_cons (pv 3) pa_nil)))))
          (fun _ _ _ _ _ => pe_tup (pa_cons (pv 7) (pa_cons (pe_tup (pa_cons pe_int (pa_cons pe_int pa_nil))) pa_nil)))) pa_nil)) (pa_cons pe_bl (pa_cons (pe_lst pa_nil) pa_nil))) (by rfl))
      (pss_cons (ps_for PassesOwn.never rfl (pi_list (pv 1)) (pg_name (i := 7) scLCosts.nd rfl (Or.inr rfl))
        (pss_one (ps_expr (pe_bm PySem.F.plainAttrs_list PySem.F.slot_list_append PySem.F.type_list_append mt_append (pv 6) (pa_cons (pe_tup (pa_cons (pv 7) (pa_cons (pe_lc (own := [("_law_stroke", 12)]) (g := gName 12) (tt := tYes)
            (te := tTup (tCons (tCB (rLenS K) (tCons (tVar 12) tNil)) (tCons (tOp (rIxT K) (tCall spLCalled [] E0 (tCons (tVar 0) (tCons (tVar 7) (tCons (tVar 12) tNil)))) (tC (.int 0))) tNil)))
            rfl scLCosts.nd (pi_list (pv 2)) (blkOk_by (N := NLc2) (sc := defScope sLcosts) (by decide +kernel)) (fun _ _ _ _ _ => pg_name (i := 12) scLCosts.nd rfl (Or.inl rfl) (Or.inr rfl)) (fun _ _ _ _ _ => pts_nil)
            (fun _ _ _ _ _ => pe_tup (pa_cons (pe_callB call_len_seq (by rfl) T.len PySem.boot_len (pa_cons (pv 12) pa_nil)) (pa_cons (pe_ix ix_tup (pe_cal G hr rfl (pa_cons (pv 0) (pa_cons (pv 7) (pa_cons (pv 12) pa_nil)))) pe_int (fun _ _ => rfl)) pa_nil)))) pa_nil))) pa_nil)))))
      (pss_cons (ps_while PassesOwn.never (pt_val (pv 5))
        (pss_cons (ps_set (i := 5) scLCosts.nd rfl (Or.inl rfl) pe_bl)
        (pss_one (ps_for PassesOwn.never rfl (pi_list (pe_revL (pv 6))) (pg2 (i := 7) (j := 8) rfl scLCosts.nd rfl rfl (Or.inr rfl) (Or.inl rfl) (Or.inl rfl) (Or.inl rfl))
          (pss_one (ps_for PassesOwn.never rfl (pi_list (pv 8)) (pg2 (i := 9) (j := 10) rfl scLCosts.nd rfl rfl (Or.inl rfl) (Or.inl rfl) (Or.inl rfl) (Or.inl rfl))
            (pss_one (ps_if (pt_cmp (pc_nin hu (pv 10) (pv 4)))
              (pss_cons (ps_set (i := 11) scLCosts.nd rfl (Or.inl rfl) (pe_tup (pa_cons (pe_op op_add (pe_ix ix_tup (pe_ndget hu (pv 4) (pv 10) (fun _ _ => rfl)) pe_int (fun _ _ => rfl)) (pv 9))
                  (pa_cons (pe_op op_add (pe_ix ix_tup (pe_ndget hu (pv 4) (pv 10) (fun _ _ => rfl)) pe_int (fun _ _ => rfl)) pe_int) pa_nil))))
              (pss_one (ps_if (PW.pt (pw_or (pt_cmp (pc_nnotin hu (pv 7) (pv 4))) (pw_or1 (pt_cmpR (op_ltT hul) (pv 11) (pe_ndget hu (pv 4) (pv 7) (fun _ _ => rfl)) (nomark _)))))
                (pss_cons (ps_ndput hu (pv 4) (pv 7) (pv 11) rfl) (pss_one (ps_set (i := 5) scLCosts.nd rfl (Or.inl rfl) pe_bl))) pss_nil))) pss_nil))))))))
      (pss_one (ps_ret (pv 4))))), ?_⟩
    obtain ⟨bs, hlr, hbs⟩ := id hL0
    obtain ⟨as, hc, hcs⟩ := id hK
    have hnL : (bs.map V.ref).length = L.length := by rw [List.length_map, plen hbs]
    have hLn := hL.nodup
    have hle := gw.le
    have hl2 := gw.l2
    have hmem : ∀ {s : Sg}, s ∈ L → s.length = s0.length ∧ SortedSt s := fun hs => ⟨hL.len hs, gw.so.of (hL.fst hs)⟩
    -- found
    refine ⟨_, rfl, lr, rfl, ⟨_, SqL.of hlr⟩, fun D0 hD0 => ?_⟩
    refine lcT walk_list hD0 (fun i H' ys => ∃ (ps : List Addr) (kvs : List (Sg × V)), ys = ps.map V.ref ∧ PairsN H' ps kvs ∧ CoR L H' kvs (tab0 (L.take i) fun s => meetsS s wi) ∧ kvs.length ≤ i) (fun _ _ _ _ t ⟨ps, kvs, e, r, c, l⟩ => ⟨ps, kvs, e, r.keep t, c.keep t, l⟩)
      (fun H' s => SqL.of (s _ _ hlr)) ⟨[], [], rfl, .nil, CoR.nil, Nat.le_refl _⟩ (fun i H' ys ⟨ps, kvs, e, r, _, l⟩ => by rw [e, List.length_map, plen r]; exact l) (by rw [hnL]; exact Nat.le_trans hLz (by decide)) ?_ ?_
    · rintro i x _ H1 ys Yes No hi s1 ⟨ps, kvs, rfl, pr, cc, hkl⟩ ⟨rfl, hx⟩ yes no
      obtain ⟨q, hq, rfl⟩ := mget hx
      obtain ⟨s, hs, hqs⟩ := pget hbs hq
      have hsm : s ∈ L := List.mem_of_getElem? hs
      obtain ⟨hsl, hso⟩ := hmem hsm
      refine ⟨rfl, _, rfl, _, rfl, q, wa, s, wi, rfl, hqs.same s1, hW.same s1, by omega, fun H2 s2 => ⟨_, rfl, ?_⟩⟩
      by_cases hmt : meetsS s wi = true
      · rw [hmt]
        refine iteT ?_
        refine ⟨_, rfl, by show 2 ≤ sizeLine; decide, fun z hz => ⟨by show 2 ≤ sizeLine; decide, fun t ht => ?_⟩⟩
        have nz : New H2 (upd H2 z (.tup [.int 0, .int 0])) z := New.upd hz
        have nt : New (upd H2 z (.tup [.int 0, .int 0])) (upd (upd H2 z (.tup [.int 0, .int 0])) t (.tup [.ref q, .ref z])) t := New.upd ht
        have s24 := nz.same.trans nt.same
        have ez : upd (upd H2 z (.tup [.int 0, .int 0])) t (.tup [.ref q, .ref z]) z = some (.tup [.int 0, .int 0]) := nt.same _ _ upd_same
        have et : upd (upd H2 z (.tup [.int 0, .int 0])) t (.tup [.ref q, .ref z]) t = some (.tup [.ref q, .ref z]) := upd_same
        generalize upd (upd H2 z (.tup [.int 0, .int 0])) t (.tup [.ref q, .ref z]) = H4 at s24 ez et ⊢
        have s14 := s2.trans s24
        have hno : tab0 (L.take i) (fun s => meetsS s wi) s = none := by
          unfold tab0
          rw [if_neg fun z => not_in_take hLn hs z.1]
        have cput := (cc.keep (tps s14)).put hsm (a := (0, 0)) ez
        rw [putK_new _ (cc.no _ hno)] at cput
        refine yes _ _ s14 ⟨ps ++ [t], kvs ++ [(s, .ref z)], by rw [List.map_append]; rfl, psnoc (pr.keep (tps s14)) ⟨q, et, (hqs.same s1).same s14⟩, ?_, by rw [List.length_append]; simp only [List.length_cons, List.length_nil]; omega⟩
        rw [tab0_yes hs hmt]
        exact cput
      · have hmt : meetsS s wi = false := by simpa using hmt
        rw [hmt]
        refine iteF ?_
        refine no _ s2 ⟨ps, kvs, rfl, pr.keep (tps s2), ?_, by omega⟩
        rw [tab0_no hs hmt]
        exact cc.keep (tps s2)
    rintro H1 ys s1 e1 ⟨ps, kvs, rfl, pr, cc, hkl⟩
    rw [take_all hnL] at cc
    refine ⟨D0, ps, kvs, rfl, SqL.of e1, pr, fun D H2 nD dD => ?_⟩
    rw [mergeN_nil cc.nd] at dD
    have c2 := cc.keep (tps nD.same)
    have s02 := s1.trans nD.same
    have hD0' : H D = none := s1.free nD.free
    refine ⟨Nat.zero_le _, fun E hE => ?_⟩
    have nE : New H2 (upd H2 E (.lst [])) E := New.upd hE
    have eE : upd H2 E (.lst []) E = some (.lst []) := upd_same
    have s03 := s02.trans nE.same
    have d3 := dD.same nE.same
    have c3 := c2.keep (tps nE.same)
    have hE0 : H E = none := s02.free hE
    have hED : E ≠ D := by
      obtain ⟨φ, e⟩ := dD.ext
      exact (ne_of_none e hE).symm
    generalize upd H2 E (.lst []) = H3 at eE s03 d3 c3 ⊢
    refine ⟨_, _, _, rfl, ?_⟩
    -- edges
    refine ⟨_, rfl, lr, rfl, ⟨_, SqL.of (s03 _ _ hlr)⟩, for_it walk_list (fun i σ H' => ∃ (v7 : Option V) (es : List Addr), σ = [some (.ref sp), some (.ref lr), some (.ref sk), some (.ref wa), some (.ref D), some (.bl true), some (.ref E), v7, none, none, none, none, none] ∧ Same H H' ∧ DN P w H' D kvs ∧ CoR L H' kvs (tab0 L fun s => meetsS s wi) ∧
        H' E = some (.lst (es.map V.ref)) ∧ Paired (EdA ls ks [D, E] H') es (L.take i))
      ⟨none, [], rfl, s03, d3, c3, eE, .nil⟩ (fun i σ H' _ ⟨_, _, _, s', _⟩ => SqL.of (s' _ _ hlr)) ?_ ?_⟩
    · rintro i x σ _ H4 hi ⟨v7, es, rfl, s4, d4, c4, eE4, pr4⟩ ⟨rfl, hx⟩
      obtain ⟨q, hq, rfl⟩ := mget hx
      obtain ⟨s, hs, hqs⟩ := pget hbs hq
      have hsm : s ∈ L := List.mem_of_getElem? hs
      obtain ⟨hsl, hso⟩ := hmem hsm
      refine ⟨_, rfl, .inl ⟨rfl, _, SqL.of eE4⟩, ?_⟩
      refine ⟨_, rfl, _, rfl, sk, rfl, ⟨_, SqL.of (s4 _ _ hc)⟩, fun R hR => ?_⟩
      have hnk : (as.map V.ref).length ≤ sizeLine := by
        rw [List.length_map, plen hcs]
        exact Nat.le_trans gw.k2 (by decide)
      refine lcT walk_list hR (fun i H' ys => ∃ ts : List Addr, ys = ts.map V.ref ∧ Paired (EgA H') ts ((eds ls ks s).take i)) (fun _ _ _ _ t ⟨ts, e, r⟩ => ⟨ts, e, pimp r fun _ _ z => z.keep t⟩) (fun H' sm => SqL.of (sm _ _ (s4 _ _ hc))) ⟨[], rfl, .nil⟩
        (fun i H' ys ⟨ts, e, r⟩ => by rw [e, List.length_map, plen r]; exact List.length_take_le _ _) hnk ?_ ?_
      · rintro i2 x _ H5 ys Yes No hi2 s5 ⟨ts, rfl, pr5⟩ ⟨rfl, hx5⟩ yes no
        obtain ⟨qk, kk, rfl, hqk, hkk, hsk⟩ := skA_get hcs hx5
        have s05 := s4.trans s5
        refine ⟨rfl, yesT ?_⟩
        refine ⟨_, rfl, qk, _, rfl, .inl (SqL.of (hsk.same s05)), ?_⟩
        refine ⟨_, rfl, _, rfl, _, rfl, sp, q, qk, ls, s, kk, rfl, s05 _ _ hsp, hqs.same s05, hsk.same s05, hso, by omega, by omega, fun t r u H6 s6 ht hr6 => ?_⟩
        refine ⟨t, _, 0, .ref r, rfl, rfl, SqT.of ht, rfl, ?_⟩
        refine ⟨by show 2 ≤ sizeLine; decide, fun t2 ht2 => ?_⟩
        have nt : New H6 (upd H6 t2 (.tup [.int ((kk.map V.str).length : Nat), .ref r])) t2 := New.upd ht2
        refine yes _ _ (s6.trans nt.same) ⟨ts ++ [t2], by rw [List.map_append]; rfl, ?_⟩
        rw [take_snoc (eds_get hkk)]
        refine psnoc (pimp pr5 fun _ _ z => (z.keep (tps s6)).keep (tps nt.same)) ⟨r, ?_, hr6.same nt.same⟩
        rw [upd_same, List.length_map]
      rintro H5 ys s5 e5 ⟨ts, rfl, pr5⟩
      rw [take_all (by rw [List.length_map, plen hcs, eds_len])] at pr5
      refine ⟨by show 2 ≤ sizeLine; decide, fun t ht => ?_⟩
      have nt : New H5 (upd H5 t (.tup [.ref q, .ref R])) t := New.upd ht
      have s46 := s5.trans nt.same
      have e6 := nt.same _ _ e5
      have et : upd H5 t (.tup [.ref q, .ref R]) t = some (.tup [.ref q, .ref R]) := upd_same
      have pr6 := pimp pr5 fun _ _ z => z.keep (tps nt.same)
      generalize upd H5 t (.tup [.ref q, .ref R]) = H6 at s46 e6 et pr6 ⊢
      have eE6 := s46 _ _ eE4
      have hRE : R ≠ E := (ne_of_none eE4 hR).symm
      have hRD : R ≠ D := by
        obtain ⟨φ, e⟩ := d4.ext
        exact (ne_of_none e hR).symm
      have hes : es.length ≤ 200 := by
        have := plen pr4
        rw [List.length_take] at this
        omega
      refine ⟨E, _, _, rfl, rfl, eE6, by rw [List.length_map]; exact Nat.lt_of_le_of_lt hes (by decide), ?_⟩
      have tU : Tups H6 (upd H6 E (.lst (es.map V.ref ++ [.ref t]))) := tups_lst eE6
      have kU : KeepM [D, E] H6 (upd H6 E (.lst (es.map V.ref ++ [.ref t]))) := KeepM.upd (by simp)
      refine ⟨_, es ++ [t], rfl, same_upd (s4.trans s46) hE0, (d4.same s46).keep tU (upd_ne hED.symm), (c4.keep (tps s46)).keep tU, by rw [upd_same, List.map_append]; rfl, ?_⟩
      rw [take_snoc hs]
      refine psnoc (pimp pr4 fun _ _ z => (z.same s46).keep kU tU) (EdA.keep (H := H6) ⟨q, R, ts, et, hqs.same (s4.trans s46), by simp [hRE, hRD], e6, pr6⟩ kU tU)
    rintro σ H4 ⟨v7, es, rfl, s4, d4, c4, eE4, pr4⟩
    rw [take_all hnL] at pr4
    -- the passes
    obtain ⟨n, hn1, hn2, hn3⟩ := hrun
    subst hn3
    have lenE : es.length = L.length := plen pr4
    refine ⟨fun mm σ H' => ∃ (g : Bool) (v7 v8 v9 v10 v11 : Option V) (kvs : List (Sg × V)) (c1 : Tab Sg), σ = [some (.ref sp), some (.ref lr), some (.ref sk), some (.ref wa), some (.ref D), some (.bl g), some (.ref E), v7, v8, v9, v10, v11, none] ∧ Same H H' ∧ DN P w H' D kvs ∧ CoR L H' kvs c1 ∧ H' E = some (.lst (es.map V.ref)) ∧ Paired (EdA ls ks [D, E] H') es L ∧
        ((g = true ∧ ∃ j, j ≤ n ∧ mm = n + 1 - j ∧ c1 = passN (eds ls ks) L.reverse (tab0 L fun s => meetsS s wi) j) ∨ (g = false ∧ mm = 0 ∧ c1 = passN (eds ls ks) L.reverse (tab0 L fun s => meetsS s wi) n)),
      ⟨n + 1, true, v7, none, none, none, none, kvs, _, rfl, s4, d4, c4, eE4, pr4, .inl ⟨rfl, 0, Nat.zero_le _, rfl, rfl⟩⟩, ?_⟩
    clear eE4 d4 c4 s4 d3 c3 dD c2 cc pr
    rintro mm σ H4 ⟨g, v7, v8, v9, v10, v11, kvs, c1, rfl, s4, d4, c4, eE4, pr4, hj⟩
    refine ⟨_, rfl, _, rfl, ?_⟩
    rcases hj with ⟨rfl, j, hj, rfl, rfl⟩ | ⟨rfl, rfl, rfl⟩
    · refine iteT ?_
      refine ⟨fun σ' H' => ∃ m', m' < n + 1 - j ∧ ∃ (g : Bool) (v7 v8 v9 v10 v11 : Option V) (kvs : List (Sg × V)) (c1 : Tab Sg), σ' = [some (.ref sp), some (.ref lr), some (.ref sk), some (.ref wa), some (.ref D), some (.bl g), some (.ref E), v7, v8, v9, v10, v11, none] ∧ Same H H' ∧ DN P w H' D kvs ∧ CoR L H' kvs c1 ∧ H' E = some (.lst (es.map V.ref)) ∧ Paired (EdA ls ks [D, E] H') es L ∧
        ((g = true ∧ ∃ j, j ≤ n ∧ m' = n + 1 - j ∧ c1 = passN (eds ls ks) L.reverse (tab0 L fun s => meetsS s wi) j) ∨ (g = false ∧ m' = 0 ∧ c1 = passN (eds ls ks) L.reverse (tab0 L fun s => meetsS s wi) n)), fun _ _ z => z, ?_⟩
      obtain ⟨cj, ecj⟩ : ∃ cj, passN (eds ls ks) L.reverse (tab0 L fun s => meetsS s wi) j = cj := ⟨_, rfl⟩
      have hpass : (pass (eds ls ks) L.reverse cj).2 = true ∧ j < n ∨ (pass (eds ls ks) L.reverse cj).2 = false ∧ j = n := by
        rw [← ecj]
        by_cases h : j < n
        · exact .inl ⟨hn2 j h, h⟩
        · have : j = n := by omega
          subst this
          exact .inr ⟨hn1, rfl⟩
      have ecj1 : (pass (eds ls ks) L.reverse cj).1 = passN (eds ls ks) L.reverse (tab0 L fun s => meetsS s wi) (j + 1) := by
        rw [← ecj]
        rfl
      rw [ecj] at c4
      refine ⟨_, rfl, E, _, rfl, SqL.of eE4, fun B hB => ?_⟩
      have nB : New H4 (upd H4 B (.lst ((es.map V.ref).reverse))) B := New.upd hB
      have eB : upd H4 B (.lst ((es.map V.ref).reverse)) B = some (.lst ((es.map V.ref).reverse)) := upd_same
      have hBD : B ≠ D := by
        obtain ⟨φ', e⟩ := d4.ext
        exact (ne_of_none e hB).symm
      have s4B := s4.trans nB.same
      have d5 := d4.same nB.same
      have c5 := c4.keep (tps nB.same)
      have eE5 := nB.same _ _ eE4
      have pr5 := pimp pr4 fun _ _ z => z.same nB.same
      generalize upd H4 B (.lst ((es.map V.ref).reverse)) = HB at eB s4B d5 c5 eE5 pr5 ⊢
      refine ⟨B, rfl, ⟨_, SqL.of eB⟩, ?_⟩
      refine for_it walk_list (fun i σ' H' => ∃ (v7 v8 v9 v10 v11 : Option V) (kvs : List (Sg × V)), σ' = [some (.ref sp), some (.ref lr), some (.ref sk), some (.ref wa), some (.ref D), some (.bl ((L.reverse.take i).foldl (relaxAll (eds ls ks)) (cj, false)).2), some (.ref E), v7, v8, v9, v10, v11, none] ∧ Same H H' ∧ KeepM [D] HB H' ∧ Tups HB H' ∧
          DN P w H' D kvs ∧ CoR L H' kvs ((L.reverse.take i).foldl (relaxAll (eds ls ks)) (cj, false)).1)
        ⟨v7, v8, v9, v10, v11, kvs, rfl, s4B, fun _ _ _ e => e, Tups.refl _, d5, c5⟩ (fun i σ' H' _ ⟨_, _, _, _, _, _, _, _, kk, _⟩ => SqL.of (kk _ _ (by simpa using hBD) eB)) ?_ ?_
      · rintro i x σ' _ H5 hi ⟨v7, v8, v9, v10, v11, kvs, rfl, s5, k5, t5, d5, c5⟩ ⟨rfl, hx⟩
        rw [List.length_reverse, List.length_map] at hi
        rw [List.getElem?_reverse (by rw [List.length_map]; omega), List.length_map] at hx
        obtain ⟨q, hq, rfl⟩ := mget hx
        obtain ⟨s', hs, bq, rl, ts, eq, hbq, hrl, erl, pts⟩ := pget pr5 hq
        have hsm : s' ∈ L := List.mem_of_getElem? hs
        have hrev : L.reverse[i]? = some s' := by
          rw [List.getElem?_reverse (by omega)]
          have : L.length - 1 - i = es.length - 1 - i := by omega
          rw [this]
          exact hs
        have hrlD : rl ∉ [D] := fun z => hrl (by
          have : rl = D := by simpa using z
          rw [this]
          exact List.mem_cons_self)
        have eTake : L.reverse.take (i + 1) = L.reverse.take i ++ [s'] := take_snoc hrev
        obtain ⟨st0, est0⟩ : ∃ st0, (L.reverse.take i).foldl (relaxAll (eds ls ks)) (cj, false) = st0 := ⟨_, rfl⟩
        have est1 : (L.reverse.take (i + 1)).foldl (relaxAll (eds ls ks)) (cj, false) = (eds ls ks s').foldl (relax s') st0 := by
          rw [eTake, List.foldl_append, est0]
          rfl
        rw [est0] at c5 ⊢
        simp only [est1]
        refine ⟨q, _, rfl, SqT.of (t5 _ _ eq), rfl, _, _, rfl, _, _, rfl, rfl, ?_⟩
        have nts : (ts.map V.ref).length = (eds ls ks s').length := by rw [List.length_map, plen pts]
        refine ⟨_, rfl, rl, rfl, ⟨_, SqL.of (k5 _ _ hrlD erl)⟩, for_it walk_list (fun i2 σ' H' => ∃ (v9 v10 v11 : Option V) (kvs : List (Sg × V)), σ' = [some (.ref sp), some (.ref lr), some (.ref sk), some (.ref wa), some (.ref D), some (.bl (((eds ls ks s').take i2).foldl (relax s') st0).2), some (.ref E), some (.ref bq), some (.ref rl), v9, v10, v11, none] ∧ Same H H' ∧ KeepM [D] HB H' ∧ Tups HB H' ∧
            DN P w H' D kvs ∧ CoR L H' kvs (((eds ls ks s').take i2).foldl (relax s') st0).1)
          ⟨v9, v10, v11, kvs, rfl, s5, k5, t5, d5, c5⟩ (fun i2 σ' H' _ ⟨_, _, _, _, _, _, k6, _⟩ => SqL.of (k6 _ _ hrlD erl)) ?_ ?_⟩
        · rintro i2 x σ' _ H7 hi2 ⟨v9, v10, v11, kvs, rfl, s7, k7, t7, d7, c7⟩ ⟨rfl, hx2⟩
          obtain ⟨tt, htt, rfl⟩ := mget hx2
          obtain ⟨ed, hed, u, etu, hst2⟩ := pget pts htt
          obtain ⟨w1, su'⟩ := ed
          have eTk : (eds ls ks s').take (i2 + 1) = (eds ls ks s').take i2 ++ [(w1, su')] := take_snoc hed
          obtain ⟨st2, est2⟩ : ∃ st2, ((eds ls ks s').take i2).foldl (relax s') st0 = st2 := ⟨_, rfl⟩
          have est3 : ((eds ls ks s').take (i2 + 1)).foldl (relax s') st0 = relax s' st2 (w1, su') := by
            rw [eTk, List.foldl_append, est2]
            rfl
          rw [est2] at c7 ⊢
          simp only [est3]
          have hu7 : StA H7 u su' := hst2.keep t7
          have hq7 : StA H7 bq s' := hbq.keep t7
          refine ⟨tt, _, rfl, SqT.of (t7 _ _ etu), rfl, _, _, rfl, _, _, rfl, rfl, ?_⟩
          refine ⟨_, rfl, _, rfl, D, _, rfl, NGet.of d7.rd hu7 rfl, _, rfl, ?_⟩
          cases eb : st2.1 su' with
          | none =>
            rw [c7.no _ eb]
            refine iteF ?_
            rw [relax_out (e := (w1, su')) eb]
            exact ⟨_, _, _, kvs, rfl, s7, k7, t7, d7, c7⟩
          | some b =>
            obtain ⟨rb, hrb, hcb⟩ := c7.at_ _ _ eb
            rw [hrb]
            refine iteT ?_
            refine ⟨_, rfl, _, rfl, D, _, rfl, NGet.of d7.rd hu7 hrb, rb, _, 0, _, rfl, rfl, SqT.of hcb, rfl, ?_⟩
            refine ⟨_, rfl, _, _, rfl, rfl, ?_⟩
            refine ⟨_, rfl, _, rfl, D, _, rfl, NGet.of d7.rd hu7 hrb, rb, _, 1, _, rfl, rfl, SqT.of hcb, rfl, _, _, rfl, rfl, ?_⟩
            refine ⟨by show 2 ≤ sizeLine; decide, fun nw hnw => ?_⟩
            have eV : (HO.tup [V.int (((b.1 : Nat) : Int) + ((w1 : Nat) : Int)), V.int (((b.2 : Nat) : Int) + 1)]) = .tup [.int ((via b w1).1 : Nat), .int ((via b w1).2 : Nat)] := rfl
            rw [eV]
            have nN : New H7 (upd H7 nw (.tup [.int ((via b w1).1 : Nat), .int ((via b w1).2 : Nat)])) nw := New.upd hnw
            have eN : upd H7 nw (.tup [.int ((via b w1).1 : Nat), .int ((via b w1).2 : Nat)]) nw = some (.tup [.int ((via b w1).1 : Nat), .int ((via b w1).2 : Nat)]) := upd_same
            obtain ⟨H8, eH8⟩ : ∃ H8, upd H7 nw (.tup [.int ((via b w1).1 : Nat), .int ((via b w1).2 : Nat)]) = H8 := ⟨_, rfl⟩
            rw [eH8] at nN eN ⊢
            have s8 := s7.trans nN.same
            have k8 := k7.trans (KeepM.of (M := [D]) nN.same)
            have t8 := t7.trans (tps nN.same)
            have d8 := d7.same nN.same
            have c8 := c7.keep (tps nN.same)
            have hq8 : StA H8 bq s' := hq7.same nN.same
            rw [relax_in (e := (w1, su')) eb]
            have put : ∀ v9 v10, sNPut P w (tVar 4) (tVar 7) (tVar 11) ⟨fun σ' H' => ∃ (v9 v10 v11 : Option V) (kvs : List (Sg × V)), σ'.set 5 (some (.bl true)) = [some (.ref sp), some (.ref lr), some (.ref sk), some (.ref wa), some (.ref D), some (.bl (setT st2.1 s' (via b w1), true).2), some (.ref E), some (.ref bq), some (.ref rl), v9, v10, v11, none] ∧ Same H H' ∧ KeepM [D] HB H' ∧ Tups HB H' ∧
                DN P w H' D kvs ∧ CoR L H' kvs (setT st2.1 s' (via b w1), true).1, fun _ _ => False, fun _ _ => False, fun _ _ => False⟩ [some (.ref sp), some (.ref lr), some (.ref sk), some (.ref wa), some (.ref D), some (.bl st2.2), some (.ref E), some (.ref bq), some (.ref rl), v9, v10, some (.ref nw), none] H8 := by
              intro v9 v10
              refine ⟨_, rfl, _, rfl, _, rfl, D, rfl, NPut.of d8 hq8 (Nat.lt_of_le_of_lt c8.len (Nat.lt_of_le_of_lt hLz (by decide))) fun H9 els9 t9 d9 => ?_⟩
              have k9 := k8.trans (KeepM.els (M := [D]) (by simp) els9)
              have s9 : Same H H9 := fun b' o e => KeepM.els (M := [D]) (by simp) els9 _ _ (by
                intro z
                have : b' = D := by simpa using z
                rw [this, hD0'] at e
                cases e) (s8 _ _ e)
              exact ⟨_, _, _, _, rfl, s9, k9, t8.trans t9, d9, (c8.keep t9).put hsm (t9 _ _ eN)⟩
            refine ⟨_, rfl, _, rfl, D, _, rfl, NGet.of d8.rd hq8 rfl, _, rfl, ?_⟩
            cases eo : st2.1 s' with
            | none =>
              rw [c8.no _ eo]
              refine iteT (iteT ?_)
              have et : takes none (via b w1) = true := rfl
              rw [et, if_pos rfl]
              exact put _ _
            | some o =>
              obtain ⟨ro, hro, hco⟩ := c8.at_ _ _ eo
              rw [hro]
              refine iteF ?_
              refine ⟨_, rfl, _, rfl, _, rfl, D, _, rfl, NGet.of d8.rd hq8 hro, nw, ro, [((via b w1).1 : Nat), ((via b w1).2 : Nat)], [((o.1 : Nat) : Int), ((o.2 : Nat) : Int)], rfl, rfl, SqT.of eN, SqT.of hco, _, rfl, ?_⟩
              rw [lexLt_cost]
              have et : takes (some o) (via b w1) = decide (clt (via b w1) o) := rfl
              rw [et]
              by_cases hc : clt (via b w1) o
              · refine iteD hc ?_
                rw [if_pos (decide_eq_true hc)]
                exact put _ _
              · refine iteDN hc ?_
                rw [if_neg (by simp [hc])]
                exact ⟨_, _, _, kvs, rfl, s8, k8, t8, d8, c8⟩
        · rintro σ' H6 ⟨v9, v10, v11, kvs, rfl, s6, k6, t6, d6, c6⟩
          rw [take_all nts] at c6 ⊢
          exact ⟨_, _, _, _, _, kvs, rfl, s6, k6, t6, d6, c6⟩
      · rintro σ' H5 ⟨v7, v8, v9, v10, v11, kvs, rfl, s5, k5, t5, d5, c5⟩
        have eAll : L.reverse.take ((es.map V.ref).reverse).length = L.reverse := take_all (by rw [List.length_reverse, List.length_map, List.length_reverse, lenE])
        rw [eAll] at c5 ⊢
        have e2 : L.reverse.foldl (relaxAll (eds ls ks)) (cj, false) = pass (eds ls ks) L.reverse cj := rfl
        rw [e2] at c5 ⊢
        have eE6 : H5 E = some (.lst (es.map V.ref)) := k5 _ _ (by simpa using hED) eE5
        have pr6 := pimp pr5 fun _ _ z => EdA.keep z (fun b o hb e => k5 b o (fun z => hb (by
          have : b = D := by simpa using z
          rw [this]
          exact List.mem_cons_self)) e) t5
        rcases hpass with ⟨h1, h2⟩ | ⟨h1, h2⟩
        · exact ⟨n + 1 - (j + 1), by omega, _, _, _, _, _, _, kvs, _, rfl, s5, d5, c5, eE6, pr6, .inl ⟨h1, j + 1, h2, rfl, ecj1⟩⟩
        · exact ⟨0, by omega, _, _, _, _, _, _, kvs, _, rfl, s5, d5, c5, eE6, pr6, .inr ⟨h1, rfl, by rw [(pass_still h1).1, ← ecj, h2]⟩⟩
    · refine iteF ?_
      exact ⟨_, rfl, k D kvs H4 s4 hD0' d4 c4⟩
end
end L2.K87
set_option Elab.async false
set_option linter.all false
set_option autoImplicit false
set_option maxRecDepth 100000
set_option maxHeartbeats 4000000
namespace L2.K87
open PySem PySem.Spec PyProof.Rows
section
variable {P : Program} {w : World} {K : PySem.W.Frag} {mg : Str → Option Value} {base : Heap} {f C : Addr} {fd : FuncData}
/-! ### _law_first_row -/
def spFirst (P : Program) (w : World) : Sp := fun vs H Q _ => ∃ (sp a sk p : Addr) (ls : List Int) (s0 : Sg) (ks : List (List Str)) (L : List Sg) (m : Sg → Bool) (c0 : Tab Sg) (kvs : List (Sg × V)) (row : List (List Str)), vs = [.ref sp, .ref a, .ref sk, .ref p] ∧ WA H sp a sk ls s0 ks ∧ GotW ls s0 ks ∧ IsLot (su ls ks) s0 L ∧ L.length ≤ 200 ∧
  DN P w H p kvs ∧ CoR L H kvs c0 ∧ IsCosts (eds ls ks) L m c0 ∧ RowOf ls ks c0 s0 row ∧ ∀ (r : Addr) (H' : Hp), Same H H' → SksA H' r row → Q (.ref r) H'
abbrev NFr : List Str := ["_law_spans_here", "_law_stand_here", "_law_strokes_here", "_law_costs_here", "_law_row", "_law_fit", "_law_stroke", "_law_there", "_law_calls", "_law_size"]
theorem scFirst : FnScope NFr ["_law_spans_here", "_law_stand_here", "_law_strokes_here", "_law_costs_here"] (defScope sLfirst_row) := ⟨rfl, rfl, rfl, by decide +kernel, rfl, by decide +kernel, by decide +kernel⟩
theorem ok_Lfirst (F : FnP K "_law_first_row" "_law_first_row" sLfirst_row [] f fd) (T : Txt mg) (G : Cal P w K mg base 2 "_law_called" ["_law_spans_here", "_law_stand_here", "_law_stroke"] spLCalled) : FnOk P w K mg base CX0 3 f fd ["_law_spans_here", "_law_stand_here", "_law_strokes_here", "_law_costs_here"] (spFirst P w) := by
  refine okF F scFirst (fun vs H Q E h => ?_) (fun cdv A outer s H vs Q E hr h => ?_)
  · obtain ⟨sp, a, sk, p, ls, s0, ks, L, m, c0, kvs, row, rfl, _⟩ := h
    rfl
  · obtain ⟨sp, a, sk, p, ls, s0, ks, L, m, c0, kvs, row, rfl, ⟨hsp, hS, hK⟩, gw, hL, hLz, dP, cP, hco, hrow, k⟩ := h
    have hu := hu16 hr
    have hud := hr.units
    refine ⟨_, pss_cons (ps_set (i := 4) scFirst.nd rfl (Or.inl rfl) (pe_lst pa_nil))
      (pss_cons (ps_while PassesOwn.never (pt_cmpR (op_neD hud) (pe_ndget hu (pv 3) (pv 1) (fun _ _ => rfl)) (pe_tup (pa_cons pe_int (pa_cons pe_int pa_nil))) (nomark _))
        (pss_cons (ps_set (i := 5) scFirst.nd rfl (Or.inl rfl) (pe_lst pa_nil))
        (pss_cons (ps_for PassesOwn.never rfl (pi_list (pv 2)) (pg_name (i := 6) scFirst.nd rfl (Or.inl rfl))
          (pss_cons (ps_set (i := 7) scFirst.nd rfl (Or.inl rfl) (pe_ix ix_tup (pe_cal G hr rfl (pa_cons (pv 0) (pa_cons (pv 1) (pa_cons (pv 6) pa_nil)))) pe_int (fun _ _ => rfl)))
          (pss_one (ps_if (pt_cmp (pc_nin hu (pv 7) (pv 3)))
            (pss_cons (ps_asg (pe_ndget hu (pv 3) (pv 7) (fun _ _ => rfl)) (pg2 (i := 8) (j := 9) rfl scFirst.nd rfl rfl (Or.inl rfl) (Or.inl rfl) (Or.inl rfl) (Or.inl rfl)))
            (pss_one (ps_if (pt_cmpR (op_eqD hud) (pe_tup (pa_cons (pe_op op_add (pv 8) (pe_callB call_len_seq (by rfl) T.len PySem.boot_len (pa_cons (pv 6) pa_nil))) (pa_cons (pe_op op_add (pv 9) pe_int) pa_nil))) (pe_ndget hu (pv 3) (pv 1) (fun _ _ => rfl)) (nomark _))
              (pss_one (ps_expr (pe_bm PySem.F.plainAttrs_list PySem.F.slot_list_append PySem.F.type_list_append mt_append (pv 5) (pa_cons (pe_tup (pa_cons (pe_callTy call_list_of (by rfl) T.lst (by decide +kernel) (pa_cons (pv 6) pa_nil)) (pa_cons (pv 7) pa_nil))) pa_nil)))) pss_nil))) pss_nil))))
        (pss_cons (ps_expr (pe_bm PySem.F.plainAttrs_list PySem.F.slot_list_append PySem.F.type_list_append mt_append (pv 4) (pa_cons (pe_ix ix_tup (pe_ix ix_list (pv 5) pe_int (fun _ _ => rfl)) pe_int (fun _ _ => rfl)) pa_nil)))
        (pss_one (ps_set (i := 1) scFirst.nd rfl (Or.inl rfl) (pe_ix ix_tup (pe_ix ix_list (pv 5) pe_int (fun _ _ => rfl)) pe_int (fun _ _ => rfl))))))))
      (pss_one (ps_ret (pv 4)))), ?_⟩
    obtain ⟨as, hc, hcs⟩ := id hK
    refine ⟨Nat.zero_le _, fun F hF => ?_⟩
    have nF : New H (upd H F (.lst [])) F := New.upd hF
    have hle := gw.le
    have hl2 := gw.l2
    refine ⟨fun mm σ H' => ∃ (q : Addr) (s : Sg) (done rem : List (List Str)) (rs : List Addr) (v5 v6 v7 v8 v9 : Option V), mm = rem.length ∧ σ = [some (.ref sp), some (.ref q), some (.ref sk), some (.ref p), some (.ref F), v5, v6, v7, v8, v9] ∧
        Same H H' ∧ StA H' q s ∧ s ∈ L ∧ RowOf ls ks c0 s rem ∧ row = done ++ rem ∧ H' F = some (.lst (rs.map V.ref)) ∧ Paired (fun a k => a ≠ F ∧ SkA H' a k) rs done,
      ⟨row.length, a, s0, [], row, [], none, none, none, none, none, rfl, rfl, nF.same, hS.same nF.same, hL.mem0, hrow, rfl, upd_same, .nil⟩, ?_⟩
    rintro mm σ H3 ⟨q, s, done, rem, rs, v5, v6, v7, v8, v9, rfl, rfl, s3, hq, hsL, hrem, erow, eF, pF⟩
    have dP3 := dP.same s3
    have cP3 := cP.keep (tps s3)
    obtain ⟨a1, ea1, _, _⟩ := hrem.sum
    obtain ⟨r1, hr1, hc1⟩ := cP3.at_ _ _ ea1
    refine ⟨_, rfl, _, rfl, p, _, rfl, NGet.of dP3.rd hq hr1, by show 2 ≤ sizeLine; decide, fun z hz => ?_⟩
    have nz : New H3 (upd H3 z (.tup [.int 0, .int 0])) z := New.upd hz
    have ez : upd H3 z (.tup [.int 0, .int 0]) z = some (.tup [.int ((((0, 0) : Cost).1 : Nat) : Int), .int ((((0, 0) : Cost).2 : Nat) : Int)]) := upd_same
    have s3z := s3.trans nz.same
    have hqz := hq.same nz.same
    have hc1z := hc1.keep (tps nz.same)
    have eFz := nz.same _ _ eF
    have pFz := pimp pF fun _ _ (y : _ ∧ _) => (⟨y.1, SkA.same y.2 nz.same⟩ : _ ∧ _)
    generalize upd H3 z (.tup [.int 0, .int 0]) = Hz at ez s3z hqz hc1z eFz pFz ⊢
    refine ⟨_, _, .tup (SqT.of hc1z) (.cons (.int _) (.cons (.int _) .nil)), .tup (SqT.of ez) (.cons (.int _) (.cons (.int _) .nil)), shaped_cost _ _, shaped_cost _ _, _, rfl, ?_⟩
    rw [eqv_cost]
    clear hz nz
    cases hrem with
    | nil e =>
      rw [e] at ea1
      cases ea1
      refine iteNF rfl ?_
      refine ⟨_, rfl, k F Hz s3z ⟨rs, eFz, ?_⟩⟩
      rw [erow, List.append_nil]
      exact pimp pFz fun _ _ y => y.2
    | @cons _ kk rest rem' _ ea2 hpos hfit htail =>
      rw [ea1] at ea2
      cases ea2
      have hne : ¬ a1 = (0, 0) := fun z => by rw [z] at hpos; cases hpos
      refine iteN hne ?_
      refine ⟨fun σ' H' => ∃ m', m' < (kk :: rem').length ∧ ∃ (q : Addr) (s : Sg) (done rem : List (List Str)) (rs : List Addr) (v5 v6 v7 v8 v9 : Option V), m' = rem.length ∧ σ' = [some (.ref sp), some (.ref q), some (.ref sk), some (.ref p), some (.ref F), v5, v6, v7, v8, v9] ∧
        Same H H' ∧ StA H' q s ∧ s ∈ L ∧ RowOf ls ks c0 s rem ∧ row = done ++ rem ∧ H' F = some (.lst (rs.map V.ref)) ∧ Paired (fun a k => a ≠ F ∧ SkA H' a k) rs done, fun _ _ z => z, ?_⟩
      refine ⟨Nat.zero_le _, fun fa hfa => ?_⟩
      have nfa : New Hz (upd Hz fa (.lst [])) fa := New.upd hfa
      have efa : upd Hz fa (.lst []) fa = some (.lst []) := upd_same
      obtain ⟨H4, eH4⟩ : ∃ H4, upd Hz fa (.lst []) = H4 := ⟨_, rfl⟩
      rw [eH4] at nfa efa ⊢
      have hslen : s.length = s0.length := hL.len hsL
      have hso : SortedSt s := gw.so.of (hL.fst hsL)
      have dPz := dP.same s3z
      have cPz := cP.keep (tps s3z)
      obtain ⟨r1', hr1', hc1'⟩ := cPz.at_ _ _ ea1
      refine ⟨_, rfl, sk, rfl, ⟨_, SqL.of (nfa.same _ _ (s3z _ _ hc))⟩, for_it walk_list (fun i σ' H' => ∃ (v6 v7 v8 v9 : Option V) (fs : List Addr), σ' = [some (.ref sp), some (.ref q), some (.ref sk), some (.ref p), some (.ref F), some (.ref fa), v6, v7, v8, v9] ∧
          Same Hz H' ∧ H' fa = some (.lst (fs.map V.ref)) ∧ Paired (fun x kk => ∃ qk u, qk ≠ fa ∧ qk ≠ F ∧ H' x = some (.tup [.ref qk, .ref u]) ∧ SkA H' qk kk ∧ StA H' u (callS ls s kk)) fs (fits ls (ks.take i) c0 s))
        ⟨v6, v7, v8, v9, [], rfl, nfa.same, efa, .nil⟩ (fun i σ' H' _ ⟨_, _, _, _, _, _, s6, _⟩ => SqL.of (s6 _ _ (s3z _ _ hc))) ?_ ?_⟩
      · rintro i x σ' _ H6 hi ⟨v6, v7, v8, v9, fs, rfl, s6, efa6, pfs⟩ ⟨rfl, hx⟩
        obtain ⟨qk, k1, rfl, hqk, hkk, hsk⟩ := skA_get hcs hx
        have s06 := s3z.trans s6
        refine ⟨_, rfl, _, rfl, _, rfl, sp, q, qk, ls, s, k1, rfl, s06 _ _ hsp, hqz.same s6, hsk.same s06, hso, by omega, by omega, fun t u u2 H7 s7' ht hu7 => ?_⟩
        refine ⟨t, _, 0, .ref u, rfl, rfl, SqT.of ht, rfl, ?_⟩
        have s7 := s6.trans s7'
        have dP7 := dPz.same s7
        have cP7 := cPz.keep (tps s7)
        have hq7 : StA H7 q s := hqz.same s7
        have eTk : fits ls (ks.take (i + 1)) c0 s = fits ls (ks.take i) c0 s ++ (if fitK ls c0 s k1 = true then [k1] else []) := by
          unfold fits
          rw [take_snoc hkk, List.filter_append]
          congr 1
          by_cases h1 : fitK ls c0 s k1 = true <;> simp [h1]
        have hsk7 : SkA H7 qk k1 := hsk.same (s3z.trans s7)
        have pfs7 := pimp pfs fun x kk (z : ∃ qk u, qk ≠ fa ∧ qk ≠ F ∧ H6 x = some (.tup [.ref qk, .ref u]) ∧ SkA H6 qk kk ∧ StA H6 u (callS ls s kk)) => (show ∃ qk u, qk ≠ fa ∧ qk ≠ F ∧ H7 x = some (.tup [.ref qk, .ref u]) ∧ SkA H7 qk kk ∧ StA H7 u (callS ls s kk) from let ⟨q1, u1, z0, z00, z1, z2, z3⟩ := z; ⟨q1, u1, z0, z00, s7' _ _ z1, z2.same s7', z3.same s7'⟩)
        have efa7 := s7' _ _ efa6
        refine ⟨_, rfl, _, rfl, p, _, rfl, NGet.of dP7.rd hu7 rfl, _, rfl, ?_⟩
        cases eb : c0 (callS ls s k1) with
        | none =>
          rw [cP7.no _ eb]
          refine iteF ?_
          have hf : fitK ls c0 s k1 = false := by
            unfold fitK
            rw [eb]
          exact ⟨_, _, _, _, fs, rfl, s7, efa7, by rw [eTk, hf, if_neg (by decide), List.append_nil]; exact pfs7⟩
        | some bb =>
          obtain ⟨rb, hrb, hcb⟩ := cP7.at_ _ _ eb
          rw [hrb]
          refine iteT ?_
          refine ⟨_, rfl, _, rfl, p, _, rfl, NGet.of dP7.rd hu7 hrb, rb, _, rfl, SqT.of hcb, rfl, _, _, rfl, _, _, rfl, rfl, ?_⟩
          refine ⟨_, rfl, _, rfl, qk, _, rfl, .inl (SqL.of hsk7), _, _, rfl, rfl, ?_⟩
          refine ⟨_, rfl, _, _, rfl, rfl, by show 2 ≤ sizeLine; decide, fun nw hnw => ?_⟩
          have eV : (HO.tup [V.int (((bb.1 : Nat) : Int) + (((k1.map V.str).length : Nat) : Int)), V.int (((bb.2 : Nat) : Int) + 1)]) = .tup [.int ((via bb k1.length).1 : Nat), .int ((via bb k1.length).2 : Nat)] := by
            rw [List.length_map]
            rfl
          rw [eV]
          have nN : New H7 (upd H7 nw (.tup [.int ((via bb k1.length).1 : Nat), .int ((via bb k1.length).2 : Nat)])) nw := New.upd hnw
          have eN : upd H7 nw (.tup [.int ((via bb k1.length).1 : Nat), .int ((via bb k1.length).2 : Nat)]) nw = some (.tup [.int ((via bb k1.length).1 : Nat), .int ((via bb k1.length).2 : Nat)]) := upd_same
          obtain ⟨H9, eH9⟩ : ∃ H9, upd H7 nw (.tup [.int ((via bb k1.length).1 : Nat), .int ((via bb k1.length).2 : Nat)]) = H9 := ⟨_, rfl⟩
          rw [eH9] at nN eN ⊢
          have s79 := nN.same
          refine ⟨_, rfl, _, rfl, p, _, rfl, NGet.of (dP7.same s79).rd (hq7.same s79) hr1', ?_⟩
          refine ⟨_, _, .tup (SqT.of eN) (.cons (.int _) (.cons (.int _) .nil)), .tup (SqT.of ((hc1'.keep (tps s7)).keep (tps s79))) (.cons (.int _) (.cons (.int _) .nil)), shaped_cost _ _, shaped_cost _ _, _, rfl, ?_⟩
          rw [eqv_cost]
          have hf : fitK ls c0 s k1 = decide (via bb k1.length = a1) := by
            unfold fitK
            rw [eb, ea1]
            simp only [Option.some.injEq]
          have pfs9 := pimp pfs7 fun x kk (z : ∃ qk u, qk ≠ fa ∧ qk ≠ F ∧ H7 x = some (.tup [.ref qk, .ref u]) ∧ SkA H7 qk kk ∧ StA H7 u (callS ls s kk)) => (show ∃ qk u, qk ≠ fa ∧ qk ≠ F ∧ H9 x = some (.tup [.ref qk, .ref u]) ∧ SkA H9 qk kk ∧ StA H9 u (callS ls s kk) from let ⟨q1, u1, z0, z00, z1, z2, z3⟩ := z; ⟨q1, u1, z0, z00, s79 _ _ z1, z2.same s79, z3.same s79⟩)
          have efa9 := s79 _ _ efa7
          have s9 := s7.trans s79
          by_cases hv : via bb k1.length = a1
          · refine iteD hv ?_
            refine ⟨_, rfl, .inl ⟨rfl, _, SqL.of efa9⟩, ?_⟩
            refine ⟨_, rfl, qk, _, rfl, .inl (SqL.of (hsk7.same s79)), fun l hl => ?_⟩
            have nl : New H9 (upd H9 l (.lst (k1.map V.str))) l := New.upd hl
            have el : upd H9 l (.lst (k1.map V.str)) l = some (.lst (k1.map V.str)) := upd_same
            have hlfa : l ≠ fa := (ne_of_none efa9 hl).symm
            have hlF : l ≠ F := (ne_of_none (s9 _ _ eFz) hl).symm
            refine ⟨_, rfl, by show 2 ≤ sizeLine; decide, fun e1 he1 => ?_⟩
            have nE : New (upd H9 l (.lst (k1.map V.str))) (upd (upd H9 l (.lst (k1.map V.str))) e1 (.tup [.ref l, .ref u])) e1 := New.upd he1
            have eE : upd (upd H9 l (.lst (k1.map V.str))) e1 (.tup [.ref l, .ref u]) e1 = some (.tup [.ref l, .ref u]) := upd_same
            have el2 := nE.same _ _ el
            have s910 := nl.same.trans nE.same
            generalize upd (upd H9 l (.lst (k1.map V.str))) e1 (.tup [.ref l, .ref u]) = H10 at eE el2 s910 ⊢
            have efa10 := s910 _ _ efa9
            have lfs : (fs.map V.ref).length < sizeLine := by
              rw [List.length_map, plen pfs]
              have h1 := List.length_filter_le (fitK ls c0 s) (ks.take i)
              have h3 : (ks.take i).length ≤ ks.length := by
                rw [List.length_take]
                omega
              unfold fits
              exact Nat.lt_of_le_of_lt (Nat.le_trans h1 (Nat.le_trans h3 gw.k2)) (by decide)
            refine ⟨fa, _, _, rfl, rfl, efa10, lfs, ?_⟩
            have tU : Tups H10 (upd H10 fa (.lst (fs.map V.ref ++ [.ref e1]))) := tups_lst efa10
            have sU : ∀ b' o, b' ≠ fa → H10 b' = some o → upd H10 fa (.lst (fs.map V.ref ++ [.ref e1])) b' = some o := SameX.upd
            refine ⟨_, _, _, _, fs ++ [e1], rfl, same_upd (s9.trans s910) hfa, by rw [upd_same, List.map_append]; rfl, ?_⟩
            rw [eTk, hf, decide_eq_true hv, if_pos rfl]
            refine psnoc (pimp pfs9 fun x kk z => ?_) ?_
            · obtain ⟨q1, u1, z0, z00, z1, z2, z3⟩ := z
              exact ⟨q1, u1, z0, z00, tU _ _ (s910 _ _ z1), sU _ _ z0 (s910 _ _ z2), (z3.same s910).keep tU⟩
            · exact ⟨l, u, hlfa, hlF, tU _ _ eE, sU _ _ hlfa el2, ((hu7.same s79).same s910).keep tU⟩
          · refine iteDN hv ?_
            exact ⟨_, _, _, _, fs, rfl, s9, efa9, by rw [eTk, hf, decide_eq_false hv, if_neg (by decide), List.append_nil]; exact pfs9⟩
      · rintro σ' H6 ⟨v6, v7, v8, v9, fs, rfl, s6, efa6, pfs⟩
        rw [take_all (by rw [List.length_map, plen hcs])] at pfs
        rw [hfit] at pfs
        cases pfs with
        | @cons x _ fs' _ hx pfs' =>
          obtain ⟨qk, u, _, hqkF, ex, hsk, hu6⟩ := hx
          have eF6 := s6 _ _ eFz
          refine ⟨_, rfl, .inl ⟨rfl, _, SqL.of eF6⟩, ?_⟩
          have lrs : (rs.map V.ref).length < sizeLine := by
            have h1 := hrow.short hco
            rw [erow, List.length_append] at h1
            rw [List.length_map, plen pF]
            exact Nat.lt_of_le_of_lt (show done.length ≤ 200 by omega) (by decide)
          refine ⟨_, rfl, fa, _, 0, .ref x, rfl, rfl, SqL.of efa6, at_of (j := 0) rfl rfl, x, _, 0, .ref qk, rfl, rfl, SqT.of ex, at_of (j := 0) rfl rfl, F, _, _, rfl, rfl, eF6, lrs, ?_⟩
          have tU : Tups H6 (upd H6 F (.lst (rs.map V.ref ++ [.ref qk]))) := tups_lst eF6
          have hfaF : fa ≠ F := fun z => by
            have h1 := s6 _ _ eFz
            have : Hz fa = none := hfa
            rw [z, eFz] at this
            cases this
          have efa7 : upd H6 F (.lst (rs.map V.ref ++ [.ref qk])) fa = some (.lst ((x :: fs').map V.ref)) := by rw [upd_ne hfaF]; exact efa6
          refine ⟨_, rfl, fa, _, 0, .ref x, rfl, rfl, SqL.of efa7, at_of (j := 0) rfl rfl, x, _, 1, .ref u, rfl, rfl, SqT.of (tU _ _ ex), at_of (j := 1) rfl rfl, ?_⟩
          obtain ⟨bb, ebb, _⟩ := htail.sum
          refine ⟨rem'.length, Nat.lt_succ_self _, u, callS ls s kk, done ++ [kk], rem', rs ++ [qk], _, _, _, _, _, rfl, rfl, same_upd (s3z.trans s6) hF, hu6.keep tU, hco.gr.dom _ _ ebb, htail, by rw [erow, List.append_assoc]; rfl, by rw [upd_same, List.map_append]; rfl, ?_⟩
          exact psnoc (pimp pFz fun _ _ z => ⟨z.1, (upd_ne z.1).trans (s6 _ _ z.2)⟩) ⟨hqkF, (upd_ne hqkF).trans hsk⟩
end
end L2.K87
set_option Elab.async false
set_option linter.all false
set_option autoImplicit false
set_option maxRecDepth 100000
set_option maxHeartbeats 4000000
namespace L2.K87
open PySem PySem.Spec PyProof.Rows
section
variable {P : Program} {w : World} {K : PySem.W.Frag} {mg : Str → Option Value} {base : Heap} {f C : Addr} {fd : FuncData}
theorem tolL_keys (L : List Sg) (c : Tab Sg) : (tolL L c).map (·.1) = L := by
  unfold tolL
  rw [List.map_map]
  exact List.map_id _
theorem tolL_mem {L : List Sg} {c : Tab Sg} {s : Sg} (h : s ∈ L) : (s, (c s).map (·.1)) ∈ tolL L c := List.mem_map.mpr ⟨s, h, rfl⟩
theorem tolL_val {L : List Sg} {c : Tab Sg} (hn : L.Nodup) {s : Sg} (h : s ∈ L) : valV ((tolL L c).map kvT) s = some (priV ((c s).map (·.1))) := kvT_val (by rw [tolL_keys]; exact hn) (tolL_mem h)
/-! ### _law_never_right -/
def spNever : Sp := fun vs H Q _ => ∃ (sp a sk wa th : Addr) (ls : List Int) (s0 : Sg) (ks : List (List Str)) (L : List Sg) (wi : Wish) (c0 : Tab Sg), vs = [.ref sp, .ref a, .ref sk, .ref wa, .ref th] ∧ WA H sp a sk ls s0 ks ∧ WiA H wa wi ∧ GotW ls s0 ks ∧ IsLot (su ls ks) s0 L ∧ L.length ≤ 200 ∧
  TolA H th (tolL L c0) ∧ IsCosts (eds ls ks) L (fun s => meetsS s wi) c0 ∧ c0 s0 = none ∧ ∀ H', Same H H' → Q (.bl true) H'
abbrev NNr : List Str := ["_law_spans_here", "_law_stand_here", "_law_strokes_here", "_law_wish_here", "_law_told", "_law_rows", "_law_one", "_law_stroke", "_law_there"]
theorem scNever : FnScope NNr ["_law_spans_here", "_law_stand_here", "_law_strokes_here", "_law_wish_here", "_law_told"] (defScope sLnever_right) := ⟨rfl, rfl, rfl, by decide +kernel, rfl, by decide +kernel, by decide +kernel⟩
theorem ok_Lnever (F : FnP K "_law_never_right" "_law_never_right" sLnever_right [] f fd) (T : Txt mg) (G : Cal P w K mg base 2 "_law_called" ["_law_spans_here", "_law_stand_here", "_law_stroke"] spLCalled) (G2 : Cal P w K mg base 1 "_law_meets" ["_law_stand_here", "_law_wish_here"] spMeets) :
    FnOk P w K mg base CX0 3 f fd ["_law_spans_here", "_law_stand_here", "_law_strokes_here", "_law_wish_here", "_law_told"] spNever := by
  refine okF F scNever (fun vs H Q E h => ?_) (fun cdv A outer s H vs Q E hr h => ?_)
  · obtain ⟨sp, a, sk, wa, th, ls, s0, ks, L, wi, c0, rfl, _⟩ := h
    rfl
  · obtain ⟨sp, a, sk, wa, th, ls, s0, ks, L, wi, c0, rfl, ⟨hsp, hS, hK⟩, hW, gw, hL, hLz, ⟨ps, hth, hps⟩, hco, h0, k⟩ := h
    have hu := hu16 hr
    have hr1 := hr.mono (show 1 ≤ 2 by decide)
    refine ⟨_, pss_cons (ps_set (i := 5) scNever.nd rfl (Or.inl rfl) (pe_callTy (call_dict_N rfl hu) (by rfl) T.dic (by decide +kernel) (pa_cons (pv 4) pa_nil)))
      (pss_cons (ps_if (PW.pt (pw_or (pt_cmpR op_ne (pe_callB call_len_dN (by rfl) T.len PySem.boot_len (pa_cons (pv 5) pa_nil)) (pe_callB call_len_seq (by rfl) T.len PySem.boot_len (pa_cons (pv 4) pa_nil)) (nomark _))
          (pw_or (pt_cmp (pc_nnotin hu (pv 1) (pv 5))) (pw_or1 (pt_cmpR op_notN (pe_ndget hu (pv 5) (pv 1) (fun _ _ => rfl)) pe_non (nomark _)))))) pss_never pss_nil)
      (pss_cons (ps_lock (ps_for PassesOwn.never rfl (pi_nkeys (pv 5)) (pg_name (i := 6) scNever.nd rfl (Or.inl rfl))
        (pss_cons (ps_mid (ps_if (PW.pt (pw_and (pt_cmpR op_isN (pe_ndget hu (pv 5) (pv 6) (fun _ _ => rfl)) pe_non (nomark _)) (pw_and1 (pt_val (pe_cal G2 hr1 rfl (pa_cons (pv 6) (pa_cons (pv 3) pa_nil))))))) pss_never pss_nil))
        (pss_one (ps_for PassesOwn.never rfl (pi_list (pv 2)) (pg_name (i := 7) scNever.nd rfl (Or.inl rfl))
          (pss_cons (ps_set (i := 8) scNever.nd rfl (Or.inl rfl) (pe_ix ix_tup (pe_cal G hr rfl (pa_cons (pv 0) (pa_cons (pv 6) (pa_cons (pv 7) pa_nil)))) pe_int (fun _ _ => rfl)))
          (pss_one (ps_if (PW.pt (pw_or (pt_cmp (pc_nnotin hu (pv 8) (pv 5))) (pw_or1 (PW.pt (pw_and (pt_cmpR op_isN (pe_ndget hu (pv 5) (pv 6) (fun _ _ => rfl)) pe_non (nomark _)) (pw_and1 (pt_cmpR op_notN (pe_ndget hu (pv 5) (pv 8) (fun _ _ => rfl)) pe_non (nomark _)))))))) pss_never pss_nil))))))))
      (pss_one (ps_ret pe_bl)))), ?_⟩
    obtain ⟨as, hc, hcs⟩ := id hK
    have hle := gw.le
    have hl2 := gw.l2
    have hLn := hL.nodup
    have hkn : (((tolL L c0).map kvT).map (·.1)).Nodup := by rw [kvT_keys, tolL_keys]; exact hLn
    have hlen : ((tolL L c0).map kvT).length = L.length := by unfold tolL; rw [List.length_map, List.length_map]
    -- rows
    refine ⟨_, rfl, th, ps, (tolL L c0).map kvT, rfl, SqL.of hth, pmapR hps fun q p z => ?_, fun D H2 nD dD => ?_⟩
    · obtain ⟨b, e, y⟩ := z
      exact ⟨b, e, y⟩
    rw [mergeN_nil hkn] at dD
    have s2 := nD.same
    have hval : ∀ {s : Sg}, s ∈ L → valV ((tolL L c0).map kvT) s = some (priV ((c0 s).map (·.1))) := fun h => tolL_val hLn h
    have hv0 := hval hL.mem0
    rw [h0] at hv0
    refine ⟨_, rfl, D, _, rfl, dD.rd, _, rfl, th, _, rfl, .inl (SqL.of (s2 _ _ hth)), rfl, _, rfl, ?_⟩
    refine iteNF (by rw [hlen, List.length_map, plen hps]; unfold tolL; rw [List.length_map]) ?_
    refine ⟨_, rfl, _, rfl, D, _, rfl, NGet.of dD.rd (hS.same s2) hv0, _, rfl, ?_⟩
    refine iteF ?_
    refine ⟨_, rfl, _, rfl, D, _, rfl, NGet.of dD.rd (hS.same s2) hv0, rfl, _, rfl, ?_⟩
    refine iteNF rfl ?_
    -- the loop
    obtain ⟨u, hu0, hm, hlock⟩ := dD.lock
    obtain ⟨φ, hφ⟩ := dD.ext
    have uext : u = .ext φ := by
      rw [hu0] at hφ
      exact Option.some.inj hφ
    refine ⟨D, u, hu0, hm, fun od => ?_⟩
    have tL : Tups H2 (upd H2 D (.frz od u)) := tups_upd hu0 (by rw [uext]; exact fun _ z => nomatch z)
    have xL : SameX D H2 (upd H2 D (.frz od u)) := SameX.upd
    have hDH : H D = none := nD.free
    have sHL : Same H (upd H2 D (.frz od u)) := fun b o e => xL b o (ne_of_none e hDH) (s2 b o e)
    have dL := hlock od
    have eL : upd H2 D (.frz od u) D = some (.frz od u) := upd_same
    obtain ⟨HL, eHL⟩ : ∃ HL, upd H2 D (.frz od u) = HL := ⟨_, rfl⟩
    rw [eHL] at tL xL sHL dL eL ⊢
    refine ⟨_, rfl, D, od, _, rfl, dL, for_it walk_nkeys (fun i σ H' => ∃ v6 v7 v8, σ = [some (.ref sp), some (.ref a), some (.ref sk), some (.ref wa), some (.ref th), some (.ref D), v6, v7, v8] ∧ Same HL H') ⟨none, none, none, rfl, Same.refl _⟩ (fun i σ H' _ ⟨_, _, _, _, s'⟩ => dL.same s') ?_ ?_⟩
    · rintro i x σ _ H3 hi ⟨v6, v7, v8, rfl, s3⟩ ⟨rfl, st, v, q, hk, rfl, hq⟩
      obtain ⟨p, hp, ekv⟩ := mget hk
      have est : st = p.1 := congrArg Prod.fst ekv
      obtain ⟨s', hs', ep⟩ : ∃ s', L[i]? = some s' ∧ p = (s', (c0 s').map (·.1)) := mget hp
      have est : st = s' := by rw [est, ep]
      subst est
      have hsm : st ∈ L := List.mem_of_getElem? hs'
      have hslen : st.length = s0.length := hL.len hsm
      have hso : SortedSt st := gw.so.of (hL.fst hsm)
      have hvs := hval hsm
      have dL3 := (dL.same s3).rd
      have s03 := sHL.trans s3
      have hq3 : StA H3 q st := hq
      refine ⟨fun σ' H' => σ' = [some (.ref sp), some (.ref a), some (.ref sk), some (.ref wa), some (.ref th), some (.ref D), some (.ref q), v7, v8] ∧ Same H3 H', ?_, ?_⟩
      · refine ⟨_, rfl, _, rfl, D, _, rfl, NGet.of dL3 hq3 hvs, rfl, _, rfl, ?_⟩
        cases eo : c0 st with
        | some o => exact iteF (iteF ⟨rfl, Same.refl _⟩)
        | none =>
          refine iteT ?_
          have hmf : meetsS st wi = false := by
            cases e : meetsS st wi with
            | false => rfl
            | true =>
              have := hco.gr.zero st hsm e
              rw [eo] at this
              cases this
          refine ⟨_, rfl, _, rfl, q, wa, st, wi, rfl, hq3, hW.same s03, by omega, fun H4 s4 => ⟨_, rfl, ?_⟩⟩
          rw [hmf]
          exact iteF ⟨rfl, s4⟩
      rintro σ' H4 ⟨rfl, s4⟩
      have s34 := s3.trans s4
      refine ⟨_, rfl, sk, rfl, ⟨_, SqL.of ((s03.trans s4) _ _ hc)⟩, for_it walk_list (fun i σ H' => ∃ v7 v8, σ = [some (.ref sp), some (.ref a), some (.ref sk), some (.ref wa), some (.ref th), some (.ref D), some (.ref q), v7, v8] ∧ Same HL H' ∧ StA H' q st) ⟨v7, v8, rfl, s34, hq3.same s4⟩ (fun i σ H' _ ⟨_, _, _, s', _⟩ => SqL.of (s' _ _ (sHL _ _ hc))) ?_ ?_⟩
      · rintro i2 x σ _ H5 hi2 ⟨v7, v8, rfl, s5, hq5⟩ ⟨rfl, hx⟩
        obtain ⟨qk, kk, rfl, hqk, hkk, hsk⟩ := skA_get hcs hx
        have s05 := sHL.trans s5
        have htm : callS ls st kk ∈ L := hL.closed hsm (List.mem_map.mpr ⟨kk, List.mem_of_getElem? hkk, rfl⟩)
        refine ⟨_, rfl, _, rfl, _, rfl, sp, q, qk, ls, st, kk, rfl, s05 _ _ hsp, hq5, hsk.same s05, hso, by omega, by omega, fun t r u' H6 s6 ht hr6 => ?_⟩
        refine ⟨t, _, 0, .ref r, rfl, rfl, SqT.of ht, rfl, ?_⟩
        have s56 := s5.trans s6
        have dL6 := (dL.same s56).rd
        refine ⟨_, rfl, _, rfl, D, _, rfl, NGet.of dL6 hr6 (hval htm), _, rfl, ?_⟩
        refine iteF ?_
        refine ⟨_, rfl, _, rfl, D, _, rfl, NGet.of dL6 (hq5.same s6) hvs, rfl, _, rfl, ?_⟩
        cases eo : c0 st with
        | some o => exact iteF (iteF ⟨_, _, rfl, s56, hq5.same s6⟩)
        | none =>
          refine iteT ?_
          have htn : c0 (callS ls st kk) = none := by
            cases e : c0 (callS ls st kk) with
            | none => rfl
            | some b =>
              obtain ⟨a', ha', _⟩ := hco.fair.stable st hsm (kk.length, callS ls st kk) (eds_mem.mpr ⟨kk, List.mem_of_getElem? hkk, rfl⟩) b e
              rw [eo] at ha'
              cases ha'
          refine ⟨_, rfl, _, rfl, D, _, rfl, NGet.of dL6 hr6 (hval htm), rfl, _, rfl, ?_⟩
          rw [htn]
          refine iteF ?_
          exact ⟨_, _, rfl, s56, hq5.same s6⟩
      · rintro σ H5 ⟨v7, v8, rfl, s5, hq5⟩
        exact ⟨_, _, _, rfl, s5⟩
    · rintro σ H3 ⟨v6, v7, v8, rfl, s3⟩
      have e3 : H3 D = some (.frz od u) := s3 _ _ eL
      refine ⟨e3, ?_⟩
      exact k _ (s2.trans (unlock_same (fun b o _ e => s3 b o (by rw [← eHL]; exact e)) hu0))
end
end L2.K87
set_option Elab.async false
set_option linter.all false
set_option autoImplicit false
set_option maxRecDepth 100000
set_option maxHeartbeats 4000000
namespace L2.K87
open PySem PySem.Spec PyProof.Rows
section
variable {P : Program} {w : World} {K : PySem.W.Frag} {mg : Str → Option Value} {base : Heap} {f C : Addr} {fd : FuncData}
/-! ### _law_no_less -/
def spNoLess : Sp := fun vs H Q _ => ∃ (b c sp a sk wa : Addr) (ls : List Int) (s0 : Sg) (ks : List (List Str)) (L : List Sg) (wi : Wish) (c0 : Tab Sg), vs = [.ref b, .ref sp, .ref a, .ref sk, .ref wa, priV ((c0 s0).map (·.1))] ∧ BagA c H b ∧ WA (Out b H) sp a sk ls s0 ks ∧ WiA (Out b H) wa wi ∧ GotW ls s0 ks ∧
  IsLot (su ls ks) s0 L ∧ IsCosts (eds ls ks) L (fun s => meetsS s wi) c0 ∧ ∀ H', SameX b H H' → BagA c H' b → Q (.bl true) H'
abbrev NNl : List Str := ["_law_bag_here", "_law_spans_here", "_law_stand_here", "_law_strokes_here", "_law_wish_here", "_law_price", "_law_turn", "_law_here", "_law_calls", "_law_k", "_law_stroke"]
theorem scNoLess : FnScope NNl ["_law_bag_here", "_law_spans_here", "_law_stand_here", "_law_strokes_here", "_law_wish_here", "_law_price"] (defScope sLno_less) := ⟨rfl, rfl, rfl, by decide +kernel, rfl, by decide +kernel, by decide +kernel⟩
theorem ok_Lno_less (F : FnP K "_law_no_less" "_law_no_less" sLno_less [] f fd) (T : Txt mg) (G0 : Cal P w K mg base 1 "_law_take" ["_law_bag_here", "_law_many"] spTake) (G : Cal P w K mg base 2 "_law_called" ["_law_spans_here", "_law_stand_here", "_law_stroke"] spLCalled) (G2 : Cal P w K mg base 1 "_law_meets" ["_law_stand_here", "_law_wish_here"] spMeets) :
    FnOk P w K mg base CX0 3 f fd ["_law_bag_here", "_law_spans_here", "_law_stand_here", "_law_strokes_here", "_law_wish_here", "_law_price"] spNoLess := by
  refine okF F scNoLess (fun vs H Q E h => ?_) (fun cdv A outer s H vs Q E hr h => ?_)
  · obtain ⟨b, c, sp, a, sk, wa, ls, s0, ks, L, wi, c0, rfl, _⟩ := h
    rfl
  · obtain ⟨b, c, sp, a, sk, wa, ls, s0, ks, L, wi, c0, rfl, hB, hWA, hW, gw, hL, hco, k⟩ := h
    have hr1 := hr.mono (show 1 ≤ 2 by decide)
    refine ⟨_, pss_cons (ps_for PassesOwn.never rfl (pi_range1 rfl T.rng (pa_cons pe_int pa_nil)) (pg_name (i := 6) scNoLess.nd rfl (Or.inl rfl))
        (pss_cons (ps_par (i := 7) (j := 8) rfl scNoLess.nd rfl rfl (by decide) rfl rfl (pa_cons (pv 2) (pa_cons pe_int pa_nil)) (by rfl))
        (pss_one (ps_for PassesOwn.never rfl (pi_range1 rfl T.rng (pa_cons (pe_cal G0 hr1 rfl (pa_cons (pv 0) (pa_cons pe_int pa_nil))) pa_nil)) (pg_name (i := 9) scNoLess.nd rfl (Or.inl rfl))
          (pss_cons (ps_set (i := 10) scNoLess.nd rfl (Or.inl rfl) (pe_ix ix_list (pv 3) (pe_cal G0 hr1 rfl (pa_cons (pv 0) (pa_cons (pe_callB call_len_seq (by rfl) T.len PySem.boot_len (pa_cons (pv 3) pa_nil)) pa_nil))) (fun _ _ => rfl)))
          (pss_cons (ps_set (i := 7) scNoLess.nd rfl (Or.inl rfl) (pe_ix ix_tup (pe_cal G hr rfl (pa_cons (pv 1) (pa_cons (pv 7) (pa_cons (pv 10) pa_nil)))) pe_int (fun _ _ => rfl)))
          (pss_cons (ps_aug (i := 8) scNoLess.nd rfl (Or.inl rfl) (pe_callB call_len_seq (by rfl) T.len PySem.boot_len (pa_cons (pv 10) pa_nil)) ip_add)
          (pss_one (ps_if (PW.pt (pw_and (pt_val (pe_cal G2 hr1 rfl (pa_cons (pv 7) (pa_cons (pv 4) pa_nil)))) (pw_and1 (PW.pt (pw_or (pt_cmpR op_isN (pv 5) pe_non (nomark _)) (pw_or1 (pt_cmpR op_lt (pv 8) (pv 5) (nomark _)))))))) pss_never pss_nil)))))))))
      (pss_one (ps_ret pe_bl)), ?_⟩
    have hle := gw.le
    have hl2 := gw.l2
    have hcl : ∀ s ∈ L, ∀ e ∈ eds ls ks s, e.2 ∈ L := fun s hs e he => by
      obtain ⟨kk, hk, rfl⟩ := eds_mem.mp he
      exact hL.closed hs (List.mem_map.mpr ⟨kk, hk, rfl⟩)
    obtain ⟨hsp, hS, as, hc, hcs⟩ := id hWA
    refine ⟨5, rfl, by decide, by decide, for_it walk_range (fun i σ H' => ∃ v6 v7 v8 v9 v10, σ = [some (.ref b), some (.ref sp), some (.ref a), some (.ref sk), some (.ref wa), some (priV ((c0 s0).map (·.1))), v6, v7, v8, v9, v10] ∧ SameX b H H' ∧ BagA c H' b) ⟨none, none, none, none, none, rfl, SameX.refl _ _, hB⟩ (fun _ _ _ _ _ => trivial) ?_ ?_⟩
    · rintro i x σ _ H1 hi ⟨v6, v7, v8, v9, v10, rfl, s1, B1⟩ ⟨rfl, hx⟩
      refine ⟨_, rfl, _, _, rfl, ?_⟩
      refine ⟨_, rfl, b, c, 11, rfl, B1, by decide, by decide, fun n H2 s2 B2 h1 h2 => ?_⟩
      refine ⟨n, rfl, by omega, by omega, for_it walk_range (fun i σ H' => ∃ (v6 v9 v10 : Option V) (q : Addr) (s : Sg) (wd : Nat), σ = [some (.ref b), some (.ref sp), some (.ref a), some (.ref sk), some (.ref wa), some (priV ((c0 s0).map (·.1))), v6, some (.ref q), some (.int (wd : Nat)), v9, v10] ∧ SameX b H H' ∧ BagA c H' b ∧ StA (Out b H') q s ∧ Path (eds ls ks) s0 wd s)
        ⟨_, _, _, a, s0, 0, rfl, s1.trans s2, B2, hS.same (s1.trans s2).out, .nil s0⟩ (fun _ _ _ _ _ => trivial) ?_ ?_⟩
      · rintro j x2 σ _ H3 hj ⟨v6, v9, v10, q, s, wd, rfl, s3, B3, hq, hp⟩ ⟨rfl, hx2⟩
        have hsL : s ∈ L := (hco.least hcl hp hL.mem0).1
        have hslen : s.length = s0.length := hL.len hsL
        have hso : SortedSt s := gw.so.of (hL.fst hsL)
        have hc3 := out_same b H3 _ _ (s3.out _ _ hc)
        have hlas : (as.map V.ref).length = ks.length := by rw [List.length_map, plen hcs]
        have hk1 := gw.k1
        have hk2 := gw.k2
        refine ⟨_, rfl, _, rfl, _, rfl, sk, _, rfl, .inl (SqL.of hc3), b, c, _, rfl, B3, by rw [hlas]; omega, by rw [hlas]; omega, fun r4 H4 s4 B4 h5 h6 => ?_⟩
        obtain ⟨z, rfl⟩ := Int.eq_ofNat_of_zero_le h5
        have hz : z < as.length := by rw [List.length_map] at h6; omega
        obtain ⟨qk, hqk⟩ := lt_get hz
        obtain ⟨kk, hkk, hsk⟩ := pget hcs hqk
        have s04 := s3.trans s4
        have hc4 := out_same b H4 _ _ (s04.out _ _ hc)
        refine ⟨sk, _, _, .ref qk, rfl, rfl, SqL.of hc4, atN (by rw [List.getElem?_map, hqk]; rfl), ?_⟩
        have hq4 : StA (Out b H4) q s := hq.same s4.out
        have hsk4 : SkA (Out b H4) qk kk := hsk.same s04.out
        have hsp4 := s04.out _ _ hsp
        refine ⟨_, rfl, _, rfl, _, rfl, sp, q, qk, ls, s, kk, rfl, out_same b H4 _ _ hsp4, hq4.same (out_same b H4), hsk4.same (out_same b H4), hso, by omega, by omega, fun t r u H5 s5 ht hr5 => ?_⟩
        refine ⟨t, _, 0, .ref r, rfl, rfl, SqT.of ht, rfl, ?_⟩
        have B5 := B4.same s5
        have s05 := s04.trans (SameX.of s5)
        have hsk5 : SkA H5 qk kk := (hsk4.same (out_same b H4)).same s5
        refine ⟨_, rfl, _, rfl, qk, _, rfl, .inl (SqL.of hsk5), _, _, rfl, rfl, ?_⟩
        have hp5 : Path (eds ls ks) s0 (wd + kk.length) (callS ls s kk) := .snoc (kk.length, callS ls s kk) hp (eds_mem.mpr ⟨kk, List.mem_of_getElem? hkk, rfl⟩)
        have hp6 : Path (eds ls ks) s0 (wd + (kk.map V.str).length) (callS ls s kk) := by rw [List.length_map]; exact hp5
        have hW5 : WiA H5 wa wi := (hW.same s05.out).same (out_same b H5)
        refine ⟨_, rfl, _, rfl, r, wa, callS ls s kk, wi, rfl, hr5, hW5, by rw [callS_len]; omega, fun H6 s6 => ⟨_, rfl, ?_⟩⟩
        have B6 := B5.same s6
        have s06 := s05.trans (SameX.of s6)
        have hr6 : StA (Out b H6) r (callS ls s kk) := (hr5.same s6).keep (tups_out B6)
        cases hmt : meetsS (callS ls s kk) wi with
        | false =>
          refine iteF (iteF ?_)
          exact ⟨_, _, _, r, callS ls s kk, wd + (kk.map V.str).length, rfl, s06, B6, hr6, hp6⟩
        | true =>
          refine iteT ?_
          obtain ⟨a0, ea0, hle0⟩ := hco.least_wish hcl hp5 hL.mem0 hmt
          rw [ea0]
          refine ⟨_, rfl, rfl, _, rfl, ?_⟩
          refine iteF ?_
          refine ⟨_, rfl, _, rfl, _, _, rfl, rfl, _, rfl, ?_⟩
          refine iteDN (show ¬ (((wd : Nat) : Int) + (((kk.map V.str).length : Nat) : Int) < ((a0.1 : Nat) : Int)) by rw [List.length_map]; omega) ?_
          exact ⟨_, _, _, r, callS ls s kk, wd + (kk.map V.str).length, rfl, s06, B6, hr6, hp6⟩
      · rintro σ H3 ⟨v6, v9, v10, q, s, wd, rfl, s3, B3, hq, hp⟩
        exact ⟨_, _, _, _, _, rfl, s3, B3⟩
    · rintro σ H1 ⟨v6, v7, v8, v9, v10, rfl, s1, B1⟩
      exact k H1 s1 B1
end
end L2.K87
set_option Elab.async false
set_option linter.all false
set_option autoImplicit false
set_option maxRecDepth 100000
set_option maxHeartbeats 4000000
/-! Defs that are run where no repr is under way; repr of data. -/
namespace L2.K87
open PySem PySem.Spec PyProof.Rows
/-- a promise that is kept where no repr is under way -/
structure FnG (P : Program) (w : World) (K : PySem.W.Frag) (mg : Str → Option Value) (base : Heap) (CX : CXT) (k : Nat) (f : Addr) (fd : FuncData) (ps : List Str) (sp : Sp) : Prop where
  len : ∀ vs H Q E, sp vs H Q E → vs.length = ps.length
  run : ∀ (A : Around) (outer : List Env) (s : Shared) (H : Hp) (args : Args) (us : List Value) (vs : List V) (Q : VK) (E : XK), A.guards = some [] → Room k A → Env0 P w K mg base A outer s H → BindsTo s fd args (ps.zip us) → Vals vs us → sp vs H Q E →
    codeAny (model P w) A (.call (.ref f) args) (CR CX outer P w H s Q E) s
section
variable {P : Program} {w : World} {K : PySem.W.Frag} {mg : Str → Option Value} {base : Heap}
theorem okG {x qual : Str} {st : Stmt} {kws : List (Str × V)} {f : Addr} {fd : FuncData} {N ps : List Str} {k : Nat} {sp : Sp} (F : FnP K x qual st kws f fd) (S : FnScope N ps (defScope st)) (len : ∀ vs H Q E, sp vs H Q E → vs.length = ps.length)
    (hbody : ∀ (cdv : Value) (A : Around) (outer : List Env) (s : Shared) (H : Hp) (vs : List V) (Q : VK) (E : XK), A.guards = some [] → Room k (A.deeper (envOfC qual (defScope st) s.heap.objs.size f cdv)) → sp vs H Q E →
      ∃ t, PSs (cxOf CX0 P w K mg base N qual (defScope st) f cdv A outer s H E).nox (defBody st) t ∧ t { nx := fun _ H' => Q .non H', rt := Q } (start N vs) H) : FnG P w K mg base CX0 (k + 1) f fd ps sp := by
  obtain ⟨oc, od, dV, kV, doc, pm, an, cdv, ct, osl, rfl, lk, hcd, _, _⟩ := F.ex
  refine ⟨len, fun A outer s H args us vs Q E hgd hr e0 hb r hsp => ?_⟩
  have hl := len _ _ _ _ hsp
  have keep0 := fun b o e => (e0.bs b o e).1
  have KX : K.In s.heap := e0.mod.kin.keeps keep0
  have kinds : ∀ y ∈ ps.zip us, (defScope st).names.lookup y.1 = some .local ∨ ((defScope st).names.lookup y.1 = some .cell ∧ ((cellsFrom (s.heap.objs.size + 1) (defScope st).names []).lookup y.1).isSome = true) := fun y hy =>
    (S.par y.1 (List.of_mem_zip hy).1).elim .inl fun q => .inr ⟨q, PySem.W.cellsFrom_some _ _ _ (.inl q)⟩
  refine codeAny_call_function hr.depth (KX _ _ lk) rfl S.co S.gen rfl (PySem.W.codeRec_of KX hcd) (hb _ _ _ _ ?_)
  refine wpAny_newFunctionEnv_cells S.kind kinds fun env he s1 x => ?_
  subst he
  refine ⟨(e0.mod.nolimit.keeps keep0).keeps x.toInCall.keep, codeAny_func ?_⟩
  obtain ⟨t, ht0, hq⟩ := hbody cdv A outer s H vs Q E hgd (hr.deeper _) hsp
  have ht := ht0.nox
  have I : Inv (cxOf CX0 P w K mg base N qual (defScope st) f cdv A outer s H E) [] (start N vs) H s1 := inv_start S hr.hd e0 hl r x
  refine wpAny_mono (ht.run [] s1 (start N vs) H _ I hq) (fun fl s' hs => ?_) fun e s' hs => hs
  cases fl with
  | ret u =>
    obtain ⟨v, σ', H', J, rv, q⟩ := hs
    exact ⟨v, H', J.os, J.bare, J.base, J.hok, rv, q⟩
  | next =>
    obtain ⟨σ', H', J, q⟩ := hs
    exact ⟨V.non, H', J.os, J.bare, J.base, J.hok, rfl, q⟩
  | brk =>
    obtain ⟨_, _, _, q⟩ := hs
    exact False.elim q
  | cont =>
    obtain ⟨_, _, _, q⟩ := hs
    exact False.elim q
/-- such a def, by its name -/
structure CalG (P : Program) (w : World) (K : PySem.W.Frag) (mg : Str → Option Value) (base : Heap) (k : Nat) (x : Str) (ps : List Str) (sp : Sp) : Prop where
  ex : ∃ (f : Addr) (fd : FuncData), FnG P w K mg base CX0 k f fd ps sp ∧ mg x = some (.ref f) ∧ PySem.W.keepIn K (.ref f) = true ∧ Binds K fd ps []
theorem pe_calG {X : Cx} {k : Nat} {x : Str} {ps : List Str} {sp : Sp} {p pos : Pos} {e : Expr} {es : List Expr} {t : TA} (G : CalG X.prog X.w X.K X.mg X.base k x ps sp) (hgd : X.A.guards = some []) (hr : Room k X.A) (hg : Gl X x) (ha : PA X (e :: es) t)
    (hdb : (x == ("__debug__" : Str)) = false := by decide) (he : starEach (e :: es) X.env = (false, eval e X.env) :: starEach es X.env := by rfl) (hpl : (backTo pos (starEach es X.env)).any (·.1) = false := by rfl) : PE X (.Call (.Name x p) (e :: es) [] pos) (tCall sp [] E0 t) := by
  obtain ⟨f, fd, F, hm, hk, hb⟩ := G.ex
  refine ⟨fun pins s σ H Q I h => ?_⟩
  refine wpAny_Call_Name_kw (ld_glob I hg hm ?_ hdb)
  refine PySem.W.callWith_K (h₀ := X.base) I.ok.mod.kin hk (thn (ha.run pos pins s σ H _ I h) fun us s1 ⟨vs, H1, I1, r, q⟩ => ⟨I1.kIn, ?_⟩) he hpl
  have r2 : Vals (vs ++ []) (us ++ []) := r.append .nil
  have hl : (us ++ ([] : List Value)).length = ps.length := by rw [← r2.length]; exact F.len _ _ _ _ q
  refine wpAny_call (codeAny_mono (F.run X.A X.stack s1 H1 ⟨us, []⟩ (us ++ []) (vs ++ []) Q E0 hgd hr I1.env0 (hb s1 us I1.kIn hl) r2 q) fun r s' hq => ?_)
  cases r with
  | error e => exact pass0 pins σ H1 s1 e s' I1 hq
  | ok fl =>
    cases fl with
    | ret u => exact I1.after hq
    | next => exact False.elim hq
    | brk => exact False.elim hq
    | cont => exact False.elim hq
end
/-! ### repr of data -/
/-- fit to be shown -/
structure RepD (d : PyData) (n wt : Nat) : Prop where
  lay : LayD d n
  wt : d.weight ≤ wt
  sh : d.intsShort 13 = true
  sw : d.showable = true
theorem rep_all {ds : List PyData} {n wt : Nat} (h : ∀ d ∈ ds, RepD d n wt) : PyData.weightAll ds ≤ ds.length * (wt + 1) ∧ PyData.intsShortAll 13 ds = true ∧ PyData.showableAll ds = true := by
  induction ds with
  | nil => exact ⟨by simp [PyData.weightAll], rfl, rfl⟩
  | cons d ds ih =>
    obtain ⟨h1, h2, h3⟩ := ih fun x hx => h x (List.mem_cons_of_mem _ hx)
    have hd := h d List.mem_cons_self
    refine ⟨?_, ?_, ?_⟩
    · rw [PyData.weightAll, List.length_cons, Nat.add_mul]
      have := hd.wt
      omega
    · rw [PyData.intsShortAll, h2, hd.sh]
      rfl
    · rw [PyData.showableAll, h3, hd.sw]
      rfl
theorem rep_list {ds : List PyData} {n wt : Nat} (h : ∀ d ∈ ds, RepD d n wt) : RepD (.list ds) (n + 1) (ds.length * (wt + 1)) := by
  obtain ⟨h1, h2, h3⟩ := rep_all h
  exact ⟨lay_list fun d hd => (h d hd).lay, by rw [PyData.weight]; exact h1, by rw [PyData.intsShort]; exact h2, by rw [PyData.showable]; exact h3⟩
theorem rep_tup {ds : List PyData} {n wt : Nat} (h : ∀ d ∈ ds, RepD d n wt) : RepD (.tuple ds) (n + 1) (ds.length * (wt + 1)) := by
  obtain ⟨h1, h2, h3⟩ := rep_all h
  exact ⟨lay_tup fun d hd => (h d hd).lay, by rw [PyData.weight]; exact h1, by rw [PyData.intsShort]; exact h2, by rw [PyData.showable]; exact h3⟩
theorem RepD.mono {d : PyData} {n n' wt wt' : Nat} (h : RepD d n wt) (l : n ≤ n') (l2 : wt ≤ wt') : RepD d n' wt' := ⟨h.lay.mono l, Nat.le_trans h.wt l2, h.sh, h.sw⟩
theorem rep_str {x : Str} (h : PyData.strOk x = true) (n wt : Nat) (l : x.length ≤ wt) : RepD (.str x) n wt := ⟨lay_str h n, by rw [PyData.weight]; exact l, rfl, rfl⟩
theorem rep_int : ∀ z : Nat, z ≤ 100 → RepD (.int (z : Nat)) 0 7 := by
  intro z hz
  refine ⟨lay_int _ 0, ?_, ?_, ?_⟩
  · have : ∀ z : Fin 101, (PyData.int ((z.1 : Nat) : Int)).weight ≤ 7 := by decide +kernel
    exact this ⟨z, by omega⟩
  · have : ∀ z : Fin 101, (PyData.int ((z.1 : Nat) : Int)).intsShort 13 = true := by decide +kernel
    exact this ⟨z, by omega⟩
  · have : ∀ z : Fin 101, (PyData.int ((z.1 : Nat) : Int)).showable = true := by decide +kernel
    exact this ⟨z, by omega⟩
theorem RepD.fits {d : PyData} {n wt : Nat} (h : RepD d n wt) (hn : n ≤ 64) (hw : wt ≤ 2 ^ 20) : d.shown.length ≤ sizeLine := by
  refine Nat.le_trans (PyProof.Rows.shown_le13 ?_ h.sh) (by decide)
  unfold PyData.layable0
  rw [h.lay.1, decide_eq_true (Nat.le_trans h.lay.2 hn), decide_eq_true (Nat.le_trans h.wt hw)]
  rfl
section
variable {X : Cx}
/-- repr(a) -/
def rRepr (K : PySem.W.Frag) : List V → Hp → VK → Prop := fun xs H Q => ∃ (a : Addr) (d : PyData) (n wt : Nat), xs = [.ref a] ∧ Dp K H (.ref a) d ∧ RepD d n wt ∧ n ≤ 64 ∧ wt ≤ 2 ^ 20 ∧ Q (.str d.shown) H
theorem call_reprD (hgd : X.A.guards = some []) (hu : X.A.units + 128 < cLine) : CallR X (.builtin "repr") (rRepr X.K) := by
  intro pins s σ H xs us Q I r h
  obtain ⟨a, d, n, wt, rfl, hd, hr, hn, hw, q⟩ := h
  obtain ⟨u, rfl, rx⟩ := vals1 r
  cases rx
  obtain ⟨as, rd⟩ := Dp.reads I d _ _ hd rfl
  refine PySem.repr_of_reads' rd hr.sw (PyData.noDict_hsm (PyData.hasDict_of_canLay d hr.lay.1)) hgd (by have := hr.lay.2; omega) (fun _ _ e => e) (fun h' u tk hk => ?_) (hr.fits hn hw)
  exact ⟨.str d.shown, H, I.kept hk, ⟨_, rfl⟩, q⟩
end
end L2.K87
set_option Elab.async false
set_option linter.all false
set_option autoImplicit false
set_option maxRecDepth 100000
set_option maxHeartbeats 4000000
namespace L2.K87
open PySem PySem.Spec PyProof.Rows
/-! ### the list told is fair -/
theorem pos_call {ls : List Int} {st : Sg} {k : List Str} (hl : st.length ≤ ls.length) (hls : ∀ x ∈ ls, 1 ≤ x) (hp : ∀ p ∈ st, 1 ≤ p.2) : ∀ p ∈ callS ls st k, 1 ≤ p.2 := by
  intro p hm
  unfold callS beatS at hm
  obtain ⟨q, hq, rfl⟩ := List.mem_map.mp hm
  have hq1 : 1 ≤ q.2 := by
    unfold withC at hq
    obtain ⟨r, hr, rfl⟩ := List.mem_map.mp hq
    unfold withP
    have := hp r hr
    show 1 ≤ if r.1 ∈ k then (1 : Int) else r.2
    split <;> omega
  unfold beatP
  show 1 ≤ if q.2 = 1 then ls.getD ((ups (withC st k)).length - 1) 0 else q.2 - 1
  by_cases h1 : q.2 = 1
  · rw [if_pos h1]
    have hup : 1 ≤ (ups (withC st k)).length := by
      have : q.1 ∈ ups (withC st k) := List.mem_map.mpr ⟨q, List.mem_filter.mpr ⟨hq, decide_eq_true h1⟩, rfl⟩
      exact List.length_pos_of_mem this
    have hul := ups_le (withC st k)
    rw [withC_len] at hul
    have hlt : (ups (withC st k)).length - 1 < ls.length := by omega
    have e : ls.getD ((ups (withC st k)).length - 1) 0 = ls[(ups (withC st k)).length - 1] := by
      rw [List.getD_eq_getElem?_getD, List.getElem?_eq_getElem hlt]
      rfl
    rw [e]
    exact hls _ (List.getElem_mem hlt)
  · rw [if_neg h1]
    omega
theorem lot_pos {ls : List Int} {ks : List (List Str)} {s0 : Sg} (hl : s0.length ≤ ls.length) (hls : ∀ x ∈ ls, 1 ≤ x) (hp : ∀ p ∈ s0, 1 ≤ p.2) : ∀ k, ∀ s ∈ lotF (su ls ks) s0 k, ∀ p ∈ s, 1 ≤ p.2
  | 0 => fun s hs => by
    have : s = s0 := by simpa [lotF] using hs
    rw [this]
    exact hp
  | k + 1 => fun s hs => by
    cases e : (lotF (su ls ks) s0 k)[k]? with
    | none =>
      have : lotF (su ls ks) s0 (k + 1) = lotF (su ls ks) s0 k := by
        rw [lotF]
        simp only [e]
      rw [this] at hs
      exact lot_pos hl hls hp k s hs
    | some t =>
      rw [lotF_succ e] at hs
      have htm := List.mem_of_getElem? e
      rcases grow_mem.mp hs with hs | hs
      · exact lot_pos hl hls hp k s hs
      · obtain ⟨n, _, rfl⟩ := List.mem_map.mp hs
        have ht := lot_len k t htm
        exact pos_call (by omega) hls (lot_pos hl hls hp k t htm)
theorem fair_told {ls : List Int} {ks : List (List Str)} {s0 : Sg} {L : List Sg} {wi : Wish} {c0 : Tab Sg} (gw : GotW ls s0 ks) (gi : GotI s0 wi) (hL : IsLot (su ls ks) s0 L) (hLz : L.length ≤ 200) (hco : IsCosts (eds ls ks) L (fun s => meetsS s wi) c0) : FairL ls ks wi (tolL L c0) := by
  have hmem : ∀ p ∈ tolL L c0, p.1 ∈ L ∧ p.2 = (c0 p.1).map (·.1) := fun p hp => by
    obtain ⟨s, hs, rfl⟩ := List.mem_map.mp hp
    exact ⟨hs, rfl⟩
  have hl2 := gw.l2
  have hk2 := gw.k2
  have hle := gw.le
  refine ⟨by unfold tolL; rw [List.length_map]; omega, fun p hp => ?_, by rw [tolL_keys]; exact hL.nodup, fun p hp hm => ?_, fun p hp k hk => ?_⟩
  · obtain ⟨hs, _⟩ := hmem p hp
    have hf := hL.fst hs
    have hso : SortedSt p.1 := gw.so.of hf
    have hlen := hL.len hs
    have hpos : ∀ q ∈ p.1, 1 ≤ q.2 := by
      have := lot_pos (ls := ls) (ks := ks) gw.le (fun x hx => (gw.lr x hx).1) gw.pos L.length p.1
      rw [hL.eq] at this
      exact this hs
    refine ⟨fun q hq => ?_, hso.nd, hso.ri, by omega, by omega, hpos, fun k hk n hn => by rw [hf]; exact gw.sk k hk n hn, fun n hn => by rw [hf]; exact gi.wn n hn, by omega, fun k hk => Nat.le_trans (gw.kz k hk) (by decide), Nat.le_trans gi.wz (by decide)⟩
    have : q.1 ∈ s0.map (·.1) := by
      rw [← hf]
      exact List.mem_map.mpr ⟨q, hq, rfl⟩
    obtain ⟨q0, hq0, e⟩ := List.mem_map.mp this
    rw [← e]
    exact gw.nm q0 hq0
  · obtain ⟨hs, e⟩ := hmem p hp
    rw [e, hco.gr.zero p.1 hs hm]
    rfl
  · obtain ⟨hs, e⟩ := hmem p hp
    have hc : callS ls p.1 k ∈ L := hL.closed hs (List.mem_map.mpr ⟨k, hk, rfl⟩)
    refine ⟨(c0 (callS ls p.1 k)).map (·.1), tolL_mem hc, fun y hy => ?_⟩
    obtain ⟨b, hb, rfl⟩ := Option.map_eq_some_iff.mp hy
    obtain ⟨a, ha, hle2⟩ := hco.fair.stable p.1 hs (k.length, callS ls p.1 k) (eds_mem.mpr ⟨k, hk, rfl⟩) b hb
    refine ⟨a.1, by rw [e, ha]; rfl, ?_⟩
    unfold cle via at hle2
    simp only at hle2
    omega
/-! ### what is shown -/
theorem rep_sk {k : List Str} (h : ∀ x ∈ k, IsNm x) (hl : k.length ≤ 60) : RepD (dSk k) 1 540 := by
  refine (rep_list (n := 0) (wt := 8) fun d hd => ?_).mono (Nat.le_refl _) (by rw [List.length_map]; omega)
  obtain ⟨x, hx, rfl⟩ := List.mem_map.mp hd
  exact rep_str (h x hx).ok 0 8 (h x hx).2.1
theorem rep_sks {ks : List (List Str)} (h : ∀ k ∈ ks, (∀ x ∈ k, IsNm x) ∧ k.length ≤ 60) (hl : ks.length ≤ 200) : RepD (dSks ks) 2 108200 := by
  refine (rep_list (n := 1) (wt := 540) fun d hd => ?_).mono (Nat.le_refl _) (by rw [List.length_map]; omega)
  obtain ⟨k, hk, rfl⟩ := List.mem_map.mp hd
  exact rep_sk (h k hk).1 (h k hk).2
theorem rep2l {a b : PyData} {n wt : Nat} (h1 : RepD a n wt) (h2 : RepD b n wt) : RepD (.list [a, b]) (n + 1) (2 * (wt + 1)) := rep_list fun d hd => by
  simp only [List.mem_cons, List.not_mem_nil, or_false] at hd
  rcases hd with rfl | rfl
  · exact h1
  · exact h2
theorem rep2 {a b : PyData} {n wt : Nat} (h1 : RepD a n wt) (h2 : RepD b n wt) : RepD (.tuple [a, b]) (n + 1) (2 * (wt + 1)) := rep_tup fun d hd => by
  simp only [List.mem_cons, List.not_mem_nil, or_false] at hd
  rcases hd with rfl | rfl
  · exact h1
  · exact h2
theorem rep_wi {s0 : Sg} {wi : Wish} (gi : GotI s0 wi) (hn : ∀ n ∈ s0.map (·.1), IsNm n) : RepD (dWi wi) 2 1082 := by
  cases wi with
  | groups n =>
    obtain ⟨h1, h2⟩ := gi.gn n rfl
    obtain ⟨z, rfl⟩ := Int.eq_ofNat_of_zero_le h1
    exact rep2 (n := 1) (wt := 540) (rep_str (by decide +kernel) 1 540 (by decide +kernel)) ((rep_int z (by omega)).mono (by decide) (by decide))
  | together ns =>
    exact rep2 (n := 1) (wt := 540) (rep_str (by decide +kernel) 1 540 (by decide +kernel)) (rep_sk (fun x hx => hn x (gi.wn x hx)) gi.wz)
theorem nat_sum (row : List (List Str)) : (row.map fun k => ((k.length : Nat) : Int)).sum = (((row.map List.length).sum : Nat) : Int) := by
  induction row with
  | nil => rfl
  | cons k r ih =>
    rw [List.map_cons, List.map_cons, List.sum_cons, List.sum_cons, ih]
    omega
end L2.K87
set_option Elab.async false
set_option linter.all false
set_option autoImplicit false
set_option maxRecDepth 100000
set_option maxHeartbeats 4000000
namespace L2.K87
open PySem PySem.Spec PyProof.Rows
section
variable {P : Program} {w : World} {K : PySem.W.Frag} {mg : Str → Option Value} {base : Heap} {f C : Addr} {fd : FuncData}
/-! ### _law_right -/
def spRight (P : Program) (w : World) (C : Addr) : Sp := fun vs H Q _ => ∃ (b a sk wa p : Addr) (ls : List Int) (s0 : Sg) (ks : List (List Str)) (L : List Sg) (wi : Wish) (c0 : Tab Sg) (kvs : List (Sg × V)), vs = [.ref b, .ref a, .ref sk, .ref wa, .ref p] ∧
  BkA C H b ls ∧ StA H a s0 ∧ SksA H sk ks ∧ WiA H wa wi ∧ GotW ls s0 ks ∧ GotI s0 wi ∧ IsLot (su ls ks) s0 L ∧ L.length ≤ 200 ∧ DN P w H p kvs ∧ CoR L H kvs c0 ∧ IsRun (eds ls ks) L (fun s => meetsS s wi) c0 ∧ ∀ H', Same H H' → Q (.bl true) H'
abbrev NRt : List Str := ["_law_book", "_law_stand_here", "_law_strokes_here", "_law_wish_here", "_law_costs_here", "_law_spans_here", "_law_kept", "_law_found", "_law_told", "_law_one"]
theorem scRight : FnScope NRt ["_law_book", "_law_stand_here", "_law_strokes_here", "_law_wish_here", "_law_costs_here"] (defScope sLright) := ⟨rfl, rfl, rfl, by decide +kernel, rfl, by decide +kernel, by decide +kernel⟩
theorem ok_Lright (F : FnP K "_law_right" "_law_right" sLright [] f fd) (T : Txt mg) (B : BookC K mg C) (GB : MCal P w K mg base C 1 "lengths" ["self"] (spBlengths C)) (G1 : CalK P w K mg base 7 "fewest" psAsk [.int 200] (spFewest C)) (G2 : CalK P w K mg base 7 "prices" psAsk [.int 200] (spPrices C))
    (G3 : Cal P w K mg base 6 "is_fair" ["book", "strokes", "wish", "thing"] (spFair C)) (G4 : Cal P w K mg base 3 "_law_first_row" ["_law_spans_here", "_law_stand_here", "_law_strokes_here", "_law_costs_here"] (spFirst P w))
    (G5 : Cal P w K mg base 3 "_law_never_right" ["_law_spans_here", "_law_stand_here", "_law_strokes_here", "_law_wish_here", "_law_told"] spNever) : FnG P w K mg base CX0 8 f fd ["_law_book", "_law_stand_here", "_law_strokes_here", "_law_wish_here", "_law_costs_here"] (spRight P w C) := by
  refine okG F scRight (fun vs H Q E h => ?_) (fun cdv A outer s H vs Q E hgd hr h => ?_)
  · obtain ⟨b, a, sk, wa, p, ls, s0, ks, L, wi, c0, kvs, rfl, _⟩ := h
    rfl
  · obtain ⟨b, a, sk, wa, p, ls, s0, ks, L, wi, c0, kvs, rfl, hB, hS, hK, hW, gw, gi, hL, hLz, dP, cP, hrun, k⟩ := h
    have hu := hu16 hr
    have hud := hr.units
    have hu128 : (A.deeper (envOfC (Str.ofString "_law_right") (defScope sLright) s.heap.objs.size f cdv)).units + 128 < cLine := by have := hr.un; omega
    have hr1 := hr.mono (show 1 ≤ 7 by decide)
    have hr3 := hr.mono (show 3 ≤ 7 by decide)
    have hr6 := hr.mono (show 6 ≤ 7 by decide)
    have hco := hrun.costs
    obtain ⟨fl, fdl, FL, mL, bL⟩ := GB.ex
    have hgd2 : (A.deeper (envOfC (Str.ofString "_law_right") (defScope sLright) s.heap.objs.size f cdv)).guards = some [] := hgd
    refine ⟨_, pss_cons (ps_par (i := 5) (j := 6) rfl scRight.nd rfl rfl (by decide) rfl rfl (pa_cons (pe_meth0 (pv 0) B.cl mL FL hr1 bL .nil pass0) (pa_cons (pe_callB (call_reprD hgd2 hu128) (by rfl) T.rep (by decide +kernel) (pa_cons (pe_lst (pa_cons (pv 2) (pa_cons (pv 3) pa_nil))) pa_nil)) pa_nil)) (by rfl))
      (pss_cons (ps_par (i := 7) (j := 8) rfl scRight.nd rfl rfl (by decide) rfl rfl (pa_cons (pe_calK G1 hr rfl (pa_cons (pv 0) (pa_cons (pv 1) (pa_cons (pv 2) (pa_cons (pv 3) pa_nil))))) (pa_cons (pe_calK G2 hr rfl (pa_cons (pv 0) (pa_cons (pv 1) (pa_cons (pv 2) (pa_cons (pv 3) pa_nil))))) pa_nil)) (by rfl))
      (pss_cons (ps_if (pt_not (pt_val (pe_cal G3 hr6 rfl (pa_cons (pv 0) (pa_cons (pv 2) (pa_cons (pv 3) (pa_cons (pv 8) pa_nil))))))) pss_never pss_nil)
      (pss_cons (ps_mid (ps_if (pt_cmp (pc_nin hu (pv 1) (pv 4)))
          (pss_cons (ps_if (pt_cmpR op_ne (pe_callB (call_reprD hgd2 hu128) (by rfl) T.rep (by decide +kernel) (pa_cons (pv 7) pa_nil)) (pe_callB (call_reprD hgd2 hu128) (by rfl) T.rep (by decide +kernel) (pa_cons (pe_tup (pa_cons pe_str (pa_cons (pe_cal G4 hr3 rfl (pa_cons (pv 5) (pa_cons (pv 1) (pa_cons (pv 2) (pa_cons (pv 4) pa_nil))))) pa_nil))) pa_nil)) (nomark _)) pss_never pss_nil)
          (pss_one (ps_if (PW.pt (pw_or (pt_cmpR (op_neD hud) (pe_ix ix_list (pv 8) pe_int (fun _ _ => rfl)) (pe_tup (pa_cons (pv 1) (pa_cons (pe_ix ix_tup (pe_ndget hu (pv 4) (pv 1) (fun _ _ => rfl)) pe_int (fun _ _ => rfl)) pa_nil))) (nomark _))
            (pw_or1 (pt_cmpR op_ne (pe_callB (cr_sum rfl) (by rfl) T.sum (by decide +kernel) (pa_cons (pe_lc (own := [("_law_one", 9)]) (g := gName 9) (tt := tYes) (te := tCB (rLenS K) (tCons (tVar 9) tNil)) rfl scRight.nd (pi_list (pe_ix ix_tup (pv 7) pe_int (fun _ _ => rfl))) (blkOk_by (N := NRt) (sc := defScope sLright) (by decide +kernel))
              (fun _ _ _ _ _ => pg_name (i := 9) scRight.nd rfl (Or.inl rfl) (Or.inr rfl)) (fun _ _ _ _ _ => pts_nil) (fun _ _ _ _ _ => pe_callB call_len_seq (by rfl) T.len PySem.boot_len (pa_cons (pv 9) pa_nil))) pa_nil)) (pe_ix ix_tup (pe_ndget hu (pv 4) (pv 1) (fun _ _ => rfl)) pe_int (fun _ _ => rfl)) (nomark _))))) pss_never pss_nil)))
          (pss_one (ps_if (pt_cmpR (op_neD hud) (pv 7) (pe_tup (pa_cons pe_str (pa_cons (pv 8) pa_nil))) (nomark _)) pss_never
            (pss_one (ps_if (pt_not (pt_val (pe_cal G5 hr3 rfl (pa_cons (pv 5) (pa_cons (pv 1) (pa_cons (pv 2) (pa_cons (pv 3) (pa_cons (pv 8) pa_nil)))))))) pss_never pss_nil))))))
      (pss_cons (ps_mid (ps_if (PW.pt (pw_and (pt_cmp (pc_nin hu (pv 1) (pv 4))) (pw_and1 (pt_cmpR (op_neD hud) (pe_ix ix_tup (pv 7) pe_int (fun _ _ => rfl)) (pe_lst pa_nil) (nomark _)))))
          (pss_one (ps_expr (pe_bm PySem.F.plainAttrs_list PySem.F.slot_list_append PySem.F.type_list_append mt_append (pe_ix ix_list (pe_ix ix_tup (pv 7) pe_int (fun _ _ => rfl)) pe_int (fun _ _ => rfl)) (pa_cons pe_str pa_nil)))) pss_nil))
      (pss_cons (ps_expr (pe_bm PySem.F.plainAttrs_list PySem.F.slot_list_append PySem.F.type_list_append mt_append (pe_ix ix_tup (pv 7) pe_int (fun _ _ => rfl)) (pa_cons pe_non pa_nil)))
      (pss_one (ps_ret (pe_cmpR op_eq (pe_callB (call_reprD hgd2 hu128) (by rfl) T.rep (by decide +kernel) (pa_cons (pe_lst (pa_cons (pv 2) (pa_cons (pv 3) pa_nil))) pa_nil)) (pv 6) (nomark _))))))))), ?_⟩
    have hnms : ∀ n ∈ s0.map (·.1), IsNm n := fun n hn => by
      obtain ⟨q, hq, rfl⟩ := List.mem_map.mp hn
      exact gw.nm q hq
    have hks : ∀ k ∈ ks, (∀ x ∈ k, IsNm x) ∧ k.length ≤ 60 := fun k hk => ⟨fun x hx => hnms x (gw.sk k hk x hx), gw.kz k hk⟩
    have rep0 : RepD (.list [dSks ks, dWi wi]) 3 (2 * (108200 + 1)) := rep2l (rep_sks hks (Nat.le_trans gw.k2 (by decide))) ((rep_wi gi hnms).mono (Nat.le_refl _) (by decide))
    have dp0 : ∀ {H1 : Hp} {q : Addr}, H1 q = some (.lst [.ref sk, .ref wa]) → Same H H1 → Dp K H1 (.ref q) (.list [dSks ks, dWi wi]) := fun e s1 => .lst (SqL.of e) (.cons (dp_sks (hK.same s1)) (.cons (dp_wi (hW.same s1)) .nil))
    -- spans, kept
    obtain ⟨dx, tb, eb, etb⟩ := id hB
    refine ⟨_, rfl, b, dx, _, rfl, eb, no_rows (by decide +kernel), b, ls, rfl, hB, fun sp H1 n1 esp => ?_⟩
    refine ⟨_, rfl, _, rfl, by show 2 ≤ sizeLine; decide, fun q1 hq1 => ?_⟩
    have n2 : New H1 (upd H1 q1 (.lst [.ref sk, .ref wa])) q1 := New.upd hq1
    have e2 : upd H1 q1 (.lst [.ref sk, .ref wa]) q1 = some (.lst [.ref sk, .ref wa]) := upd_same
    have s02 := n1.same.trans n2.same
    have esp2 := n2.same _ _ esp
    generalize upd H1 q1 (.lst [.ref sk, .ref wa]) = H2 at e2 s02 esp2 ⊢
    refine ⟨q1, _, 3, _, rfl, dp0 e2 s02, rep0, by decide, by decide, ?_⟩
    refine ⟨_, _, rfl, ?_⟩
    -- found, told
    have ask : ∀ {H3 : Hp}, Same H H3 → AskOk C H3 b a sk wa ls s0 ks wi L c0 := fun s3 => ⟨hB.same s3, hS.same s3, hK.same s3, hW.same s3, gw.le, by have := gw.le; have := gw.l2; omega, Nat.le_trans gw.k2 (by decide), hL, hLz, hrun⟩
    refine ⟨_, rfl, _, rfl, _, rfl, _, rfl, b, a, sk, wa, ls, s0, ks, wi, L, c0, rfl, ask s02, fun t H3 s3 ht0 hfew => ?_⟩
    have s03 := s02.trans s3
    refine ⟨_, rfl, _, rfl, _, rfl, _, rfl, b, a, sk, wa, ls, s0, ks, wi, L, c0, rfl, ask s03, fun th H4 s4 hth0 hth => ?_⟩
    refine ⟨_, _, rfl, ?_⟩
    have s04 := s03.trans s4
    have esp4 := (s3.trans s4) _ _ esp2
    -- is_fair
    refine ⟨_, rfl, _, rfl, _, rfl, _, rfl, b, sk, wa, th, tolL L c0, ls, ks, wi, rfl, hB.same s04, hK.same s04, hW.same s04, hth, Nat.le_trans gw.k2 (by decide), fair_told gw gi hL hLz hco, fun H5 s5 => ⟨true, rfl, ?_⟩⟩
    refine iteF ?_
    have s05 := s04.trans s5
    have s35 := s4.trans s5
    have esp5 := s5 _ _ esp4
    have hth5 := hth.same s5
    have okst : ∀ q ∈ s0, PyData.strOk q.1 = true := fun q hq => (gw.nm q hq).ok
    have oktl : ∀ q ∈ tolL L c0, ∀ x ∈ q.1, PyData.strOk x.1 = true := fun q hq x hx => by
      obtain ⟨s, hs, rfl⟩ := List.mem_map.mp hq
      have : x.1 ∈ s0.map (·.1) := by
        rw [← hL.fst hs]
        exact List.mem_map.mpr ⟨x, hx, rfl⟩
      exact (hnms _ this).ok
    -- what is found
    have found : ∃ r o, H3 t = some (.tup [.str o, .ref r]) ∧ H r = none ∧ (∃ xs : List V, H3 r = some (.lst xs) ∧ xs.length ≤ 200) := by
      rcases hfew with ⟨_, r, e1, e2, ps, e3, pr⟩ | ⟨r, as, row, hrow, e1, e2, e3, pr⟩
      · exact ⟨r, _, e1, s02.free e2, _, e3, by rw [List.length_map, plen pr]; unfold tolL; rw [List.length_map]; exact hLz⟩
      · have h1 := hrow.short hco
        exact ⟨r, _, e1, s02.free e2, _, e3, by rw [List.length_map, plen pr]; omega⟩
    refine ⟨fun σ' H' => σ' = [some (.ref b), some (.ref a), some (.ref sk), some (.ref wa), some (.ref p), some (.ref sp), some (.str (PyData.list [dSks ks, dWi wi]).shown), some (.ref t), some (.ref th), none] ∧ Same H5 H', ?_, ?_⟩
    · refine ⟨_, rfl, _, rfl, p, _, rfl, NGet.of (dP.same s05).rd (hS.same s05) rfl, _, rfl, ?_⟩
      have cP5 := cP.keep (tps s05)
      cases e0 : c0 s0 with
      | some a0 =>
        obtain ⟨r0, hr0, hc0⟩ := cP5.at_ _ _ e0
        rw [hr0]
        refine iteT ?_
        rcases hfew with ⟨e, _⟩ | ⟨r, as, row, hrow, e1, e2', e3, pr⟩
        · rw [e0] at e
          cases e
        have hrs := hrow.short hco
        have hrk : ∀ k ∈ row, (∀ x ∈ k, IsNm x) ∧ k.length ≤ 60 := fun k hk => hks k (rowOf_mem hrow k hk)
        have repR : RepD (.tuple [.str "row", dSks row]) 3 (2 * (108200 + 1)) := rep2 (rep_str (by decide +kernel) 2 108200 (by decide +kernel)) (rep_sks hrk (by omega))
        have sks3 : SksA H3 r row := ⟨as, e3, pimp pr fun _ _ z => z.2.2⟩
        have sks5 := sks3.same s35
        have e15 := s35 _ _ e1
        have dpR : ∀ {H6 : Hp} {u x : Addr}, H6 u = some (.tup [.str "row", .ref x]) → SksA H6 x row → Dp K H6 (.ref u) (.tuple [.str "row", dSks row]) := fun e z => .tup (SqT.of e) (.cons (.str _) (.cons (dp_sks z) .nil))
        refine ⟨_, rfl, t, _, 3, _, rfl, dpR e15 sks5, repR, by decide, by decide, ?_⟩
        refine ⟨_, rfl, _, rfl, _, rfl, _, rfl, sp, a, sk, p, ls, s0, ks, L, _, c0, kvs, row, rfl, ⟨esp5, hS.same s05, hK.same s05⟩, gw, hL, hLz, dP.same s05, cP5, hco, hrow, fun r6 H6 s6 hr6 => ?_⟩
        refine ⟨by show 2 ≤ sizeLine; decide, fun q7 hq7 => ?_⟩
        have n7 : New H6 (upd H6 q7 (.tup [.str "row", .ref r6])) q7 := New.upd hq7
        have e7 : upd H6 q7 (.tup [.str "row", .ref r6]) q7 = some (.tup [.str "row", .ref r6]) := upd_same
        have s57 := s6.trans n7.same
        have hr67 := hr6.same n7.same
        generalize upd H6 q7 (.tup [.str "row", .ref r6]) = H7 at e7 s57 hr67 ⊢
        refine ⟨q7, _, 3, _, rfl, dpR e7 hr67, repR, by decide, by decide, rfl, _, rfl, ?_⟩
        refine iteNF rfl ?_
        have s07 := s05.trans s57
        have hth7 := hth5.same s57
        -- told[0]
        obtain ⟨ps, ep, pps⟩ := id hth7
        have h0 : (tolL L c0)[0]? = some (s0, (c0 s0).map (·.1)) := tolL_get hL.first
        obtain ⟨q0, hq0, hpri⟩ := pget2 pps h0
        have cP7 := cP5.keep (tps s57)
        have dP7 := dP.same s07
        have hc07 := hc0.keep (tps s57)
        refine ⟨_, rfl, th, _, 0, .ref q0, rfl, rfl, SqL.of ep, at_of (j := 0) rfl (by rw [List.getElem?_map, hq0]; rfl), ?_⟩
        refine ⟨_, rfl, _, rfl, _, rfl, p, _, rfl, NGet.of dP7.rd (hS.same s07) hr0, r0, _, 0, _, rfl, rfl, SqT.of hc07, rfl, ?_⟩
        refine ⟨by show 2 ≤ sizeLine; decide, fun q8 hq8 => ?_⟩
        have n8 : New H7 (upd H7 q8 (.tup [.ref a, .int (a0.1 : Nat)])) q8 := New.upd hq8
        have e8 : upd H7 q8 (.tup [.ref a, .int (a0.1 : Nat)]) q8 = some (.tup [.ref a, .int (a0.1 : Nat)]) := upd_same
        have s58 := s57.trans n8.same
        have hpri8 := hpri.keep (tps n8.same)
        have dP8 := dP7.same n8.same
        have hc08 := hc07.keep (tps n8.same)
        generalize upd H7 q8 (.tup [.ref a, .int (a0.1 : Nat)]) = H8 at e8 s58 hpri8 dP8 hc08 ⊢
        have s08 := s05.trans s58
        have eo : (c0 s0).map (·.1) = some a0.1 := by rw [e0]; rfl
        rw [eo] at hpri8
        have dpb : Dp K H8 (.ref q8) (dPri (s0, some a0.1)) := .tup (SqT.of e8) (.cons (dp_st (hS.same s08)) (.cons (.int _) .nil))
        have layp := lay_pri (p := (s0, some a0.1)) okst
        refine ⟨_, _, dp_pri hpri8, dpb, layp.shaped, layp.shaped, _, rfl, ?_⟩
        rw [eqv_self _ layp.1]
        refine iteF ?_
        -- the sum
        have e18 := s58 _ _ e15
        obtain ⟨as8, eas8, pas8⟩ := sks5.same s58
        refine ⟨_, rfl, t, _, 1, .ref r, rfl, rfl, SqT.of e18, at_of (j := 1) rfl rfl, r, rfl, ⟨_, SqL.of eas8⟩, fun D hD => ?_⟩
        have hn8 : (as8.map V.ref).length ≤ sizeLine := by rw [List.length_map, plen pas8]; exact Nat.le_trans (show row.length ≤ 200 by omega) (by decide)
        refine lcT walk_list hD (fun i H' ys => ys = ((row.take i).map fun k => ((k.length : Nat) : Int)).map V.int) (fun _ _ _ _ _ e => e) (fun H' s => SqL.of (s _ _ eas8)) rfl (fun i H' ys e => by rw [e, List.length_map, List.length_map]; exact List.length_take_le _ _) hn8 ?_ ?_
        · rintro i x _ H9 ys Yes No hi s9 rfl ⟨rfl, hx⟩ yes no
          obtain ⟨qk, kk, rfl, hqk, hkk, hsk⟩ := skA_get pas8 hx
          refine ⟨rfl, yesT ?_⟩
          refine ⟨_, rfl, qk, _, rfl, .inl (SqL.of (hsk.same s9)), ?_⟩
          exact yes _ _ (Same.refl _) (by rw [take_snoc hkk, List.map_append, List.map_append, List.length_map]; rfl)
        rintro H9 ys s9 e9 rfl
        rw [take_all (by rw [List.length_map, plen pas8])] at e9
        have s59 := s58.trans s9
        refine ⟨D, _, rfl, SqL.of e9, ?_⟩
        obtain ⟨a0', ea0', hsum, _⟩ := hrow.sum
        rw [e0] at ea0'
        cases ea0'
        refine ⟨_, rfl, _, rfl, p, _, rfl, NGet.of (dP8.same s9).rd (hS.same (s08.trans s9)) hr0, r0, _, 0, _, rfl, rfl, SqT.of (hc08.keep (tps s9)), rfl, rfl, _, rfl, ?_⟩
        refine iteNF (by rw [nat_sum, hsum]) ?_
        exact ⟨rfl, s59⟩
      | none =>
        rw [cP5.no _ e0]
        refine iteF ?_
        rcases hfew with ⟨_, r, e1, e2', htl⟩ | ⟨r, as, row, hrow, _⟩
        · have e15 := s35 _ _ e1
          refine ⟨_, rfl, _, rfl, by show 2 ≤ sizeLine; decide, fun q6 hq6 => ?_⟩
          have n6 : New H5 (upd H5 q6 (.tup [.str "never", .ref th])) q6 := New.upd hq6
          have e6 : upd H5 q6 (.tup [.str "never", .ref th]) q6 = some (.tup [.str "never", .ref th]) := upd_same
          have s56 := n6.same
          generalize upd H5 q6 (.tup [.str "never", .ref th]) = H6 at e6 s56 ⊢
          have layn : LayD (.tuple [.str "never", dTol (tolL L c0)]) 5 := lay2 (lay_str (by decide +kernel) 4) (lay_tol oktl)
          refine ⟨_, _, .tup (SqT.of (s56 _ _ e15)) (.cons (.str _) (.cons (dp_tol (htl.same (s35.trans s56))) .nil)), .tup (SqT.of e6) (.cons (.str _) (.cons (dp_tol (hth5.same s56)) .nil)), layn.shaped, layn.shaped, _, rfl, ?_⟩
          rw [eqv_self _ layn.1]
          refine iteF ?_
          have s06 := s05.trans s56
          refine ⟨_, rfl, _, rfl, _, rfl, _, rfl, _, rfl, sp, a, sk, wa, th, ls, s0, ks, L, wi, c0, rfl, ⟨s56 _ _ esp5, hS.same s06, hK.same s06⟩, hW.same s06, gw, hL, hLz, hth5.same s56, hco, e0, fun H7 s7 => ⟨true, rfl, ?_⟩⟩
          refine iteF ?_
          exact ⟨rfl, s56.trans s7⟩
        · obtain ⟨a0, ea0, _⟩ := hrow.sum
          rw [e0] at ea0
          cases ea0
    rintro σ' H6 ⟨rfl, s56⟩
    have s06 := s05.trans s56
    have s36 := s35.trans s56
    -- found[1][0].append("zz")
    refine ⟨fun σ' H' => σ' = [some (.ref b), some (.ref a), some (.ref sk), some (.ref wa), some (.ref p), some (.ref sp), some (.str (PyData.list [dSks ks, dWi wi]).shown), some (.ref t), some (.ref th), none] ∧ Same H H' ∧ ∃ r o, H' t = some (.tup [.str o, .ref r]) ∧ H r = none ∧ ∃ xs : List V, H' r = some (.lst xs) ∧ xs.length ≤ 200, ?_, ?_⟩
    · refine ⟨_, rfl, _, rfl, p, _, rfl, NGet.of (dP.same s06).rd (hS.same s06) rfl, _, rfl, ?_⟩
      have cP6 := cP.keep (tps s06)
      have found6 : ∃ r o, H6 t = some (.tup [.str o, .ref r]) ∧ H r = none ∧ ∃ xs : List V, H6 r = some (.lst xs) ∧ xs.length ≤ 200 := by
        obtain ⟨r, o, h1, h2, xs, h3, h4⟩ := found
        exact ⟨r, o, s36 _ _ h1, h2, xs, s36 _ _ h3, h4⟩
      cases e0 : c0 s0 with
      | none =>
        rw [cP6.no _ e0]
        exact iteF (iteF ⟨rfl, s06, found6⟩)
      | some a0 =>
        obtain ⟨r0, hr0, hc0⟩ := cP6.at_ _ _ e0
        rw [hr0]
        refine iteT ?_
        rcases hfew with ⟨e, _⟩ | ⟨r, as, row, hrow, e1, e2', e3, pr⟩
        · rw [e0] at e
          cases e
        have hrs := hrow.short hco
        have hrk : ∀ k ∈ row, ∀ x ∈ k, PyData.strOk x = true := fun k hk x hx => ((hks k (rowOf_mem hrow k hk)).1 x hx).ok
        have e16 := s36 _ _ e1
        refine ⟨_, rfl, t, _, 1, .ref r, rfl, rfl, SqT.of e16, at_of (j := 1) rfl rfl, Nat.zero_le _, fun q7 hq7 => ?_⟩
        have n7 : New H6 (upd H6 q7 (.lst [])) q7 := New.upd hq7
        have e7 : upd H6 q7 (.lst []) q7 = some (.lst []) := upd_same
        have s67 := n7.same
        generalize upd H6 q7 (.lst []) = H7 at e7 s67 ⊢
        have s37 := s36.trans s67
        have e37 := s37 _ _ e3
        have pr7 := pimp pr fun _ _ (z : _ ∧ _ ∧ _) => (⟨z.1, z.2.1, SkA.same z.2.2 s37⟩ : _ ∧ _ ∧ _)
        refine ⟨_, _, dp_sks ⟨as, e37, pimp pr7 fun _ _ z => z.2.2⟩, dp_nil e7, (lay_sks hrk).shaped, rfl, _, rfl, ?_⟩
        have s07 := s06.trans s67
        have e17 := s67 _ _ e16
        cases pr7 with
        | nil => exact iteF ⟨rfl, s07, r, _, e17, s02.free e2', _, e37, Nat.zero_le _⟩
        | @cons a1 k1 as row' z pr' =>
          refine iteT ?_
          obtain ⟨z1, z2, z3⟩ := z
          have hal : (a1 :: as).length ≤ 200 := by
            have := plen pr'
            rw [List.length_cons]
            rw [List.length_cons] at hrs
            omega
          refine ⟨_, rfl, t, _, 1, .ref r, rfl, rfl, SqT.of e17, at_of (j := 1) rfl rfl, r, _, 0, .ref a1, rfl, rfl, SqL.of e37, at_of (j := 0) rfl rfl, .inl ⟨rfl, _, SqL.of z3⟩, a1, _, _, rfl, rfl, z3, ?_, ?_⟩
          · rw [List.length_map]
            exact Nat.lt_of_le_of_lt (hks k1 (rowOf_mem hrow k1 List.mem_cons_self)).2 (by decide)
          · have ha10 : H a1 = none := s02.free z2
            have hta : t ≠ a1 := fun y => by
              have z4 : H7 a1 = some (.lst (k1.map V.str)) := z3
              rw [← y, e17] at z4
              cases z4
            exact ⟨rfl, same_upd s07 ha10, r, _, (upd_ne hta).trans e17, s02.free e2', _, (upd_ne z1.symm).trans e37, by rw [List.length_map]; exact hal⟩
    rintro σ' H7 ⟨rfl, s07, r, o, e17, hr0, xs, exs, hxl⟩
    -- found[1].append(None)
    refine ⟨_, rfl, t, _, 1, .ref r, rfl, rfl, SqT.of e17, at_of (j := 1) rfl rfl, .inl ⟨rfl, _, SqL.of exs⟩, r, _, _, rfl, rfl, exs, Nat.lt_of_le_of_lt hxl (by decide), ?_⟩
    have s08 : Same H (upd H7 r (.lst (xs ++ [.non]))) := same_upd s07 hr0
    generalize upd H7 r (.lst (xs ++ [.non])) = H8 at s08 ⊢
    refine ⟨_, rfl, _, rfl, by show 2 ≤ sizeLine; decide, fun q9 hq9 => ?_⟩
    have n9 : New H8 (upd H8 q9 (.lst [.ref sk, .ref wa])) q9 := New.upd hq9
    have e9 : upd H8 q9 (.lst [.ref sk, .ref wa]) q9 = some (.lst [.ref sk, .ref wa]) := upd_same
    have s09 := s08.trans n9.same
    generalize upd H8 q9 (.lst [.ref sk, .ref wa]) = H9 at e9 s09 ⊢
    refine ⟨q9, _, 3, _, rfl, dp0 e9 s09, rep0, by decide, by decide, _, rfl, rfl, ?_⟩
    rw [decide_eq_true rfl]
    exact k H9 s09
end
end L2.K87
set_option Elab.async false
set_option linter.all false
set_option autoImplicit false
set_option maxRecDepth 100000
set_option maxHeartbeats 4000000
namespace L2.K87
open PySem PySem.Spec PyProof.Rows
theorem BkA.out {C c b bk : Addr} {H : Hp} {ls : List Int} (h : BkA C H bk ls) (hB : BagA c H b) : BkA C (Out b H) bk ls := by
  obtain ⟨dx, t, e1, e2⟩ := h
  obtain ⟨o, eb⟩ : ∃ xs, H b = some (.lst xs) := by
    obtain ⟨_, _, _, _, e, _⟩ := hB
    exact ⟨_, e⟩
  have : bk ≠ b := fun z => by rw [z, eb] at e1; cases e1
  exact ⟨dx, t, (out_ne this).trans e1, tups_out hB _ _ e2⟩
section
variable {P : Program} {w : World} {K : PySem.W.Frag} {mg : Str → Option Value} {base : Heap} {f C : Addr} {fd : FuncData}
/-! ### the bag, of any script -/
def spLBagK (K : PySem.W.Frag) : Sp := fun vs H Q _ => ∃ (a : Addr) (ns : List Int), vs = [.ref a] ∧ SqL K H a (ns.map V.int) ∧ ∀ (b c : Addr) (H' : Hp), BagA c H' b → Q (.ref b) H'
theorem ok_LbagK (F : FnP K "_law_bag" "_law_bag" sLbag [] f fd) (T : Txt mg) : FnOk P w K mg base CX0 1 f fd ["_law_script"] (spLBagK K) := by
  refine okF F scLBag (fun vs H Q E h => ?_) (fun cdv A outer s H vs Q E hr h => ?_)
  · obtain ⟨a, ns, rfl, _⟩ := h
    rfl
  · obtain ⟨a, ns, rfl, ha, k⟩ := h
    refine ⟨_, pss_one (ps_ret (pe_lst (pa_cons pe_int (pa_cons pe_int (pa_cons pe_int (pa_cons (pe_lc (own := [("_law_cell", 1)]) (g := gName 1) (tt := tYes) (te := tCB (fun xs H Q => ∃ i, xs = [.int i] ∧ Q (.int (if i < 0 then -i else i)) H) (tCons (tVar 1) tNil)) rfl scLBag.nd
      (pi_list (pe_slice sl_list (pv 0) po_none (po_some pe_int))) (blkOk_by (N := ["_law_script", "_law_cell"]) (sc := defScope sLbag) (by decide +kernel)) (fun _ _ _ _ _ => pg_name (i := 1) scLBag.nd rfl (Or.inl rfl) (Or.inr rfl)) (fun _ _ _ _ _ => pts_nil)
      (fun _ _ _ _ _ => pe_callB call_abs (by rfl) T.abs (by decide +kernel) (pa_cons (pv 1) pa_nil))) pa_nil)))))), ?_⟩
    obtain ⟨ms, em, _⟩ := cut_map V.int ns none (some 63)
    have lm : ms.length ≤ 63 := by
      have := cut63 (ns.map V.int)
      rw [em, List.length_map] at this
      exact this
    refine ⟨_, rfl, _, rfl, a, _, rfl, ha, fun p hp => ?_⟩
    rw [em]
    have np : New H (upd H p (.lst (ms.map V.int))) p := New.upd hp
    have ep : upd H p (.lst (ms.map V.int)) p = some (.lst (ms.map V.int)) := upd_same
    generalize upd H p (.lst (ms.map V.int)) = H1 at np ep ⊢
    refine ⟨p, rfl, ⟨_, SqL.of ep⟩, fun D hD => ?_⟩
    refine lcT walk_list hD (fun i H ys => ∃ cs : List Int, ys = cs.map V.int ∧ cs.length ≤ i) (fun _ _ _ _ _ e => e) (fun H' s => SqL.of (s _ _ ep)) ⟨[], rfl, Nat.zero_le _⟩ (fun i H ys ⟨cs, e, l⟩ => by rw [e, List.length_map]; exact l) (by rw [List.length_map]; exact Nat.le_trans lm (by decide)) ?_ ?_
    · rintro i x _ H2 ys Yes No hi s2 ⟨cs, rfl, l⟩ ⟨rfl, hx⟩ yes no
      obtain ⟨z, hz, rfl⟩ := mget hx
      refine ⟨rfl, yesR ?_⟩
      refine iteT ?_
      refine ⟨_, rfl, z, rfl, ?_⟩
      exact yes _ _ (Same.refl _) ⟨cs ++ [if z < 0 then -z else z], by rw [List.map_append]; rfl, by rw [List.length_append]; simp only [List.length_cons, List.length_nil]; omega⟩
    · rintro H2 ys s2 e2 ⟨cs, rfl, l⟩
      rw [List.length_map] at l
      refine ⟨by show 4 ≤ sizeLine; decide, fun b hb => ?_⟩
      have nb : New H2 (upd H2 b (.lst [.int 0, .int 1234567891, .int 0, .ref D])) b := New.upd hb
      exact k b D _ ⟨0, 1234567891, 0, cs, upd_same, nb.same _ _ e2, by omega⟩
/-- a Book is made -/
structure MkC (P : Program) (w : World) (K : PySem.W.Frag) (mg : Str → Option Value) (base : Heap) (C : Addr) : Prop where
  ex : ∃ (f : Addr) (fd : FuncData), Mk K C f ∧ FnOk P w K mg base CX0 4 f fd ["self", "lengths"] (spBinit C) ∧ Binds K fd ["self", "lengths"] []
/-! ### law -/
def spLaw (K : PySem.W.Frag) : Sp := fun vs H Q _ => ∃ (a : Addr) (ns : List Int), vs = [.ref a] ∧ SqL K H a (ns.map V.int) ∧ ∀ H', Q (.bl true) H'
abbrev NLaw : List Str := ["_law_script", "_law_bag_here", "_law_k", "_law_spans_here", "_law_stand_here", "_law_strokes_here", "_law_wish_here", "_law_some", "_law_book", "_law_other", "_law_asked", "_law_costs_here", "_law_price", "_law_name", "_law_rest"]
theorem scLaw : FnScope NLaw ["_law_script"] (defScope slaw) := ⟨rfl, rfl, rfl, by decide +kernel, rfl, by decide +kernel, by decide +kernel⟩
theorem lot_ix (k : Bool) : ∃ j m : Nat, (if k = true then (1 : Int) else 0) = (j : Nat) ∧ 1 ≤ m ∧ m ≤ 200 ∧ [V.int 150, V.int 20][j]? = some (V.int (m : Nat)) := by
  cases k
  · exact ⟨0, 150, rfl, by decide, by decide, rfl⟩
  · exact ⟨1, 20, rfl, by decide, by decide, rfl⟩
theorem ok_law (F : FnP K "law" "law" slaw [] f fd) (T : Txt mg) (B : BookC K mg C) (M : MkC P w K mg base C) (G1 : Cal P w K mg base 1 "_law_bag" ["_law_script"] (spLBagK K)) (G2 : Cal P w K mg base 4 "_law_wished" ["_law_bag_here", "_law_sizes", "_law_top", "_law_longest"] spWished)
    (G3 : Cal P w K mg base 3 "_law_lot" ["_law_spans_here", "_law_stand_here", "_law_strokes_here", "_law_bound"] spLLot) (G4 : Cal P w K mg base 2 "_law_wish" ["_law_bag_here", "_law_names_here"] spLWish)
    (G5 : Cal P w K mg base 3 "_law_costs" ["_law_spans_here", "_law_some", "_law_strokes_here", "_law_wish_here"] (spLCosts P w)) (G6 : CalG P w K mg base 8 "_law_right" ["_law_book", "_law_stand_here", "_law_strokes_here", "_law_wish_here", "_law_costs_here"] (spRight P w C))
    (G7 : Cal P w K mg base 3 "_law_no_less" ["_law_bag_here", "_law_spans_here", "_law_stand_here", "_law_strokes_here", "_law_wish_here", "_law_price"] spNoLess) : FnG P w K mg base CX0 9 f fd ["_law_script"] (spLaw K) := by
  refine okG F scLaw (fun vs H Q E h => ?_) (fun cdv A outer s H vs Q E hgd hr h => ?_)
  · obtain ⟨a, ns, rfl, _⟩ := h
    rfl
  · obtain ⟨a0, ns, rfl, ha0, k⟩ := h
    have hu := hu16 hr
    have hr1 := hr.mono (show 1 ≤ 8 by decide)
    have hr2 := hr.mono (show 2 ≤ 8 by decide)
    have hr3 := hr.mono (show 3 ≤ 8 by decide)
    have hr4 := hr.mono (show 4 ≤ 8 by decide)
    have hr5 := hr.mono (show 5 ≤ 8 by decide)
    obtain ⟨fi, fdi, MK, FI, bI⟩ := M.ex
    have hgd2 : (A.deeper (envOfC (Str.ofString "law") (defScope slaw) s.heap.objs.size f cdv)).guards = some [] := hgd
    refine ⟨_, pss_cons (ps_set (i := 1) scLaw.nd rfl (Or.inl rfl) (pe_cal G1 hr1 rfl (pa_cons (pv 0) pa_nil)))
      (pss_cons (ps_for PassesOwn.never rfl (pi_range1 rfl T.rng (pa_cons pe_int pa_nil)) (pg_name (i := 2) scLaw.nd rfl (Or.inl rfl))
        (pss_cons (ps_asg (g := gTup K 4 (gCons (gName 3) (gCons (gName 4) (gCons (gName 5) (gCons (gName 6) gNil))))) (pe_cal G2 hr4 rfl (pa_cons (pv 1) (pa_cons (pe_lst (pa_cons pe_int (pa_cons pe_int (pa_cons pe_int (pa_cons pe_int pa_nil))))) (pa_cons pe_int (pa_cons pe_int pa_nil)))))
          (pg_tup rfl (pgs_cons (pg_name (i := 3) scLaw.nd rfl (Or.inl rfl) (Or.inl rfl)) (pgs_cons (pg_name (i := 4) scLaw.nd rfl (Or.inl rfl) (Or.inl rfl)) (pgs_cons (pg_name (i := 5) scLaw.nd rfl (Or.inl rfl) (Or.inl rfl)) (pgs_cons (pg_name (i := 6) scLaw.nd rfl (Or.inl rfl) (Or.inl rfl)) pgs_nil))))))
        (pss_cons (ps_set (i := 7) scLaw.nd rfl (Or.inl rfl) (pe_cal G3 hr3 rfl (pa_cons (pv 3) (pa_cons (pv 4) (pa_cons (pv 5) (pa_cons (pe_ix ix_list (pe_lst (pa_cons pe_int (pa_cons pe_int pa_nil))) (pe_callTy call_int1 (by rfl) T.int (by decide +kernel) (pa_cons (pe_cmpR op_gt (pe_callB call_len_seq (by rfl) T.len PySem.boot_len (pa_cons (pv 4) pa_nil)) pe_int (nomark _)) pa_nil)) (fun _ _ => rfl)) pa_nil))))))
        (pss_cons (ps_if (pt_cmpR op_isN (pv 7) pe_non (nomark _)) (pss_one (ps_ret pe_bl)) pss_nil)
        (pss_cons (ps_par (i := 8) (j := 9) rfl scLaw.nd rfl rfl (by decide) rfl rfl (pa_cons (pe_make MK FI hr5 rfl B.mgC bI .nil pass0 (pa_cons (pe_callTy call_list_of (by rfl) T.lst (by decide +kernel) (pa_cons (pv 3) pa_nil)) pa_nil))
          (pa_cons (pe_cal G4 hr2 rfl (pa_cons (pv 1) (pa_cons (pe_lc (own := [("_law_name", 13), ("_law_rest", 14)]) (g := g2 K 13 14) (tt := tYes) (te := tVar 13) rfl scLaw.nd (pi_tup (pv 4)) (blkOk_by (N := NLaw) (sc := defScope slaw) (by decide +kernel))
            (fun _ _ _ _ _ => pg2 (i := 13) (j := 14) rfl scLaw.nd rfl rfl (Or.inl rfl) (Or.inl rfl) (Or.inr rfl) (Or.inr rfl)) (fun _ _ _ _ _ => pts_nil) (fun _ _ _ _ _ => pv 13)) pa_nil))) pa_nil)) (by rfl))
        (pss_one (ps_for PassesOwn.never rfl (pi_list (pe_lst (pa_cons (pv 6) (pa_cons (pv 9) (pa_cons (pv 6) pa_nil))))) (pg_name (i := 10) scLaw.nd rfl (Or.inl rfl))
          (pss_cons (ps_set (i := 11) scLaw.nd rfl (Or.inl rfl) (pe_cal G5 hr3 rfl (pa_cons (pv 3) (pa_cons (pv 7) (pa_cons (pv 5) (pa_cons (pv 10) pa_nil))))))
          (pss_cons (ps_if (pt_not (pt_val (pe_calG G6 hgd2 hr rfl (pa_cons (pv 8) (pa_cons (pv 4) (pa_cons (pv 5) (pa_cons (pv 10) (pa_cons (pv 11) pa_nil)))))))) pss_never pss_nil)
          (pss_cons (ps_set (i := 12) scLaw.nd rfl (Or.inl rfl) (pe_ix ix_tup (pe_nget2 hu (pv 11) (pv 4) (pe_tup (pa_cons pe_non (pa_cons pe_int pa_nil))) ⟨rfl, rfl, rfl, rfl⟩) pe_int (fun _ _ => rfl)))
          (pss_one (ps_if (pt_not (pt_val (pe_cal G7 hr3 rfl (pa_cons (pv 1) (pa_cons (pv 3) (pa_cons (pv 4) (pa_cons (pv 5) (pa_cons (pv 10) (pa_cons (pv 12) pa_nil))))))))) pss_never pss_nil))))))))))))
      (pss_one (ps_ret pe_bl))), ?_⟩
    refine ⟨_, rfl, a0, ns, rfl, ha0, fun b c H0 B0 => ?_⟩
    refine ⟨2, rfl, by decide, by decide, for_it walk_range (fun i σ H' => ∃ v2 v3 v4 v5 v6 v7 v8 v9 v10 v11 v12, σ = [some (.ref a0), some (.ref b), v2, v3, v4, v5, v6, v7, v8, v9, v10, v11, v12, none, none] ∧ BagA c H' b) ⟨none, none, none, none, none, none, none, none, none, none, none, rfl, B0⟩ (fun _ _ _ _ _ => trivial) ?_ ?_⟩
    · rintro i x0 σ _ H1 hi ⟨v2, v3, v4, v5, v6, v7, v8, v9, v10, v11, v12, rfl, B1⟩ ⟨rfl, hx0⟩
      -- what is drawn
      refine ⟨_, rfl, by show 4 ≤ sizeLine; decide, fun q hq => ?_⟩
      have nq : New H1 (upd H1 q (.lst ([2, 3, 4, 40].map V.int))) q := New.upd hq
      have eq : upd H1 q (.lst ([2, 3, 4, 40].map V.int)) q = some (.lst ([2, 3, 4, 40].map V.int)) := upd_same
      have B2 := B1.same nq.same
      refine ⟨b, c, q, rfl, B2, eq, fun t sp a sk wa ls s0 ks wi H2 sx2 B2' et wA wI gw gi => ?_⟩
      refine ⟨t, _, rfl, SqT.of et, rfl, _, _, rfl, _, _, rfl, _, _, rfl, _, _, rfl, rfl, ?_⟩
      have wA2 := wA.same (out_same b H2)
      obtain ⟨qs, ha, hqs⟩ := id wA2.st
      -- the lot
      refine ⟨_, rfl, _, rfl, _, rfl, by show 2 ≤ sizeLine; decide, fun q3 hq3 => ?_⟩
      have n3 : New H2 (upd H2 q3 (.lst [.int 150, .int 20])) q3 := New.upd hq3
      have e3 : upd H2 q3 (.lst [.int 150, .int 20]) q3 = some (.lst [.int 150, .int 20]) := upd_same
      have B3 := B2'.same n3.same
      have wA3 := wA.same (Same.out n3.same)
      have wI3 := wI.same (Same.out n3.same)
      have ha3 := n3.same _ _ ha
      generalize upd H2 q3 (.lst [.int 150, .int 20]) = H3 at e3 B3 wA3 wI3 ha3 ⊢
      refine ⟨_, rfl, a, _, rfl, .inr (SqT.of ha3), _, _, rfl, rfl, .inr ⟨_, rfl, ?_⟩⟩
      obtain ⟨j, m, ej, hm1, hm2, hat⟩ := lot_ix (decide ((4 : Int) < (((qs.map V.ref).length : Nat) : Int)))
      refine ⟨q3, _, _, .int (m : Nat), rfl, rfl, SqL.of e3, by rw [ej]; exact atN hat, ?_⟩
      refine ⟨sp, a, sk, ls, s0, ks, m, rfl, wA3.same (out_same b H3), gw, hm1, hm2, fun H4 s4 => ?_, fun r L H4 s4 hr4 hL4 hlot hLm => ?_⟩
      · refine ⟨_, rfl, rfl, _, rfl, ?_⟩
        exact iteT (k _)
      refine ⟨_, rfl, rfl, _, rfl, ?_⟩
      refine iteF ?_
      have hLz : L.length ≤ 200 := Nat.le_trans hLm hm2
      have B4 := B3.same s4
      have wA4 := wA3.same (Same.out s4)
      have wI4 := wI3.same (Same.out s4)
      have rb : r ≠ b := by
        obtain ⟨o, eb⟩ := B3.at_
        exact fun z => by rw [z, eb] at hr4; cases hr4
      -- Book
      refine ⟨_, rfl, sp, _, rfl, .inl (SqL.of (wA4.same (out_same b H4)).sp), fun l hl => fun x dx hx hdx hne => ?_⟩
      have n5 : New H4 (upd H4 l (.lst (ls.map V.int))) l := New.upd hl
      have e5 : upd H4 l (.lst (ls.map V.int)) l = some (.lst (ls.map V.int)) := upd_same
      have s45 := n5.same
      generalize upd H4 l (.lst (ls.map V.int)) = H5 at e5 s45 hx hdx ⊢
      have hlx : l ≠ x := ne_of_none e5 hx
      have hldx : l ≠ dx := ne_of_none e5 hdx
      refine ⟨x, dx, l, ls, rfl, upd_same, (upd_ne hlx).trans ((upd_ne hldx).trans e5), gw.l1, gw.l2, fun y hy => ⟨(gw.lr y hy).1, Int.le_trans (gw.lr y hy).2 (by decide)⟩, fun H6 s6 hBk => ⟨rfl, ?_⟩⟩
      have s56 : Same H5 H6 := fun y o e => s6 _ _ (ne_of_none e hx) ((upd_ne (ne_of_none e hx)).trans ((upd_ne (ne_of_none e hdx)).trans e))
      have s46 := s45.trans s56
      have B6 := B4.same s46
      have wA6 := wA4.same (Same.out s46)
      have wI6 := wI4.same (Same.out s46)
      obtain ⟨qs6, ha6, hqs6⟩ := id (wA6.same (out_same b H6)).st
      -- the names
      refine ⟨_, rfl, _, rfl, a, rfl, ⟨_, SqT.of ha6⟩, fun D hD => ?_⟩
      have hn40 : s0.length ≤ 40 := Nat.le_trans gw.le gw.l2
      have hn : (qs6.map V.ref).length ≤ sizeLine := by rw [stA_len hqs6]; exact Nat.le_trans hn40 (by decide)
      refine lcT walk_tup hD (fun i H' ys => ys = ((s0.take i).map (·.1)).map V.str) (fun _ _ _ _ _ e => e) (fun H' s => SqT.of (s _ _ ha6)) rfl
        (fun i H' ys e => by rw [e, List.length_map, List.length_map]; exact List.length_take_le _ _) hn ?_ ?_
      · rintro i x H7 _ ys Yes No hi s7 rfl ⟨rfl, hx⟩ yes no
        obtain ⟨q, p, rfl, hqi, hpi, hp⟩ := stA_get hqs6 hx
        refine ⟨q, _, rfl, SqT.of (s7 _ _ hp), rfl, _, _, rfl, _, _, rfl, rfl, rfl, ?_⟩
        refine yesT ?_
        exact ⟨_, rfl, yes _ _ (Same.refl _) (by rw [take_snoc hpi, List.map_append, List.map_append]; rfl)⟩
      rintro H7 ys s7 eD rfl
      rw [take_all (stA_len hqs6)] at eD
      have B7 := B6.same s7
      -- the other wish
      refine ⟨b, c, D, s0.map (·.1), rfl, B7, eD, by rw [List.length_map]; omega, fun n hn => by
        obtain ⟨p, hp, rfl⟩ := List.mem_map.mp hn
        exact gw.nm p hp, fun wo wj H8 s8 B8 hwo hWo hw1 hw2 hw3 => ?_⟩
      refine ⟨_, _, rfl, ?_⟩
      have o48 : Same (Out b H4) (Out b H8) := (Same.out (s46.trans s7)).trans s8.out
      have wA8 := wA4.same o48
      have wI8 := wI4.same o48
      have wJ8 := hWo.out B8
      have hBk8 : BkA C (Out b H8) x ls := ((hBk.out B6).same (Same.out s7)).same s8.out
      have hL8 : LsA (Out b H8) r L := by
        obtain ⟨ts, h1, h2⟩ := hL4
        have : LsA (Out b H4) r L := ⟨ts, (out_ne rb).trans h1, pimp h2 fun _ _ z => z.keep (tups_out B4)⟩
        exact this.same o48
      -- for _law_asked in
      refine ⟨_, rfl, _, rfl, _, rfl, by show 3 ≤ sizeLine; decide, fun q9 hq9 => ?_⟩
      have n9 : New H8 (upd H8 q9 (.lst [.ref wa, .ref wo, .ref wa])) q9 := New.upd hq9
      have e9 : upd H8 q9 (.lst [.ref wa, .ref wo, .ref wa]) q9 = some (.lst [.ref wa, .ref wo, .ref wa]) := upd_same
      have B9 := B8.same n9.same
      have wA9 := wA8.same (Same.out n9.same)
      have wI9 := wI8.same (Same.out n9.same)
      have wJ9 := wJ8.same (Same.out n9.same)
      have hBk9 := hBk8.same (Same.out n9.same)
      have hL9 := hL8.same (Same.out n9.same)
      have hq9b : q9 ≠ b := by
        obtain ⟨o, eb⟩ := B8.at_
        exact fun z => by rw [z, eb] at hq9; cases hq9
      generalize upd H8 q9 (.lst [.ref wa, .ref wo, .ref wa]) = H9 at e9 B9 wA9 wI9 wJ9 hBk9 hL9 ⊢
      have asked : ∀ (i : Nat) (y : V), [V.ref wa, .ref wo, .ref wa][i]? = some y → ∃ u wu, y = .ref u ∧ WiA (Out b H9) u wu ∧ GotI s0 wu := fun i y hy => by
        have gj : GotI s0 wj := ⟨hw1, hw2, hw3⟩
        match i, hy with
        | 0, hy => cases hy; exact ⟨wa, wi, rfl, wI9, gi⟩
        | 1, hy => cases hy; exact ⟨wo, wj, rfl, wJ9, gj⟩
        | 2, hy => cases hy; exact ⟨wa, wi, rfl, wI9, gi⟩
        | n + 3, hy => simp at hy
      refine ⟨q9, rfl, ⟨_, SqL.of e9⟩, for_it walk_list (fun i σ H' => ∃ v10 v11 v12, σ = [some (.ref a0), some (.ref b), some x0, some (.ref sp), some (.ref a), some (.ref sk), some (.ref wa), some (.ref r), some (.ref x), some (.ref wo), v10, v11, v12, none, none] ∧ SameX b H9 H' ∧ BagA c H' b)
        ⟨_, _, _, rfl, SameX.refl _ _, B9⟩ (fun i σ H' _ ⟨_, _, _, _, s', _⟩ => SqL.of (s' _ _ hq9b e9)) ?_ ?_⟩
      · rintro i2 y σ _ H10 hi2 ⟨v10, v11, v12, rfl, s10, B10⟩ ⟨rfl, hy⟩
        obtain ⟨u, wu, rfl, hWu, gu⟩ := asked i2 y hy
        have o910 := s10.out
        have full := out_same b H10
        have wA10 := (wA9.same o910).same full
        obtain ⟨c0, hrun⟩ := isRun (eds ls ks) L (fun s => meetsS s wu)
        refine ⟨_, rfl, _, rfl, _, rfl, _, rfl, sp, r, sk, u, ls, s0, ks, L, wu, c0, rfl, wA10.sp, (hL9.same o910).same full, wA10.sk, (hWu.same o910).same full, gw, hlot, hLz, hrun, fun p kvs H11 s11 hp dP cP => ?_⟩
        have wA11 := wA10.same s11
        refine ⟨_, rfl, _, rfl, _, rfl, _, rfl, _, rfl, x, a, sk, u, p, ls, s0, ks, L, wu, c0, kvs, rfl, ((hBk9.same o910).same full).same s11, wA11.st, wA11.sk, ((hWu.same o910).same full).same s11, gw, gu, hlot, hLz, dP, cP, hrun, fun H12 s12 => ⟨true, rfl, ?_⟩⟩
        refine iteF ?_
        have cP12 := cP.keep (tps s12)
        have hS12 := wA11.st.same s12
        refine ⟨_, rfl, p, kvs, rfl, (dP.same s12).rd, _, rfl, by show 2 ≤ sizeLine; decide, fun q13 hq13 => ?_⟩
        have n13 : New H12 (upd H12 q13 (.tup [.non, .int 0])) q13 := New.upd hq13
        have e13 : upd H12 q13 (.tup [.non, .int 0]) q13 = some (.tup [.non, .int 0]) := upd_same
        generalize upd H12 q13 (.tup [.non, .int 0]) = H13 at n13 e13 ⊢
        have s013 := s11.trans (s12.trans n13.same)
        have B13 := B10.same s013
        have sx13 := s10.trans (SameX.of s013)
        have o13 : Same (Out b H9) (Out b H13) := sx13.out
        have cP13 := cP12.keep (tps n13.same)
        refine ⟨_, NGet.of ((dP.same s12).same n13.same).rd (hS12.same n13.same) rfl, ?_⟩
        have fin : ∃ rr xs, (valV kvs s0).getD (.ref q13) = .ref rr ∧ H13 rr = some (.tup xs) ∧ xs[0]? = some (priV ((c0 s0).map (·.1))) := by
          cases e0 : c0 s0 with
          | none => exact ⟨q13, _, by rw [cP13.no _ e0]; rfl, e13, rfl⟩
          | some a1 =>
            obtain ⟨rr, h1, h2⟩ := cP13.at_ _ _ e0
            exact ⟨rr, _, by rw [h1]; rfl, h2, rfl⟩
        obtain ⟨rr, xs, e1, e2, e3⟩ := fin
        rw [e1]
        refine ⟨rr, xs, 0, _, rfl, rfl, SqT.of e2, at_of (j := 0) rfl e3, ?_⟩
        refine ⟨_, rfl, _, rfl, _, rfl, _, rfl, _, rfl, _, rfl, b, c, sp, a, sk, u, ls, s0, ks, L, wu, c0, rfl, B13, wA9.same o13, hWu.same o13, gw, hlot, hrun.costs, fun H14 s14 B14 => ⟨true, rfl, ?_⟩⟩
        refine iteF ?_
        exact ⟨_, _, _, rfl, sx13.trans s14, B14⟩
      · rintro σ H10 ⟨v10, v11, v12, rfl, s10, B10⟩
        exact ⟨_, _, _, _, _, _, _, _, _, _, _, rfl, B10⟩
    · rintro σ H1 ⟨v2, v3, v4, v5, v6, v7, v8, v9, v10, v11, v12, rfl, B1⟩
      exact k _
end
end L2.K87
set_option Elab.async false
set_option linter.all false
set_option autoImplicit false
set_option maxRecDepth 100000
set_option maxHeartbeats 4000000
/-! A law whose promise wants that no repr is under way. -/
namespace L2.K87
open PySem PySem.Spec PyProof.Rows
/-- nothing is tracked, or the script alone, frozen, where it is none of the module's objects -/
def Lone (K : PySem.W.Frag) (a : Addr) (Z : Hp) : Prop := ∀ y, Z y = none ∨ (y = a ∧ K.lookup a = none ∧ ∃ u ws, Z y = some (.frz u (.lst ws)))
section
variable {P : Program} {w : World} {K : PySem.W.Frag} {mg mb : Str → Option Value} {k : Nat} {fa a : Addr} {fd : FuncData} {x : Str} {sp : Sp} {S : Shared} {us : List Value} {ns : List Int}
theorem lone_run {Z : Hp} (hz : Lone K a Z) (hZ : HOk P w Z S.heap) (hK : K.In S.heap) (hG : S.heap.Ns mainGlobals mg) (hB : S.heap.Ns builtinsNs mb) (hN : ∀ y : Str, y ≠ "__name__" → mb y = bootBuiltins y) (hL : S.heap.NoLimit) (hgen : S.gens = #[])
    (hobj : S.heap.get? a = some { cls := .type "list", data := .seq us.toArray }) (hr : Room k callerA) (hF : ∀ base : Heap, K.In base → base.Ns mainGlobals mg → FnG P w K mg base CX0 k fa fd [x] sp)
    (hbind : ∀ (t : Shared) (u : Value), BindsTo t fd ⟨[u], []⟩ [(x, u)]) (hq : sp [.ref a] Z (fun v _ => v = .bl true) fun _ _ _ => False) :
    codeAny (model P w) callerA (.call (.ref fa) ⟨[.ref a], []⟩) (fun r t => r = .ok (.ret (.bool true)) ∧ OldK S.heap t.heap ∧ t.os = S.os ∧ AllBare t.gens) S := by
  have away : ∀ {y : Addr} {o : Obj} {es : Array DictEntry} {ep : Nat}, S.heap.get? y = some o → o.data = .dict es ep → Z y = none := by
    intro y o es ep e1 e2
    rcases hz y with n | ⟨q, _, _⟩
    · exact n
    · rw [q, hobj] at e1
      rw [← Option.some.inj e1] at e2
      have e3 : Data.seq us.toArray _ = Data.dict es ep := e2
      cases e3
  have keptK : K.In (hidT S.heap Z) := fun y o e => by
    refine hidT_get (hK y o e) ?_
    rcases hz y with n | ⟨q, n, _⟩
    · exact n
    · rw [q, n] at e
      cases e
  have keptN : ∀ {y : Addr} {m : Str → Option Value}, S.heap.Ns y m → (hidT S.heap Z).Ns y m := by
    rintro y m ⟨o, es, ep, e1, e2, e3⟩
    exact ⟨o, es, ep, hidT_get e1 (away e1 e2), e2, e3⟩
  obtain ⟨ml, l1, l2⟩ := hL
  have hM : Mod K mg (hidT S.heap Z) := ⟨keptK, keptN hG, ⟨mb, keptN hB, hN⟩, ⟨ml, keptN l1, l2⟩⟩
  have hE : Env0 P w K mg (hidT S.heap Z) callerA [] S Z := by
    refine ⟨rfl, hM, fun y o e => of_hidT e, Nat.le_of_eq (hidT_size _ _), trivial, fun y hy => ?_, hZ, .of_eq hgen⟩
    have hy' : y ∈ ([] : List Addr) := hy
    cases hy'
  have step := (hF _ keptK (keptN hG)).run callerA [] S Z ⟨[.ref a], []⟩ [.ref a] [.ref a] (fun v _ => v = .bl true) (fun _ _ _ => False) rfl hr hE (hbind S (.ref a)) (.cons rfl .nil) hq
  refine codeAny_mono step ?_
  rintro (e | fl) t h
  · exact False.elim h
  · cases fl <;> first | exact False.elim h | skip
    obtain ⟨v, Z', ho, hb, un, hZ', rv, ev⟩ := h
    cases (show v = .bl true from ev)
    cases rv
    refine ⟨rfl, OldK.of_keep fun y o e1 => ?_, ho, hb⟩
    rcases hz y with n | ⟨_, _, u, ws, e2⟩
    · refine un.keep y o e1 n (fun z => ?_) (by simp)
      have z' : y ∈ ([] : List Addr) := z
      cases z'
    · obtain ⟨g1, _⟩ := hZ y _ e2
      obtain ⟨g2, _⟩ := hZ' y _ (un.frzs y u _ e2)
      rw [e1] at g1
      rw [Option.some.inj g1]
      exact g2
theorem law_callG (hK : K.In S.heap) (hG : S.heap.Ns mainGlobals mg) (hB : S.heap.Ns builtinsNs mb) (hN : ∀ y : Str, y ≠ "__name__" → mb y = bootBuiltins y) (hL : S.heap.NoLimit) (hgen : S.gens = #[])
    (hobj : S.heap.get? a = some { cls := .type "list", data := .seq us.toArray }) (hi : IntsAre us ns) (hl : ns.length ≤ sizeLine) (hr : Room k callerA) (hF : ∀ base : Heap, K.In base → base.Ns mainGlobals mg → FnG P w K mg base CX0 k fa fd [x] sp)
    (hbind : ∀ (t : Shared) (u : Value), BindsTo t fd ⟨[u], []⟩ [(x, u)]) (hsp : ∀ Z : Hp, SqL K Z a (ns.map V.int) → sp [.ref a] Z (fun v _ => v = .bl true) fun _ _ _ => False) :
    codeAny (model P w) callerA (.call (.ref fa) ⟨[.ref a], []⟩) (fun r t => r = .ok (.ret (.bool true)) ∧ OldK S.heap t.heap ∧ t.os = S.os ∧ AllBare t.gens) S := by
  have rv := vals_ints hi
  cases e : K.lookup a with
  | some o =>
    have e1 := hK a o e
    rw [hobj] at e1
    rw [← Option.some.inj e1] at e
    have hsz : us.toArray.size ≤ sizeLine := by
      rw [List.size_toArray, hi.length]
      exact hl
    exact lone_run (Z := fun _ => none) (fun _ => .inl rfl) (fun y u z => nomatch z) hK hG hB hN hL hgen hobj hr hF hbind (hsp _ (.inr ⟨_, _, _, e, rfl, rfl, rfl, hsz, by simpa using rv⟩))
  | none =>
    let Z : Hp := fun y => if y = a then some (.frz { cls := .type "list", data := .seq us.toArray } (.lst (ns.map V.int))) else none
    have za : Z a = some (.frz { cls := .type "list", data := .seq us.toArray } (.lst (ns.map V.int))) := if_pos rfl
    have zn : ∀ y, y ≠ a → Z y = none := fun y h => if_neg h
    refine lone_run (Z := Z) (fun y => ?_) (fun y u z => ?_) hK hG hB hN hL hgen hobj hr hF hbind (hsp Z (.inl (.inr ⟨_, za⟩)))
    · by_cases h : y = a
      · exact .inr ⟨h, e, _, _, by rw [h]; exact za⟩
      · exact .inl (zn y h)
    · by_cases h : y = a
      · subst h
        rw [za] at z
        cases z
        exact ⟨hobj, by rw [List.length_map]; exact hl, us, _, rv, hobj⟩
      · rw [zn y h] at z
        cases z
end
end L2.K87
set_option Elab.async false
set_option linter.all false
set_option autoImplicit false
set_option maxRecDepth 100000
set_option maxHeartbeats 4000000
/-! The facts of the head, put together. -/
namespace L2.K87
open PySem PySem.Spec PyProof.Rows
section
variable {P : Program} {w : World} {K : PySem.W.Frag} {mg : Str → Option Value} {base : Heap} {h : Heap} {f C : Addr} {fd : FuncData}
theorem cal_of4 {x : Str} {st : Stmt} {ps : List Str} {k : Nat} {sp : Sp} (F : FnP K x x st [("most", .int 200)] f fd) (g : mg x = some (.ref f)) (hn : ps.length = 5) (ok : FnOk P w K mg base CX0 k f fd ps sp)
    (hb : ∀ (D : Addr) (doc pm : Value) (an : Option Addr) (cdv ct : Value) (a b c d m : Value), KwChain D [("most", m)] (bindArgs (PySem.W.fnOf x x (defArgs st) (defBody st) (defScope st) .none (.ref D) doc pm an cdv ct) ⟨[a, b, c, d], []⟩) (ps.zip [a, b, c, d, m])) :
    CalK P w K mg base k x ps [.int 200] sp := by
  obtain ⟨ds, v, b⟩ := FunD.binds0 (ps := ps) F 4 (by simp) hn.symm fun D doc pm an cdv ct us ks hl hk => by
    match us, ks, hl, hk with
    | [a, b, c, d], [m], _, _ => exact hb D doc pm an cdv ct a b c d m
  exact ⟨f, fd, ds, ok, g, F.kp, v, b⟩
theorem txt_ok (X : K.In h) (G : h.Ns mainGlobals mg) (c : He.SaysD fas fns K) : Txt mg :=
  ⟨He.free_ok X G (c.fact 49 (f := .free "len") rfl), He.free_ok X G (c.fact 50 (f := .free "isinstance") rfl), He.free_ok X G (c.fact 51 (f := .free "all") rfl), He.free_ok X G (c.fact 52 (f := .free "tuple") rfl), He.free_ok X G (c.fact 53 (f := .free "list") rfl), He.free_ok X G (c.fact 54 (f := .free "dict") rfl), He.free_ok X G (c.fact 55 (f := .free "set") rfl), He.free_ok X G (c.fact 56 (f := .free "sorted") rfl), He.free_ok X G (c.fact 57 (f := .free "reversed") rfl), He.free_ok X G (c.fact 58 (f := .free "zip") rfl), He.free_ok X G (c.fact 59 (f := .free "enumerate") rfl), He.free_ok X G (c.fact 60 (f := .free "range") rfl), He.free_ok X G (c.fact 61 (f := .free "min") rfl), He.free_ok X G (c.fact 62 (f := .free "max") rfl), He.free_ok X G (c.fact 63 (f := .free "sum") rfl), He.free_ok X G (c.fact 64 (f := .free "abs") rfl), He.free_ok X G (c.fact 65 (f := .free "int") rfl), He.free_ok X G (c.fact 66 (f := .free "repr") rfl), He.free_ok X G (c.fact 67 (f := .free "str") rfl), He.free_ok X G (c.fact 68 (f := .free "bool") rfl)⟩
theorem con_ok (X : K.In h) (G : h.Ns mainGlobals mg) (c : He.SaysD fas fns K) : Con mg :=
  ⟨He.str_ok X G (c.fact 45 (f := .str "LETTERS" "abcdefghijklmnopqrstuvwxyz") rfl), He.int_ok X G (c.fact 46 (f := .int "LONGEST_NAME" 8) rfl), He.int_ok X G (c.fact 47 (f := .int "MOST_LENGTH" 1000000000) rfl), He.int_ok X G (c.fact 48 (f := .int "MOST_SLEEPERS" 40) rfl)⟩
theorem book_ok (X : K.In h) (G : h.Ns mainGlobals mg) (c : He.SaysD fas fns K) : BookC K mg (He.ga K "Book") :=
  ⟨He.cls_ok (c.fact 39 (f := .cls "Book") rfl), He.noat_ok (c.fact 40 (f := .noat "Book" "rows") rfl), He.glo_ok X G (c.fact 38 (f := .glo "Book") rfl)⟩
theorem law_all (X : K.In h) (G : h.Ns mainGlobals mg) (c : He.SaysD fas fns K) (F : FnP K "law" "law" slaw [] f fd) : FnG P w K mg base CX0 9 f fd ["_law_script"] (spLaw K) := by
  have T := txt_ok X G c
  have Cn := con_ok X G c
  have B := book_ok X G c
  obtain ⟨fd_is_whole, E_is_whole⟩ := c.def_ 3 (d := dis_whole) rfl
  have F_is_whole : FnP K "is_whole" "is_whole" sis_whole [] (He.ga K "is_whole") fd_is_whole := E_is_whole
  have c_is_whole : Cal P w K mg base 1 "is_whole" ["thing"] spWhole := cal_of F_is_whole (He.glo_ok X G (c.fact 3 (f := .glo "is_whole") rfl)) (ok_whole F_is_whole T) fun _ _ _ _ _ _ us hl => match us, hl with | [_], _ => rfl
  obtain ⟨fd_is_between, E_is_between⟩ := c.def_ 4 (d := dis_between) rfl
  have F_is_between : FnP K "is_between" "is_between" sis_between [] (He.ga K "is_between") fd_is_between := E_is_between
  have c_is_between : Cal P w K mg base 2 "is_between" ["thing", "low", "high"] spBetween := cal_of F_is_between (He.glo_ok X G (c.fact 4 (f := .glo "is_between") rfl)) (ok_between F_is_between c_is_whole) fun _ _ _ _ _ _ us hl => match us, hl with | [_, _, _], _ => rfl
  obtain ⟨fd_is_length, E_is_length⟩ := c.def_ 6 (d := dis_length) rfl
  have F_is_length : FnP K "is_length" "is_length" sis_length [] (He.ga K "is_length") fd_is_length := E_is_length
  have c_is_length : Cal P w K mg base 3 "is_length" ["thing"] spLength := cal_of F_is_length (He.glo_ok X G (c.fact 6 (f := .glo "is_length") rfl)) (ok_length F_is_length Cn c_is_between) fun _ _ _ _ _ _ us hl => match us, hl with | [_], _ => rfl
  obtain ⟨fd_is_name, E_is_name⟩ := c.def_ 5 (d := dis_name) rfl
  have F_is_name : FnP K "is_name" "is_name" sis_name [] (He.ga K "is_name") fd_is_name := E_is_name
  have c_is_name : Cal P w K mg base 1 "is_name" ["thing"] spName := cal_of F_is_name (He.glo_ok X G (c.fact 5 (f := .glo "is_name") rfl)) (ok_name F_is_name T Cn) fun _ _ _ _ _ _ us hl => match us, hl with | [_], _ => rfl
  obtain ⟨fd_Booksleep, E_Booksleep⟩ := c.def_ 20 (d := dBooksleep) rfl
  have F_Booksleep : FnP K "sleep" "Book.sleep" sBooksleep [] (He.ma K (He.ga K "Book") "sleep") fd_Booksleep := E_Booksleep
  have c_Booksleep : MCal P w K mg base (He.ga K "Book") 3 "sleep" ["self", "many"] (spSleep (He.ga K "Book")) := ⟨_, _, ok_sleep F_Booksleep T B c_is_between, He.meth_ok (c.fact 42 (f := .meth "Book" "sleep") rfl), F_Booksleep.bindsN fun _ _ _ _ _ _ us hl => match us, hl with | [_, _], _ => rfl⟩
  obtain ⟨fd_beat, E_beat⟩ := c.def_ 0 (d := dbeat) rfl
  have F_beat : FnP K "beat" "beat" sbeat [] (He.ga K "beat") fd_beat := E_beat
  have c_beat : Cal P w K mg base 4 "beat" ["book", "standing"] (spBeat (He.ga K "Book")) := cal_of F_beat (He.glo_ok X G (c.fact 0 (f := .glo "beat") rfl)) (ok_beat F_beat T B c_Booksleep) fun _ _ _ _ _ _ us hl => match us, hl with | [_, _], _ => rfl
  obtain ⟨fd_with_calls, E_with_calls⟩ := c.def_ 1 (d := dwith_calls) rfl
  have F_with_calls : FnP K "with_calls" "with_calls" swith_calls [] (He.ga K "with_calls") fd_with_calls := E_with_calls
  have c_with_calls : Cal P w K mg base 1 "with_calls" ["standing", "stroke"] spWith := cal_of F_with_calls (He.glo_ok X G (c.fact 1 (f := .glo "with_calls") rfl)) (ok_with F_with_calls T) fun _ _ _ _ _ _ us hl => match us, hl with | [_, _], _ => rfl
  obtain ⟨fd_called, E_called⟩ := c.def_ 2 (d := dcalled) rfl
  have F_called : FnP K "called" "called" scalled [] (He.ga K "called") fd_called := E_called
  have c_called : Cal P w K mg base 5 "called" ["book", "standing", "stroke"] (spCalled (He.ga K "Book")) := cal_of F_called (He.glo_ok X G (c.fact 2 (f := .glo "called") rfl)) (ok_called F_called c_beat c_with_calls) fun _ _ _ _ _ _ us hl => match us, hl with | [_, _, _], _ => rfl
  obtain ⟨fd_Booklengths, E_Booklengths⟩ := c.def_ 19 (d := dBooklengths) rfl
  have F_Booklengths : FnP K "lengths" "Book.lengths" sBooklengths [] (He.ma K (He.ga K "Book") "lengths") fd_Booklengths := E_Booklengths
  have c_Booklengths : MCal P w K mg base (He.ga K "Book") 1 "lengths" ["self"] (spBlengths (He.ga K "Book")) := ⟨_, _, ok_blengths F_Booklengths T B, He.meth_ok (c.fact 41 (f := .meth "Book" "lengths") rfl), F_Booklengths.bindsN fun _ _ _ _ _ _ us hl => match us, hl with | [_], _ => rfl⟩
  obtain ⟨fd_Booklen, E_Booklen⟩ := c.def_ 21 (d := dBooklen) rfl
  have F_Booklen : FnP K "__len__" "Book.__len__" sBooklen [] (He.ma K (He.ga K "Book") "__len__") fd_Booklen := E_Booklen
  have c_Booklen : MCal P w K mg base (He.ga K "Book") 1 "__len__" ["self"] (spBlen (He.ga K "Book")) := ⟨_, _, ok_blen F_Booklen T B, He.meth_ok (c.fact 43 (f := .meth "Book" "__len__") rfl), F_Booklen.bindsN fun _ _ _ _ _ _ us hl => match us, hl with | [_], _ => rfl⟩
  obtain ⟨fd_groups_of, E_groups_of⟩ := c.def_ 7 (d := dgroups_of) rfl
  have F_groups_of : FnP K "groups_of" "groups_of" sgroups_of [] (He.ga K "groups_of") fd_groups_of := E_groups_of
  have c_groups_of : Cal P w K mg base 1 "groups_of" ["standing"] spGroups := cal_of F_groups_of (He.glo_ok X G (c.fact 7 (f := .glo "groups_of") rfl)) (ok_groups F_groups_of T) fun _ _ _ _ _ _ us hl => match us, hl with | [_], _ => rfl
  obtain ⟨fd_meets, E_meets⟩ := c.def_ 9 (d := dmeets) rfl
  have F_meets : FnP K "meets" "meets" smeets [] (He.ga K "meets") fd_meets := E_meets
  have c_meets : Cal P w K mg base 2 "meets" ["standing", "wish"] spMeets := cal_of F_meets (He.glo_ok X G (c.fact 9 (f := .glo "meets") rfl)) (ok_meets F_meets T c_groups_of) fun _ _ _ _ _ _ us hl => match us, hl with | [_, _], _ => rfl
  obtain ⟨fd_lot_of, E_lot_of⟩ := c.def_ 10 (d := dlot_of) rfl
  have F_lot_of : FnP K "lot_of" "lot_of" slot_of [] (He.ga K "lot_of") fd_lot_of := E_lot_of
  have c_lot_of : Cal P w K mg base 6 "lot_of" ["book", "standing", "strokes", "most"] (spLot P w (He.ga K "Book")) := cal_of F_lot_of (He.glo_ok X G (c.fact 10 (f := .glo "lot_of") rfl)) (ok_lot F_lot_of T c_called) fun _ _ _ _ _ _ us hl => match us, hl with | [_, _, _, _], _ => rfl
  obtain ⟨fd_costs_of, E_costs_of⟩ := c.def_ 11 (d := dcosts_of) rfl
  have F_costs_of : FnP K "costs_of" "costs_of" scosts_of [] (He.ga K "costs_of") fd_costs_of := E_costs_of
  have c_costs_of : Cal P w K mg base 3 "costs_of" ["ways", "strokes", "wish"] (spCosts P w) := cal_of F_costs_of (He.glo_ok X G (c.fact 11 (f := .glo "costs_of") rfl)) (ok_costs F_costs_of T c_meets) fun _ _ _ _ _ _ us hl => match us, hl with | [_, _, _], _ => rfl
  obtain ⟨fd_told_prices, E_told_prices⟩ := c.def_ 12 (d := dtold_prices) rfl
  have F_told_prices : FnP K "told_prices" "told_prices" stold_prices [] (He.ga K "told_prices") fd_told_prices := E_told_prices
  have c_told_prices : Cal P w K mg base 1 "told_prices" ["ways", "costs"] (spTold P w) := cal_of F_told_prices (He.glo_ok X G (c.fact 12 (f := .glo "told_prices") rfl)) (ok_told F_told_prices T) fun _ _ _ _ _ _ us hl => match us, hl with | [_, _], _ => rfl
  obtain ⟨fd_prices, E_prices⟩ := c.def_ 13 (d := dprices) rfl
  have F_prices : FnP K "prices" "prices" sprices [("most", .int 200)] (He.ga K "prices") fd_prices := E_prices
  have c_prices : CalK P w K mg base 7 "prices" psAsk [.int 200] (spPrices (He.ga K "Book")) := cal_of4 F_prices (He.glo_ok X G (c.fact 13 (f := .glo "prices") rfl)) rfl (ok_prices F_prices T c_lot_of c_costs_of c_told_prices) fun _ _ _ _ _ _ _ _ _ _ _ => ⟨_, _, _, _, _, _, rfl, rfl, rfl⟩
  obtain ⟨fd_fewest, E_fewest⟩ := c.def_ 14 (d := dfewest) rfl
  have F_fewest : FnP K "fewest" "fewest" sfewest [("most", .int 200)] (He.ga K "fewest") fd_fewest := E_fewest
  have c_fewest : CalK P w K mg base 7 "fewest" psAsk [.int 200] (spFewest (He.ga K "Book")) := cal_of4 F_fewest (He.glo_ok X G (c.fact 14 (f := .glo "fewest") rfl)) rfl (ok_fewest F_fewest T c_lot_of c_costs_of c_told_prices) fun _ _ _ _ _ _ _ _ _ _ _ => ⟨_, _, _, _, _, _, rfl, rfl, rfl⟩
  obtain ⟨fd_is_standing, E_is_standing⟩ := c.def_ 8 (d := dis_standing) rfl
  have F_is_standing : FnP K "is_standing" "is_standing" sis_standing [] (He.ga K "is_standing") fd_is_standing := E_is_standing
  have c_is_standing : Cal P w K mg base 2 "is_standing" ["thing", "names"] spStanding := cal_of F_is_standing (He.glo_ok X G (c.fact 8 (f := .glo "is_standing") rfl)) (ok_standing F_is_standing T c_is_whole) fun _ _ _ _ _ _ us hl => match us, hl with | [_, _], _ => rfl
  obtain ⟨fd_is_bounded, E_is_bounded⟩ := c.def_ 16 (d := dis_bounded) rfl
  have F_is_bounded : FnP K "is_bounded" "is_bounded" sis_bounded [] (He.ga K "is_bounded") fd_is_bounded := E_is_bounded
  have c_is_bounded : Cal P w K mg base 1 "is_bounded" ["price", "calls", "behind"] spBounded := cal_of F_is_bounded (He.glo_ok X G (c.fact 16 (f := .glo "is_bounded") rfl)) (ok_bounded F_is_bounded) fun _ _ _ _ _ _ us hl => match us, hl with | [_, _, _], _ => rfl
  obtain ⟨fd_is_priced, E_is_priced⟩ := c.def_ 15 (d := dis_priced) rfl
  have F_is_priced : FnP K "is_priced" "is_priced" sis_priced [] (He.ga K "is_priced") fd_is_priced := E_is_priced
  have c_is_priced : Cal P w K mg base 3 "is_priced" ["thing", "book", "strokes", "wish"] (spPriced (He.ga K "Book")) := cal_of F_is_priced (He.glo_ok X G (c.fact 15 (f := .glo "is_priced") rfl)) (ok_priced F_is_priced T c_is_whole c_is_name c_is_standing c_Booklen) fun _ _ _ _ _ _ us hl => match us, hl with | [_, _, _, _], _ => rfl
  obtain ⟨fd_is_fair, E_is_fair⟩ := c.def_ 17 (d := dis_fair) rfl
  have F_is_fair : FnP K "is_fair" "is_fair" sis_fair [] (He.ga K "is_fair") fd_is_fair := E_is_fair
  have c_is_fair : Cal P w K mg base 6 "is_fair" ["book", "strokes", "wish", "thing"] (spFair (He.ga K "Book")) := cal_of F_is_fair (He.glo_ok X G (c.fact 17 (f := .glo "is_fair") rfl)) (ok_fair F_is_fair T c_is_priced c_meets c_called c_is_bounded) fun _ _ _ _ _ _ us hl => match us, hl with | [_, _, _, _], _ => rfl
  obtain ⟨fd_Lbag, E_Lbag⟩ := c.def_ 22 (d := dLbag) rfl
  have F_Lbag : FnP K "_law_bag" "_law_bag" sLbag [] (He.ga K "_law_bag") fd_Lbag := E_Lbag
  have c_Lbag : Cal P w K mg base 1 "_law_bag" ["_law_script"] (spLBagK K) := cal_of F_Lbag (He.glo_ok X G (c.fact 18 (f := .glo "_law_bag") rfl)) (ok_LbagK F_Lbag T) fun _ _ _ _ _ _ us hl => match us, hl with | [_], _ => rfl
  obtain ⟨fd_Ltake, E_Ltake⟩ := c.def_ 23 (d := dLtake) rfl
  have F_Ltake : FnP K "_law_take" "_law_take" sLtake [] (He.ga K "_law_take") fd_Ltake := E_Ltake
  have c_Ltake : Cal P w K mg base 1 "_law_take" ["_law_bag_here", "_law_many"] spTake := cal_of F_Ltake (He.glo_ok X G (c.fact 19 (f := .glo "_law_take") rfl)) (ok_Ltake F_Ltake T) fun _ _ _ _ _ _ us hl => match us, hl with | [_, _], _ => rfl
  obtain ⟨fd_Lnames, E_Lnames⟩ := c.def_ 24 (d := dLnames) rfl
  have F_Lnames : FnP K "_law_names" "_law_names" sLnames [] (He.ga K "_law_names") fd_Lnames := E_Lnames
  have c_Lnames : Cal P w K mg base 2 "_law_names" ["_law_bag_here", "_law_many"] spNames := cal_of F_Lnames (He.glo_ok X G (c.fact 20 (f := .glo "_law_names") rfl)) (ok_Lnames F_Lnames T c_Ltake) fun _ _ _ _ _ _ us hl => match us, hl with | [_, _], _ => rfl
  obtain ⟨fd_Lspans, E_Lspans⟩ := c.def_ 25 (d := dLspans) rfl
  have F_Lspans : FnP K "_law_spans" "_law_spans" sLspans [] (He.ga K "_law_spans") fd_Lspans := E_Lspans
  have c_Lspans : Cal P w K mg base 2 "_law_spans" ["_law_bag_here", "_law_many", "_law_most"] spSpans := cal_of F_Lspans (He.glo_ok X G (c.fact 21 (f := .glo "_law_spans") rfl)) (ok_Lspans F_Lspans T c_Ltake) fun _ _ _ _ _ _ us hl => match us, hl with | [_, _, _], _ => rfl
  obtain ⟨fd_Lrests, E_Lrests⟩ := c.def_ 26 (d := dLrests) rfl
  have F_Lrests : FnP K "_law_rests" "_law_rests" sLrests [] (He.ga K "_law_rests") fd_Lrests := E_Lrests
  have c_Lrests : Cal P w K mg base 2 "_law_rests" ["_law_bag_here", "_law_many", "_law_most"] spSpans := cal_of F_Lrests (He.glo_ok X G (c.fact 22 (f := .glo "_law_rests") rfl)) (ok_Lrests F_Lrests T c_Ltake) fun _ _ _ _ _ _ us hl => match us, hl with | [_, _, _], _ => rfl
  obtain ⟨fd_Lhall, E_Lhall⟩ := c.def_ 27 (d := dLhall) rfl
  have F_Lhall : FnP K "_law_hall" "_law_hall" sLhall [] (He.ga K "_law_hall") fd_Lhall := E_Lhall
  have c_Lhall : Cal P w K mg base 3 "_law_hall" ["_law_bag_here", "_law_many", "_law_most", "_law_longest"] spHall := cal_of F_Lhall (He.glo_ok X G (c.fact 23 (f := .glo "_law_hall") rfl)) (ok_Lhall F_Lhall T c_Ltake c_Lnames c_Lspans c_Lrests) fun _ _ _ _ _ _ us hl => match us, hl with | [_, _, _, _], _ => rfl
  obtain ⟨fd_Lstand, E_Lstand⟩ := c.def_ 28 (d := dLstand) rfl
  have F_Lstand : FnP K "_law_stand" "_law_stand" sLstand [] (He.ga K "_law_stand") fd_Lstand := E_Lstand
  have c_Lstand : Cal P w K mg base 1 "_law_stand" ["_law_rests_here"] spLStand := cal_of F_Lstand (He.glo_ok X G (c.fact 24 (f := .glo "_law_stand") rfl)) (ok_Lstand F_Lstand T) fun _ _ _ _ _ _ us hl => match us, hl with | [_], _ => rfl
  obtain ⟨fd_Lafter, E_Lafter⟩ := c.def_ 29 (d := dLafter) rfl
  have F_Lafter : FnP K "_law_after" "_law_after" sLafter [] (He.ga K "_law_after") fd_Lafter := E_Lafter
  have c_Lafter : Cal P w K mg base 1 "_law_after" ["_law_spans_here", "_law_rests_here"] spAfter := cal_of F_Lafter (He.glo_ok X G (c.fact 25 (f := .glo "_law_after") rfl)) (ok_Lafter F_Lafter T) fun _ _ _ _ _ _ us hl => match us, hl with | [_, _], _ => rfl
  obtain ⟨fd_Lcalled, E_Lcalled⟩ := c.def_ 30 (d := dLcalled) rfl
  have F_Lcalled : FnP K "_law_called" "_law_called" sLcalled [] (He.ga K "_law_called") fd_Lcalled := E_Lcalled
  have c_Lcalled : Cal P w K mg base 2 "_law_called" ["_law_spans_here", "_law_stand_here", "_law_stroke"] spLCalled := cal_of F_Lcalled (He.glo_ok X G (c.fact 26 (f := .glo "_law_called") rfl)) (ok_Lcalled F_Lcalled T c_Lafter c_Lstand) fun _ _ _ _ _ _ us hl => match us, hl with | [_, _, _], _ => rfl
  obtain ⟨fd_Lstrokes, E_Lstrokes⟩ := c.def_ 31 (d := dLstrokes) rfl
  have F_Lstrokes : FnP K "_law_strokes" "_law_strokes" sLstrokes [] (He.ga K "_law_strokes") fd_Lstrokes := E_Lstrokes
  have c_Lstrokes : Cal P w K mg base 2 "_law_strokes" ["_law_bag_here", "_law_names_here", "_law_bound"] spStrokes := cal_of F_Lstrokes (He.glo_ok X G (c.fact 27 (f := .glo "_law_strokes") rfl)) (ok_Lstrokes F_Lstrokes T c_Ltake) fun _ _ _ _ _ _ us hl => match us, hl with | [_, _, _], _ => rfl
  obtain ⟨fd_Lmeets, E_Lmeets⟩ := c.def_ 32 (d := dLmeets) rfl
  have F_Lmeets : FnP K "_law_meets" "_law_meets" sLmeets [] (He.ga K "_law_meets") fd_Lmeets := E_Lmeets
  have c_Lmeets : Cal P w K mg base 1 "_law_meets" ["_law_stand_here", "_law_wish_here"] spMeets := cal_of F_Lmeets (He.glo_ok X G (c.fact 28 (f := .glo "_law_meets") rfl)) (ok_Lmeets F_Lmeets T) fun _ _ _ _ _ _ us hl => match us, hl with | [_, _], _ => rfl
  obtain ⟨fd_Lwish, E_Lwish⟩ := c.def_ 33 (d := dLwish) rfl
  have F_Lwish : FnP K "_law_wish" "_law_wish" sLwish [] (He.ga K "_law_wish") fd_Lwish := E_Lwish
  have c_Lwish : Cal P w K mg base 2 "_law_wish" ["_law_bag_here", "_law_names_here"] spLWish := cal_of F_Lwish (He.glo_ok X G (c.fact 29 (f := .glo "_law_wish") rfl)) (ok_Lwish F_Lwish T c_Ltake) fun _ _ _ _ _ _ us hl => match us, hl with | [_, _], _ => rfl
  obtain ⟨fd_Lwished, E_Lwished⟩ := c.def_ 34 (d := dLwished) rfl
  have F_Lwished : FnP K "_law_wished" "_law_wished" sLwished [] (He.ga K "_law_wished") fd_Lwished := E_Lwished
  have c_Lwished : Cal P w K mg base 4 "_law_wished" ["_law_bag_here", "_law_sizes", "_law_top", "_law_longest"] spWished := cal_of F_Lwished (He.glo_ok X G (c.fact 30 (f := .glo "_law_wished") rfl)) (ok_Lwished F_Lwished T c_Ltake c_Lhall c_Lstrokes c_Lstand c_Lwish) fun _ _ _ _ _ _ us hl => match us, hl with | [_, _, _, _], _ => rfl
  obtain ⟨fd_Llot, E_Llot⟩ := c.def_ 35 (d := dLlot) rfl
  have F_Llot : FnP K "_law_lot" "_law_lot" sLlot [] (He.ga K "_law_lot") fd_Llot := E_Llot
  have c_Llot : Cal P w K mg base 3 "_law_lot" ["_law_spans_here", "_law_stand_here", "_law_strokes_here", "_law_bound"] spLLot := cal_of F_Llot (He.glo_ok X G (c.fact 31 (f := .glo "_law_lot") rfl)) (ok_Llot F_Llot T c_Lcalled) fun _ _ _ _ _ _ us hl => match us, hl with | [_, _, _, _], _ => rfl
  obtain ⟨fd_Lcosts, E_Lcosts⟩ := c.def_ 36 (d := dLcosts) rfl
  have F_Lcosts : FnP K "_law_costs" "_law_costs" sLcosts [] (He.ga K "_law_costs") fd_Lcosts := E_Lcosts
  have c_Lcosts : Cal P w K mg base 3 "_law_costs" ["_law_spans_here", "_law_some", "_law_strokes_here", "_law_wish_here"] (spLCosts P w) := cal_of F_Lcosts (He.glo_ok X G (c.fact 32 (f := .glo "_law_costs") rfl)) (ok_Lcosts F_Lcosts T c_Lcalled c_Lmeets) fun _ _ _ _ _ _ us hl => match us, hl with | [_, _, _, _], _ => rfl
  obtain ⟨fd_Lfirst_row, E_Lfirst_row⟩ := c.def_ 37 (d := dLfirst_row) rfl
  have F_Lfirst_row : FnP K "_law_first_row" "_law_first_row" sLfirst_row [] (He.ga K "_law_first_row") fd_Lfirst_row := E_Lfirst_row
  have c_Lfirst_row : Cal P w K mg base 3 "_law_first_row" ["_law_spans_here", "_law_stand_here", "_law_strokes_here", "_law_costs_here"] (spFirst P w) := cal_of F_Lfirst_row (He.glo_ok X G (c.fact 33 (f := .glo "_law_first_row") rfl)) (ok_Lfirst F_Lfirst_row T c_Lcalled) fun _ _ _ _ _ _ us hl => match us, hl with | [_, _, _, _], _ => rfl
  obtain ⟨fd_Lnever_right, E_Lnever_right⟩ := c.def_ 38 (d := dLnever_right) rfl
  have F_Lnever_right : FnP K "_law_never_right" "_law_never_right" sLnever_right [] (He.ga K "_law_never_right") fd_Lnever_right := E_Lnever_right
  have c_Lnever_right : Cal P w K mg base 3 "_law_never_right" ["_law_spans_here", "_law_stand_here", "_law_strokes_here", "_law_wish_here", "_law_told"] spNever := cal_of F_Lnever_right (He.glo_ok X G (c.fact 34 (f := .glo "_law_never_right") rfl)) (ok_Lnever F_Lnever_right T c_Lcalled c_Lmeets) fun _ _ _ _ _ _ us hl => match us, hl with | [_, _, _, _, _], _ => rfl
  obtain ⟨fd_Lno_less, E_Lno_less⟩ := c.def_ 39 (d := dLno_less) rfl
  have F_Lno_less : FnP K "_law_no_less" "_law_no_less" sLno_less [] (He.ga K "_law_no_less") fd_Lno_less := E_Lno_less
  have c_Lno_less : Cal P w K mg base 3 "_law_no_less" ["_law_bag_here", "_law_spans_here", "_law_stand_here", "_law_strokes_here", "_law_wish_here", "_law_price"] spNoLess := cal_of F_Lno_less (He.glo_ok X G (c.fact 35 (f := .glo "_law_no_less") rfl)) (ok_Lno_less F_Lno_less T c_Ltake c_Lcalled c_Lmeets) fun _ _ _ _ _ _ us hl => match us, hl with | [_, _, _, _, _, _], _ => rfl
  obtain ⟨fd_Bookinit, E_Bookinit⟩ := c.def_ 18 (d := dBookinit) rfl
  have F_Bookinit : FnP K "__init__" "Book.__init__" sBookinit [] (He.ma K (He.ga K "Book") "__init__") fd_Bookinit := E_Bookinit
  have M : MkC P w K mg base (He.ga K "Book") := ⟨_, _, He.mkr_ok (c.fact 44 (f := .mkr "Book") rfl), ok_binit F_Bookinit T Cn B c_is_length, F_Bookinit.bindsN fun _ _ _ _ _ _ us hl => match us, hl with | [_, _], _ => rfl⟩
  obtain ⟨fd_Lright, E_Lright⟩ := c.def_ 40 (d := dLright) rfl
  have F_Lright : FnP K "_law_right" "_law_right" sLright [] (He.ga K "_law_right") fd_Lright := E_Lright
  have c_right : CalG P w K mg base 8 "_law_right" ["_law_book", "_law_stand_here", "_law_strokes_here", "_law_wish_here", "_law_costs_here"] (spRight P w (He.ga K "Book")) := ⟨_, _, ok_Lright F_Lright T B c_Booklengths c_fewest c_prices c_is_fair c_Lfirst_row c_Lnever_right, He.glo_ok X G (c.fact 36 (f := .glo "_law_right") rfl), F_Lright.kp, F_Lright.bindsN fun _ _ _ _ _ _ us hl => match us, hl with | [_, _, _, _, _], _ => rfl⟩
  exact ok_law F T B M c_Lbag c_Lwished c_Llot c_Lwish c_Lcosts c_right c_Lno_less
theorem facts (X : K.In h) (G : h.Ns mainGlobals mg) (hfa : mg ("law" : Str) = some (.ref f)) (c : He.SaysD fas fns K) :
    ∃ fd : FuncData, (∀ (t : Shared) (u : Value), BindsTo t fd ⟨[u], []⟩ [("_law_script", u)]) ∧ ∀ base : Heap, K.In base → base.Ns mainGlobals mg → FnG P w K mg base CX0 9 f fd ["_law_script"] (spLaw K) := by
  obtain ⟨fd, F⟩ := c.def_ 41 (d := dlaw) rfl
  have e := hfa.symm.trans (He.glo_ok X G (c.fact 37 (f := .glo "law") rfl))
  cases e
  have b := FunD.bindsA (ps := ["_law_script"]) F fun _ _ _ _ _ _ us hl => match us, hl with | [_], _ => rfl
  exact ⟨fd, fun t u => b t [u] rfl, fun base _ _ => law_all X G c F⟩
end
end L2.K87
set_option Elab.async false
set_option linter.all false
set_option autoImplicit false
set_option maxRecDepth 100000
set_option maxHeartbeats 0
namespace L2.K87
open PySem PySem.Spec PyProof.Rows
/-- a law over FnG: as walk_ofE -/
theorem walk_ofG {l : PySem.W.OpenLaw} {n k : Nat} {q : Program} {loose : List Str} {XP : (Str → Option Value) → Heap → Prop} {YP : World → Heap → Prop} {d : DefRec} {x : Str} (hn : l.most = some n) (hn2 : n ≤ sizeLine) (hdf : d.params.defaults = []) (hr : Room k callerA)
    (F : ∀ (w : World) (mg : Str → Option Value) (fa : Addr) (h : Heap), YP w h → h.Ns mainGlobals mg → mg d.name = some (.ref fa) → ∃ (K : PySem.W.Frag) (fd : FuncData) (sp : Sp), K.In h ∧ (∀ (t : Shared) (u : Value), BindsTo t fd ⟨[u], []⟩ [(x, u)]) ∧
      (∀ (Z : Hp) (a : Addr) (ns : List Int), SqL K Z a (ns.map V.int) → sp [.ref a] Z (fun v _ => v = .bl true) fun _ _ _ => False) ∧ ∀ base : Heap, K.In base → base.Ns mainGlobals mg → FnG l.prog w K mg base CX0 k fa fd [x] sp) :
    PySem.W.WalkO q loose XP YP l.row.toRowW d [] (fun f vs => PySem.call f vs) := by
  refine Att.attach_call hn hdf fun w _ S mg mb fa _ _ _ _ a us ns G Y _ _ _ hmg hobj hints hlen hg => ?_
  obtain ⟨K, fd, sp, KX, hb, hsp, hF⟩ := F w mg fa _ Y G.T.g hmg
  exact law_callG KX G.T.g G.T.b G.T.builtins G.T.nolimit hg hobj hints (Nat.le_trans hlen hn2) hr hF hb fun Z hS => hsp Z a ns hS
end L2.K87
open PySem PySem.W PySem.Calls PyProof.Rows
theorem PySem.Challenge.cw_sleepmany_k87_whole_fewest_calls_holds : PySem.Challenge.rw_sleepmany_k87_whole_fewest_calls.Holds := by
  w_on; o_law
  refine HandSHeadRun.head_any (r := OpenLaw.row PySem.Challenge.rw_sleepmany_k87_whole_fewest_calls) (q := view (OpenLaw.row PySem.Challenge.rw_sleepmany_k87_whole_fewest_calls).prog [53]) (H := L2.K87.hk) (ob := L2.K87.ob) (M := 4000) (loose := L2.K87.loose) (d := HandSHeadRun.topDef (OpenLaw.row PySem.Challenge.rw_sleepmany_k87_whole_fewest_calls).prog 53) (kwd := []) L2.K87.ob_eq
    (by kernel_rfl) (fun s => by kernel_rfl) L2.K87.run (by kernel_rfl) (by kernel_rfl) (by kernel_rfl) (by rfl) (by first | assumption | decide +kernel) (by decide +kernel) ⟨rfl, rfl, rfl, rfl, rfl, by decide +kernel⟩ ?hw ?hc
  case hw => w_witness2
  case hc =>
    refine L2.K87.walk_ofG (l := PySem.Challenge.rw_sleepmany_k87_whole_fewest_calls) (n := 63) (k := 9) (x := "_law_script") rfl (by decide) (by kernel_rfl) ⟨rfl, by decide, by decide⟩ ?F
    intro w mg fa h Y G hmg0
    obtain ⟨K, KX, c⟩ := Y
    have hmg : mg ("law" : PySem.Str) = some (.ref fa) := by
      have e : (HandSHeadRun.topDef (OpenLaw.row PySem.Challenge.rw_sleepmany_k87_whole_fewest_calls).prog 53).name = ("law" : PySem.Str) := by kernel_rfl
      rw [← e]
      exact hmg0
    obtain ⟨fd, hb, hF⟩ := L2.K87.facts (P := (PySem.Challenge.rw_sleepmany_k87_whole_fewest_calls).prog) (w := w) KX G hmg c
    exact ⟨K, fd, L2.K87.spLaw K, KX, hb, fun Z a ns hS => ⟨a, ns, rfl, hS, fun _ => rfl⟩, hF⟩
