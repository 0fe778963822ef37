import PyProof.Rows.All
import Wide.All
import OpenK.AllK
import Wide.FinOn
import HandS.Defaults
import HandS.Ends
import KE.KStateDown
import HandS.Head0
import HandS.Head1
import HandS.Head2
import HandS.HeadEnd
import HandS.HeadHook1
import HandS.HeadHook2
import HandS.HeadHook3
import HandS.HeadHook4
import HandS.HeadWalk
import PyProof.EqAt
import PyProof.EqKinds
import PyProof.TupleCall
import HandS.ForMost
import HandS.Wide
import HandS.Walk
import HandS.Zip
import HandS.Lambda
import HandS.TupAny
import HandS.TupMul
import HandS.IsInst
import HandS.OwnEq
import HandS.Conv
import KE.KDictKeyed
import KE.KDictZip
import KE.SortKeyHeap
import HandS.TupSets
import HandS.Words
import HandS.WordsList
import HandS.NestedK
import KE.GoesEnum
import KE.KSortKey
import HandS.SortKw
import HandS.DictComp
import PyProof.TupleOfSeq
import PySem.Challenge.RW_calmblanks_k25_whole_calm_wholes_of_draw
section
set_option Elab.async false
namespace CB
open PySem PySem.Spec PyProof.Rows
def top (i : Nat) : Stmt := PySem.Challenge.pw_calmblanks_k25_whole_calm_wholes_of_draw.main.body.getD i (.Pass ⟨0, 0, 0, 0⟩)
end CB
end
section
set_option Elab.async false
set_option linter.all false
set_option maxRecDepth 100000
set_option maxHeartbeats 0
/-! The head: facts of the defs and classes behind the top. -/
namespace CB
open PySem PySem.Spec PyProof.Rows L2
namespace Hd
abbrev RW : PySem.W.OpenLaw := PySem.Challenge.rw_calmblanks_k25_whole_calm_wholes_of_draw
abbrev R : PySem.W.OpenRow := PySem.W.OpenLaw.row RW
def n0 : List PySem.Str := ["is_integer", "is_within", "is_lot", "is_pair", "all_lots", "BlankError", "BadSeen", "BadWhole", "NotFull", "NotClosed", "NoView", "ZERO", "ONE", "divisor"]
def n1 : List PySem.Str := ["lowest", "is_fraction", "plus", "times", "over", "add_all", "gathered", "MOST_COLUMNS", "MOST_WORTHS", "MOST_CONTENTS", "BLANK", "is_sizes", "is_content", "is_view", "tuples_of"]
def n2 : List PySem.Str := ["contents_of", "patterns_of", "views_of", "view_of", "pattern_of", "first_wrong", "first_bad", "Seen", "is_place", "uneven_pattern", "Whole", "sorted_shares", "raw_seen", "raw_whole", "shares_of"]
def n3 : List PySem.Str := ["pattern_at", "family", "hidden_of", "hidden", "lacking", "shows_more", "lacking_of", "check_told", "even_tilts", "tilt_at", "down", "weights_at", "quotients_by", "calm_of", "calm_whole"]
def n4 : List PySem.Str := ["quotients_of", "quotients", "quotient", "calm_part", "_law_tape", "_law_pick", "_law_any", "_law_low", "_law_plus", "_law_times", "_law_over", "_law_sum", "_law_all_times", "_law_sizes", "_law_tuples"]
def n5 : List PySem.Str := ["_law_contents", "_law_patterns", "_law_view", "_law_shows_more", "_law_family", "_law_weights", "_law_shares", "_law_rows", "_law_hidden", "_law_quotients", "_law_calm", "_law_uncalm", "_law_even", "_law_by_hand"]
def names : List PySem.Str := n0 ++ n1 ++ n2 ++ n3 ++ n4 ++ n5
def mkD (p : PySem.Str × Nat) : He.DefD := ⟨(p.1, none), p.1, p.1, defArgs (top p.2), defBody (top p.2), defScope (top p.2), [], []⟩
def mkM (C m q : PySem.Str) (st : Stmt) : He.DefD := ⟨(C, some m), m, q, defArgs st, defBody st, defScope st, [], []⟩
def d0 : List (PySem.Str × Nat) := [("is_integer", 1), ("is_within", 2), ("is_lot", 3), ("is_pair", 4), ("all_lots", 5), ("divisor", 16), ("lowest", 17), ("is_fraction", 18), ("plus", 19), ("times", 20), ("over", 21), ("add_all", 22)]
def d1 : List (PySem.Str × Nat) := [("gathered", 23), ("is_sizes", 29), ("is_content", 30), ("is_view", 31), ("tuples_of", 32), ("contents_of", 33), ("patterns_of", 34), ("views_of", 35), ("view_of", 36), ("pattern_of", 37), ("first_wrong", 38), ("first_bad", 39)]
def d2 : List (PySem.Str × Nat) := [("is_place", 41), ("uneven_pattern", 42), ("sorted_shares", 44), ("raw_seen", 45), ("raw_whole", 46), ("shares_of", 47), ("pattern_at", 48), ("family", 49), ("hidden_of", 50), ("hidden", 51), ("lacking", 52), ("shows_more", 54)]
def d3 : List (PySem.Str × Nat) := [("lacking_of", 55), ("check_told", 56), ("even_tilts", 57), ("tilt_at", 58), ("down", 59), ("weights_at", 60), ("quotients_by", 61), ("calm_of", 62), ("calm_whole", 63), ("quotients_of", 64), ("quotients", 65), ("quotient", 66)]
def d4 : List (PySem.Str × Nat) := [("calm_part", 67), ("_law_tape", 69), ("_law_pick", 70), ("_law_any", 71), ("_law_low", 72), ("_law_plus", 73), ("_law_times", 74), ("_law_over", 75), ("_law_sum", 76), ("_law_all_times", 77), ("_law_sizes", 78), ("_law_tuples", 79)]
def d5 : List (PySem.Str × Nat) := [("_law_contents", 80), ("_law_patterns", 81), ("_law_view", 82), ("_law_shows_more", 83), ("_law_family", 84), ("_law_weights", 85), ("_law_shares", 86), ("_law_rows", 87), ("_law_hidden", 88), ("_law_quotients", 89), ("_law_calm", 90), ("_law_uncalm", 91)]
def d6 : List (PySem.Str × Nat) := [("_law_even", 92), ("_law_by_hand", 93), ("law", 94)]
def dAll : List (PySem.Str × Nat) := d0 ++ d1 ++ d2 ++ d3 ++ d4 ++ d5 ++ d6
def dM : List He.DefD := [mkM "Seen" "__init__" "Seen.__init__" (inClass (top 40) 0), mkM "Seen" "__eq__" "Seen.__eq__" (inClass (top 40) 1), mkM "Whole" "__init__" "Whole.__init__" (inClass (top 43) 0), mkM "Whole" "__eq__" "Whole.__eq__" (inClass (top 43) 1)]
def fn : List He.DefD := dAll.map mkD ++ dM
def frees : List PySem.Str := ["len", "isinstance", "range", "list", "sorted", "abs", "int", "tuple"]
def frees2 : List PySem.Str := ["dict", "set", "all", "any", "sum", "enumerate", "zip", "bool"]
def globs : List PySem.Str := ["Seen", "Whole", "ZERO", "ONE"]
def ofC (x : PySem.Str) : List He.Fa := [.cls x, .noat x "sizes", .noat x "shares", .meth x "__eq__", .mkr x]
def fa : List He.Fa := dAll.map (fun p => .glo p.1) ++ globs.map .glo ++ frees.map .free ++ frees2.map .free ++ [.int "MOST_COLUMNS" 4, .int "MOST_WORTHS" 4, .int "MOST_CONTENTS" 64, .int "BLANK" (-1)] ++ ofC "Seen" ++ ofC "Whole"
def tf : List He.Defn := [("all_lots", none), ("down", none), ("_law_family", none), ("_law_quotients", none), ("Seen", some "__init__"), ("Whole", some "__init__")]
def exC (K : PySem.W.Frag) (x : PySem.Str) : Bool := He.eqO (PySem.W.findIn K (.ref (He.ga K x)) "__ne__") (some (some (.builtin "object.__ne__"))) && (decide (PySem.W.mroIn K (He.ga K x) (.type "object") = some true) && (He.eqO (PySem.W.findIn K (.ref (He.ga K x)) "__class__") (some (some (.builtin "object.__class__"))) &&
  decide (PySem.W.kitOne K (.ref (He.ga K x)) (.ref (He.ga K x)) = some true)))
def ex (K : PySem.W.Frag) : Bool := exC K "Seen" && (exC K "Whole" && (He.eqO (PySem.W.specialIn K (.builtin "object.__class__") "__get__") (some (some (.builtin "getset_descriptor.__get__"))) && (decide (PySem.W.takesIn K (.builtin "object.__class__") = some true) &&
  (He.tupB K "ZERO" [.int 0, .int 1] && (He.tupB K "ONE" [.int 1, .int 1] && decide ((tf.map fun p => (He.cT K p).2).Nodup))))))

/-- what one global's value needs: a function with its code, a class with its names' functions, a tuple -/
def own1 (g : Addr → Option Obj) (a : Addr) : List Addr := match g a with
  | some ⟨_, _, .func fd, _⟩ => a :: He.refV fd.code
  | _ => []
def own2 (g : Addr → Option Obj) (a : Addr) : List Addr := match g a with
  | some ⟨_, _, .func fd, _⟩ => a :: He.refV fd.code
  | some ⟨_, _, .cls cd, _⟩ => a :: cd.ns :: (match g cd.ns with
    | some ⟨_, _, .dict es _, _⟩ => es.toList.flatMap fun e => (He.refV e.val).flatMap (own1 g)
    | _ => [])
  | some ⟨_, _, .seq _ _, _⟩ => [a]
  | _ => []
def asP (g : Addr → Option Obj) : List Addr := mainGlobals :: (match g mainGlobals with
  | some ⟨_, _, .dict es _, _⟩ => es.toList.flatMap fun e => (He.refV e.val).flatMap (own2 g)
  | _ => [])
def obsA (fa : List He.Fa) (fn : List He.DefD) (ts : List He.Tab) (tf : List He.Defn) (ex : PySem.W.Frag → Bool) (as : (Addr → Option Obj) → List Addr) (g : Addr → Option Obj) : He.AlX := (He.obsT fa fn ts (He.frT g (as g)), ex (He.frT g (as g)) && He.tabsB g tf (He.frT g (as g)))
theorem says_at {fa : List He.Fa} {fn : List He.DefD} {ts : List He.Tab} {tf : List He.Defn} {ex : PySem.W.Frag → Bool} {as : (Addr → Option Obj) → List Addr} {w : World} {h : Heap}
    (e : obsA fa fn ts tf ex as h.get? = He.valX fn ts w) : He.SaysX fa fn ts tf ex w h (He.frT h.get? (as h.get?)) := by
  obtain ⟨a1, a2⟩ := Prod.mk.inj e
  obtain ⟨b1, b2⟩ := He.ba a2
  have b3 : ∀ p ∈ tf, _ := fun p hp => He.ba (List.all_eq_true.mp b2 p hp)
  have b4 : ∀ p ∈ tf, ∃ o, h.get? (He.cT (He.frT h.get? (as h.get?)) p).2 = some o ∧ He.emptyTab o = true := by
    intro p hp
    have c2 := (b3 p hp).2
    split at c2
    · rename_i o ho
      exact ⟨o, ho, c2⟩
    · cases c2
  refine ⟨a1, b1, fun p hp => (b3 p hp).1, fun p hp => ?_, fun p hp => ?_⟩
  · obtain ⟨o, ho, hz⟩ := b4 p hp
    exact He.frT_none ho hz
  · obtain ⟨o, ho, hz⟩ := b4 p hp
    rw [ho, He.emptyTab_eq hz]
def hookA (fa : List He.Fa) (fn : List He.DefD) (ts : List He.Tab) (tf : List He.Defn) (ex : PySem.W.Frag → Bool) (as : (Addr → Option Obj) → List Addr) : PySem.W.Hook where
  α := He.AlX
  obs := fun s => obsA fa fn ts tf ex as s.heap.get?
  val := fun w => He.valX fn ts w
  says := fun w h => ∃ K : PySem.W.Frag, K.In h ∧ He.SaysX fa fn ts tf ex w h K
  of := fun _ _ e => ⟨_, He.frT_in, says_at e⟩
  keeps := fun _ _ _ ⟨K, i, c⟩ k => ⟨K, PySem.W.Frag.In.keeps i k, { t := c.t, more := c.more, hd := c.hd, out := c.out, empty := fun p m => k _ _ (c.empty p m) }⟩
def FA : List He.Fa := fa
def FN : List He.DefD := fn
def TF : List He.Defn := tf
def EX : PySem.W.Frag → Bool := ex
abbrev hk : PySem.W.Hook := hookA FA FN [] TF EX asP
def ob (s : PySem.W.SharedT) : He.AlX := obsA FA FN [] TF EX asP (HandSHeadRun.getT s)
theorem ob_eq (s : PySem.W.SharedT) : ob s = hk.obs s.abs := by
  have e : HandSHeadRun.getT s = s.abs.heap.get? := funext (HandSHeadRun.getT_eq s)
  show obsA _ _ _ _ _ _ _ = obsA _ _ _ _ _ _ _
  rw [e]
theorem run (w : World) : HandSHeadRun.RunEq R (PySem.W.view R.prog [94]) hk ob 20000 names w := by
  intro os
  kernel_rfl
end Hd
end CB
end
section
set_option Elab.async false
set_option linter.all false
set_option maxRecDepth 100000
set_option maxHeartbeats 2000000
/-! A. data of ints and nested tuples over the hand layer's heap; dicts whose keys are such. -/
namespace CB
open PySem PySem.Spec PyProof.Rows L2

/-! ### heaps -/
/-- neither known nor a table -/
def NF (u : HO) : Prop := (∀ o w, u ≠ .frz o w) ∧ ∀ ps, u ≠ .tbl ps
theorem NF.tup {xs : List V} : NF (.tup xs) := ⟨fun _ _ z => (nomatch z), fun _ z => (nomatch z)⟩
theorem NF.lst {xs : List V} : NF (.lst xs) := ⟨fun _ _ z => (nomatch z), fun _ z => (nomatch z)⟩
theorem NF.ext {φ : Heap → Prop} : NF (.ext φ) := ⟨fun _ _ z => (nomatch z), fun _ z => (nomatch z)⟩
/-- what may be read may be read; a tuple that is known stays known -/
structure Le (H H' : Hp) : Prop where
  rd : ∀ a u, NF u → Rd H a u → Rd H' a u
  fz : ∀ a o xs, H a = some (.frz o (.tup xs)) → H' a = some (.frz o (.tup xs))
theorem Le.refl (H : Hp) : Le H H := ⟨fun _ _ _ h => h, fun _ _ _ h => h⟩
theorem Le.trans {H H1 H2 : Hp} (a : Le H H1) (b : Le H1 H2) : Le H H2 := ⟨fun c u n h => b.rd c u n (a.rd c u n h), fun c o xs h => b.fz c o xs (a.fz c o xs h)⟩
theorem Le.lock {H : Hp} {d : Addr} {u : HO} {od : Obj} (h : H d = some u) (hu : ∀ o w, u ≠ HO.frz o w) : Le H (upd H d (.frz od u)) := by
  refine ⟨fun a w n r => ?_, fun a o xs r => ?_⟩
  · by_cases e : a = d
    · subst e
      rcases r with r | ⟨o, r⟩
      · rw [h] at r
        cases r
        exact .inr ⟨od, upd_same⟩
      · rw [h] at r
        cases r
        exact absurd rfl (hu o w)
    · rcases r with r | ⟨o, r⟩
      · exact .inl ((upd_ne e).trans r)
      · exact .inr ⟨o, (upd_ne e).trans r⟩
  · by_cases e : a = d
    · subst e
      rw [h] at r
      cases r
      exact absurd rfl (hu o _)
    · exact (upd_ne e).trans r
theorem Le.unlock {H : Hp} {d : Addr} {u : HO} {od : Obj} (h : H d = some (.frz od u)) (hu : ∀ xs, u ≠ HO.tup xs) : Le H (upd H d u) := by
  refine ⟨fun a w n r => ?_, fun a o xs r => ?_⟩
  · by_cases e : a = d
    · subst e
      rcases r with r | ⟨o, r⟩
      · rw [h] at r
        cases r
        exact absurd rfl (n.1 od u)
      · rw [h] at r
        cases r
        exact .inl upd_same
    · rcases r with r | ⟨o, r⟩
      · exact .inl ((upd_ne e).trans r)
      · exact .inr ⟨o, (upd_ne e).trans r⟩
  · by_cases e : a = d
    · subst e
      rw [h] at r
      cases r
      exact absurd rfl (hu xs)
    · exact (upd_ne e).trans r
theorem Le.sqL {K : PySem.W.Frag} {H H' : Hp} {a : Addr} {xs : List V} (e : Le H H') (h : SqL K H a xs) : SqL K H' a xs := by
  rcases h with h | h
  · exact .inl (e.rd a _ NF.lst h)
  · exact .inr h
theorem Le.sqT {K : PySem.W.Frag} {H H' : Hp} {a : Addr} {xs : List V} (e : Le H H') (h : SqT K H a xs) : SqT K H' a xs := by
  rcases h with h | h
  · exact .inl (e.rd a _ NF.tup h)
  · exact .inr h
theorem Le.new {H : Hp} {p : Addr} {o : HO} (h : H p = none) : Le H (upd H p o) := ⟨fun a u n r => by
  rcases r with r | ⟨w, r⟩
  · exact .inl ((upd_ne (ne_of_none r h)).trans r)
  · exact .inr ⟨w, (upd_ne (ne_of_none r h)).trans r⟩, fun a w xs r => (upd_ne (ne_of_none r h)).trans r⟩
/-- the tables of code objects, and the names of the lambdas that are made there -/
class Tbs where
  T : List (Addr × Str)
section
variable [Tbs]
/-- all is kept, but that the tables may grow -/
structure Ex (H H' : Hp) : Prop where
  at_ : ∀ {a : Addr} {u : HO}, H a = some u → (∀ ps, u ≠ .tbl ps) → H' a = some u
  tb : LamX.Tabs Tbs.T H → LamX.Tabs Tbs.T H'
  dom : ∀ a, H' a = none → H a = none
theorem Ex.refl (H : Hp) : Ex H H := ⟨fun h _ => h, fun h => h, fun _ h => h⟩
theorem Ex.trans {H H1 H2 : Hp} (a : Ex H H1) (b : Ex H1 H2) : Ex H H2 := ⟨fun h n => b.at_ (a.at_ h n) n, fun h => b.tb (a.tb h), fun c h => a.dom c (b.dom c h)⟩
theorem Ex.new {H : Hp} {p : Addr} {o : HO} (h : H p = none) : Ex H (upd H p o) := by
  have e : ∀ a u, H a = some u → upd H p o a = some u := fun a u q => (upd_ne (ne_of_none q h)).trans q
  refine ⟨fun {a u} q _ => e a u q, fun t => t.ext e, fun a q => ?_⟩
  cases z : H a with
  | none => rfl
  | some u => rw [e a u z] at q; cases q
/-- neither code nor a table -/
def Pl (p : Addr) (u : HO) : Prop := (∀ ps, u ≠ .tbl ps) ∧ ∀ q, u ≠ LamX.CodeO p q
theorem tabs_put {T : List (Addr × Str)} {H : Hp} {p : Addr} {u o : HO} (t : LamX.Tabs T H) (h : H p = some u) (n : Pl p u) : LamX.Tabs T (upd H p o) := fun x hx => by
  obtain ⟨ps, a1, a2, a3⟩ := t x hx
  have n1 : x.1 ≠ p := fun e => by
    rw [e, h] at a1
    cases a1
    exact n.1 ps rfl
  refine ⟨ps, (upd_ne n1).trans a1, a2, fun pos cv hc => ?_⟩
  obtain ⟨c, e1, e2⟩ := a3 pos cv hc
  refine ⟨c, e1, (upd_ne fun e => ?_).trans e2⟩
  rw [e, h] at e2
  exact n.2 _ (Option.some.inj e2)
theorem Ex.mut {H H' : Hp} {p : Addr} {o u : HO} (e : Ex H H') (h : H p = none) (hu : H' p = some u) (n : Pl p u) : Ex H (upd H' p o) := by
  refine ⟨fun {a w} ha m => ?_, fun t => tabs_put (e.tb t) hu n, fun a q => ?_⟩
  · rw [upd_ne (ne_of_none ha h)]
    exact e.at_ ha m
  · by_cases z : a = p
    · rw [z]; exact h
    · rw [upd_ne z] at q; exact e.dom a q
theorem le_of {H H' : Hp} (e : Ex H H') : Le H H' := ⟨fun a u n h => by
  rcases h with h | ⟨o, h⟩
  · exact .inl (e.at_ h n.2)
  · exact .inr ⟨o, e.at_ h fun _ z => (nomatch z)⟩, fun a o xs h => e.at_ h fun _ z => (nomatch z)⟩
/-- behind a lock all stands as it stood -/
theorem Ex.unlock {H H' : Hp} {d : Addr} {u : HO} {od : Obj} (h : H d = some u) (n : Pl d u) (e : Ex (upd H d (.frz od u)) H') : Ex H (upd H' d u) := by
  have hd : H' d = some (.frz od u) := e.at_ upd_same fun _ z => (nomatch z)
  refine ⟨fun {a w} ha m => ?_, fun t => tabs_put (e.tb (tabs_put t h n)) hd ⟨fun _ z => (nomatch z), fun _ z => (nomatch z)⟩, fun a q => ?_⟩
  · by_cases q : a = d
    · subst q
      rw [h] at ha
      cases ha
      exact upd_same
    · rw [upd_ne q]
      exact e.at_ (by rw [upd_ne q]; exact ha) m
  · by_cases z : a = d
    · rw [z, upd_same] at q; cases q
    · rw [upd_ne z] at q
      have := e.dom a q
      rw [upd_ne z] at this
      exact this
end

/-! ### data -/
mutual
/-- the value v is the data k -/
def Im (K : PySem.W.Frag) (H : Hp) : NestedKey → V → Prop
  | .none, v => v = .non
  | .num i, v => v = .int i
  | .text x, v => v = .str x
  | .tup ks, v => ∃ a xs, v = .ref a ∧ SqT K H a xs ∧ Ims K H ks xs
def Ims (K : PySem.W.Frag) (H : Hp) : List NestedKey → List V → Prop
  | [], xs => xs = []
  | k :: ks, xs => ∃ x r, xs = x :: r ∧ Im K H k x ∧ Ims K H ks r
end
section
variable {K : PySem.W.Frag} {H H' : Hp}
mutual
theorem Im.up (e : Le H H') : ∀ (k : NestedKey) (v : V), Im K H k v → Im K H' k v
  | .none, _, h => h
  | .num _, _, h => h
  | .text _, _, h => h
  | .tup ks, _, h => by
    obtain ⟨a, xs, e1, h1, h2⟩ := h
    exact ⟨a, xs, e1, e.sqT h1, Ims.up e ks xs h2⟩
theorem Ims.up (e : Le H H') : ∀ (ks : List NestedKey) (vs : List V), Ims K H ks vs → Ims K H' ks vs
  | [], _, h => h
  | k :: ks, _, h => by
    obtain ⟨x, r, e1, h1, h2⟩ := h
    exact ⟨x, r, e1, Im.up e k x h1, Ims.up e ks r h2⟩
end
theorem Ims.length : ∀ {ks : List NestedKey} {vs : List V}, Ims K H ks vs → vs.length = ks.length
  | [], _, h => by
    cases h
    rfl
  | k :: ks, _, h => by
    obtain ⟨x, r, rfl, _, h2⟩ := h
    rw [List.length_cons, List.length_cons, Ims.length h2]
theorem Ims.get : ∀ {ks : List NestedKey} {vs : List V} {i : Nat} {v : V}, Ims K H ks vs → vs[i]? = some v → ∃ k, ks[i]? = some k ∧ Im K H k v
  | [], _, i, v, h, e => by
    cases h
    cases e
  | k :: ks, _, i, v, h, e => by
    obtain ⟨x, r, rfl, h1, h2⟩ := h
    cases i with
    | zero =>
      cases e
      exact ⟨k, rfl, h1⟩
    | succ i => exact Ims.get (i := i) h2 e
theorem Ims.get' : ∀ {ks : List NestedKey} {vs : List V} {i : Nat} {k : NestedKey}, Ims K H ks vs → ks[i]? = some k → ∃ v, vs[i]? = some v ∧ Im K H k v
  | [], _, i, v, h, e => by
    cases e
  | k :: ks, _, i, v, h, e => by
    obtain ⟨x, r, rfl, h1, h2⟩ := h
    cases i with
    | zero =>
      cases e
      exact ⟨x, rfl, h1⟩
    | succ i => exact Ims.get' (i := i) h2 e
theorem Ims.append : ∀ {ks ls : List NestedKey} {vs us : List V}, Ims K H ks vs → Ims K H ls us → Ims K H (ks ++ ls) (vs ++ us)
  | [], _, _, _, h, h' => by
    cases h
    exact h'
  | k :: ks, _, _, _, h, h' => by
    obtain ⟨x, r, rfl, h1, h2⟩ := h
    exact ⟨x, r ++ _, rfl, h1, Ims.append h2 h'⟩
theorem Ims.take : ∀ {ks : List NestedKey} {vs : List V} (n : Nat), Ims K H ks vs → Ims K H (ks.take n) (vs.take n)
  | _, _, 0, _ => by simp [Ims]
  | [], _, n + 1, h => by
    cases h
    simp [Ims]
  | k :: ks, _, n + 1, h => by
    obtain ⟨x, r, rfl, h1, h2⟩ := h
    exact ⟨x, r.take n, rfl, h1, Ims.take n h2⟩
theorem Ims.drop : ∀ {ks : List NestedKey} {vs : List V} (n : Nat), Ims K H ks vs → Ims K H (ks.drop n) (vs.drop n)
  | _, _, 0, h => h
  | [], _, n + 1, h => by
    cases h
    simp [Ims]
  | k :: ks, _, n + 1, h => by
    obtain ⟨x, r, rfl, h1, h2⟩ := h
    exact Ims.drop n h2
end
section
variable {X : Cx} {pins : List (Addr × Obj)} {σ : L2.St} {H : Hp} {s : Shared}
mutual
theorem Im.nested (I : Inv X pins σ H s) : ∀ (k : NestedKey) (v : V) (u : Value), Im X.K H k v → RelV v u → NestedIs s.heap k u
  | .none, _, _, h, r => by
    cases h
    cases r
    exact .none
  | .num i, _, _, h, r => by
    cases h
    obtain ⟨t, rfl⟩ := r
    exact .int i t
  | .text x, _, _, h, r => by
    cases h
    obtain ⟨t, rfl⟩ := r
    exact .text x t
  | .tup ks, _, _, h, r => by
    obtain ⟨a, xs, rfl, h1, h2⟩ := h
    cases r
    obtain ⟨its, rv, ⟨o, ho, hc, n, hd⟩, _⟩ := I.tuple h1
    exact .tup ho hc hd (by simpa using Ims.nested I ks xs its h2 rv)
theorem Ims.nested (I : Inv X pins σ H s) : ∀ (ks : List NestedKey) (vs : List V) (us : List Value), Ims X.K H ks vs → Vals vs us → NestedAll s.heap ks us
  | [], _, _, h, r => by
    cases h
    cases r
    exact .nil
  | k :: ks, _, _, h, r => by
    obtain ⟨x, xr, rfl, h1, h2⟩ := h
    cases r with
    | cons r1 r2 => exact .cons (Im.nested I k x _ h1 r1) (Ims.nested I ks xr _ h2 r2)
end
end

/-! ### typed data -/
class Enc (α : Type) where
  enc : α → NestedKey
  dp : Nat
  inj : ∀ a b, enc a = enc b → a = b
  le : ∀ a, (enc a).depth ≤ dp
  alk : ∀ a b, PySem.W.alike (enc a).data (enc b).data = true
  lay : ∀ a, (enc a).data.canLay0 = true
open Enc
theorem lay_maps {α : Type} {f : α → NestedKey} (h : ∀ a, (f a).data.canLay0 = true) : ∀ xs : List α, PyData.canLayAll0 (NestedKey.datas (xs.map f)) = true
  | [] => by simp [NestedKey.datas, PyData.canLayAll0]
  | x :: xs => by
    rw [List.map_cons, NestedKey.datas, PyData.canLayAll0, h x, lay_maps h xs]
    rfl
theorem alike_maps {α : Type} {f : α → NestedKey} (h : ∀ a b, PySem.W.alike (f a).data (f b).data = true) : ∀ xs ys : List α, PySem.W.alikeAll (NestedKey.datas (xs.map f)) (NestedKey.datas (ys.map f)) = true
  | [], _ => by simp [NestedKey.datas, PySem.W.alikeAll]
  | x :: xs, [] => by simp [NestedKey.datas, PySem.W.alikeAll]
  | x :: xs, y :: ys => by
    rw [List.map_cons, List.map_cons, NestedKey.datas, NestedKey.datas, PySem.W.alikeAll, h x y, alike_maps h xs ys]
    rfl
instance : Enc Int where
  enc := .num
  dp := 0
  inj := fun _ _ h => by
    cases h
    rfl
  le := fun _ => Nat.le_refl _
  alk := fun _ _ => by simp [NestedKey.data, PySem.W.alike]
  lay := fun _ => by simp [NestedKey.data, PyData.canLay0]
theorem map_inj {α β : Type} {f : α → β} (h : ∀ a b, f a = f b → a = b) : ∀ xs ys : List α, xs.map f = ys.map f → xs = ys
  | [], [], _ => rfl
  | [], _ :: _, e => by cases e
  | _ :: _, [], e => by cases e
  | x :: xs, y :: ys, e => by
    rw [List.map_cons, List.map_cons] at e
    injection e with e1 e2
    rw [h x y e1, map_inj h xs ys e2]
theorem depthAll_le {n : Nat} : ∀ ks : List NestedKey, (∀ k ∈ ks, k.depth ≤ n) → NestedKey.depthAll ks ≤ n
  | [], _ => Nat.zero_le _
  | k :: ks, h => by
    rw [NestedKey.depthAll]
    have h1 := h k (List.mem_cons_self ..)
    have h2 := depthAll_le ks fun k' hk => h k' (List.mem_cons_of_mem _ hk)
    omega
/-- a tuple of things of one kind -/
instance {α : Type} [Enc α] : Enc (List α) where
  enc := fun l => .tup (l.map enc)
  dp := dp α + 1
  inj := fun a b h => by
    injection h with h
    exact map_inj inj a b h
  le := fun a => by
    rw [NestedKey.depth]
    refine Nat.succ_le_succ (depthAll_le _ fun k hk => ?_)
    obtain ⟨x, _, rfl⟩ := List.mem_map.mp hk
    exact Enc.le x
  alk := fun a b => by
    rw [NestedKey.data, NestedKey.data, PySem.W.alike]
    exact alike_maps alk a b
  lay := fun a => by
    rw [NestedKey.data, PyData.canLay0]
    exact lay_maps lay a
/-- a pair -/
instance {α β : Type} [Enc α] [Enc β] : Enc (α × β) where
  enc := fun p => .tup [enc p.1, enc p.2]
  dp := dp α + dp β + 1
  inj := fun a b h => by
    injection h with h
    injection h with h1 h2
    injection h2 with h2 _
    exact Prod.ext (inj _ _ h1) (inj _ _ h2)
  le := fun a => by
    rw [NestedKey.depth]
    refine Nat.succ_le_succ (depthAll_le _ fun k hk => ?_)
    have h1 := Enc.le a.1
    have h2 := Enc.le a.2
    have e : k = enc a.1 ∨ k = enc a.2 := by simpa using hk
    rcases e with e | e
    · rw [e]
      omega
    · rw [e]
      omega
  alk := fun a b => by
    simp only [NestedKey.data, NestedKey.datas, PySem.W.alike, PySem.W.alikeAll, alk]
    rfl
  lay := fun a => by
    simp only [NestedKey.data, NestedKey.datas, PyData.canLay0, PyData.canLayAll0, lay]
    rfl
/-- a fraction -/
instance : Enc Rat where
  enc := fun r => .tup [.num r.num, .num (r.den : Int)]
  dp := 1
  inj := fun a b h => by
    injection h with h
    injection h with h1 h2
    injection h2 with h2 _
    injection h1 with h1
    injection h2 with h2
    exact Rat.ext h1 (by omega)
  le := fun a => by
    simp [NestedKey.depth, NestedKey.depthAll]
  alk := fun a b => by
    simp [NestedKey.data, NestedKey.datas, PySem.W.alike, PySem.W.alikeAll]
  lay := fun a => by
    simp [NestedKey.data, NestedKey.datas, PyData.canLay0, PyData.canLayAll0]
/-- v is a -/
abbrev Is {α : Type} [Enc α] (K : PySem.W.Frag) (H : Hp) (v : V) (a : α) : Prop := Im K H (enc a) v
/-- a list of such -/
def Ls {α : Type} [Enc α] (K : PySem.W.Frag) (H : Hp) (v : V) (as : List α) : Prop := ∃ p xs, v = .ref p ∧ SqL K H p xs ∧ Ims K H (as.map enc) xs
section
variable {α β : Type} [Enc α] [Enc β] {K : PySem.W.Frag} {H H' : Hp} {v : V}
theorem Is.up {a : α} (h : Is K H v a) (e : Le H H') : Is K H' v a := Im.up e _ _ h
theorem Ls.up {as : List α} (h : Ls K H v as) (e : Le H H') : Ls K H' v as := by
  obtain ⟨p, xs, e1, h1, h2⟩ := h
  exact ⟨p, xs, e1, e.sqL h1, Ims.up e _ _ h2⟩
/-- a tuple whose object is known to be plain -/
def Pt {α : Type} [Enc α] (K : PySem.W.Frag) (H : Hp) (v : V) (as : List α) : Prop := ∃ p o xs, v = .ref p ∧ H p = some (.frz o (.tup xs)) ∧ o.dict = none ∧ Ims K H (as.map enc) xs
theorem Pt.up {as : List α} (h : Pt K H v as) (e : Le H H') : Pt K H' v as := by
  obtain ⟨p, o, xs, e1, h1, h2, h3⟩ := h
  exact ⟨p, o, xs, e1, e.fz _ _ _ h1, h2, Ims.up e _ _ h3⟩
theorem Pt.is {as : List α} (h : Pt K H v as) : Is K H v as := by
  obtain ⟨p, o, xs, e1, h1, h2, h3⟩ := h
  exact ⟨p, xs, e1, .inl (.inr ⟨o, h1⟩), h3⟩
theorem Is.int {i : Int} : Is K H (.int i) i := rfl
theorem Is.int_eq {i : Int} (h : Is K H v i) : v = .int i := h
end
end CB
end
section
set_option Elab.async false
set_option linter.all false
set_option maxRecDepth 100000
set_option maxHeartbeats 2000000
/-! B. dicts whose keys are nested tuples, over the hand layer. -/
namespace CB
open PySem PySem.Spec PyProof.Rows L2 Enc

/-! ### raw tables -/
abbrev Raw := List (NestedKey × Addr × V)
def rget (t : Raw) (k : NestedKey) : Option V := (t.find? fun x => decide (x.1 = k)).map (·.2.2)
def rput (t : Raw) (k : NestedKey) (a : Addr) (v : V) : Raw := if (rget t k).isSome then t.map (fun x => if x.1 = k then (x.1, x.2.1, v) else x) else t ++ [(k, a, v)]
abbrev RawV : Raw → List (NestedKey × Addr × Value) → Prop := Paired fun p q => p.1 = q.1 ∧ p.2.1 = q.2.1 ∧ RelV p.2.2 q.2.2
theorem rget_cons_pos {p : NestedKey × Addr × V} {r : Raw} {k : NestedKey} (e : p.1 = k) : rget (p :: r) k = some p.2.2 := by simp [rget, List.find?_cons, e]
theorem rget_cons_neg {p : NestedKey × Addr × V} {r : Raw} {k : NestedKey} (e : ¬ p.1 = k) : rget (p :: r) k = rget r k := by simp [rget, List.find?_cons, e]
theorem RawV.val {t : Raw} {xs : List (NestedKey × Addr × Value)} (r : RawV t xs) (k : NestedKey) : RelO (rget t k) ((atKey xs k).map (·.2)) := by
  induction r with
  | nil => exact True.intro
  | @cons p q ps qs h t ih =>
    obtain ⟨h1, _, h2⟩ := h
    by_cases e : p.1 = k
    · have e' : q.1 = k := h1.symm.trans e
      have b : atKey (q :: qs) k = some q.2 := by simp [atKey, List.find?_cons, e']
      rw [rget_cons_pos e, b]
      exact h2
    · have e' : ¬ q.1 = k := fun z => e (h1.trans z)
      have b : atKey (q :: qs) k = atKey qs k := by simp [atKey, List.find?_cons, e']
      rw [rget_cons_neg e, b]
      exact ih
theorem RawV.put {t : Raw} {xs : List (NestedKey × Addr × Value)} (r : RawV t xs) (k : NestedKey) {b : Addr} {y : V} {u : Value} (ry : RelV y u) : RawV (rput t k b y) (storedH xs k b u) := by
  have e : (rget t k).isSome = (atKey xs k).isSome := by rw [(r.val k).isSome_eq, Option.isSome_map]
  unfold rput storedH
  rw [e]
  by_cases q : (atKey xs k).isSome = true
  · rw [if_pos q, if_pos q]
    clear e q
    induction r with
    | nil => exact .nil
    | @cons p q ps qs h t ih =>
      rw [List.map_cons, List.map_cons]
      refine .cons ?_ ih
      obtain ⟨h1, h2, h3⟩ := h
      unfold putAt
      by_cases e : p.1 = k
      · rw [if_pos e, if_pos (h1.symm.trans e)]
        exact ⟨h1, h2, ry⟩
      · rw [if_neg e, if_neg (fun z => e (h1.trans z))]
        exact ⟨h1, h2, h3⟩
  · rw [if_neg q, if_neg q]
    exact Paired.snoc r ⟨rfl, rfl, ry⟩
theorem length_rput (t : Raw) (k : NestedKey) (a : Addr) (v : V) : (rput t k a v).length ≤ t.length + 1 := by
  unfold rput
  split
  · rw [List.length_map]
    omega
  · rw [List.length_append, List.length_cons, List.length_nil]
    omega

/-! ### the object -/
/-- at d stands a dict of these entries -/
def dphi (P : Program) (w : World) (d : Addr) (t : Raw) : Heap → Prop := fun h => t.length ≤ sizeLine ∧ (d == sysModules) = false ∧ ∃ xs, RawV t xs ∧
  ∃ o es ep, h.get? d = some o ∧ o.ExactDict ∧ o.data = .dict es ep ∧ es.toList = xs.map (entryOfKey (nestedKind P w)) ∧ (xs.map (·.1)).Nodup
abbrev DO (P : Program) (w : World) (d : Addr) (t : Raw) : HO := .ext (dphi P w d t)
/-- its keys are keys -/
def KeysOk (K : PySem.W.Frag) (H : Hp) (t : Raw) : Prop := ∀ x ∈ t, Im K H x.1 (.ref x.2.1) ∧ x.1.depth ≤ 8
theorem KeysOk.up {K : PySem.W.Frag} {H H' : Hp} {t : Raw} (h : KeysOk K H t) (e : Le H H') : KeysOk K H' t := fun x hx => ⟨Im.up e _ _ (h x hx).1, (h x hx).2⟩
theorem DO.nf {P : Program} {w : World} {d : Addr} {t : Raw} : NF (DO P w d t) := NF.ext
theorem dphi_ok {P : Program} {w : World} {H : Hp} {h : Heap} {d : Addr} {t : Raw} (x : dphi P w d t h) : ObjOk P w H h d (DO P w d t) := by
  refine ⟨x, ?_, fun h1 h2 y k => ?_⟩
  · obtain ⟨_, _, _, _, o, es, ep, ho, _⟩ := x
    exact ⟨o, ho⟩
  · obtain ⟨a, b, xs, r, o, es, ep, ho, c⟩ := y
    exact ⟨a, b, xs, r, o, es, ep, k o ho, c⟩

section
variable {X : Cx} {pins : List (Addr × Obj)} {σ : L2.St} {H : Hp} {s : Shared} {d b : Addr} {t : Raw} {k : NestedKey} {v y : V} {r u : Value} {A : Around} {E : Value → Shared → Prop}
theorem Inv.dict (I : Inv X pins σ H s) (h : Rd H d (DO X.prog X.w d t)) (ks : KeysOk X.K H t) :
    t.length ≤ sizeLine ∧ (d == sysModules) = false ∧ ∃ xs, RawV t xs ∧ s.heap.DictOfH (nestedKind X.prog X.w) d xs := by
  obtain ⟨x, _, _⟩ := h.ok I.hok
  obtain ⟨a, c, xs, rv, o, es, ep, h1, h2, h3, h4, h5⟩ := x
  refine ⟨a, c, xs, rv, o, es, ep, h1, h2, h3, h4, fun x hx => ?_, h5⟩
  have all : ∀ {l : Raw} {m : List (NestedKey × Addr × Value)}, RawV l m → KeysOk X.K H l → ∀ x ∈ m, (nestedKind X.prog X.w).is s.heap x.1 x.2.1 := by
    intro l m q
    induction q with
    | nil => intro _ x hx; exact nomatch hx
    | @cons p q ps qs hq t ih =>
      intro ks x hx
      rcases List.mem_cons.mp hx with e | hx
      · subst e
        obtain ⟨k1, k2⟩ := ks p (List.mem_cons_self ..)
        rw [hq.1] at k1 k2
        rw [hq.2.1] at k1
        exact ⟨Im.nested I _ _ _ k1 rfl, k2⟩
      · exact ih (fun y hy => ks y (List.mem_cons_of_mem _ hy)) x hx
  exact all rv ks x hx
theorem nested_is (I : Inv X pins σ H s) (h : Im X.K H k (.ref b)) (hd : k.depth ≤ 8) : (nestedKind X.prog X.w).is s.heap k b := ⟨Im.nested I _ _ _ h rfl, hd⟩
theorem nroom (hu : A.units + 16 < cLine) : (nestedKind X.prog X.w).room A.in1 := by
  show A.in1.units + 8 < cLine
  rw [Around.in1_units]
  omega
/-- d[k], there -/
theorem dx_getItem {Q : Value → Shared → Prop} (hu : A.units + 16 < cLine) (I : Inv X pins σ H s) (h : Rd H d (DO X.prog X.w d t)) (ks : KeysOk X.K H t) (hk : Im X.K H k (.ref b)) (hd : k.depth ≤ 8) (g : rget t k = some v)
    (q : ∀ w' s', Inv X pins σ H s' → RelV v w' → Q w' s') : wpAny (model X.prog X.w) A (getItem (.ref d) (.ref b)) Q E s := by
  obtain ⟨_, _, xs, rel, dd⟩ := CB.Inv.dict I h ks
  obtain ⟨w', hw, rw'⟩ := RelO.some_of (v := v) (o := (atKey xs k).map (·.2)) (by rw [← g]; exact rel.val k)
  obtain ⟨p, hp, hp2⟩ := Option.map_eq_some_iff.mp hw
  refine wpAny_getItem_heap (nroom hu) (nested_is I hk hd) dd hp ?_
  rw [hp2]
  exact q w' _ (I.tok _) rw'
theorem dx_in {Q : Value → Shared → Prop} (hu : A.units + 16 < cLine) (I : Inv X pins σ H s) (h : Rd H d (DO X.prog X.w d t)) (ks : KeysOk X.K H t) (hk : Im X.K H k (.ref b)) (hd : k.depth ≤ 8)
    (q : ∀ s', Inv X pins σ H s' → Q (.bool (rget t k).isSome) s') : wpAny (model X.prog X.w) A (compareOp .In (.ref b) (.ref d)) Q E s := by
  obtain ⟨_, hs, xs, rel, dd⟩ := CB.Inv.dict I h ks
  refine wpAny_in_heap (nroom hu) (nested_is I hk hd) hs dd ?_
  have z := (rel.val k).isSome_eq
  rw [Option.isSome_map] at z
  rw [← z]
  exact q _ (I.tok _)
theorem dx_notIn {Q : Value → Shared → Prop} (hu : A.units + 16 < cLine) (I : Inv X pins σ H s) (h : Rd H d (DO X.prog X.w d t)) (ks : KeysOk X.K H t) (hk : Im X.K H k (.ref b)) (hd : k.depth ≤ 8)
    (q : ∀ s', Inv X pins σ H s' → Q (.bool (!(rget t k).isSome)) s') : wpAny (model X.prog X.w) A (compareOp .NotIn (.ref b) (.ref d)) Q E s := by
  obtain ⟨_, hs, xs, rel, dd⟩ := CB.Inv.dict I h ks
  refine wpAny_notIn_heap (nroom hu) (nested_is I hk hd) hs dd ?_
  have z := (rel.val k).isSome_eq
  rw [Option.isSome_map] at z
  rw [← z]
  exact q _ (I.tok _)
theorem dx_get2 {Q : Value → Shared → Prop} (hu : A.units + 16 < cLine) (I : Inv X pins σ H s) (h : Rd H d (DO X.prog X.w d t)) (ks : KeysOk X.K H t) (hk : Im X.K H k (.ref b)) (hd : k.depth ≤ 8) (rd : RelV y r)
    (q : ∀ w' s', Inv X pins σ H s' → RelV ((rget t k).getD y) w' → Q w' s') : wpAny (model X.prog X.w) A (call (.builtin "dict.get") [.ref d, .ref b, r]) Q E s := by
  obtain ⟨_, hs, xs, rel, dd⟩ := CB.Inv.dict I h ks
  refine call_meetsIn PySem.F.slot_dict_get dd.typeIs PySem.F.entry_dict_get (PySem.F.args_dict_get_3 _ _ _) (meetsH_dict_get_default (nestedKind X.prog X.w) d b hs r) ⟨nroom hu, k, xs, nested_is I hk hd, dd, q _ _ (I.tok _) ?_⟩
  exact (rel.val k).getD rd
theorem dx_setItem {Q : Unit → Shared → Prop} (hu : A.units + 16 < cLine) (I : Inv X pins σ H s) (h : H d = some (DO X.prog X.w d t)) (ks : KeysOk X.K H t) (hk : Im X.K H k (.ref b)) (hd : k.depth ≤ 8) (hl : t.length < sizeLine) (rv : RelV v r)
    (q : ∀ s', Inv X pins σ (upd H d (DO X.prog X.w d (rput t k b v))) s' → Q () s') : wpAny (model X.prog X.w) A (setItem (.ref d) (.ref b) r) Q E s := by
  obtain ⟨z, hs, xs, rel, dd⟩ := CB.Inv.dict I (.inl h) ks
  have hz : xs.length ≤ sizeLine := by rw [← Paired.length rel]; exact z
  have hl' : (rput t k b v).length ≤ sizeLine := by have := length_rput t k b v; omega
  refine wpAny_setItem_heap (hsz := hz) (nroom hu) (nested_is I hk hd) dd fun h' dd' hsb => q _ ?_
  obtain ⟨o, es, ep, ho, h2, h3, h4, _, h5⟩ := dd'
  exact d_write I (by rw [h]; exact True.intro) hsb ⟨o, ho⟩ (dphi_ok ⟨hl', hs, _, rel.put k rv, o, es, ep, ho, h2, h3, h4, h5⟩)
theorem dx_setdefault {Q : Value → Shared → Prop} (hu : A.units + 16 < cLine) (I : Inv X pins σ H s) (h : H d = some (DO X.prog X.w d t)) (ks : KeysOk X.K H t) (hk : Im X.K H k (.ref b)) (hd : k.depth ≤ 8) (hl : t.length < sizeLine) (rv : RelV v r)
    (q1 : ∀ y w' s', rget t k = some y → Inv X pins σ H s' → RelV y w' → Q w' s') (q2 : rget t k = none → ∀ s', Inv X pins σ (upd H d (DO X.prog X.w d (rput t k b v))) s' → Q r s') :
    wpAny (model X.prog X.w) A (call (.builtin "dict.setdefault") [.ref d, .ref b, r]) Q E s := by
  obtain ⟨z, hs, xs, rel, dd⟩ := CB.Inv.dict I (.inl h) ks
  have hz : xs.length ≤ sizeLine := by rw [← Paired.length rel]; exact z
  have hl' : (rput t k b v).length ≤ sizeLine := by have := length_rput t k b v; omega
  refine call_setdefault_heap (hsz := hz) (nroom hu) (nested_is I hk hd) hs dd (fun p hp => ?_) fun hn h' dd' hsb => ?_
  · have e : (atKey xs k).map (·.2) = some p.2 := by rw [hp]; rfl
    have rr := rel.val k
    rw [e] at rr
    cases g : rget t k with
    | none =>
      rw [g] at rr
      exact rr.elim
    | some y =>
      rw [g] at rr
      exact q1 y p.2 _ g (I.tok _) rr
  · have rr := rel.val k
    rw [hn] at rr
    have g : rget t k = none := by
      cases g : rget t k with
      | none => rfl
      | some y =>
        rw [g] at rr
        exact rr.elim
    obtain ⟨o, es, ep, ho, h2, h3, h4, _, h5⟩ := dd'
    exact q2 g _ (d_write I (by rw [h]; exact True.intro) hsb ⟨o, ho⟩ (dphi_ok ⟨hl', hs, _, rel.put k rv, o, es, ep, ho, h2, h3, h4, h5⟩))
end

/-! ### readings -/
/-- d[k] -/
def tXGet (P : Program) (w : World) (K : PySem.W.Frag) (td ty : TE) : TE := fun σ H Q => td σ H fun x H1 => ty σ H1 fun y H2 => ∃ d b t k v, x = .ref d ∧ y = .ref b ∧ Rd H2 d (DO P w d t) ∧ KeysOk K H2 t ∧ Im K H2 k (.ref b) ∧ k.depth ≤ 8 ∧ rget t k = some v ∧ Q v H2
def tXIn (P : Program) (w : World) (K : PySem.W.Frag) (ty td : TE) : TE := fun σ H Q => ty σ H fun y H1 => td σ H1 fun x H2 => ∃ d b t k, x = .ref d ∧ y = .ref b ∧ Rd H2 d (DO P w d t) ∧ KeysOk K H2 t ∧ Im K H2 k (.ref b) ∧ k.depth ≤ 8 ∧ Q (.bl (rget t k).isSome) H2
def tXNotIn (P : Program) (w : World) (K : PySem.W.Frag) (ty td : TE) : TE := fun σ H Q => ty σ H fun y H1 => td σ H1 fun x H2 => ∃ d b t k, x = .ref d ∧ y = .ref b ∧ Rd H2 d (DO P w d t) ∧ KeysOk K H2 t ∧ Im K H2 k (.ref b) ∧ k.depth ≤ 8 ∧ Q (.bl (!(rget t k).isSome)) H2
def sXPut (P : Program) (w : World) (K : PySem.W.Frag) (td ty tv : TE) : TS := fun D σ H => tv σ H fun v H1 => td σ H1 fun x H2 => ty σ H2 fun y H3 => ∃ d b t k, x = .ref d ∧ y = .ref b ∧ H3 d = some (DO P w d t) ∧ KeysOk K H3 t ∧ Im K H3 k (.ref b) ∧ k.depth ≤ 8 ∧ t.length < sizeLine ∧ D.nx σ (upd H3 d (DO P w d (rput t k b v)))
def IsX (P : Program) (w : World) (H : Hp) (d : Addr) : Prop := ∃ t, Rd H d (DO P w d t)
def tXGet2 (P : Program) (w : World) (K : PySem.W.Frag) (td ty tx : TE) : TE := fun σ H Q => td σ H fun x H1 => ∃ d, x = .ref d ∧ IsX P w H1 d ∧ ty σ H1 fun y H2 => tx σ H2 fun z H3 => ∃ b t k, y = .ref b ∧ Rd H3 d (DO P w d t) ∧ KeysOk K H3 t ∧ Im K H3 k (.ref b) ∧ k.depth ≤ 8 ∧ Q ((rget t k).getD z) H3
def tXSetd (P : Program) (w : World) (K : PySem.W.Frag) (td ty tx : TE) : TE := fun σ H Q => td σ H fun x H1 => ∃ d, x = .ref d ∧ IsX P w H1 d ∧ ty σ H1 fun y H2 => tx σ H2 fun z H3 => ∃ b t k, y = .ref b ∧ H3 d = some (DO P w d t) ∧ KeysOk K H3 t ∧ Im K H3 k (.ref b) ∧ k.depth ≤ 8 ∧ t.length < sizeLine ∧
  (∀ y, rget t k = some y → Q y H3) ∧ (rget t k = none → Q z (upd H3 d (DO P w d (rput t k b z))))
def tXNew (P : Program) (w : World) : TE := fun _ H Q => ∀ p, H p = none → Q (.ref p) (upd H p (DO P w p []))
section
variable {X : Cx} {o i e f value : Expr} {pos pos' tpos apos cpos : Pos} {td ty tv tx : TE}
theorem pe_xget (hu : X.A.units + 16 < cLine) (ho : PE X o td) (hi : PE X i ty) (hs : NoSl i) : PE X (.Subscript o i pos) (tXGet X.prog X.w X.K td ty) := by
  refine ⟨fun pins s σ H Q I h => ?_⟩
  refine subD_of PySem.F.slot_dict_getitem.lookup hs (thn (ho.run pins s σ H _ I h) fun u s1 ⟨x, H1, I1, rx, q1⟩ => thn (hi.run pins s1 σ H1 _ I1 q1) fun iv s2 ⟨y, H2, I2, ry, d, b, t, k, v, ex, ey, hr, ks, hk, hd, g, q2⟩ => ?_)
  subst ex ey
  obtain rfl : u = Value.ref d := rx
  obtain rfl : iv = Value.ref b := ry
  obtain ⟨_, _, xs, _, dd⟩ := CB.Inv.dict I2 hr ks
  exact ⟨dd.typeIs, dx_getItem hu I2 hr ks hk hd g fun w' s3 I3 rw' => ⟨v, H2, I3, rw', q2⟩⟩
theorem pc_xin (hu : X.A.units + 16 < cLine) (hi : PE X i ty) (ho : PE X o td) : PC X .In i o (tXIn X.prog X.w X.K ty td) := by
  refine ⟨fun pins s σ H Q I h => ?_⟩
  refine thn (hi.run pins s σ H _ I h) fun iv s1 ⟨y, H1, I1, ry, q1⟩ => thn (ho.run pins s1 σ H1 _ I1 q1) fun u s2 ⟨x, H2, I2, rx, d, b, t, k, ex, ey, hr, ks, hk, hd, q2⟩ => ?_
  subst ex ey
  obtain rfl : u = Value.ref d := rx
  obtain rfl : iv = Value.ref b := ry
  exact dx_in hu I2 hr ks hk hd fun s3 I3 => ⟨.bl _, H2, I3, rfl, q2⟩
theorem pc_xnotin (hu : X.A.units + 16 < cLine) (hi : PE X i ty) (ho : PE X o td) : PC X .NotIn i o (tXNotIn X.prog X.w X.K ty td) := by
  refine ⟨fun pins s σ H Q I h => ?_⟩
  refine thn (hi.run pins s σ H _ I h) fun iv s1 ⟨y, H1, I1, ry, q1⟩ => thn (ho.run pins s1 σ H1 _ I1 q1) fun u s2 ⟨x, H2, I2, rx, d, b, t, k, ex, ey, hr, ks, hk, hd, q2⟩ => ?_
  subst ex ey
  obtain rfl : u = Value.ref d := rx
  obtain rfl : iv = Value.ref b := ry
  exact dx_notIn hu I2 hr ks hk hd fun s3 I3 => ⟨.bl _, H2, I3, rfl, q2⟩
theorem ps_xput (hu : X.A.units + 16 < cLine) (ho : PE X o td) (hi : PE X i ty) (hv : PE X value tv) (hs : swapsWith value (some (.Subscript o i pos')) pos.line X.env = pure false) :
    PS X (.Assign [.Subscript o i pos'] value pos) (sXPut X.prog X.w X.K td ty tv) := by
  refine ⟨fun pins s σ H D I h => ?_⟩
  refine wpAny_Assign_Subscript (thn (hv.run pins s σ H _ I h) fun r s1 ⟨v, H1, I1, rv, q1⟩ => thn (ho.run pins s1 σ H1 _ I1 q1) fun u s2 ⟨x, H2, I2, rx, q2⟩ => thn (hi.run pins s2 σ H2 _ I2 q2) fun iv s3 ⟨y, H3, I3, ry, d, b, t, k, ex, ey, hr, ks, hk, hd, hl, q3⟩ => ?_) hs
  subst ex ey
  obtain rfl : u = Value.ref d := rx
  obtain rfl : iv = Value.ref b := ry
  exact dx_setItem hu I3 hr ks hk hd hl rv fun s4 I4 => ⟨σ, _, I4, q3⟩
theorem isX_at {pins : List (Addr × Obj)} {σ : L2.St} {H : Hp} {s : Shared} {d : Addr} (I : Inv X pins σ H s) (h : IsX X.prog X.w H d) :
    s.TypeIs (.ref d) "dict" ∧ (∀ b, Value.ref d = .ref b → ∃ ob, s.heap.get? b = some ob ∧ ob.dict = none) ∧ (d == sysModules) = false := by
  obtain ⟨t, h⟩ := h
  obtain ⟨⟨_, hs, xs, _, o, es, ep, h1, h2, _⟩, _, _⟩ := h.ok I.hok
  refine ⟨⟨o, h1, h2.1⟩, fun b q => ?_, hs⟩
  cases q
  exact ⟨o, h1, h2.2.1⟩
theorem pe_xget2 (hu : X.A.units + 16 < cLine) (ho : PE X o td) (he : PE X e ty) (hf : PE X f tx) (m : M2 X o "get" apos e f cpos) : PE X (.Call (.Attribute o "get" apos) [e, f] [] cpos) (tXGet2 X.prog X.w X.K td ty tx) := by
  refine ⟨fun pins s σ H Q I h => ?_⟩
  refine wpAny_Call_method m.base m.few m.line PySem.F.plainAttrs_dict PySem.F.slot_dict_get PySem.F.type_dict_get (thn (ho.run pins s σ H _ I h) fun u s1 ⟨x, H1, I1, rx, d, ex, dd, q1⟩ => ?_)
  subst ex
  obtain rfl : u = Value.ref d := rx
  obtain ⟨t1, t2, _⟩ := isX_at I1 dd
  refine ⟨t1, t2, ?_⟩
  rw [m.trees]
  refine Calls.callWith_builtin rfl (Calls.evalArgs_plain (Calls.spliced_cons (thn (he.run pins s1 σ H1 _ I1 q1) fun iv s2 ⟨y, H2, I2, ry, q2⟩ =>
    Calls.spliced_cons (thn (hf.run pins s2 σ H2 _ I2 q2) fun fv s3 ⟨z, H3, I3, rz, b, t, k, ey, hr, ks, hk, hd, q3⟩ => Calls.spliced_nil ?_))))
  subst ey
  obtain rfl : iv = Value.ref b := ry
  exact dx_get2 hu I3 hr ks hk hd rz fun w' s4 I4 rw' => ⟨_, H3, I4, rw', q3⟩
theorem pe_xsetd (hu : X.A.units + 16 < cLine) (ho : PE X o td) (he : PE X e ty) (hf : PE X f tx) (m : M2 X o "setdefault" apos e f cpos) : PE X (.Call (.Attribute o "setdefault" apos) [e, f] [] cpos) (tXSetd X.prog X.w X.K td ty tx) := by
  refine ⟨fun pins s σ H Q I h => ?_⟩
  refine wpAny_Call_method m.base m.few m.line PySem.F.plainAttrs_dict PySem.F.slot_dict_setdefault PySem.F.type_dict_setdefault (thn (ho.run pins s σ H _ I h) fun u s1 ⟨x, H1, I1, rx, d, ex, dd, q1⟩ => ?_)
  subst ex
  obtain rfl : u = Value.ref d := rx
  obtain ⟨t1, t2, _⟩ := isX_at I1 dd
  refine ⟨t1, t2, ?_⟩
  rw [m.trees]
  refine Calls.callWith_builtin rfl (Calls.evalArgs_plain (Calls.spliced_cons (thn (he.run pins s1 σ H1 _ I1 q1) fun iv s2 ⟨y, H2, I2, ry, q2⟩ =>
    Calls.spliced_cons (thn (hf.run pins s2 σ H2 _ I2 q2) fun fv s3 ⟨z, H3, I3, rz, b, t, k, ey, hr, ks, hk, hd, hl, q3, q4⟩ => Calls.spliced_nil ?_))))
  subst ey
  obtain rfl : iv = Value.ref b := ry
  exact dx_setdefault hu I3 hr ks hk hd hl rz (fun y w' s' g I4 rw' => ⟨y, H3, I4, rw', q3 y g⟩) fun g s' I4 => ⟨z, _, I4, rz, q4 g⟩
theorem pe_xnew : PE X (.Dict [] [] pos) (tXNew X.prog X.w) := ⟨fun pins s σ H Q I h =>
  wpAny_Dict_empty ⟨.ref s.heap.objs.size, _, I.laid (a := s.heap.objs.size) (o := DO X.prog X.w s.heap.objs.size []) (t' := s.toks) (fun _ _ q => Heap.get?_push_of_some _ q) (Nat.le_refl _)
    (dphi_ok ⟨Nat.zero_le _, beq_eq_false_iff_ne.mpr (Ne.symm (Nat.ne_of_lt I.big)), [], .nil, _, #[], 0, Heap.get?_push_size _ rfl, ⟨rfl, rfl, rfl⟩, rfl, rfl, List.nodup_nil⟩), rfl, h _ (I.hok.fresh (Nat.le_refl _))⟩⟩
end
end CB
end
section
set_option Elab.async false
set_option linter.all false
set_option maxRecDepth 100000
set_option maxHeartbeats 2000000
/-! C. walks of such dicts. -/
namespace CB
open PySem PySem.Spec PyProof.Rows L2 Enc

theorem Inv.frzX {X : Cx} {pins : List (Addr × Obj)} {σ : L2.St} {H : Hp} {s : Shared} {d : Addr} {o : Obj} {t : Raw} (I : Inv X pins σ H s) (h : H d = some (.frz o (DO X.prog X.w d t))) :
    (d == sysModules) = false ∧ s.heap.get? d = some o ∧ o.ExactDict ∧ ∃ (es : Array DictEntry) (ep : Nat), o.data = .dict es ep ∧ es.size = t.length ∧
      ∀ (i : Nat) (x : NestedKey × Addr × V), t[i]? = some x → ∃ en : DictEntry, es[i]? = some en ∧ en.key = .ref x.2.1 ∧ RelV x.2.2 en.val := by
  obtain ⟨hd, ⟨z, hs, xs, rv, o', es, ep, ho, hx, hdt, he, _⟩, _, _⟩ := I.hok d _ h
  rw [hd] at ho
  cases ho
  refine ⟨hs, hd, hx, es, ep, hdt, ?_, fun i x e => ?_⟩
  · have l1 : es.size = xs.length := size_of_entries he
    have l2 : t.length = xs.length := Paired.length rv
    omega
  · obtain ⟨b, hb, e1, e2, e3⟩ := paired_get rv e
    have q := entry_at he i
    rw [hb] at q
    exact ⟨_, q, by rw [e2]; rfl, e3⟩
/-- the keys of the locked dict at d, in their order -/
def Itx (P : Program) (w : World) (d : Addr) (o : Obj) (t : Raw) : It :=
  ⟨fun i H => H d = some (.frz o (DO P w d t)) ∧ i < t.length, fun i H x H' => H' = H ∧ ∃ e, t[i]? = some e ∧ x = .ref e.2.1, fun i H => H d = some (.frz o (DO P w d t)) ∧ t.length ≤ i⟩
section
variable {P : Program} {w : World} {K : PySem.W.Frag} {tg : Expr} {d : Addr} {o : Obj} {es : Array DictEntry} {ep : Nat}
theorem turn_keysX {t : Raw} (it : Addr) (hod : o.data = .dict es ep) : Turn P w K tg (Itx P w d o t) [it] it (fun i h => h.IsKeyIter it d i t.length ep) where
  mem := by simp
  obj := fun i h st b hb => by
    have e : b = it := by simpa using hb
    subst e
    obtain ⟨oi, e, c, dd⟩ := st
    exact ⟨oi, e, fun v z => by rw [dd] at z; cases z⟩
  keep := fun i h h' st k => st.at fun oi e => k it (by simp) oi e
  item := by
    intro X hP hw hK hc i pins s σ H E I hf st hg
    subst hP hw hK
    obtain ⟨hd, hi⟩ := hg
    obtain ⟨f0, f1, f2, f3, f4, f5⟩ := hf it (by simp)
    obtain ⟨hs, hgd, hx, es', ep', hdt, hsz, ent⟩ := CB.Inv.frzX I hd
    obtain ⟨rfl, rfl⟩ := dict_ep hod hdt
    obtain ⟨x, hkv⟩ : ∃ p, t[i]? = some p := ⟨t[i], List.getElem?_eq_getElem hi⟩
    obtain ⟨en, hen, hkey, _⟩ := ent i x hkv
    refine next_key_item st hgd hdt hsz hen fun h' st' sb => ?_
    have I1 : Inv X pins σ H { s with heap := h' } := I.turned (t' := s.toks) (fun b ob hb e => (sb.2 b hb).trans e) f0 f1 f3 f4 f5
    obtain ⟨oi, e, c, dd⟩ := id st'
    exact ⟨en.key, rfl, go_of (s := { s with heap := h' }) e c dd (by decide) ⟨.ref x.2.1, H, I1, hkey, ⟨rfl, x, hkv, rfl⟩, st', fun b hb => (hf b hb).1⟩⟩
  done := by
    intro X hP hw hK hc i pins s σ H E I hf st hg
    subst hP hw hK
    obtain ⟨hd, hi⟩ := hg
    obtain ⟨f0, f1, f2, f3, f4, f5⟩ := hf it (by simp)
    obtain ⟨hs, hgd, hx, es', ep', hdt, hsz, ent⟩ := CB.Inv.frzX I hd
    obtain ⟨rfl, rfl⟩ := dict_ep hod hdt
    exact next_key_end (I.ok.hd hc) st hgd hdt hsz hi fun h' eb => ⟨rfl, I.turned (t' := s.toks) (fun b ob hb e => eb b ob hb e) f0 f1 f3 f4 f5⟩
  self := fun A i s Q E st h => by
    refine wpAny_pyIter_slot st.typeIs F.slot_dict_keyiterator_iter (wpAny_call_entry F.slot_dict_keyiterator_iter st.typeIs F.entry_dict_keyiterator_iter ?_ (F.args_dict_keyiterator_iter_1 _))
    show wpAny _ _ (ret (.ref it)) _ _ s
    exact wpAny_pure ⟨_, rfl, "dict_keyiterator", _, st.typeIs, F.slot_dict_keyiterator_next.lookup, h⟩
end
def iXKeys (P : Program) (w : World) (td : TE) : TI := fun σ H R => td σ H fun x H1 => ∃ d o t, x = .ref d ∧ H1 d = some (.frz o (DO P w d t)) ∧ R (Itx P w d o t) H1
theorem pi_xkeys {X : Cx} {tg e : Expr} {td : TE} (he : PE X e td) : PI X tg e (iXKeys X.prog X.w td) := by
  refine ⟨fun pins s σ H R I h => ?_⟩
  refine thn (he.run pins s σ H _ I h) fun u s1 ⟨x, H1, I1, rx, d, o, t, ex, hd, q⟩ => ?_
  subst ex
  obtain rfl : u = Value.ref d := rx
  obtain ⟨hs, hgd, hx, es, ep, hdt, hsz, ent⟩ := CB.Inv.frzX I1 hd
  refine iter_keys hs hgd hx hdt (pi_one (tk := s1.toks) I1 _ (turn_keysX _ hdt) ⟨_, Heap.get?_push_size _ rfl, rfl, ?_⟩ q)
  rw [hsz] <;> rfl
theorem walk_keysX {P : Program} {w : World} {d : Addr} {o : Obj} {t : Raw} : Walk (Itx P w d o t) t.length (fun H => H d = some (.frz o (DO P w d t))) (fun i H x H' => H' = H ∧ ∃ e, t[i]? = some e ∧ x = .ref e.2.1) :=
  ⟨fun _ _ hi q => ⟨q, hi⟩, fun _ q => ⟨q, Nat.le_refl _⟩, fun _ _ _ _ _ _ y => y⟩
end CB
end
section
set_option Elab.async false
set_option linter.all false
set_option maxRecDepth 100000
set_option maxHeartbeats 2000000
/-! D. sorted: of lists, dicts, sets of tuples of any shape, () among them. -/
namespace PySem.W
open PySem PySem.Calls PyProof.Rows PySem.SeqAt
theorem call_tuple_ltD {A : Around} {s : Shared} {prog : Program} {w : World} {E : Value → Shared → Prop} {Q : Value → Shared → Prop} {l b : Addr} {items items2 : Array Value} {e r : Nat → Bool} (hl : s.heap.IsTuple l items) (hb : s.heap.IsTuple b items2)
    (he : ∀ j (h1 : j < items.size) (h2 : j < items2.size), EqAt A.in1 s items[j] items2[j] (e j)) (hr : ∀ j (h1 : j < items.size) (h2 : j < items2.size), e j = false → RcLt A.in1 s items[j] items2[j] (r j))
    (h : Q (.bool (firstLt e r (decide (items.size < items2.size)) (List.range (min items.size items2.size)))) s) : wpAny (model prog w) A (call (.builtin "tuple.__lt__") [.ref l, .ref b]) Q E s := by
  obtain ⟨⟨cls, dd, data, sl⟩, ho, hc, n, hd⟩ := id hl
  obtain ⟨⟨cls2, dd2, data2, sl2⟩, ho2, hc2, n2, hd2⟩ := id hb
  simp only at hc hd hc2 hd2
  subst hc hd hc2 hd2
  exact call_meets F.slot_tuple_lt ⟨_, ho, rfl⟩ F.entry_tuple_lt (F.args_tuple_lt_2 _ _) (tuple_ltAt l b items items2 n n2 dd dd2 sl sl2 e r) ⟨ho, ho2, he, hr, h⟩
theorem oneLt_tups {A : Around} {s : Shared} {prog : Program} {w : World} {E : Value → Shared → Prop} {xs ys : List PyData} {a b : Value} {as bs : List Addr} {Q : Bool → Shared → Prop} (ra : Reads s.heap a (.tuple xs) as) (rb : Reads s.heap b (.tuple ys) bs)
    (hal : alikeAll xs ys = true) (hu : A.units + min (PyData.tuple xs).depth (PyData.tuple ys).depth < cLine) (hq : Q (dataLt (.tuple xs) (.tuple ys)) s) : wpAny (model prog w) A (oneLt' true a b) Q E s := by
  cases ra with
  | @tuple l o vs n _ as₁ h1 h2 h3 h4 =>
    cases rb with
    | @tuple l' o' vs' n' _ bs₁ k1 k2 k3 k4 =>
      have n1 : vs.size = xs.length := by simpa using ReadsAll.length _ _ _ h4
      have n2 : vs'.size = ys.length := by simpa using ReadsAll.length _ _ _ k4
      rw [dataLt_tuple, ← firstLt_toks xs ys hal, ← n1, ← n2] at hq
      rw [oneLt'_eq]
      simp only [if_true]
      refine wpAny_bind (wpAny_cRoomFor (room_here hu) ?_)
      refine wpAny_bind (wpAny_callSpecialIfBound?_slot (T := "tuple") ⟨_, h1, h2⟩ F.slot_tuple_lt (call_tuple_ltD (e := pairEq xs ys) (r := fun j => dataLt (xs.getD j .none) (ys.getD j .none)) ⟨_, h1, h2, _, h3⟩ ⟨_, k1, k2, _, k3⟩ (fun j j1 j2 => ?_) (fun j j1 j2 hj => ?_) ?_))
      · have := eqAt_alikeAll xs ys A.in1 s vs.toList vs'.toList _ _ h4 k4 hal (room_in hu) j (by simpa using j1) (by simpa using j2)
        simpa using this
      · have := rcLt_alikeAll xs ys A.in1 s vs.toList vs'.toList _ _ h4 k4 hal (room_in hu) j (by simpa using j1) (by simpa using j2) hj
        simpa using this
      · exact wpAny_truthy_bool hq
/-- the first items of tuples, or none -/
def headOf (d : PyData) : Bool := match d with
  | .tuple (_ :: _) => true
  | _ => false
theorem firsts_of {M : Model} {A : Around} {E : Value → Shared → Prop} {s : Shared} : ∀ (vs : List Value) (ds : List PyData) {Q : List (Option Value) → Shared → Prop}, EachIs (fun v d => ∃ as, Reads s.heap v d as) vs ds → (∀ d, d ∈ ds → ∃ xs, d = .tuple xs) →
    (∀ fs : List (Option Value), fs.map Option.isSome = ds.map headOf → Q fs s) → wpAny M A (vs.mapM firstOfTuple') Q E s
  | [], _, Q, e, _, h => by
    cases e
    rw [List.mapM_nil]
    exact wpAny_pure (h [] rfl)
  | v :: vs, _, Q, e, ht, h => by
    cases e with
    | @cons _ d _ ds r e =>
      obtain ⟨as, r⟩ := r
      obtain ⟨xs, rfl⟩ := ht d (List.mem_cons_self ..)
      cases r with
      | @tuple a o its n _ _ ho hc hd hr =>
        rw [List.mapM_cons]
        refine wpAny_bind ?_
        rw [kas_first_eq]
        refine wpAny_bind (Looks.here (show Looks M s.heap (typeOf (.ref a)) o.cls from (Looks.ld ho).andThen .now) ?_)
        rw [hc, if_neg (by first | decide | simp)]
        refine wpAny_bind (listItems_at ho hd (wpAny_pure ?_))
        refine wpAny_bind (firsts_of vs ds e (fun d hd => ht d (List.mem_cons_of_mem _ hd)) fun fs hf => wpAny_pure (h _ ?_))
        rw [List.map_cons, List.map_cons, hf]
        have z : (its[0]?).isSome = headOf (.tuple xs) := by
          cases q : its.toList with
          | nil =>
            rw [q] at hr
            cases hr
            have : its[0]? = none := by rw [← Array.getElem?_toList, q]; rfl
            rw [this]
            rfl
          | cons f fr =>
            rw [q] at hr
            cases hr
            have : its[0]? = some f := by rw [← Array.getElem?_toList, q]; rfl
            rw [this]
            rfl
        rw [z]
theorem looks_tups {M : Model} {h : Heap} {vs : List Value} {ds : List PyData} (e : EachIs (fun v d => ∃ as, Reads h v d as) vs ds) (ht : ∀ d, d ∈ ds → ∃ xs, d = .tuple xs) : ∀ v ∈ vs, Looks M h (typeOf v) (.type "tuple") := fun v hv => by
  obtain ⟨d, hd, as, r⟩ := e.left v hv
  obtain ⟨xs, rfl⟩ := ht d hd
  exact looks_reads r
/-- tuples that are alike can be sorted, whatever their lengths -/
theorem SortsAt.tups {prog : Program} {w : World} {A : Around} {s : Shared} {vs : List Value} {ds : List PyData} (e : EachIs (fun v d => ∃ as, Reads s.heap v d as) vs ds) (hal : AllAlike ds) (ht : ∀ d, d ∈ ds → ∃ xs, d = .tuple xs) (hu : ∀ d, d ∈ ds → A.units + d.depth < cLine) :
    SortsAt prog w A s (dataKind s.heap ds) vs := by
  by_cases hne : ∀ d, d ∈ ds → headOf d = true
  · refine SortsAt.data e hal (.inl fun d hd => ?_) hu
    obtain ⟨xs, rfl⟩ := ht d hd
    have z := hne _ hd
    cases xs with
    | nil => cases z
    | cons x r => exact ⟨x, r, rfl⟩
  · have room : ∀ {d d' : PyData}, d ∈ ds → A.units + min d.depth d'.depth < cLine := fun {d d'} hd => Nat.lt_of_le_of_lt (Nat.add_le_add_left (Nat.min_le_left _ _) _) (hu d hd)
    have lt1 : ∀ (E : Value → Shared → Prop) (x y : Value) (a b : (dataKind s.heap ds).α) (Q : Bool → Shared → Prop) (f : Bool), (dataKind s.heap ds).keyOf x = some a → (dataKind s.heap ds).keyOf y = some b → Q ((dataKind s.heap ds).blt a b) s → wpAny (model prog w) A (oneLt' f x y) Q E s := by
      intro E x y a b Q f ha hb hq
      obtain ⟨d, as, hd, ra, rfl⟩ := dataKind_inv ha
      obtain ⟨d', as', hd', rb, rfl⟩ := dataKind_inv hb
      have hdd := hal d hd d' hd'
      obtain ⟨xs, rfl⟩ := ht d hd
      obtain ⟨ys, rfl⟩ := ht d' hd'
      cases f with
      | false => exact oneLt_alike (f := false) (fun z => absurd z Bool.false_ne_true) ra rb hdd (fun z => nomatch z) (room hd) hq
      | true => exact oneLt_tups ra rb (by simpa [alike] using hdd) (room hd) hq
    refine ⟨fun v hv => ?_, ?_⟩
    · obtain ⟨d, hd, as, r⟩ := e.left v hv
      exact ⟨_, dataKind_some hal hd r⟩
    · cases ds with
      | nil => exact absurd (fun d hd => absurd hd (by simp)) hne
      | cons d₀ ds₀ =>
        have notall : ∀ fs : List (Option Value), fs.map Option.isSome = (d₀ :: ds₀).map headOf → ¬ (fs.toArray.all (·.isSome)) = true := by
          intro fs hf hall
          refine hne fun d hd => ?_
          have h1 : ∀ b ∈ fs.map Option.isSome, b = true := by
            intro b hb
            obtain ⟨o, ho, rfl⟩ := List.mem_map.mp hb
            simp only [List.all_toArray, List.all_eq_true] at hall
            exact hall o ho
          exact h1 _ (by rw [hf]; exact List.mem_map.mpr ⟨d, hd, rfl⟩)
        have first : ∀ fs : List (Option Value), fs.map Option.isSome = (d₀ :: ds₀).map headOf → (fs.toArray[0]?.bind id).isSome = headOf d₀ := by
          intro fs hf
          cases fs with
          | nil => cases hf
          | cons f r =>
            rw [List.map_cons, List.map_cons] at hf
            injection hf with hf _
        refine ⟨if headOf d₀ = true then general' else oneType', ?_, fun h2 E Q hq => ?_⟩
        · intro E x y a b Q ha hb hq
          by_cases c : headOf d₀ = true
          · rw [if_pos c]
            exact lt1 E x y a b Q false ha hb hq
          · rw [if_neg c]
            exact lt1 E x y a b Q true ha hb hq
        · rw [keyKind'_eq, List.mapM_toArray, map_eq_pure_bind]
          refine wpAny_bind (wpAny_bind (firsts_of vs _ e ht fun fs hf => wpAny_pure ?_))
          rw [if_neg (notall fs hf), first fs hf]
          by_cases c : headOf d₀ = true
          · rw [if_pos c]
            rw [if_pos c] at hq
            exact wpAny_pure hq
          · rw [if_neg c]
            rw [if_neg c] at hq
            have hT := looks_tups (M := model prog w) e ht
            rw [oneTypeOnly'_eq, List.mapM_toArray, map_eq_pure_bind]
            obtain ⟨v₁, v₂, rest, rfl⟩ : ∃ v₁ v₂ rest, vs = v₁ :: v₂ :: rest := by
              match vs, h2 with
              | [], h2 => simp at h2
              | [_], h2 => simp at h2
              | v₁ :: v₂ :: rest, _ => exact ⟨v₁, v₂, rest, rfl⟩
            refine wpAny_bind (wpAny_bind (wpAny_bind (kas_mapM (r := Value.type "tuple") _ (fun v hv Q' hq => (hT v hv).here hq) (wpAny_pure ?_))))
            have hall : ((List.map (fun _ => Value.type "tuple") (v₁ :: v₂ :: rest)).toArray.all fun x => x == Value.type "tuple") = true := by
              simp only [List.all_toArray, List.all_map, List.all_eq_true]
              intro x _
              exact beq_self_eq_true _
            have h0 : (List.map (fun _ => Value.type "tuple") (v₁ :: v₂ :: rest)).toArray[0]? = some (Value.type "tuple") := by simp
            rw [h0]
            simp only [hall, if_true]
            first
              | exact wpAny_pure (wpAny_pure hq)
              | exact wpAny_pure hq
end PySem.W

namespace CB
open PySem PySem.Spec PyProof.Rows L2 Enc

/-! ### data as read -/
theorem data_depth : ∀ k : NestedKey, k.data.depth = k.depth := by
  have both : ∀ n : Nat, (∀ k : NestedKey, sizeOf k ≤ n → k.data.depth = k.depth) ∧ (∀ ks : List NestedKey, sizeOf ks ≤ n → PyData.depthAll (NestedKey.datas ks) = NestedKey.depthAll ks) := by
    intro n
    induction n with
    | zero =>
      refine ⟨fun k hk => ?_, fun ks hk => ?_⟩
      · cases k <;> simp at hk
      · cases ks <;> simp at hk
    | succ n ih =>
      refine ⟨fun k hk => ?_, fun ks hk => ?_⟩
      · cases k with
        | none => simp [NestedKey.data, PyData.depth, NestedKey.depth]
        | num i => simp [NestedKey.data, PyData.depth, NestedKey.depth]
        | text x => simp [NestedKey.data, PyData.depth, NestedKey.depth]
        | tup ks =>
          rw [NestedKey.data, PyData.depth, NestedKey.depth, ih.2 ks (by simp at hk; omega)]
      · cases ks with
        | nil => simp [NestedKey.datas, PyData.depthAll, NestedKey.depthAll]
        | cons k ks =>
          simp at hk
          rw [NestedKey.datas, PyData.depthAll, NestedKey.depthAll, ih.1 k (by omega), ih.2 ks (by omega)]
  exact fun k => (both (sizeOf k)).1 k (Nat.le_refl _)
section
variable {X : Cx} {pins : List (Addr × Obj)} {σ : L2.St} {H : Hp} {s : Shared}
mutual
theorem Im.reads (I : Inv X pins σ H s) : ∀ (k : NestedKey) (v : V) (u : Value), Im X.K H k v → RelV v u → Reads s.heap u k.data []
  | .none, _, _, h, r => by
    cases h
    cases r
    exact .none
  | .num i, _, _, h, r => by
    cases h
    obtain ⟨t, rfl⟩ := r
    exact .int i t
  | .text x, _, _, h, r => by
    cases h
    obtain ⟨t, rfl⟩ := r
    exact .str x t
  | .tup ks, _, _, h, r => by
    obtain ⟨a, xs, rfl, h1, h2⟩ := h
    cases r
    obtain ⟨its, rv, ⟨o, ho, hc, n, hd⟩, _⟩ := I.tuple h1
    exact .tuple ho hc hd (by simpa using Ims.reads I ks xs its h2 rv)
theorem Ims.reads (I : Inv X pins σ H s) : ∀ (ks : List NestedKey) (vs : List V) (us : List Value), Ims X.K H ks vs → Vals vs us → ReadsAll s.heap us (NestedKey.datas ks) []
  | [], _, _, h, r => by
    cases h
    cases r
    exact .nil
  | k :: ks, _, _, h, r => by
    obtain ⟨x, xr, rfl, h1, h2⟩ := h
    cases r with
    | cons r1 r2 => exact .cons (as := []) (bs := []) (Im.reads I k x _ h1 r1) (Ims.reads I ks xr _ h2 r2)
end
end
/-! ### the order -/
def dat {α : Type} [Enc α] (a : α) : PyData := (enc a).data
def elt {α : Type} [Enc α] (a b : α) : Bool := PySem.W.dataLt (dat a) (dat b)
/-- sorted(as) -/
def esort {α : Type} [Enc α] (as : List α) : List α := as.mergeSort (PySem.W.dataLe false dat)
/-- kinds whose data are tuples -/
class TupE (α : Type) [Enc α] : Prop where
  tup : ∀ a : α, ∃ ks, enc a = .tup ks
instance {α : Type} [Enc α] : TupE (List α) := ⟨fun a => ⟨_, rfl⟩⟩
instance {α β : Type} [Enc α] [Enc β] : TupE (α × β) := ⟨fun a => ⟨_, rfl⟩⟩
instance : TupE Rat := ⟨fun a => ⟨_, rfl⟩⟩
section
variable {α : Type} [Enc α]
/-- a value of the heap is a -/
def RI (K : PySem.W.Frag) (H : Hp) (u : Value) (a : α) : Prop := ∃ x : V, RelV x u ∧ Is K H x a
theorem ri_of {K : PySem.W.Frag} {H : Hp} : ∀ {as : List α} {xs : List V} {us : List Value}, Ims K H (as.map enc) xs → Vals xs us → PySem.W.EachIs (RI K H) us as
  | [], _, _, h, r => by
    cases h
    cases r
    exact .nil
  | a :: as, _, _, h, r => by
    obtain ⟨x, xr, rfl, h1, h2⟩ := h
    cases r with
    | cons r1 r2 => exact .cons ⟨x, r1, h1⟩ (ri_of h2 r2)
theorem of_ri {K : PySem.W.Frag} {H : Hp} : ∀ {as : List α} {us : List Value}, PySem.W.EachIs (RI K H) us as → ∃ xs, Ims K H (as.map enc) xs ∧ Vals xs us
  | [], _, h => by
    cases h
    exact ⟨[], rfl, .nil⟩
  | a :: as, _, h => by
    cases h with
    | cons h1 h2 =>
      obtain ⟨x, r, i⟩ := h1
      obtain ⟨xs, i2, r2⟩ := of_ri h2
      exact ⟨x :: xs, ⟨x, xs, rfl, i, i2⟩, .cons r r2⟩
theorem ri_reads {X : Cx} {pins : List (Addr × Obj)} {σ : L2.St} {H : Hp} {s : Shared} (I : Inv X pins σ H s) {us : List Value} {as : List α} (h : PySem.W.EachIs (RI X.K H) us as) : PySem.W.EachIs (fun v b => ∃ as, Reads s.heap v (dat b) as) us as :=
  h.mono fun _ _ ⟨x, r, i⟩ => ⟨[], Im.reads I _ _ _ i r⟩
theorem all_alike (as : List α) : PySem.W.AllAlike (as.map dat) := PySem.W.AllAlike.of fun a b => alk a b
theorem all_tups [TupE α] (as : List α) : ∀ d ∈ as.map dat, ∃ xs, d = .tuple xs := fun d hd => by
  obtain ⟨a, _, rfl⟩ := List.mem_map.mp hd
  obtain ⟨ks, e⟩ := TupE.tup a
  exact ⟨NestedKey.datas ks, by unfold dat; rw [e, NestedKey.data]⟩
theorem dat_depth (a : α) : (dat a).depth ≤ dp α := by
  unfold dat
  rw [data_depth]
  exact Enc.le a
theorem esort_len (as : List α) : (esort as).length = as.length := by
  unfold esort
  exact List.length_mergeSort as
end
section
variable {X : Cx} {α : Type} [Enc α] [TupE α]
theorem Ims.fresh {K : PySem.W.Frag} {H : Hp} {p : Addr} {o : HO} {ks : List NestedKey} {xs : List V} (h : Ims K H ks xs) (hp : H p = none) : Ims K (upd H p o) ks xs := Ims.up (Le.new hp) _ _ h
/-- what a sorted list is: a new list -/
def NewLs (K : PySem.W.Frag) (as : List α) (H : Hp) (Q : VK) : Prop := ∀ p xs, H p = none → Ims K H (as.map enc) xs → Q (.ref p) (upd H p (.lst xs))
/-- sorted(xs) of a list -/
def rSortL (K : PySem.W.Frag) (as : List α) : List V → Hp → VK → Prop := fun vs H Q => ∃ v, vs = [v] ∧ Ls K H v as ∧ NewLs K (esort as) H Q
theorem cr_sortL (as : List α) (hr : X.A.units + 40 < cLine) (hd : dp α ≤ 30) : CallR X (.builtin "sorted") (rSortL X.K as) := by
  intro pins s σ H vs us Q I r h
  obtain ⟨v, rfl, ⟨l, xs, rfl, hl, hi⟩, q⟩ := h
  obtain ⟨u, rfl, rx⟩ := vals1 r
  cases rx
  obtain ⟨its, rv, pl, hz⟩ := I.list hl
  have e := ri_of hi rv
  have er := ri_reads I e
  have hlen : as.length = its.length := e.length.symm
  have hL : its.length ≤ sizeLine := by
    have := rv.length
    omega
  have er' : PySem.W.EachIs (fun v b => ∃ as, Reads (PySem.W.sortingHeap (PySem.W.copyHeap s.heap its) (s.heap.objs.size + 1) its) v (dat b) as) its as := er.mono fun _ _ ⟨as, r⟩ => ⟨as, PyProof.Rows.Reads.keeps (fun _ _ => PySem.W.sorting_copy_old) r⟩
  refine PySem.W.sorted_vals pl.isList (PySem.W.SortsAt.tups (s := { s with heap := PySem.W.sortingHeap (PySem.W.copyHeap s.heap its) (s.heap.objs.size + 1) its })
    (PySem.W.each_map (R := fun v d => ∃ as, Reads (PySem.W.sortingHeap (PySem.W.copyHeap s.heap its) (s.heap.objs.size + 1) its) v d as) dat er') (all_alike as) (all_tups as) (fun d hdm => ?_)) hL ?_
  · obtain ⟨a, _, rfl⟩ := List.mem_map.mp hdm
    have := dat_depth a
    rw [Around.in1_units, Around.in1_units]
    omega
  · have out := PySem.W.sortVals_data false e er' (all_alike as)
    obtain ⟨ys, i2, r2⟩ := of_ri out
    obtain ⟨c, hc⟩ := sortedAll_at s.heap its (PySem.W.sortVals (PySem.W.dataKind (PySem.W.sortingHeap (PySem.W.copyHeap s.heap its) (s.heap.objs.size + 1) its) (as.map dat)) false its its).toArray
    have hn : H (s.heap.objs.size + 1) = none := I.hok.fresh (Nat.le_succ _)
    have hy : ys.length ≤ sizeLine := by
      have h1 := i2.length
      rw [List.length_map] at h1
      have h2 := esort_len as
      unfold esort at h2
      omega
    exact ⟨.ref (s.heap.objs.size + 1), upd H (s.heap.objs.size + 1) (.lst ys), I.laid (t' := s.toks) (fun b o q => sortedAll_old q) (Nat.le_succ _) (show ObjOk X.prog X.w _ _ _ (.lst ys) from ⟨hy, _, c, r2, hc⟩), rfl, q _ ys hn i2⟩
/-- list.sort of a new list, as sorted asks it -/
theorem sort_new {A : Around} {E : Value → Shared → Prop} {pins : List (Addr × Obj)} {σ : L2.St} {H : Hp} {s : Shared} {us : List Value} {as : List α} {Q : Value → Shared → Prop} (I : Inv X pins σ H s) (e : PySem.W.EachIs (RI X.K H) us as) (hr : A.units + 35 < cLine) (hd : dp α ≤ 30)
    (hL : us.length ≤ sizeLine) (h : ∀ h' c out, (∀ b o, s.heap.get? b = some o → h'.get? b = some o) → h'.get? s.heap.objs.size = some (seqObj "list" (List.toArray out) c) → PySem.W.EachIs (RI X.K H) out (esort as) → Q .none { s with heap := h' }) :
    wpAny (model X.prog X.w) A (call (.builtin "list.sort") [.ref s.heap.objs.size]) Q E { s with heap := s.heap.push (seqObj "list" us.toArray 0) } := by
  have er := ri_reads I e
  have er' : PySem.W.EachIs (fun v b => ∃ as, Reads (PySem.W.sortingHeap (s.heap.push (seqObj "list" us.toArray 0)) s.heap.objs.size us) v (dat b) as) us as := er.mono fun v b ⟨as, r⟩ => ⟨as, PyProof.Rows.Reads.keeps (fun b o q => PySem.W.sortingHeap_old (Nat.ne_of_lt (Heap.lt_size q)) (Heap.get?_push_of_some _ q)) r⟩
  have ho : (s.heap.push (seqObj "list" us.toArray 0)).get? s.heap.objs.size = some (seqObj "list" us.toArray 0) := Heap.get?_push_size _ rfl
  refine wpAny_call_entry slot_list_sort ⟨_, ho, rfl⟩ entry_list_sort (PySem.W.list_sort_vals (s := { s with heap := s.heap.push (seqObj "list" us.toArray 0) }) ho (PySem.W.SortsAt.tups (s := { s with heap := PySem.W.sortingHeap (s.heap.push (seqObj "list" us.toArray 0)) s.heap.objs.size us })
    (PySem.W.each_map (R := fun v d => ∃ as, Reads (PySem.W.sortingHeap (s.heap.push (seqObj "list" us.toArray 0)) s.heap.objs.size us) v d as) dat er') (all_alike as) (all_tups as) (fun d hdm => ?_)) hL ⟨.none, rfl, ?_⟩) (args_list_sort _)
  · obtain ⟨a, _, rfl⟩ := List.mem_map.mp hdm
    have := dat_depth a
    rw [Around.in1_units]
    omega
  · have out := PySem.W.sortVals_data false e er' (all_alike as)
    obtain ⟨c, hc⟩ := sortedHeap_at (vs := us) (out := (PySem.W.sortVals (PySem.W.dataKind (PySem.W.sortingHeap (s.heap.push (seqObj "list" us.toArray 0)) s.heap.objs.size us) (as.map dat)) false us us).toArray) ho
    refine h _ c _ (fun b o q => ?_) hc out
    have hb : b < s.heap.objs.size := Heap.lt_size q
    rw [sortedHeap_old (Nat.ne_of_lt hb) (by rw [size_push']; exact Nat.lt_succ_of_lt hb)]
    exact Heap.get?_push_of_some _ q
end
end CB
end
section
set_option Elab.async false
set_option linter.all false
set_option maxRecDepth 100000
set_option maxHeartbeats 2000000
/-! E. sorted of a dict, of a set; set(list). -/
namespace CB
open PySem PySem.Spec PyProof.Rows L2 Enc

theorem Inv.rawX {X : Cx} {pins : List (Addr × Obj)} {σ : L2.St} {H : Hp} {s : Shared} {d : Addr} {t : Raw} (I : Inv X pins σ H s) (h : Rd H d (DO X.prog X.w d t)) :
    (d == sysModules) = false ∧ t.length ≤ sizeLine ∧ ∃ es ep, s.heap.DictRaw d es ep ∧ es.size = t.length ∧ ∀ (i : Nat) (x : NestedKey × Addr × V), t[i]? = some x → ∃ en : DictEntry, es[i]? = some en ∧ en.key = .ref x.2.1 ∧ RelV x.2.2 en.val := by
  obtain ⟨⟨z, hs, xs, rv, o, es, ep, ho, hx, hdt, he, _⟩, _, _⟩ := h.ok I.hok
  refine ⟨hs, z, es, ep, ⟨o, ho, hx, hdt⟩, ?_, fun i x e => ?_⟩
  · have l1 : es.size = xs.length := size_of_entries he
    have l2 : t.length = xs.length := Paired.length rv
    omega
  · obtain ⟨b, hb, e1, e2, e3⟩ := paired_get rv e
    have q := entry_at he i
    rw [hb] at q
    exact ⟨_, q, by rw [e2]; rfl, e3⟩
theorem each_at {α β : Type} {R : α → β → Prop} : ∀ {us : List α} {as : List β}, us.length = as.length → (∀ (i : Nat) u, us[i]? = some u → ∃ a, as[i]? = some a ∧ R u a) → PySem.W.EachIs R us as
  | [], [], _, _ => .nil
  | [], _ :: _, h, _ => by cases h
  | _ :: _, [], h, _ => by cases h
  | u :: us, a :: as, h, g => by
    refine .cons ?_ (each_at (by simpa using h) fun i x e => by simpa using g (i + 1) x (by simpa using e))
    obtain ⟨a', e, r⟩ := g 0 u rfl
    cases e
    exact r
section
variable {X : Cx} {α : Type} [Enc α] [TupE α]
/-- sorted(d) -/
def rSortD (P : Program) (w : World) (K : PySem.W.Frag) (as : List α) : List V → Hp → VK → Prop := fun vs H Q => ∃ d t, vs = [.ref d] ∧ Rd H d (DO P w d t) ∧ KeysOk K H t ∧ t.map (·.1) = as.map enc ∧ NewLs K (esort as) H Q
theorem cr_sortD (as : List α) (hcalm : X.calm = true) (hr : X.A.units + 40 < cLine) (hd : dp α ≤ 30) : CallR X (.builtin "sorted") (rSortD X.prog X.w X.K as) := by
  intro pins s σ H vs us Q I r h
  obtain ⟨d, t, rfl, hx, hks, hka, q⟩ := h
  obtain ⟨u, rfl, rx⟩ := vals1 r
  cases rx
  obtain ⟨lo, hz, es, ep, hraw, hsz, ent⟩ := CB.Inv.rawX I hx
  have hlen : t.length = as.length := by
    have := congrArg List.length hka
    simpa using this
  refine Calls.call_function_entry PyProof.Rows.kind_sorted PyProof.Rows.plain_sorted PyProof.Rows.entry_sorted (PyProof.Rows.args_sorted1 _) ?_
  unfold Builtin.«sorted»
  refine wpAny_bind (m := checkCount "sorted" 1 1 _) (wpAny_pure ?_)
  refine wpAny_bind (PySem.W.kdu_collect (A := X.A.in1) (KdlSrc.rawDict (es := es) (ep := ep) lo) (I.ok.hd hcalm) hraw (by omega) fun h' tk acc hk hacc => ?_)
  have hal : acc.toList.length = as.length := by rw [Array.length_toList, hacc.1]; omega
  have I1 : Inv X pins σ H { s with heap := h', toks := tk } := I.kept hk
  have e : PySem.W.EachIs (RI X.K H) acc.toList as := each_at hal fun j v ev => by
    obtain ⟨hi, e1⟩ := hacc.2 j v (by rw [← Array.getElem?_toList]; exact ev)
    have hj : j < t.length := by omega
    have ht : t[j]? = some t[j] := List.getElem?_eq_getElem hj
    obtain ⟨en, e2, e3, _⟩ := ent j _ ht
    have e4 : es[j] = en := by
      rw [Array.getElem?_eq_getElem hi] at e2
      exact Option.some.inj e2
    have hja : j < as.length := by omega
    refine ⟨as[j], List.getElem?_eq_getElem hja, .ref t[j].2.1, ?_, ?_⟩
    · rw [e1, e4, e3]
      rfl
    · have k1 : (t.map (·.1))[j]? = (as.map enc)[j]? := by rw [hka]
      rw [List.getElem?_map, List.getElem?_map, ht, List.getElem?_eq_getElem hja] at k1
      have k2 : t[j].1 = enc as[j] := Option.some.inj k1
      have k3 := (hks t[j] (List.getElem_mem hj)).1
      show Im X.K H (enc as[j]) _
      rw [← k2]
      exact k3
  refine wpAny_bind (wpAny_newList ?_ (by omega))
  show wpAny _ _ _ _ _ { s with heap := h'.push (seqObj "list" acc.toList.toArray 0), toks := tk }
  refine wpAny_bind (wpAny_holding (sort_new I1 e (by rw [Around.in1_units]; omega) hd (by omega) fun h2 c out k2 hc eo => ?_))
  obtain ⟨ys, i2, r2⟩ := of_ri eo
  have hn : H h'.objs.size = none := I1.hok.fresh (Nat.le_refl _)
  have hy : ys.length ≤ sizeLine := by
    have h1 := i2.length
    rw [List.length_map] at h1
    have h2 := esort_len as
    omega
  exact wpAny_pure ⟨_, rfl, .ref h'.objs.size, upd H h'.objs.size (.lst ys), I1.laid (t' := tk) k2 (Nat.le_refl _) (show ObjOk X.prog X.w _ _ _ (.lst ys) from ⟨hy, _, c, r2, hc⟩), rfl, q _ ys hn i2⟩
end
/-! ### lots: tuples of ints -/
theorem ims_ints {K : PySem.W.Frag} {H : Hp} : ∀ {l : List Int} {xs : List V}, Ims K H (l.map enc) xs → xs = l.map V.int
  | [], _, h => h
  | i :: l, _, h => by
    obtain ⟨x, r, rfl, h1, h2⟩ := h
    have e1 : x = .int i := h1
    rw [List.map_cons, e1, ims_ints h2]
theorem ints_ims {K : PySem.W.Frag} {H : Hp} : ∀ (l : List Int), Ims K H (l.map enc) (l.map V.int)
  | [] => rfl
  | i :: l => ⟨.int i, l.map V.int, rfl, rfl, ints_ims l⟩
theorem Is.lot {K : PySem.W.Frag} {H : Hp} {v : V} {l : List Int} (h : Is K H v l) : ∃ p, v = .ref p ∧ SqT K H p (l.map V.int) := by
  obtain ⟨p, xs, e, h1, h2⟩ := h
  exact ⟨p, e, by rw [ims_ints h2] at h1; exact h1⟩
theorem Is.of_lot {K : PySem.W.Frag} {H : Hp} {p : Addr} {l : List Int} (h : SqT K H p (l.map V.int)) : Is K H (.ref p) l := ⟨p, _, rfl, h, ints_ims l⟩
theorem Ims.refs {K : PySem.W.Frag} {H : Hp} : ∀ {as : List (List Int)} {xs : List V}, Ims K H (as.map enc) xs → ∃ ks : List (Addr × List Int), xs = ks.map (fun p => V.ref p.1) ∧ ks.map (·.2) = as ∧ ∀ p ∈ ks, SqT K H p.1 (p.2.map V.int)
  | [], _, h => ⟨[], h, rfl, fun _ hp => by cases hp⟩
  | a :: as, _, h => by
    obtain ⟨x, r, rfl, h1, h2⟩ := h
    obtain ⟨p, rfl, h3⟩ := Is.lot h1
    obtain ⟨ks, e1, e2, h4⟩ := Ims.refs h2
    refine ⟨(p, a) :: ks, by rw [List.map_cons, e1], by rw [List.map_cons, e2], fun q hq => ?_⟩
    rcases List.mem_cons.mp hq with e | hq
    · rw [e]
      exact h3
    · exact h4 q hq
/-! ### sets of lots -/
section
variable {X : Cx}
/-- set(xs) -/
def rSetL (P : Program) (w : World) (K : PySem.W.Frag) (as : List (List Int)) : List V → Hp → VK → Prop := fun vs H Q => ∃ v, vs = [v] ∧ Ls K H v as ∧ as.length < 64 ∧
  ∀ a L, H a = none → (∀ p ∈ L, SqT K H p.1 (p.2.map V.int)) → (∀ p ∈ L, p.2 ∈ as) → (∀ x ∈ as, x ∈ L.map (·.2)) → Q (.ref a) (upd H a (SetTO P w a L))
theorem cr_setL (as : List (List Int)) (hc : X.calm = true) (hu : X.A.units + 64 < cLine) : CallR X (.type "set") (rSetL X.prog X.w X.K as) := by
  intro pins s σ H vs us Q I r h
  obtain ⟨v, rfl, ⟨l, xs, rfl, hl, hi⟩, h64, q⟩ := h
  obtain ⟨ks, rfl, e2, hk⟩ := Ims.refs hi
  refine cr_setOfT hc hu pins s σ H _ us Q I r ⟨l, ks, rfl, hl, hk, by rw [← e2, List.length_map] at h64; exact h64, fun a L ha h1 h2 => ?_⟩
  refine q a L ha (fun p hp => hk p (h1 p hp)) (fun p hp => ?_) fun x hx => ?_
  · rw [← e2]
    exact List.mem_map.mpr ⟨p, h1 p hp, rfl⟩
  · rw [← e2] at hx
    obtain ⟨p, hp, rfl⟩ := List.mem_map.mp hx
    exact h2 p hp
/-- sorted(set) -/
def rSortS (P : Program) (w : World) (K : PySem.W.Frag) : List V → Hp → VK → Prop := fun vs H Q => ∃ a L, vs = [V.ref a] ∧ H a = some (SetTO P w a L) ∧ (∀ p ∈ L, SqT K H p.1 (p.2.map V.int)) ∧
  ∀ as : List (List Int), as.Perm (L.map (·.2)) → as.Nodup → NewLs K (esort as) H Q
theorem cr_sortS (hcalm : X.calm = true) (hr : X.A.units + 40 < cLine) : CallR X (.builtin "sorted") (rSortS X.prog X.w X.K) := by
  intro pins s σ H vs us Q I r h
  obtain ⟨a, L, rfl, ha, hk, q⟩ := h
  have R0 : SetT0 X.prog X.w s.heap a L := (I.hok a _ ha).1
  obtain ⟨es, ep, t, R⟩ := R0.full fun p hp => L2.Inv.isT I (hk p hp)
  rw [Vals.ref1 r]
  obtain ⟨o, ho, hex, hd⟩ := R.ob
  have hsz := R.size
  have hfew := R.few
  refine Calls.call_function_entry PyProof.Rows.kind_sorted PyProof.Rows.plain_sorted PyProof.Rows.entry_sorted (PyProof.Rows.args_sorted1 _) ?_
  unfold Builtin.«sorted»
  refine wpAny_bind (m := checkCount "sorted" 1 1 _) (wpAny_pure ?_)
  refine wpAny_bind (collect_set (A := X.A.in1) (I.ok.hd hcalm) ⟨o, ho, hex.1, hd⟩ R.fits (by unfold scanBound; omega) R.tab.ris R.led fun s1 vs k1 hz g1 o1 pm => ?_)
  have hes : es.toList.map (·.2) = L.map fun q => Value.ref q.1 := by
    rw [R.rows]
    unfold rowsOf
    rw [List.map_map] <;> rfl
  rw [hes] at pm
  have I1 : Inv X pins σ H s1 := by
    have J : Inv X pins σ H { s with heap := s1.heap, gens := s1.gens, drawn := s1.drawn, toks := s1.toks } := I.call (ch := []) (Un.kept k1) (I.hok.kept k1) (by rw [g1]; exact I.bare) (fun _ z => nomatch z)
    have e : s1 = { s with heap := s1.heap, gens := s1.gens, drawn := s1.drawn, toks := s1.toks } := by
      cases s1
      cases s
      cases o1
      rfl
    rw [e]
    exact J
  -- the values are the rows in some order
  have ord : ∀ vs : List Value, (∀ v ∈ vs, ∃ q ∈ L, v = Value.ref q.1) → ∃ L1 : List (Addr × List Int), vs = L1.map (fun q => Value.ref q.1) ∧ ∀ q ∈ L1, q ∈ L := by
    intro vs
    induction vs with
    | nil => intro _; exact ⟨[], rfl, fun q hq => (by cases hq)⟩
    | cons v vs ih =>
      intro hv
      obtain ⟨q, hq, e⟩ := hv v List.mem_cons_self
      obtain ⟨L1, e1, hs⟩ := ih fun u hu => hv u (List.mem_cons_of_mem _ hu)
      refine ⟨q :: L1, by rw [List.map_cons, e, e1], fun r hr => ?_⟩
      rcases List.mem_cons.mp hr with z | z
      · rw [z]; exact hq
      · exact hs r z
  have one : ∀ q ∈ L, ∀ r ∈ L, q.1 = r.1 → q = r := fun q hq r hr e => by
    have a1 := R.tup q hq
    have a2 := R.tup r hr
    rw [e] at a1
    have e2 : q.2 = r.2 := a1.inj a2
    exact Prod.ext e e2
  obtain ⟨L1, e1, hs1⟩ := ord vs fun v hv => by
    obtain ⟨q, hq, e⟩ := List.mem_map.mp (pm.mem_iff.mp hv)
    exact ⟨q, hq, e.symm⟩
  have nL : L.Nodup := nodup_of_map R.nd
  have nref : (L.map fun q => Value.ref q.1).Nodup := by
    refine List.pairwise_map.mpr (List.Pairwise.imp_of_mem (fun {q r} hq hr hne e => ?_) nL)
    injection e with e
    exact hne (one q hq r hr e)
  rw [e1] at pm
  have n1 : L1.Nodup := nodup_of_map (pm.nodup_iff.mpr nref)
  have p1 : L1.Perm L := (List.perm_ext_iff_of_nodup n1 nL).mpr fun q => ⟨hs1 q, fun hq => by
    have hm : Value.ref q.1 ∈ L1.map (fun q => Value.ref q.1) := pm.mem_iff.mpr (List.mem_map.mpr ⟨q, hq, rfl⟩)
    obtain ⟨r, hr, e⟩ := List.mem_map.mp hm
    injection e with e
    rw [← one r (hs1 r hr) q hq e]
    exact hr⟩
  have e : PySem.W.EachIs (RI X.K H) vs (L1.map (·.2)) := by
    rw [e1]
    refine each_at (by rw [List.length_map, List.length_map]) fun i u hu => ?_
    rw [List.getElem?_map] at hu
    cases z : L1[i]? with
    | none =>
      rw [z] at hu
      cases hu
    | some q =>
      rw [z] at hu
      cases hu
      exact ⟨q.2, by rw [List.getElem?_map, z]; rfl, .ref q.1, rfl, Is.of_lot (hk q (hs1 q (List.mem_of_getElem? z)))⟩
  have hvl : vs.length < 64 := by rw [e1, pm.length_eq, List.length_map]; exact hfew
  refine wpAny_bind (wpAny_newList ?_ (by rw [sizeLine_eq]; omega))
  show wpAny _ _ _ _ _ { s1 with heap := s1.heap.push (seqObj "list" vs.toArray 0) }
  refine wpAny_bind (wpAny_holding (sort_new I1 e (by rw [Around.in1_units]; omega) (by decide) (by rw [sizeLine_eq]; omega) fun h2 c out k2 hc eo => ?_))
  obtain ⟨ys, i2, r2⟩ := of_ri eo
  have hn : H s1.heap.objs.size = none := I1.hok.fresh (Nat.le_refl _)
  have hy : ys.length ≤ sizeLine := by
    have h1 := i2.length
    rw [List.length_map] at h1
    have h2 := esort_len (L1.map (·.2))
    rw [List.length_map] at h2
    have h3 : L1.length = L.length := p1.length_eq
    rw [sizeLine_eq]
    omega
  exact wpAny_pure ⟨_, rfl, .ref s1.heap.objs.size, upd H s1.heap.objs.size (.lst ys), I1.laid (t' := s1.toks) k2 (Nat.le_refl _) (show ObjOk X.prog X.w _ _ _ (.lst ys) from ⟨hy, _, c, r2, hc⟩), rfl,
    q (L1.map (·.2)) (p1.map (·.2)) ((p1.map (·.2)).nodup_iff.mpr R.nd) _ ys hn i2⟩
end
end CB
end
section
set_option Elab.async false
set_option linter.all false
set_option maxRecDepth 100000
set_option maxHeartbeats 2000000
/-! F. typed dicts; tuple(list); dict(pairs). -/
namespace CB
open PySem PySem.Spec PyProof.Rows L2 Enc

/-! ### the mirror's dicts -/
section
variable {κ β : Type} [DecidableEq κ]
def look (kvs : List (κ × β)) (k : κ) : Option β := (kvs.find? fun p => decide (p.1 = k)).map (·.2)
def put (kvs : List (κ × β)) (k : κ) (v : β) : List (κ × β) := if (look kvs k).isSome then kvs.map (fun p => if p.1 = k then (p.1, v) else p) else kvs ++ [(k, v)]
theorem look_nil (k : κ) : look ([] : List (κ × β)) k = none := rfl
theorem look_pos {p : κ × β} {r : List (κ × β)} {k : κ} (e : p.1 = k) : look (p :: r) k = some p.2 := by simp [look, List.find?_cons, e]
theorem look_neg {p : κ × β} {r : List (κ × β)} {k : κ} (e : ¬ p.1 = k) : look (p :: r) k = look r k := by simp [look, List.find?_cons, e]
theorem look_mem {k : κ} : ∀ {kvs : List (κ × β)} {v : β}, look kvs k = some v → (k, v) ∈ kvs
  | [], _, h => by cases h
  | p :: r, v, h => by
    by_cases e : p.1 = k
    · rw [look_pos e] at h
      cases h
      rw [← e]
      exact List.mem_cons_self ..
    · rw [look_neg e] at h
      exact List.mem_cons_of_mem _ (look_mem h)
theorem look_some {k : κ} : ∀ {kvs : List (κ × β)}, k ∈ kvs.map (·.1) → ∃ v, look kvs k = some v
  | [], h => by cases h
  | p :: r, h => by
    by_cases e : p.1 = k
    · exact ⟨_, look_pos e⟩
    · rw [List.map_cons] at h
      rcases List.mem_cons.mp h with h | h
      · exact absurd h.symm e
      · obtain ⟨v, hv⟩ := look_some h
        exact ⟨v, by rw [look_neg e]; exact hv⟩
theorem look_none {k : κ} {kvs : List (κ × β)} (h : k ∉ kvs.map (·.1)) : look kvs k = none := by
  cases e : look kvs k with
  | none => rfl
  | some v => exact absurd (List.mem_map.mpr ⟨_, look_mem e, rfl⟩) h
theorem look_of_mem {k : κ} {v : β} : ∀ {kvs : List (κ × β)}, (kvs.map (·.1)).Nodup → (k, v) ∈ kvs → look kvs k = some v
  | [], _, h => by cases h
  | p :: r, hn, h => by
    rw [List.map_cons, List.nodup_cons] at hn
    rcases List.mem_cons.mp h with h | h
    · rw [← h]
      exact look_pos rfl
    · have e : ¬ p.1 = k := fun e => hn.1 (by rw [e]; exact List.mem_map.mpr ⟨_, h, rfl⟩)
      rw [look_neg e]
      exact look_of_mem hn.2 h
theorem put_new {kvs : List (κ × β)} {k : κ} {v : β} (h : look kvs k = none) : put kvs k v = kvs ++ [(k, v)] := by
  unfold put
  rw [h]
  rfl
theorem look_append {kvs ls : List (κ × β)} {k : κ} : look (kvs ++ ls) k = (look kvs k).or (look ls k) := by
  unfold look
  rw [List.find?_append]
  cases List.find? (fun p => decide (p.1 = k)) kvs <;> rfl
theorem length_put (kvs : List (κ × β)) (k : κ) (v : β) : (put kvs k v).length ≤ kvs.length + 1 := by
  unfold put
  split
  · rw [List.length_map]
    omega
  · rw [List.length_append, List.length_cons, List.length_nil]
    omega
end

/-! ### the table of a typed dict -/
section
variable {κ β : Type} [Enc κ] {K : PySem.W.Frag} {R : Hp → V → β → Prop} {H H' : Hp} {t : Raw} {kvs : List (κ × β)}
def DR (K : PySem.W.Frag) (R : Hp → V → β → Prop) (H : Hp) : Raw → List (κ × β) → Prop := Paired fun x q => x.1 = enc q.1 ∧ Im K H x.1 (.ref x.2.1) ∧ R H x.2.2 q.2
theorem DR.up (h : DR K R H t kvs) (e : Le H H') (m : ∀ v b, R H v b → R H' v b) : DR K R H' t kvs := Paired.mapP h fun _ _ z => ⟨z.1, Im.up e _ _ z.2.1, m _ _ z.2.2⟩
theorem DR.keys (h : DR K R H t kvs) (hd : dp κ ≤ 8) : KeysOk K H t := by
  unfold DR at h
  induction h with
  | nil => intro x hx; cases hx
  | @cons p q ps qs hq _ ih =>
    intro x hx
    rcases List.mem_cons.mp hx with e | hx
    · rw [e]
      refine ⟨hq.2.1, ?_⟩
      rw [hq.1]
      exact Nat.le_trans (Enc.le q.1) hd
    · exact ih x hx
theorem DR.length (h : DR K R H t kvs) : t.length = kvs.length := Paired.length h
theorem DR.encs (h : DR K R H t kvs) : t.map (·.1) = (kvs.map (·.1)).map enc := by
  unfold DR at h
  induction h with
  | nil => rfl
  | @cons p q ps qs hq _ ih => rw [List.map_cons, List.map_cons, List.map_cons, hq.1, ih]
theorem DR.get [DecidableEq κ] (h : DR K R H t kvs) {k : κ} {b : β} (l : look kvs k = some b) : ∃ v, rget t (enc k) = some v ∧ R H v b := by
  unfold DR at h
  induction h with
  | nil => cases l
  | @cons p q ps qs hq _ ih =>
    by_cases e : q.1 = k
    · rw [look_pos e] at l
      cases l
      exact ⟨p.2.2, rget_cons_pos (hq.1.trans (congrArg enc e)), hq.2.2⟩
    · rw [look_neg e] at l
      rw [rget_cons_neg fun z => e (Enc.inj _ _ (hq.1.symm.trans z))]
      exact ih l
theorem DR.none_ [DecidableEq κ] (h : DR K R H t kvs) {k : κ} (l : look kvs k = none) : rget t (enc k) = none := by
  unfold DR at h
  induction h with
  | nil => rfl
  | @cons p q ps qs hq _ ih =>
    by_cases e : q.1 = k
    · rw [look_pos e] at l
      cases l
    · rw [look_neg e] at l
      rw [rget_cons_neg fun z => e (Enc.inj _ _ (hq.1.symm.trans z))]
      exact ih l
theorem DR.isSome [DecidableEq κ] (h : DR K R H t kvs) (k : κ) : (rget t (enc k)).isSome = (look kvs k).isSome := by
  cases e : look kvs k with
  | none => rw [h.none_ e] <;> rfl
  | some b =>
    obtain ⟨v, e2, _⟩ := h.get e
    rw [e2] <;> rfl
theorem DR.put [DecidableEq κ] (h : DR K R H t kvs) {k : κ} {a : Addr} {v : V} {b : β} (hk : Im K H (enc k) (.ref a)) (hv : R H v b) : DR K R H (rput t (enc k) a v) (put kvs k b) := by
  have e := h.isSome k
  unfold rput CB.put
  rw [e]
  by_cases q : (look kvs k).isSome = true
  · rw [if_pos q, if_pos q]
    clear e q
    unfold DR at h ⊢
    induction h with
    | nil => exact .nil
    | @cons p q ps qs hq _ ih =>
      rw [List.map_cons, List.map_cons]
      refine .cons ?_ ih
      by_cases e : q.1 = k
      · rw [if_pos e, if_pos (hq.1.trans (congrArg enc e))]
        exact ⟨hq.1, hq.2.1, hv⟩
      · rw [if_neg e, if_neg (fun z => e (Enc.inj _ _ (hq.1.symm.trans z)))]
        exact hq
  · rw [if_neg q, if_neg q]
    exact Paired.snoc h ⟨rfl, hk, hv⟩
theorem DR.at_ (h : DR K R H t kvs) {i : Nat} {x : NestedKey × Addr × V} (e : t[i]? = some x) : ∃ q, kvs[i]? = some q ∧ x.1 = enc q.1 ∧ Im K H x.1 (.ref x.2.1) ∧ R H x.2.2 q.2 := by
  obtain ⟨q, e1, e2⟩ := paired_get h e
  exact ⟨q, e1, e2⟩
end
/-- v is a dict of these -/
def Ds {κ β : Type} [Enc κ] (P : Program) (w : World) (K : PySem.W.Frag) (R : Hp → V → β → Prop) (H : Hp) (v : V) (kvs : List (κ × β)) : Prop := ∃ d t, v = .ref d ∧ Rd H d (DO P w d t) ∧ DR K R H t kvs
theorem Ds.up {κ β : Type} [Enc κ] {P : Program} {w : World} {K : PySem.W.Frag} {R : Hp → V → β → Prop} {H H' : Hp} {v : V} {kvs : List (κ × β)} (h : Ds P w K R H v kvs) (e : Le H H') (m : ∀ v b, R H v b → R H' v b) : Ds P w K R H' v kvs := by
  obtain ⟨d, t, e1, h1, h2⟩ := h
  exact ⟨d, t, e1, e.rd _ _ DO.nf h1, h2.up e m⟩

/-! ### tuple(xs), dict(pairs) -/
section
variable {X : Cx} {α : Type} [Enc α]
/-- tuple(xs): a new tuple, its object known -/
def rTupF (K : PySem.W.Frag) (as : List α) : List V → Hp → VK → Prop := fun vs H Q => ∃ v, vs = [v] ∧ Ls K H v as ∧ ∀ p o xs, H p = none → o.dict = none → Ims K H (as.map enc) xs → Q (.ref p) (upd H p (.frz o (.tup xs)))
theorem cr_tupF (as : List α) : CallR X (.type "tuple") (rTupF X.K as) := by
  intro pins s σ H vs us Q I r h
  obtain ⟨v, rfl, ⟨l, xs, rfl, hq, hi⟩, q⟩ := h
  obtain ⟨u, rfl, rx⟩ := vals1 r
  cases rx
  obtain ⟨its, r', pl, hz⟩ := I.list hq
  have hlen := r'.length
  refine call_tuple_list pl.isList (fun h' kp => ?_) (by simp only [List.size_toArray] <;> omega)
  have I1 : Inv X pins σ H { s with heap := h' } := I.kept (t' := s.toks) kp
  have e1 : (h'.push { cls := .type "tuple", data := .seq its.toArray }).get? h'.objs.size = some { cls := .type "tuple", data := .seq its.toArray } := Heap.get?_push_size _ rfl
  have I2 : Inv X pins σ (upd H h'.objs.size (.frz { cls := .type "tuple", data := .seq its.toArray } (.tup xs))) { s with heap := h'.push { cls := .type "tuple", data := .seq its.toArray } } :=
    I1.laid (t' := s.toks) (fun b o e => Heap.get?_push_of_some _ e) (Nat.le_refl _) (show ObjOk X.prog X.w _ _ _ (.frz _ (.tup xs)) from ⟨e1, hz, its, r', IsTup.new _ _⟩)
  exact ⟨.ref h'.objs.size, _, I2, rfl, q _ _ xs (I1.hok.fresh (Nat.le_refl _)) rfl hi⟩
end
section
variable {κ β : Type} [Enc κ] [Enc β] [TupE κ]
/-- a pair's own tuple -/
theorem pair_at {X : Cx} {pins : List (Addr × Obj)} {σ : L2.St} {H : Hp} {s : Shared} (I : Inv X pins σ H s) {x : V} {q : κ × β} (h : Is X.K H x q) :
    ∃ T a v u, x = .ref T ∧ IsTup s.heap T #[.ref a, u] ∧ RelV v u ∧ Im X.K H (enc q.1) (.ref a) ∧ Is X.K H v q.2 := by
  obtain ⟨T, xs, rfl, h1, x1, r1, rfl, i1, x2, r2, rfl, i2, rfl⟩ := h
  obtain ⟨its, rv, ht, _⟩ := I.tuple h1
  obtain ⟨u1, u2, rfl, q1, q2⟩ := vals2 rv
  obtain ⟨ks, ek⟩ := TupE.tup q.1
  have i1' := i1
  rw [ek] at i1'
  obtain ⟨a, ys, rfl, _, _⟩ := i1'
  cases q1
  exact ⟨T, a, x2, u2, rfl, ht, q2, i1, i2⟩
/-- the pairs, as the heap has them -/
theorem pairs_at {X : Cx} {pins : List (Addr × Obj)} {σ : L2.St} {H : Hp} {s : Shared} (I : Inv X pins σ H s) : ∀ {kvs : List (κ × β)} {xs : List V}, Ims X.K H (kvs.map enc) xs →
    ∃ (Ts : List Addr) (t : Raw) (rs : List (NestedKey × Addr × Value)), xs = Ts.map V.ref ∧ RawV t rs ∧ DR X.K (fun H v b => Is X.K H v b) H t kvs ∧ rs.length = kvs.length ∧ Ts.length = kvs.length ∧
      ∀ (j : Nat) x, rs[j]? = some x → ∃ T, Ts[j]? = some T ∧ IsTup s.heap T #[.ref x.2.1, x.2.2] ∧ NestedIs s.heap x.1 (.ref x.2.1)
  | [], _, h => ⟨[], [], [], h, .nil, .nil, rfl, rfl, fun _ _ e => by cases e⟩
  | q :: kvs, _, h => by
    obtain ⟨x, r, rfl, h1, h2⟩ := h
    obtain ⟨T, a, v, u, rfl, ht, rv, i1, i2⟩ := pair_at I h1
    obtain ⟨Ts, t, rs, e1, rw1, d1, l1, l2, g⟩ := pairs_at I h2
    refine ⟨T :: Ts, (enc q.1, a, v) :: t, (enc q.1, a, u) :: rs, by rw [List.map_cons, e1], .cons ⟨rfl, rfl, rv⟩ rw1, .cons ⟨rfl, i1, i2⟩ d1, by rw [List.length_cons, List.length_cons, l1], by rw [List.length_cons, List.length_cons, l2], fun j y e => ?_⟩
    cases j with
    | zero =>
      cases e
      exact ⟨T, rfl, ht, Im.nested I _ _ _ i1 rfl⟩
    | succ j => exact g j y e
theorem storedAll_new {rs : List (NestedKey × Addr × Value)} : ∀ {acc : List (NestedKey × Addr × Value)}, ((acc ++ rs).map (·.1)).Nodup → storedAllH acc rs = acc ++ rs := by
  induction rs with
  | nil => intro acc _; simp [storedAllH]
  | cons x rs ih =>
    intro acc hn
    have hx : atKey acc x.1 = none := by
      unfold atKey
      rw [Option.map_eq_none_iff, List.find?_eq_none]
      intro y hy e
      have e' : y.1 = x.1 := of_decide_eq_true e
      rw [List.map_append, List.map_cons] at hn
      have := (List.nodup_append.mp hn).2.2 y.1 (List.mem_map.mpr ⟨y, hy, rfl⟩) x.1 (List.mem_cons_self ..)
      exact this e'
    show storedAllH (storedH acc x.1 x.2.1 x.2.2) rs = acc ++ x :: rs
    rw [storedH_new hx, ih (by simpa using hn)]
    simp
/-- dict(xs), xs a list or a plain tuple of pairs, no key twice -/
def rDictP (P : Program) (w : World) (K : PySem.W.Frag) (kvs : List (κ × β)) : List V → Hp → VK → Prop := fun vs H Q => ∃ v, vs = [v] ∧ (Ls K H v kvs ∨ Pt K H v kvs) ∧ (kvs.map (·.1)).Nodup ∧ ∀ p t, H p = none → DR K (fun H v b => Is K H v b) H t kvs → Q (.ref p) (upd H p (DO P w p t))
theorem cr_dictP {X : Cx} (kvs : List (κ × β)) (hcalm : X.calm = true) (hu : X.A.units + 20 < cLine) (hd : dp κ ≤ 8) : CallR X (.type "dict") (rDictP X.prog X.w X.K kvs) := by
  intro pins s σ H vs us Q I r h
  obtain ⟨v, rfl, hl, hn, q⟩ := h
  obtain ⟨u, rfl, rx⟩ := vals1 r
  have main : ∀ (l : Addr) (xs : List V) (its : List Value) (T0 : String), u = .ref l → Ims X.K H (kvs.map enc) xs → Vals xs its → xs.length ≤ sizeLine → PlainSeq T0 s.heap l its.toArray → (T0 = "list" ∨ T0 = "tuple") → wpAny (model X.prog X.w) X.A (call (.type "dict") [u]) (EP X pins σ Q) X.xe s := by
    intro l xs its T0 eu hi rv hz pl hT
    subst eu
    obtain ⟨Ts, t, rs, rfl, rw1, d1, l1, l2, g⟩ := pairs_at I hi
    have ei := refs_at rv
    subst ei
    have hlen : (Ts.map Value.ref).length = rs.length := by rw [List.length_map, l1, l2]
    have pit : PairItems s.heap (Ts.map Value.ref).toArray (fun j => Ts.getD j 0) (rs.map fun x => (Value.ref x.2.1, x.2.2)) := by
      refine ⟨by rw [List.size_toArray, hlen, List.length_map], fun j k v e => ?_⟩
      rw [List.getElem?_map] at e
      cases ez : rs[j]? with
      | none =>
        rw [ez] at e
        cases e
      | some x =>
        rw [ez] at e
        cases e
        obtain ⟨T, e1, e2, _⟩ := g j x ez
        refine ⟨by simp [e1], .inl ?_⟩
        obtain ⟨o, ho, hc, n, hdt⟩ := e2
        have eT : Ts.getD j 0 = T := by simp [e1]
        show s.heap.IsTuple (Ts.getD j 0) _
        rw [eT]
        exact ⟨o, ho, hc, n, hdt⟩
    have hps : PairsHaveH (nestedKind X.prog X.w) (rs.map fun x => (Value.ref x.2.1, x.2.2)).length (PairRel (rs.map fun x => (Value.ref x.2.1, x.2.2))) rs := by
      refine ⟨by rw [List.length_map], fun i key v e => ?_⟩
      have e' : (rs.map fun x => (Value.ref x.2.1, x.2.2))[i]? = some (key, v) := e
      rw [List.getElem?_map] at e'
      cases ez : rs[i]? with
      | none =>
        rw [ez] at e'
        cases e'
      | some x =>
        rw [ez] at e'
        cases e'
        exact ⟨x.1, x.2.1, rfl, rfl⟩
    have ks := d1.keys hd
    have dep : ∀ x ∈ rs, NestedIs s.heap x.1 (.ref x.2.1) ∧ x.1.depth ≤ 8 := fun x hx => by
      obtain ⟨j, hj, ex⟩ := List.getElem_of_mem hx
      obtain ⟨T, _, _, ni⟩ := g j x (by rw [← ex]; exact List.getElem?_eq_getElem hj)
      refine ⟨ni, ?_⟩
      have hj2 : j < t.length := by rw [Paired.length rw1]; exact hj
      obtain ⟨y, ey, r1, _, _⟩ := paired_get rw1 (List.getElem?_eq_getElem hj2)
      rw [List.getElem?_eq_getElem hj] at ey
      have e2 : t[j].1 = x.1 := by
        rw [r1, ← Option.some.inj ey, ex]
      rw [← e2]
      exact (ks _ (List.getElem_mem hj2)).2
    have stay : KeysStay (nestedKind X.prog X.w) s.heap s.heap.objs.size [] rs := fun h' hk x hx =>
      ⟨NestedIs.at (fun b o vs n e _ => hk b o (Nat.ne_of_lt (Heap.lt_size e)) (fun z => nomatch z) e) _ _ (dep x hx).1, (dep x hx).2⟩
    have keysEq : ∀ {t : Raw} {rs : List (NestedKey × Addr × Value)}, RawV t rs → rs.map (·.1) = t.map (·.1) := by
      intro t rs h
      induction h with
      | nil => rfl
      | @cons p q ps qs hq _ ih => rw [List.map_cons, List.map_cons, hq.1, ih]
    have nod : ((([] : List (NestedKey × Addr × Value)) ++ rs).map (·.1)).Nodup := by
      rw [List.nil_append, keysEq rw1, d1.encs]
      exact List.Pairwise.map _ (fun a b hne e => hne (Enc.inj _ _ e)) hn
    have room2 : (nestedKind X.prog X.w).room X.A.in1.in1 := by
      show X.A.in1.in1.units + 8 < cLine
      rw [Around.in1_units, Around.in1_units]
      omega
    have hsz : (rs.map fun x => (Value.ref x.2.1, x.2.2)).length ≤ sizeLine := by
      rw [List.length_map, l1, ← l2]
      rw [List.length_map] at hz
      exact hz
    have fin : ∀ h' tk, h'.DictOfH (nestedKind X.prog X.w) s.heap.objs.size (storedAllH [] rs) → (∀ b o, b ∉ ([] : List Addr) → s.heap.get? b = some o → h'.get? b = some o) → EP X pins σ Q (.ref s.heap.objs.size) { s with heap := h', toks := tk } := by
      intro h' tk hd' k
      rw [storedAll_new nod, List.nil_append] at hd'
      obtain ⟨o, es, ep, ho, h2, h3, h4, _, h5⟩ := hd'
      refine ⟨.ref s.heap.objs.size, _, I.laid (t' := tk) (fun b o e => k b o (fun z => nomatch z) e) (Nat.le_refl _) (dphi_ok (t := t) ⟨?_, beq_eq_false_iff_ne.mpr (Ne.symm (Nat.ne_of_lt I.big)), rs, rw1, o, es, ep, ho, h2, h3, h4, h5⟩), rfl, q _ t (I.hok.fresh (Nat.le_refl _)) d1⟩
      rw [d1.length, ← l2]
      rw [List.length_map] at hz
      exact hz
    rcases hT with e | e
    · subst e
      exact call_dict_pairsH (PairArg.list l _ _ _) (I.ok.hd hcalm) room2 ⟨pl, pit⟩ hps stay hsz fin
    · subst e
      exact call_dict_pairsH (PairArg.tuple l _ _ _) (I.ok.hd hcalm) room2 ⟨pl, pit⟩ hps stay hsz fin
  rcases hl with ⟨l, xs, rfl, hq, hi⟩ | ⟨l, o, xs, rfl, hq, ho, hi⟩
  · cases rx
    obtain ⟨its, rv, pl, hz⟩ := I.list hq
    exact main l xs its "list" rfl hi rv hz pl (.inl rfl)
  · cases rx
    obtain ⟨e1, hz, its, rv, o', e2, hc, n, hdt⟩ := I.hok l _ hq
    rw [e1] at e2
    cases e2
    exact main l xs its "tuple" rfl hi rv hz ⟨o, n, e1, hc, ho, hdt⟩ (.inr rfl)
end
end CB
end
section
set_option Elab.async false
set_option linter.all false
set_option maxRecDepth 100000
set_option maxHeartbeats 2000000
/-! G. dict != dict, equal ones; == of data. -/
namespace CB
open PySem PySem.Spec PyProof.Rows L2 Enc
open PySem.SeqAt (EqAt)
section
variable {prog : Program} {w : World} {K : Type} [DecidableEq K] {knd : HeapKind prog w K} {A : Around} {E : Value → Shared → Prop} {s : Shared}
theorem samePairsX {nm : String} {a b : Addr} {xa xb : List (K × Addr × Value)} {Q : Bool → Shared → Prop} (ha : (a == sysModules) = false) (hb : (b == sysModules) = false) (da : s.heap.DictOfH knd a xa) (db : s.heap.DictOfH knd b xb) (hu : knd.room A)
    (len : xa.length = xb.length) (hit : ∀ x ∈ xa, ∃ (j : Nat) (c : Addr) (y : Value), xb[j]? = some (x.1, c, y) ∧ EqAt A s x.2.2 y true) (h : Q true s) : wpAny (model prog w) A (Builtin.Dict.samePairs nm a b) Q E s := by
  obtain ⟨oa, es, ep, hoa, _, hda, hka, hia, hna⟩ := da
  obtain ⟨ob, es', ep', hob, _, hdb, hkb, hib, hnb⟩ := db
  have hla : xa.length = es.size := (size_of_entries hka).symm
  have hlb : xb.length = es'.size := (size_of_entries hkb).symm
  unfold Builtin.Dict.samePairs Builtin.Dict.showsAll
  rw [if_neg (show ¬ (a == sysModules) = true by rw [ha]; exact Bool.false_ne_true), if_neg (show ¬ (b == sysModules) = true by rw [hb]; exact Bool.false_ne_true)]
  refine wpAny_bind (wpAny_pure (wpAny_bind (wpAny_pure ?_)))
  refine wpAny_bind (wpAny_dictEntries hoa hda ?_)
  dsimp only
  refine wpAny_bind (wpAny_dictEntries hob hdb ?_)
  have hsz : es.size = es'.size := by omega
  rw [if_neg (by rw [hsz]; simp)]
  refine wpAny_bind (wpAny_dictEpoch hoa hda ?_)
  refine wpAny_bind ?_
  rw [Std.Legacy.Range.forIn_eq_forIn_range']
  simp only [Std.Legacy.Range.size, Nat.sub_zero, Nat.add_sub_cancel, Nat.div_one]
  refine wpAny_forIn_list _ (fun rest q s' => s' = s ∧ q = (none, ()) ∧ ∃ i, rest = List.range' i (es.size - i) ∧ i ≤ es.size) _ ?_ ?_ _ _ ⟨rfl, rfl, 0, by simp, Nat.zero_le _⟩
  · rintro x rest q s' ⟨rfl, rfl, i, hr, hi⟩
    have hlt : i < es.size := by
      rcases Nat.lt_or_ge i es.size with h | h
      · exact h
      · rw [Nat.sub_eq_zero_of_le h] at hr; simp at hr
    obtain ⟨rfl, hrest⟩ : x = i ∧ rest = List.range' (i + 1) (es.size - (i + 1)) := by
      have e : es.size - i = (es.size - (i + 1)) + 1 := by omega
      rw [e, List.range'_succ] at hr
      injection hr with h1 h2
      exact ⟨h1, h2⟩
    refine wpAny_bind (wpAny_dictEntries hoa hda ?_)
    have hxl : x < xa.length := by omega
    have hx : xa[x]? = some xa[x] := List.getElem?_eq_getElem hxl
    have he := entry_at hka x
    rw [hx] at he
    rw [he]
    obtain ⟨j, c, y, hj, heq⟩ := hit _ (List.getElem_mem hxl)
    show wpAny _ _ (holding [Value.ref xa[x].2.1, xa[x].2.2] _ >>= _) _ _ _
    refine wpAny_bind (wpAny_holding (wpAny_bind (wpAny_dictFind_heap hu (hia _ (List.getElem_mem hxl)) hob hdb hkb hib hnb (fun hno => ?_) fun j' p hj' => ?_)))
    · exact absurd hj (hno j (c, y))
    · have ejj : j' = j := by
        have h1 : (xb.map (·.1))[j']? = some xa[x].1 := by rw [List.getElem?_map, hj']; rfl
        have h2 : (xb.map (·.1))[j]? = some xa[x].1 := by rw [List.getElem?_map, hj]; rfl
        obtain ⟨l1, e1⟩ := List.getElem?_eq_some_iff.mp h1
        obtain ⟨l2, e2⟩ := List.getElem?_eq_some_iff.mp h2
        exact (List.getElem_inj hnb).mp (e1.trans e2.symm)
      subst ejj
      refine wpAny_bind (wpAny_dictEntries hob hdb ?_)
      have he' := entry_at hkb j'
      rw [hj] at he'
      rw [he']
      refine wpAny_holding (heq _ _ _ _ ?_)
      show wpAny _ _ (if (!true) = true then _ else _) _ _ _
      rw [if_neg (by decide)]
      refine wpAny_bind (wpAny_dictEpoch hoa hda ?_)
      rw [if_neg (by simp)]
      exact wpAny_pure ⟨rfl, rfl, x + 1, hrest, hlt⟩
  · rintro q s' ⟨rfl, rfl, i, hr, hi⟩
    exact wpAny_pure h
theorem dict_neX {a b : Addr} {xa xb : List (K × Addr × Value)} {Q : Value → Shared → Prop} (ha : (a == sysModules) = false) (hb : (b == sysModules) = false) (da : s.heap.DictOfH knd a xa) (db : s.heap.DictOfH knd b xb) (hu : knd.room A.in1) (hu2 : A.units < cLine)
    (len : xa.length = xb.length) (hit : ∀ x ∈ xa, ∃ (j : Nat) (c : Addr) (y : Value), xb[j]? = some (x.1, c, y) ∧ EqAt A.in1 s x.2.2 y true) (h : Q (.bool false) s) : wpAny (model prog w) A (compareOp .NotEq (.ref a) (.ref b)) Q E s := by
  refine wpAny_richCompare_same_room (op := .NotEq) da.typeIs db.typeIs PySem.F.slot_dict_ne (wpAny_call_entry PySem.F.slot_dict_ne da.typeIs PySem.F.entry_dict_ne ?_ (PySem.F.args_dict_ne_2 _ _)) hu2
  show wpAny _ _ (Builtin.Dict.dictSlotArgs "__ne__" ⟨[.ref a, .ref b], []⟩ >>= _) _ _ s
  refine wpAny_bind ?_
  unfold Builtin.Dict.dictSlotArgs
  refine wpAny_bind (wpAny_notOrdered_dict da.typeIs ?_)
  show wpAny _ _ (pure (Value.ref a, Value.ref b)) _ _ s
  refine wpAny_pure ?_
  refine wpAny_bind (wpAny_isInstance (T := "dict") db.typeIs PySem.F.sub_dict_dict ?_)
  simp only [Bool.not_true, Bool.false_eq_true, if_false]
  refine wpAny_bind (wpAny_pure (wpAny_bind (wpAny_pure ?_)))
  refine wpAny_bind (samePairsX ha hb da db hu len hit ?_)
  refine wpAny_pure ⟨_, rfl, ?_, ?_⟩
  · exact fun x => nomatch x
  · exact h
end
/-! ### == of data -/
section
variable {X : Cx} {pins : List (Addr × Obj)} {σ : L2.St} {H : Hp} {s : Shared}
theorem im_eqAt (I : Inv X pins σ H s) {A : Around} {x y : NestedKey} {v1 v2 : V} {u1 u2 : Value} (h1 : Im X.K H x v1) (h2 : Im X.K H y v2) (r1 : RelV v1 u1) (r2 : RelV v2 u2) (hu : A.units + x.depth < cLine) : EqAt A s u1 u2 (NestedKey.beq x y) :=
  eqAt_key x y A s u1 u2 (Im.nested I _ _ _ h1 r1) (Im.nested I _ _ _ h2 r2) (by omega)
variable {α : Type} [Enc α] [DecidableEq α] [TupE α]
theorem beq_enc (a b : α) : NestedKey.beq (enc a) (enc b) = decide (a = b) := by
  rw [← NestedKey.decide_eq]
  exact decide_eq_decide.mpr ⟨fun e => Enc.inj _ _ e, fun e => congrArg enc e⟩
theorem eqv_data : ∀ x y : NestedKey, PyData.eqv x.data y.data = NestedKey.beq x y := by
  have both : ∀ n : Nat, (∀ x y : NestedKey, sizeOf x ≤ n → PyData.eqv x.data y.data = NestedKey.beq x y) ∧ (∀ xs ys : List NestedKey, sizeOf xs ≤ n → PyData.eqvAll (NestedKey.datas xs) (NestedKey.datas ys) = NestedKey.beqAll xs ys) := by
    intro n
    induction n with
    | zero =>
      refine ⟨fun k _ hk => ?_, fun ks _ hk => ?_⟩
      · cases k <;> simp at hk
      · cases ks <;> simp at hk
    | succ n ih =>
      refine ⟨fun x y hk => ?_, fun xs ys hk => ?_⟩
      · cases x with
        | tup xs =>
          cases y with
          | tup ys =>
            simp at hk
            rw [NestedKey.data, NestedKey.data, PyData.eqv, NestedKey.beq, ih.2 xs ys (by omega)]
          | _ => simp [NestedKey.data, PyData.eqv, NestedKey.beq]
        | num i =>
          cases y with
          | num j =>
            simp only [NestedKey.data, PyData.eqv, NestedKey.beq]
            exact Bool.beq_eq_decide_eq i j
          | _ => simp [NestedKey.data, PyData.eqv, NestedKey.beq]
        | none => cases y <;> simp [NestedKey.data, PyData.eqv, NestedKey.beq]
        | text a =>
          cases y with
          | text b =>
            simp only [NestedKey.data, PyData.eqv, NestedKey.beq]
            exact Bool.beq_eq_decide_eq a b
          | _ => simp [NestedKey.data, PyData.eqv, NestedKey.beq]
      · cases xs with
        | nil => cases ys <;> simp [NestedKey.datas, PyData.eqvAll, NestedKey.beqAll]
        | cons x xs =>
          cases ys with
          | nil => simp [NestedKey.datas, PyData.eqvAll, NestedKey.beqAll]
          | cons y ys =>
            simp at hk
            rw [NestedKey.datas, NestedKey.datas, PyData.eqvAll, NestedKey.beqAll, ih.1 x y (by omega), ih.2 xs ys (by omega)]
  exact fun x y => (both (sizeOf x)).1 x y (Nat.le_refl _)
theorem eqv_dat {α : Type} [Enc α] [DecidableEq α] (a b : α) : PyData.eqv (dat a) (dat b) = decide (a = b) := by
  unfold dat
  rw [eqv_data, ← NestedKey.decide_eq]
  exact decide_eq_decide.mpr ⟨fun e => Enc.inj _ _ e, fun e => congrArg enc e⟩
/-- a == b, a != b, a < b of data -/
def rEqE {α : Type} [Enc α] [DecidableEq α] (K : PySem.W.Frag) (a b : α) : R2 := fun x y H Q => Is K H x a ∧ Is K H y b ∧ Q (.bl (decide (a = b))) H
def rNeE {α : Type} [Enc α] [DecidableEq α] (K : PySem.W.Frag) (a b : α) : R2 := fun x y H Q => Is K H x a ∧ Is K H y b ∧ Q (.bl (!decide (a = b))) H
def rLtE {α : Type} [Enc α] (K : PySem.W.Frag) (a b : α) : R2 := fun x y H Q => Is K H x a ∧ Is K H y b ∧ Q (.bl (elt a b)) H
section
variable {X : Cx} {α : Type} [Enc α]
theorem op_eqE [DecidableEq α] (a b : α) (hu : X.A.units + 40 < cLine) (hd : dp α ≤ 30) : OpR X (compareOp .Eq) (rEqE X.K a b) := by
  intro pins s σ H x y v u Q I r1 r2 h
  obtain ⟨h1, h2, q⟩ := h
  refine SeqAt.compareEq_reads (Im.reads I _ _ _ h1 r1) (Im.reads I _ _ _ h2 r2) (lay a) (lay b) ?_ ?_
  · have := dat_depth a
    unfold dat at this
    omega
  · have e := eqv_dat a b
    unfold dat at e
    rw [e]
    exact ⟨.bl _, H, I, rfl, q⟩
theorem op_neE [DecidableEq α] (a b : α) (hu : X.A.units + 40 < cLine) (hd : dp α ≤ 30) : OpR X (compareOp .NotEq) (rNeE X.K a b) := by
  intro pins s σ H x y v u Q I r1 r2 h
  obtain ⟨h1, h2, q⟩ := h
  refine SeqAt.compareNe_reads (Im.reads I _ _ _ h1 r1) (Im.reads I _ _ _ h2 r2) (lay a) (lay b) ?_ ?_
  · have := dat_depth a
    unfold dat at this
    omega
  · have e := eqv_dat a b
    unfold dat at e
    rw [e]
    exact ⟨.bl _, H, I, rfl, q⟩
theorem op_ltE [TupE α] (a b : α) (hu : X.A.units + 40 < cLine) (hd : dp α ≤ 30) : OpR X (compareOp .Lt) (rLtE X.K a b) := by
  intro pins s σ H x y v u Q I r1 r2 h
  obtain ⟨h1, h2, q⟩ := h
  refine PySem.W.rcLt_alike _ _ X.A s v u _ _ (Im.reads I _ _ _ h1 r1) (Im.reads I _ _ _ h2 r2) (alk a b) ?_ ?_ X.prog X.w X.xe _ ⟨.bl _, H, I, rfl, q⟩
  · obtain ⟨ks, e⟩ := TupE.tup a
    rw [e, NestedKey.data]
    exact fun z => nomatch z
  · have := dat_depth a
    unfold dat at this
    omega
/-- x in xs, x not in xs: a list of data -/
def rInE [DecidableEq α] (K : PySem.W.Frag) (a : α) (as : List α) : R2 := fun x y H Q => Is K H x a ∧ Ls K H y as ∧ Q (.bl (decide (a ∈ as))) H
def rNotInE [DecidableEq α] (K : PySem.W.Frag) (a : α) (as : List α) : R2 := fun x y H Q => Is K H x a ∧ Ls K H y as ∧ Q (.bl (!decide (a ∈ as))) H
theorem datas_map (as : List α) : NestedKey.datas (as.map enc) = as.map dat := by
  induction as with
  | nil => rfl
  | cons a as ih => rw [List.map_cons, List.map_cons, NestedKey.datas, ih] <;> rfl
theorem ls_reads {pins : List (Addr × Obj)} {σ : L2.St} {H : Hp} {s : Shared} (I : Inv X pins σ H s) {y : V} {u : Value} {as : List α} (h : Ls X.K H y as) (r : RelV y u) : ∃ l, u = .ref l ∧ Reads s.heap u (.list (as.map dat)) [l] := by
  obtain ⟨l, xs, rfl, h1, h2⟩ := h
  cases r
  obtain ⟨its, rv, ⟨o, n, ho, hc, hd, hdt⟩, _⟩ := I.list h1
  refine ⟨l, rfl, .list (as := []) ho hc hdt ?_⟩
  rw [← datas_map]
  simpa using Ims.reads I _ _ _ h2 rv
theorem any_dat [DecidableEq α] (a : α) (as : List α) : ((as.map dat).any fun z => PyData.eqv z (dat a)) = decide (a ∈ as) := by
  induction as with
  | nil => simp
  | cons b as ih =>
    rw [List.map_cons, List.any_cons, ih, eqv_dat]
    by_cases e : b = a
    · subst e
      simp
    · have e' : ¬ a = b := fun z => e z.symm
      simp [e, e']
theorem depth_dats (as : List α) : PyData.depthAll (as.map dat) ≤ dp α := by
  induction as with
  | nil => simp [PyData.depthAll]
  | cons a as ih =>
    rw [List.map_cons, PyData.depthAll]
    have := dat_depth a
    omega
theorem lay_dats (as : List α) : PyData.canLayAll0 (as.map dat) = true := by
  induction as with
  | nil => simp [PyData.canLayAll0]
  | cons a as ih =>
    rw [List.map_cons, PyData.canLayAll0, ih]
    have : (dat a).canLay0 = true := lay a
    rw [this]
    rfl
theorem op_inE [DecidableEq α] (a : α) (as : List α) (hu : X.A.units + 40 < cLine) (hd : dp α ≤ 30) : OpR X (compareOp .In) (rInE X.K a as) := by
  intro pins s σ H x y v u Q I r1 r2 h
  obtain ⟨h1, h2, q⟩ := h
  obtain ⟨l, rfl, rl⟩ := ls_reads I h2 r2
  refine SeqAt.in_list_reads rl (Im.reads I _ _ _ h1 r1) (lay_dats as) (lay a) ?_ ?_
  · have := depth_dats as
    omega
  · have e := any_dat a as
    unfold dat at e ⊢
    rw [e]
    exact ⟨.bl _, H, I, rfl, q⟩
theorem op_notInE [DecidableEq α] (a : α) (as : List α) (hu : X.A.units + 40 < cLine) (hd : dp α ≤ 30) : OpR X (compareOp .NotIn) (rNotInE X.K a as) := by
  intro pins s σ H x y v u Q I r1 r2 h
  obtain ⟨h1, h2, q⟩ := h
  obtain ⟨l, rfl, rl⟩ := ls_reads I h2 r2
  refine SeqAt.notIn_list_reads rl (Im.reads I _ _ _ h1 r1) (lay_dats as) (lay a) ?_ ?_
  · have := depth_dats as
    omega
  · have e := any_dat a as
    unfold dat at e ⊢
    rw [e]
    exact ⟨.bl _, H, I, rfl, q⟩
/-- x in t, x not in t: a tuple of data -/
def rInT [DecidableEq α] (K : PySem.W.Frag) (a : α) (as : List α) : R2 := fun x y H Q => Is K H x a ∧ Is K H y as ∧ Q (.bl (decide (a ∈ as))) H
def rNotInT [DecidableEq α] (K : PySem.W.Frag) (a : α) (as : List α) : R2 := fun x y H Q => Is K H x a ∧ Is K H y as ∧ Q (.bl (!decide (a ∈ as))) H
theorem op_inT [DecidableEq α] (a : α) (as : List α) (hu : X.A.units + 40 < cLine) (hd : dp α ≤ 30) : OpR X (compareOp .In) (rInT X.K a as) := by
  intro pins s σ H x y v u Q I r1 r2 h
  obtain ⟨h1, h2, q⟩ := h
  have rl := Im.reads I _ _ _ h2 r2
  have e1 : (enc as).data = .tuple (as.map dat) := by
    show PyData.tuple (NestedKey.datas (as.map enc)) = _
    rw [datas_map]
  rw [e1] at rl
  refine SeqAt.in_tuple_reads rl (Im.reads I _ _ _ h1 r1) (lay_dats as) (lay a) ?_ ?_
  · have := depth_dats as
    omega
  · have e := any_dat a as
    unfold dat at e ⊢
    rw [e]
    exact ⟨.bl _, H, I, rfl, q⟩
theorem op_notInT [DecidableEq α] (a : α) (as : List α) (hu : X.A.units + 40 < cLine) (hd : dp α ≤ 30) : OpR X (compareOp .NotIn) (rNotInT X.K a as) := by
  intro pins s σ H x y v u Q I r1 r2 h
  obtain ⟨h1, h2, q⟩ := h
  have rl := Im.reads I _ _ _ h2 r2
  have e1 : (enc as).data = .tuple (as.map dat) := by
    show PyData.tuple (NestedKey.datas (as.map enc)) = _
    rw [datas_map]
  rw [e1] at rl
  refine SeqAt.notIn_tuple_reads rl (Im.reads I _ _ _ h1 r1) (lay_dats as) (lay a) ?_ ?_
  · have := depth_dats as
    omega
  · have e := any_dat a as
    unfold dat at e ⊢
    rw [e]
    exact ⟨.bl _, H, I, rfl, q⟩
end
/-- d != e, the same keys and values -/
def rNeD {κ β : Type} [Enc κ] [DecidableEq κ] [Enc β] (P : Program) (w : World) (K : PySem.W.Frag) (ka kb : List (κ × β)) : R2 := fun x y H Q => Ds P w K (fun H v b => Is K H v b) H x ka ∧ Ds P w K (fun H v b => Is K H v b) H y kb ∧ ka.length = kb.length ∧
  (∀ p ∈ ka, look kb p.1 = some p.2) ∧ Q (.bl false) H
theorem op_neD {X : Cx} {κ β : Type} [Enc κ] [DecidableEq κ] [Enc β] (ka kb : List (κ × β)) (hu : X.A.units + 60 < cLine) (hd : dp κ ≤ 8) (hd2 : dp β ≤ 30) : OpR X (compareOp .NotEq) (rNeD X.prog X.w X.K ka kb) := by
  intro pins s σ H x y v u Q I r1 r2 h
  obtain ⟨⟨a, ta, rfl, ra, da⟩, ⟨b, tb, rfl, rb, db⟩, hlen, hall, q⟩ := h
  cases r1
  cases r2
  obtain ⟨_, ha, xa, va, dda⟩ := CB.Inv.dict I ra (da.keys hd)
  obtain ⟨_, hb, xb, vb, ddb⟩ := CB.Inv.dict I rb (db.keys hd)
  have room : (nestedKind X.prog X.w).room X.A.in1 := by
    show X.A.in1.units + 8 < cLine
    rw [Around.in1_units]
    omega
  have l1 := Paired.length va
  have l2 := Paired.length vb
  have l3 := da.length
  have l4 := db.length
  refine dict_neX ha hb dda ddb room (by omega) (by omega) (fun z hz => ?_) ⟨.bl false, H, I, rfl, q⟩
  obtain ⟨i, hi, ez⟩ := List.getElem_of_mem hz
  have hti : i < ta.length := by omega
  obtain ⟨p, hp, e1, i1, v1⟩ := da.at_ (List.getElem?_eq_getElem hti)
  obtain ⟨y, hy, f1, f2, f3⟩ := paired_get va (List.getElem?_eq_getElem hti)
  rw [List.getElem?_eq_getElem hi, ez] at hy
  cases hy
  have hl := hall p (List.mem_of_getElem? hp)
  obtain ⟨v2, g2, v3⟩ := db.get hl
  have rr := vb.val (enc p.1)
  rw [g2] at rr
  obtain ⟨u2, hu2, ru2⟩ := RelO.some_of rr
  obtain ⟨⟨c, y2⟩, hy2, ey2⟩ := Option.map_eq_some_iff.mp hu2
  cases ey2
  obtain ⟨j, hj⟩ : ∃ j, xb[j]? = some (enc p.1, c, y2) := by
    unfold atKey at hy2
    obtain ⟨w', hw, ew⟩ := Option.map_eq_some_iff.mp hy2
    have hm := List.mem_of_find?_eq_some hw
    have he : decide (w'.1 = enc p.1) = true := List.find?_some (p := fun x : NestedKey × Addr × Value => decide (x.1 = enc p.1)) hw
    obtain ⟨j, hj, ej⟩ := List.getElem_of_mem hm
    refine ⟨j, ?_⟩
    rw [List.getElem?_eq_getElem hj, ej]
    obtain ⟨w1, w2⟩ := w'
    have h1 : w1 = enc p.1 := of_decide_eq_true he
    have h2 : w2 = (c, y2) := ew
    rw [h1, h2]
  refine ⟨j, c, y2, by rw [← f1, e1]; exact hj, ?_⟩
  have z := im_eqAt I (A := X.A.in1) v1 v3 f3 ru2 (by rw [Around.in1_units]; have := Enc.le p.2; omega)
  rw [NestedKey.beq_self] at z
  exact z
end
end CB
end
section
set_option Elab.async false
set_option linter.all false
set_option maxRecDepth 100000
set_option maxHeartbeats 2000000
/-! H. relations, states, judgements. -/
namespace CB
open PySem PySem.Spec PyProof.Rows L2 Enc

/-! ### orders of heaps -/
/-- tuples and instances stay -/
structure Lt (H H' : Hp) : Prop where
  tp : ∀ a xs, Rd H a (.tup xs) → Rd H' a (.tup xs)
  fz : ∀ a o xs, H a = some (.frz o (.tup xs)) → H' a = some (.frz o (.tup xs))
  ins : ∀ a C dx fs, H a = some (.ins C dx fs) → H' a = some (.ins C dx fs)
structure Lk (H H' : Hp) : Prop where
  le : Le H H'
  ins : ∀ a C dx fs, H a = some (.ins C dx fs) → H' a = some (.ins C dx fs)
  dom : ∀ a, H' a = none → H a = none
theorem Lk.lt {H H' : Hp} (e : Lk H H') : Lt H H' := ⟨fun a xs h => e.le.rd a _ NF.tup h, e.le.fz, e.ins⟩
theorem Lk.of [Tbs] {H H' : Hp} (e : Ex H H') : Lk H H' := ⟨le_of e, fun a C dx fs h => e.at_ h fun _ z => (nomatch z), e.dom⟩
theorem Lt.of [Tbs] {H H' : Hp} (e : Ex H H') : Lt H H' := (Lk.of e).lt
theorem Lk.refl (H : Hp) : Lk H H := ⟨Le.refl H, fun _ _ _ _ h => h, fun _ h => h⟩
theorem Lk.trans {H H1 H2 : Hp} (a : Lk H H1) (b : Lk H1 H2) : Lk H H2 := ⟨a.le.trans b.le, fun c C dx fs h => b.ins c C dx fs (a.ins c C dx fs h), fun c h => a.dom c (b.dom c h)⟩
/-- what is neither a tuple nor an instance nor known -/
def Loose (u : HO) : Prop := (∀ xs, u ≠ .tup xs) ∧ (∀ C dx fs, u ≠ .ins C dx fs) ∧ ∀ o xs, u ≠ .frz o (.tup xs)
theorem Lt.put {H : Hp} {d : Addr} {u u' : HO} (h : H d = some u) (l : Loose u) : Lt H (upd H d u') := by
  obtain ⟨l1, l2, l3⟩ := l
  refine ⟨fun a xs r => ?_, fun a o xs r => ?_, fun a C dx fs r => ?_⟩
  · by_cases e : a = d
    · subst e
      rcases r with r | ⟨o, r⟩
      · rw [h] at r; cases r; exact absurd rfl (l1 xs)
      · rw [h] at r; cases r; exact absurd rfl (l3 o xs)
    · rcases r with r | ⟨o, r⟩
      · exact .inl ((upd_ne e).trans r)
      · exact .inr ⟨o, (upd_ne e).trans r⟩
  · by_cases e : a = d
    · subst e
      rw [h] at r; cases r; exact absurd rfl (l3 o xs)
    · exact (upd_ne e).trans r
  · by_cases e : a = d
    · subst e
      rw [h] at r; cases r; exact absurd rfl (l2 C dx fs)
    · exact (upd_ne e).trans r
/-- at d nothing was known -/
theorem Lk.put {H0 H : Hp} {d : Addr} {u' : HO} (e : Lk H0 H) (h : H0 d = none) : Lk H0 (upd H d u') := by
  have ne : ∀ {a o}, H0 a = some o → a ≠ d := fun {a o} z q => by rw [q, h] at z; cases z
  refine ⟨⟨fun a u n r => ?_, fun a o xs r => ?_⟩, fun a C dx fs r => ?_, fun a r => ?_⟩
  · have na : a ≠ d := by
      rcases r with r | ⟨o, r⟩
      · exact ne r
      · exact ne r
    rcases e.le.rd a u n r with q | ⟨o, q⟩
    · exact .inl ((upd_ne na).trans q)
    · exact .inr ⟨o, (upd_ne na).trans q⟩
  · exact (upd_ne (ne r)).trans (e.le.fz a o xs r)
  · exact (upd_ne (ne r)).trans (e.ins a C dx fs r)
  · by_cases q : a = d
    · rw [q]; exact h
    · rw [upd_ne q] at r; exact e.dom a r
theorem Lk.lock {H : Hp} {d : Addr} {u : HO} {od : Obj} (h : H d = some u) (hu : ∀ o w, u ≠ HO.frz o w) (hi : ∀ C dx fs, u ≠ .ins C dx fs) : Lk H (upd H d (.frz od u)) := ⟨Le.lock h hu, fun a C dx fs r => by
  by_cases e : a = d
  · subst e; rw [h] at r; cases r; exact absurd rfl (hi C dx fs)
  · exact (upd_ne e).trans r, fun a r => by
  by_cases e : a = d
  · subst e; rw [upd_same] at r; cases r
  · rw [upd_ne e] at r; exact r⟩
theorem Lk.unlock {H : Hp} {d : Addr} {u : HO} {od : Obj} (h : H d = some (.frz od u)) (hu : ∀ xs, u ≠ HO.tup xs) : Lk H (upd H d u) := ⟨Le.unlock h hu, fun a C dx fs r => by
  by_cases e : a = d
  · subst e; rw [h] at r; cases r
  · exact (upd_ne e).trans r, fun a r => by
  by_cases e : a = d
  · subst e; rw [upd_same] at r; cases r
  · rw [upd_ne e] at r; exact r⟩

/-! ### relations -/
abbrev Rel := Hp → V → Prop
class Mon [Tbs] (R : Rel) : Prop where
  up : ∀ {H H' : Hp} {v : V}, Ex H H' → R H v → R H' v
class MonK (R : Rel) : Prop where
  up : ∀ {H H' : Hp} {v : V}, Lk H H' → R H v → R H' v
class Sta (R : Rel) : Prop where
  up : ∀ {H H' : Hp} {v : V}, Lt H H' → R H v → R H' v
instance (priority := 50) MonK.mon [Tbs] (R : Rel) [MonK R] : Mon R := ⟨fun e h => MonK.up (Lk.of e) h⟩
instance (priority := 40) Sta.monK (R : Rel) [Sta R] : MonK R := ⟨fun e h => Sta.up e.lt h⟩
def rD (K : PySem.W.Frag) {α : Type} [Enc α] (a : α) : Rel := fun H v => Im K H (enc a) v
def rB (b : Bool) : Rel := fun _ v => v = .bl b
def rN : Rel := fun _ v => v = .non
def rEq (x : V) : Rel := fun _ v => v = x
def rS (x : Str) : Rel := fun _ v => v = .str x
def rAny : Rel := fun _ _ => True
def rP (K : PySem.W.Frag) {α : Type} [Enc α] (as : List α) : Rel := fun H v => Pt K H v as
theorem Lt.sqT {K : PySem.W.Frag} {H H' : Hp} {a : Addr} {xs : List V} (e : Lt H H') (h : SqT K H a xs) : SqT K H' a xs := by
  rcases h with h | h
  · exact .inl (e.tp a _ h)
  · exact .inr h
section
variable {K : PySem.W.Frag} {H H' : Hp}
mutual
theorem Im.upT (e : Lt H H') : ∀ (k : NestedKey) (v : V), Im K H k v → Im K H' k v
  | .none, _, h => h
  | .num _, _, h => h
  | .text _, _, h => h
  | .tup ks, _, h => by
    obtain ⟨a, xs, e1, h1, h2⟩ := h
    exact ⟨a, xs, e1, e.sqT h1, Ims.upT e ks xs h2⟩
theorem Ims.upT (e : Lt H H') : ∀ (ks : List NestedKey) (vs : List V), Ims K H ks vs → Ims K H' ks vs
  | [], _, h => h
  | k :: ks, _, h => by
    obtain ⟨x, r, e1, h1, h2⟩ := h
    exact ⟨x, r, e1, Im.upT e k x h1, Ims.upT e ks r h2⟩
end
end
instance {K : PySem.W.Frag} {α : Type} [Enc α] (a : α) : Sta (rD K a) := ⟨fun e h => Im.upT e _ _ h⟩
instance (b : Bool) : Sta (rB b) := ⟨fun _ h => h⟩
instance : Sta rN := ⟨fun _ h => h⟩
instance (x : V) : Sta (rEq x) := ⟨fun _ h => h⟩
instance (x : Str) : Sta (rS x) := ⟨fun _ h => h⟩
instance : Sta rAny := ⟨fun _ h => h⟩
instance {K : PySem.W.Frag} {α : Type} [Enc α] (as : List α) : Sta (rP K as) := ⟨fun {H H' v} e h => by
  obtain ⟨p, o, xs, e1, h1, h2, h3⟩ := h
  exact ⟨p, o, xs, e1, e.fz _ _ _ h1, h2, Ims.upT e _ _ h3⟩⟩
/-- values one by one -/
def RsOk : List Rel → Hp → List V → Prop
  | [], _, vs => vs = []
  | R :: Rs, H, vs => ∃ v r, vs = v :: r ∧ R H v ∧ RsOk Rs H r
class Mons [Tbs] (Rs : List Rel) : Prop where
  all : ∀ R ∈ Rs, Mon R
class MonKs (Rs : List Rel) : Prop where
  all : ∀ R ∈ Rs, MonK R
instance [Tbs] : Mons [] := ⟨fun _ h => nomatch h⟩
instance [Tbs] {R : Rel} {Rs : List Rel} [a : Mon R] [b : Mons Rs] : Mons (R :: Rs) := ⟨fun r h => (List.mem_cons.mp h).elim (fun e => by rw [e]; exact a) fun h => b.all r h⟩
instance [Tbs] {ι : Type} {f : ι → Rel} {is : List ι} [h : ∀ i, Mon (f i)] : Mons (is.map f) := ⟨fun r hr => by
  obtain ⟨i, _, rfl⟩ := List.mem_map.mp hr
  exact h i⟩
instance : MonKs [] := ⟨fun _ h => nomatch h⟩
instance {R : Rel} {Rs : List Rel} [a : MonK R] [b : MonKs Rs] : MonKs (R :: Rs) := ⟨fun r h => (List.mem_cons.mp h).elim (fun e => by rw [e]; exact a) fun h => b.all r h⟩
instance {ι : Type} {f : ι → Rel} {is : List ι} [h : ∀ i, MonK (f i)] : MonKs (is.map f) := ⟨fun r hr => by
  obtain ⟨i, _, rfl⟩ := List.mem_map.mp hr
  exact h i⟩
theorem RsOk.up [Tbs] : ∀ {Rs : List Rel} {H H' : Hp} {vs : List V}, (∀ R ∈ Rs, Mon R) → Ex H H' → RsOk Rs H vs → RsOk Rs H' vs
  | [], _, _, _, _, _, h => h
  | R :: Rs, _, _, _, m, e, h => by
    obtain ⟨v, r, e1, h1, h2⟩ := h
    exact ⟨v, r, e1, (m R (List.mem_cons_self ..)).up e h1, RsOk.up (fun R hR => m R (List.mem_cons_of_mem _ hR)) e h2⟩
theorem RsOk.upK : ∀ {Rs : List Rel} {H H' : Hp} {vs : List V}, (∀ R ∈ Rs, MonK R) → Lk H H' → RsOk Rs H vs → RsOk Rs H' vs
  | [], _, _, _, _, _, h => h
  | R :: Rs, _, _, _, m, e, h => by
    obtain ⟨v, r, e1, h1, h2⟩ := h
    exact ⟨v, r, e1, (m R (List.mem_cons_self ..)).up e h1, RsOk.upK (fun R hR => m R (List.mem_cons_of_mem _ hR)) e h2⟩
theorem RsOk.len : ∀ {Rs : List Rel} {H : Hp} {vs : List V}, RsOk Rs H vs → vs.length = Rs.length
  | [], _, _, h => by rw [show _ = [] from h]; rfl
  | R :: Rs, _, _, h => by
    obtain ⟨v, r, rfl, _, h2⟩ := h
    rw [List.length_cons, List.length_cons, RsOk.len h2]
theorem RsOk.snoc : ∀ {Rs : List Rel} {R : Rel} {H : Hp} {vs : List V} {v : V}, RsOk Rs H vs → R H v → RsOk (Rs ++ [R]) H (vs ++ [v])
  | [], R, H, vs, v, h, hv => by
    rw [show vs = [] from h]
    exact ⟨v, [], rfl, hv, rfl⟩
  | R0 :: Rs, R, H, vs, v, h, hv => by
    obtain ⟨x, r, rfl, h1, h2⟩ := h
    exact ⟨x, r ++ [v], rfl, h1, RsOk.snoc h2 hv⟩
theorem rsok_ims {K : PySem.W.Frag} {α : Type} [Enc α] : ∀ {as : List α} {H : Hp} {xs : List V}, RsOk (as.map (rD K)) H xs ↔ Ims K H (as.map enc) xs
  | [], _, _ => Iff.rfl
  | a :: as, H, xs => by
    constructor
    · rintro ⟨x, r, e, h1, h2⟩
      exact ⟨x, r, e, h1, rsok_ims.mp h2⟩
    · rintro ⟨x, r, e, h1, h2⟩
      exact ⟨x, r, e, h1, rsok_ims.mpr h2⟩
theorem rsok_bl : ∀ {bs : List Bool} {H : Hp} {xs : List V}, RsOk (bs.map rB) H xs → xs = bs.map V.bl
  | [], _, _, h => h
  | b :: bs, H, xs, h => by
    obtain ⟨x, r, rfl, h1, h2⟩ := h
    rw [show x = .bl b from h1, rsok_bl h2]
    rfl
theorem RsOk.get : ∀ {Rs : List Rel} {H : Hp} {vs : List V} {i : Nat} {v : V}, RsOk Rs H vs → vs[i]? = some v → ∃ R, Rs[i]? = some R ∧ R H v
  | [], _, vs, i, v, h, e => by
    rw [show vs = [] from h] at e
    cases e
  | R :: Rs, _, _, 0, v, h, e => by
    obtain ⟨x, r, rfl, h1, h2⟩ := h
    cases e
    exact ⟨R, rfl, h1⟩
  | R :: Rs, _, _, i + 1, v, h, e => by
    obtain ⟨x, r, rfl, h1, h2⟩ := h
    exact RsOk.get (i := i) h2 e
/-- a list of such -/
def rL (K : PySem.W.Frag) (Rs : List Rel) : Rel := fun H v => ∃ p xs, v = .ref p ∧ SqL K H p xs ∧ RsOk Rs H xs
instance {K : PySem.W.Frag} {Rs : List Rel} [m : MonKs Rs] : MonK (rL K Rs) := ⟨fun {H H' v} e h => by
  obtain ⟨p, xs, e1, h1, h2⟩ := h
  exact ⟨p, xs, e1, e.le.sqL h1, RsOk.upK m.all e h2⟩⟩
abbrev rLs (K : PySem.W.Frag) {α : Type} [Enc α] (as : List α) : Rel := rL K (as.map (rD K))
theorem rLs.ls {K : PySem.W.Frag} {α : Type} [Enc α] {as : List α} {H : Hp} {v : V} (h : rLs K as H v) : Ls K H v as := by
  obtain ⟨p, xs, e1, h1, h2⟩ := h
  exact ⟨p, xs, e1, h1, rsok_ims.mp h2⟩
theorem rLs.of {K : PySem.W.Frag} {α : Type} [Enc α] {as : List α} {H : Hp} {v : V} (h : Ls K H v as) : rLs K as H v := by
  obtain ⟨p, xs, e1, h1, h2⟩ := h
  exact ⟨p, xs, e1, h1, rsok_ims.mpr h2⟩
/-- a dict of data -/
def rDs (P : Program) (w : World) (K : PySem.W.Frag) {κ β : Type} [Enc κ] [Enc β] (kvs : List (κ × β)) : Rel := fun H v => Ds P w K (fun H v b => Is K H v b) H v kvs
/-! ### own things -/
structure Own where
  p : Addr
  C : Hp → Prop
  at_ : ∀ {H : Hp}, C H → ∃ u, H p = some u ∧ Loose u ∧ Pl p u
  sta : ∀ {H H' : Hp}, C H → H' p = H p → Lt H H' → C H'
theorem Own.ex [Tbs] (o : Own) {H H' : Hp} (h : o.C H) (e : Ex H H') : o.C H' := by
  obtain ⟨u, h1, _, n⟩ := o.at_ h
  exact o.sta h ((e.at_ h1 n.1).trans h1.symm) (Lt.of e)
theorem loose_lst {xs : List V} : Loose (.lst xs) := ⟨fun _ z => (nomatch z), fun _ _ _ z => (nomatch z), fun _ _ z => (nomatch z)⟩
theorem loose_ext {φ : Heap → Prop} : Loose (.ext φ) := ⟨fun _ z => (nomatch z), fun _ _ _ z => (nomatch z), fun _ _ z => (nomatch z)⟩
theorem pl_lst {p : Addr} {xs : List V} : Pl p (.lst xs) := ⟨fun _ z => (nomatch z), fun _ z => (nomatch z)⟩
/-- new at p: a list of data -/
def CL (K : PySem.W.Frag) {α : Type} [Enc α] (as : List α) (p : Addr) (H : Hp) : Prop := ∃ xs, H p = some (.lst xs) ∧ Ims K H (as.map enc) xs
def oL (K : PySem.W.Frag) {α : Type} [Enc α] (p : Addr) (as : List α) : Own where
  p := p
  C := CL K as p
  at_ := fun {H} h => by
    obtain ⟨xs, h1, h2⟩ := h
    exact ⟨_, h1, loose_lst, pl_lst⟩
  sta := fun {H H'} h e l => by
    obtain ⟨xs, h1, h2⟩ := h
    exact ⟨xs, e.trans h1, Ims.upT l _ _ h2⟩
/-! ### states -/
abbrev SA := L2.St → Hp → Prop
class Stab [Tbs] (S : SA) : Prop where
  up : ∀ {σ : L2.St} {H H' : Hp}, S σ H → Ex H H' → S σ H'
  tb : ∀ {σ : L2.St} {H : Hp}, S σ H → LamX.Tabs Tbs.T H
abbrev Gam := List (Option Rel)
/-- three heaps: what is read of the start; what must stand; whose tuples stand -/
structure Bs where
  s : Hp
  f : Hp
  t : Hp
/-- as it was in H -/
def cst (H : Hp) (R : Rel) : Rel := fun _ v => R H v
instance {H : Hp} {R : Rel} : Sta (cst H R) := ⟨fun _ h => h⟩
structure SS [Tbs] (B : Bs) (Γ : Gam) (Δ : List Own) (σ : L2.St) (H : Hp) : Prop where
  le : Lk B.s H
  ex : Ex B.f H
  lt : Lt B.t H
  len : σ.length = Γ.length
  env : ∀ (i : Nat) (R : Rel), Γ[i]? = some (some R) → ∃ v, σ[i]? = some (some v) ∧ Sta R ∧ R H v
  own : ∀ o ∈ Δ, o.C H
  fr : ∀ o ∈ Δ, B.s o.p = none ∧ B.f o.p = none
  ap : (Δ.map (·.p)).Nodup
  tb : LamX.Tabs Tbs.T H
theorem Lt.refl (H : Hp) : Lt H H := (Lk.refl H).lt
theorem Lt.trans {H H1 H2 : Hp} (a : Lt H H1) (b : Lt H1 H2) : Lt H H2 := ⟨fun c xs h => b.tp c xs (a.tp c xs h), fun c o xs h => b.fz c o xs (a.fz c o xs h), fun c C dx fs h => b.ins c C dx fs (a.ins c C dx fs h)⟩
instance [Tbs] {B : Bs} {Γ : Gam} {Δ : List Own} : Stab (SS B Γ Δ) := ⟨fun {σ H H'} s e =>
  ⟨s.le.trans (Lk.of e), s.ex.trans e, s.lt.trans (Lt.of e), s.len, fun i R h => by
    obtain ⟨v, h1, m, h2⟩ := s.env i R h
    exact ⟨v, h1, m, Sta.up (Lt.of e) h2⟩, fun o ho => o.ex (s.own o ho) e, s.fr, s.ap, e.tb s.tb⟩, fun s => s.tb⟩
section
variable [Tbs] {B : Bs} {Γ : Gam} {Δ : List Own} {σ : L2.St} {H : Hp}
theorem SS.get (s : SS B Γ Δ σ H) {i : Nat} {R : Rel} (h : Γ[i]? = some (some R)) : ∃ v, σ[i]? = some (some v) ∧ R H v := by
  obtain ⟨v, h1, m, h2⟩ := s.env i R h
  exact ⟨v, h1, h2⟩
theorem SS.set (s : SS B Γ Δ σ H) {i : Nat} {R : Rel} [m : Sta R] {v : V} (h : R H v) : SS B (Γ.set i (some R)) Δ (σ.set i (some v)) H :=
  ⟨s.le, s.ex, s.lt, by rw [List.length_set, List.length_set]; exact s.len, fun j R' h' => by
    by_cases e : i = j
    · subst e
      by_cases hi : i < Γ.length
      · rw [List.getElem?_set_self hi] at h'
        cases h'
        exact ⟨v, List.getElem?_set_self (by rw [s.len]; exact hi), m, h⟩
      · rw [List.getElem?_eq_none (by rw [List.length_set]; omega)] at h'
        cases h'
    · rw [List.getElem?_set_ne e] at h'
      rw [List.getElem?_set_ne e]
      exact s.env j R' h', s.own, s.fr, s.ap, s.tb⟩
/-- forget slots -/
theorem SS.weak (s : SS B Γ Δ σ H) {Γ' : Gam} {σ' : L2.St} (hl : σ'.length = Γ'.length) (h : ∀ (i : Nat) (R : Rel), Γ'[i]? = some (some R) → Γ[i]? = some (some R) ∧ σ'[i]? = σ[i]?) : SS B Γ' Δ σ' H :=
  ⟨s.le, s.ex, s.lt, hl, fun i R hi => by
    obtain ⟨h1, h2⟩ := h i R hi
    rw [h2]
    exact s.env i R h1, s.own, s.fr, s.ap, s.tb⟩
/-- which slots are kept -/
def Subg : Gam → Gam → Prop
  | [], [] => True
  | some R :: r, o :: r' => o = some R ∧ Subg r r'
  | none :: r, _ :: r' => Subg r r'
  | _, _ => False
theorem Subg.len : ∀ {Γ' Γ : Gam}, Subg Γ' Γ → Γ'.length = Γ.length
  | [], [], _ => rfl
  | some R :: r, o :: r', h => by rw [List.length_cons, List.length_cons, Subg.len h.2]
  | none :: r, o :: r', h => by rw [List.length_cons, List.length_cons, Subg.len (Γ' := r) (Γ := r') h]
theorem Subg.get : ∀ {Γ' Γ : Gam}, Subg Γ' Γ → ∀ (i : Nat) (R : Rel), Γ'[i]? = some (some R) → Γ[i]? = some (some R)
  | [], [], _, i, R, h => h
  | some R0 :: r, o :: r', h, 0, R, e => by
    cases e
    rw [h.1]
    rfl
  | some R0 :: r, o :: r', h, i + 1, R, e => Subg.get (Γ' := r) (Γ := r') h.2 i R e
  | none :: r, o :: r', h, 0, R, e => by cases e
  | none :: r, o :: r', h, i + 1, R, e => Subg.get (Γ' := r) (Γ := r') h i R e
theorem Subg.refl : ∀ Γ : Gam, Subg Γ Γ
  | [] => True.intro
  | some R :: r => ⟨rfl, Subg.refl r⟩
  | none :: r => Subg.refl r
theorem SS.sub (s : SS B Γ Δ σ H) {Γ' : Gam} (h : Subg Γ' Γ) : SS B Γ' Δ σ H := s.weak (by rw [h.len]; exact s.len) fun i R e => ⟨h.get i R e, rfl⟩
/-- none at these slots -/
def freeAt (Γ : Gam) : List Nat → Bool
  | [] => true
  | i :: r => (match Γ[i]? with
    | some (some _) => false
    | _ => true) && freeAt Γ r
theorem freeAt.no : ∀ {vs : List Nat} {i : Nat} {R : Rel}, freeAt Γ vs = true → Γ[i]? = some (some R) → i ∉ vs
  | [], _, _, _, _ => by simp
  | j :: r, i, R, h, e => by
    unfold freeAt at h
    rw [Bool.and_eq_true] at h
    simp only [List.mem_cons, not_or]
    refine ⟨fun q => ?_, freeAt.no h.2 e⟩
    subst q
    rw [e] at h
    exact Bool.false_ne_true h.1
theorem wipe_get {σ : L2.St} {i : Nat} : ∀ {vs : List Nat}, i ∉ vs → (wipe σ vs)[i]? = σ[i]?
  | [], _ => rfl
  | v :: vs, h => by
    simp only [List.mem_cons, not_or] at h
    unfold wipe
    rw [List.getElem?_set_ne (fun e => h.1 e.symm)]
    exact wipe_get h.2
theorem SS.wiped (s : SS B Γ Δ σ H) {vs : List Nat} (h : freeAt Γ vs = true) : SS B Γ Δ (wipe σ vs) H := s.weak (by rw [wipe_length]; exact s.len) fun i R e => ⟨e, wipe_get (freeAt.no h e)⟩
/-- the start -/
theorem RsOk.start : ∀ {Rs : List Rel} {H : Hp} {vs : List V} (i : Nat) (R : Rel), RsOk Rs H vs → (Rs.map fun R => some (cst H R))[i]? = some (some R) → ∃ v, vs[i]? = some v ∧ Sta R ∧ R H v
  | [], _, _, i, R, h, e => by cases e
  | R0 :: Rs, H, vs, 0, R, h, e => by
    obtain ⟨v, r, rfl, h1, _⟩ := h
    cases e
    exact ⟨v, rfl, inferInstance, h1⟩
  | R0 :: Rs, H, vs, i + 1, R, h, e => by
    obtain ⟨v, r, rfl, _, h2⟩ := h
    exact RsOk.start i R h2 e
theorem SS.start {Rs : List Rel} {vs : List V} {N : List Str} (h : RsOk Rs H vs) (hl : Rs.length ≤ N.length) (htb : LamX.Tabs Tbs.T H) : SS ⟨H, H, H⟩ ((Rs.map fun R => some (cst H R)) ++ List.replicate (N.length - Rs.length) none) [] (L2.start N vs) H := by
  have l := h.len
  refine ⟨Lk.refl H, Ex.refl H, Lt.refl H, ?_, fun i R e => ?_, fun _ z => (nomatch z), fun _ z => (nomatch z), List.nodup_nil, htb⟩
  · unfold L2.start
    rw [List.length_append, List.length_append, List.length_map, List.length_map, List.length_replicate, List.length_replicate, l]
  · by_cases hi : i < Rs.length
    · rw [List.getElem?_append_left (by rw [List.length_map]; exact hi)] at e
      obtain ⟨v, h1, h2, h3⟩ := RsOk.start i R h e
      refine ⟨v, ?_, h2, h3⟩
      unfold L2.start
      rw [List.getElem?_append_left (by rw [List.length_map]; omega), List.getElem?_map, h1]
      rfl
    · rw [List.getElem?_append_right (by rw [List.length_map]; omega), List.getElem?_replicate] at e
      split at e <;> cases e
/-- the heap whose tuples stand is chosen anew -/
theorem SS.now (s : SS B Γ Δ σ H) : SS ⟨B.s, B.f, H⟩ Γ Δ σ H := ⟨s.le, s.ex, Lt.refl H, s.len, s.env, s.own, s.fr, s.ap, s.tb⟩
theorem SS.back {t : Hp} (s : SS ⟨B.s, B.f, t⟩ Γ Δ σ H) (h : Lt B.t t) : SS B Γ Δ σ H := ⟨s.le, s.ex, h.trans s.lt, s.len, s.env, s.own, s.fr, s.ap, s.tb⟩
/-- a new own thing -/
theorem SS.add (s : SS B Γ Δ σ H) {H' : Hp} (e : Ex H H') {o : Own} (h : H o.p = none) (hc : o.C H') : SS B Γ (o :: Δ) σ H' := by
  have s' := Stab.up s e
  refine ⟨s'.le, s'.ex, s'.lt, s'.len, s'.env, fun o' ho => ?_, fun o' ho => ?_, ?_, s'.tb⟩
  · rcases List.mem_cons.mp ho with q | q
    · rw [q]; exact hc
    · exact s'.own o' q
  · rcases List.mem_cons.mp ho with q | q
    · rw [q]
      refine ⟨s.le.dom _ h, ?_⟩
      · cases z : B.f o.p with
        | none => rfl
        | some u =>
          have := s.ex.dom _ h
          rw [z] at this
          cases this
    · exact s.fr o' q
  · rw [List.map_cons]
    refine List.nodup_cons.mpr ⟨fun hm => ?_, s.ap⟩
    obtain ⟨o', ho, e'⟩ := List.mem_map.mp hm
    obtain ⟨u, hu, _⟩ := o'.at_ (s.own o' ho)
    rw [e', h] at hu
    cases hu
/-- an own thing changes -/
theorem SS.mut (s : SS B Γ Δ σ H) {n : Nat} {o o' : Own} (hn : Δ[n]? = some o) (hp : o'.p = o.p) {u' : HO} (hc : o'.C (upd H o.p u')) : SS B Γ (Δ.set n o') σ (upd H o.p u') := by
  have ho : o ∈ Δ := List.mem_of_getElem? hn
  obtain ⟨f1, f2⟩ := s.fr o ho
  obtain ⟨u, hu, lo, pl⟩ := o.at_ (s.own o ho)
  have lt : Lt H (upd H o.p u') := Lt.put hu lo
  have hlt : n < Δ.length := (List.getElem?_eq_some_iff.mp hn).1
  have ap' : (Δ.set n o').map (·.p) = Δ.map (·.p) := by
    refine List.ext_getElem? fun j => ?_
    rw [List.getElem?_map, List.getElem?_map]
    by_cases e : n = j
    · subst e
      rw [List.getElem?_set_self hlt, hn]
      exact congrArg some hp
    · rw [List.getElem?_set_ne e]
  refine ⟨s.le.put f1, s.ex.mut f2 hu pl, s.lt.trans lt, s.len, fun i R h => ?_, fun o2 h2 => ?_, fun o2 h2 => ?_, by rw [ap']; exact s.ap, tabs_put s.tb hu pl⟩
  · obtain ⟨v, h1, m, h2⟩ := s.env i R h
    exact ⟨v, h1, m, Sta.up lt h2⟩
  · obtain ⟨j, hj, ej⟩ := List.getElem_of_mem h2
    have hj' : (Δ.set n o')[j]? = some o2 := by rw [List.getElem?_eq_getElem hj, ej]
    by_cases e : n = j
    · subst e
      rw [List.getElem?_set_self hlt] at hj'
      cases hj'
      exact hc
    · rw [List.getElem?_set_ne e] at hj'
      have ne : o2.p ≠ o.p := by
        intro q
        have nd := s.ap
        have a1 : (Δ.map (·.p))[j]? = some o.p := by rw [List.getElem?_map, hj', ← q]; rfl
        have a2 : (Δ.map (·.p))[n]? = some o.p := by rw [List.getElem?_map, hn]; rfl
        obtain ⟨b1, c1⟩ := List.getElem?_eq_some_iff.mp a1
        obtain ⟨b2, c2⟩ := List.getElem?_eq_some_iff.mp a2
        exact e ((List.getElem_inj nd).mp (c2.trans c1.symm))
      exact o2.sta (s.own o2 (List.mem_of_getElem? hj')) (upd_ne ne) lt
  · obtain ⟨j, hj, ej⟩ := List.getElem_of_mem h2
    have hj' : (Δ.set n o')[j]? = some o2 := by rw [List.getElem?_eq_getElem hj, ej]
    by_cases e : n = j
    · subst e
      rw [List.getElem?_set_self hlt] at hj'
      cases hj'
      rw [hp]
      exact ⟨f1, f2⟩
    · rw [List.getElem?_set_ne e] at hj'
      exact s.fr o2 (List.mem_of_getElem? hj')
/-- own things forgotten -/
theorem SS.drop (s : SS B Γ Δ σ H) {Δ' : List Own} (h : List.Sublist Δ' Δ) : SS B Γ Δ' σ H :=
  ⟨s.le, s.ex, s.lt, s.len, s.env, fun o ho => s.own o (h.subset ho), fun o ho => s.fr o (h.subset ho), s.ap.sublist (h.map _), s.tb⟩
end
end CB
end
section
set_option Elab.async false
set_option linter.all false
set_option maxRecDepth 100000
set_option maxHeartbeats 2000000
/-! I. judgements over states; expressions. -/
namespace CB
open PySem PySem.Spec PyProof.Rows L2 Enc

/-! ### readings that are what is wanted -/
def wE (X : Cx) (e : Expr) : TE := fun σ H Q => ∀ (pins : List (Addr × Obj)) (s : Shared), Inv X pins σ H s → wpAny (model X.prog X.w) X.A (eval e X.env) (EP X pins σ Q) X.xe s
def wT (X : Cx) (e : Expr) : TT := fun σ H Q => ∀ (pins : List (Addr × Obj)) (s : Shared), Inv X pins σ H s → wpAny (model X.prog X.w) X.A (isTrue e X.env (eval e X.env)) (TP X pins σ Q) X.xe s
def wW (X : Cx) (e : Expr) : TT := fun σ H Q => ∀ (whole : Sem Value) (pins : List (Addr × Obj)) (s : Shared), Inv X pins σ H s → wpAny (model X.prog X.w) X.A (isTrue e X.env whole) (TP X pins σ Q) X.xe s
def wA (X : Cx) (es : List Expr) : TA := fun σ H Q => ∀ (pos : Pos) (pins : List (Addr × Obj)) (s : Shared), Inv X pins σ H s → wpAny (model X.prog X.w) X.A (spliced (backTo pos (starEach es X.env))) (AP X pins σ Q) X.xe s
def wB (X : Cx) (b : List Stmt) : TS := fun D σ H => ∀ (pins : List (Addr × Obj)) (s : Shared), Inv X pins σ H s → wpAny (model X.prog X.w) X.A (execs b X.env) (SP X pins D) X.xe s
section
variable {X : Cx} {e : Expr} {es : List Expr} {b : List Stmt}
theorem pe_w : PE X e (wE X e) := ⟨fun pins s σ H Q I h => h pins s I⟩
theorem pt_w : PT X e (wT X e) := ⟨fun pins s σ H Q I h => h pins s I⟩
theorem pw_w : PW X e (wW X e) := ⟨fun wh pins s σ H Q I h => h wh pins s I⟩
theorem pa_w : PA X es (wA X es) := ⟨fun pos pins s σ H Q I h => h pos pins s I⟩
theorem pb_w : PSs X b (wB X b) := ⟨fun pins s σ H D I h => h pins s I⟩
theorem wE.mono {σ : L2.St} {H : Hp} {Q Q' : VK} (h : wE X e σ H Q) (f : ∀ v H', Q v H' → Q' v H') : wE X e σ H Q' := fun pins s I =>
  thn (h pins s I) fun u s' ⟨v, H', I', r, q⟩ => ⟨v, H', I', r, f v H' q⟩
theorem wT.mono {σ : L2.St} {H : Hp} {Q Q' : Bool → Hp → Prop} (h : wT X e σ H Q) (f : ∀ v H', Q v H' → Q' v H') : wT X e σ H Q' := fun pins s I =>
  thn (h pins s I) fun u s' ⟨H', I', q⟩ => ⟨H', I', f u H' q⟩
theorem wW.mono {σ : L2.St} {H : Hp} {Q Q' : Bool → Hp → Prop} (h : wW X e σ H Q) (f : ∀ v H', Q v H' → Q' v H') : wW X e σ H Q' := fun wh pins s I =>
  thn (h wh pins s I) fun u s' ⟨H', I', q⟩ => ⟨H', I', f u H' q⟩
theorem wA.mono {σ : L2.St} {H : Hp} {Q Q' : List V → Hp → Prop} (h : wA X es σ H Q) (f : ∀ v H', Q v H' → Q' v H') : wA X es σ H Q' := fun pos pins s I =>
  thn (h pos pins s I) fun u s' ⟨v, H', I', r, q⟩ => ⟨v, H', I', r, f v H' q⟩
end
/-! ### judgements -/
section
variable [Tbs]
def HE (X : Cx) (S : SA) (e : Expr) (R : Rel) : Prop := ∀ σ H, S σ H → wE X e σ H fun v H' => Ex H H' ∧ R H' v
def HT (X : Cx) (S : SA) (e : Expr) (b : Bool) : Prop := ∀ σ H, S σ H → wT X e σ H fun c H' => Ex H H' ∧ c = b
def HW (X : Cx) (S : SA) (e : Expr) (b : Bool) : Prop := ∀ σ H, S σ H → wW X e σ H fun c H' => Ex H H' ∧ c = b
def HA (X : Cx) (S : SA) (es : List Expr) (Rs : List Rel) : Prop := ∀ σ H, S σ H → wA X es σ H fun vs H' => Ex H H' ∧ RsOk Rs H' vs
/-- a new thing -/
def HN (X : Cx) (S : SA) (e : Expr) (C : Addr → Hp → Prop) : Prop := ∀ σ H, S σ H → wE X e σ H fun v H' => Ex H H' ∧ ∃ p, v = .ref p ∧ H p = none ∧ C p H'
def HB (X : Cx) (S : SA) (b : List Stmt) (D : Ends) : Prop := ∀ σ H, S σ H → wB X b D σ H
end
section
variable [Tbs] {X : Cx} {S : SA} [Stab S] {e a b c : Expr} {es : List Expr} {R Ra Rb Rc : Rel} {Rs : List Rel} {pos : Pos}
theorem he_of {t : TE} (P : PE X e t) (h : ∀ σ H, S σ H → t σ H fun v H' => Ex H H' ∧ R H' v) : HE X S e R := fun σ H s pins sh I => P.run pins sh σ H _ I (h σ H s)
theorem hn_of {t : TE} {C : Addr → Hp → Prop} (P : PE X e t) (h : ∀ σ H, S σ H → t σ H fun v H' => Ex H H' ∧ ∃ p, v = .ref p ∧ H p = none ∧ C p H') : HN X S e C := fun σ H s pins sh I => P.run pins sh σ H _ I (h σ H s)
theorem ht_of {t : TT} {k : Bool} (P : PT X e t) (h : ∀ σ H, S σ H → t σ H fun v H' => Ex H H' ∧ v = k) : HT X S e k := fun σ H s pins sh I => P.run pins sh σ H _ I (h σ H s)
theorem HE.imp {R' : Rel} (h : HE X S e R) (f : ∀ H v, R H v → R' H v) : HE X S e R' := fun σ H s => (h σ H s).mono fun v H' ⟨e, r⟩ => ⟨e, f H' v r⟩
theorem HE.eq {R' : Rel} (h : HE X S e R) (f : R = R') : HE X S e R' := f ▸ h
theorem HN.he {C : Addr → Hp → Prop} (h : HN X S e C) (f : ∀ p H, C p H → R H (.ref p)) : HE X S e R := fun σ H s => (h σ H s).mono fun v H' ⟨x, p, e1, _, c⟩ => ⟨x, by rw [e1]; exact f p H' c⟩
theorem HN.imp {C C' : Addr → Hp → Prop} (h : HN X S e C) (f : ∀ p H, C p H → C' p H) : HN X S e C' := fun σ H s => (h σ H s).mono fun v H' ⟨x, p, e1, n, c⟩ => ⟨x, p, e1, n, f p H' c⟩
theorem HE.pre {S' : SA} (h : HE X S e R) (f : ∀ σ H, S' σ H → S σ H) : HE X S' e R := fun σ H s => h σ H (f σ H s)
theorem HT.pre {S' : SA} {k : Bool} (h : HT X S e k) (f : ∀ σ H, S' σ H → S σ H) : HT X S' e k := fun σ H s => h σ H (f σ H s)
theorem ls_of_CL {α : Type} [Enc α] {as : List α} {K : PySem.W.Frag} {p : Addr} {H : Hp} (h : CL K as p H) : rLs K as H (.ref p) := by
  obtain ⟨xs, h1, h2⟩ := h
  exact ⟨p, xs, rfl, .of h1, rsok_ims.mpr h2⟩
theorem HN.ls {α : Type} [Enc α] {as : List α} {K : PySem.W.Frag} (h : HN X S e (CL K as)) : HE X S e (rLs K as) := h.he fun _ _ => ls_of_CL
/-- e1, then e2 -/
theorem he_seq2 {Q : VK} (ha : HE X S a Ra) (hb : HE X S b Rb) [m : Mon Ra] {σ : L2.St} {H : Hp} (s : S σ H) {g : V → V → Hp → Prop} (h : ∀ x y H', Ex H H' → S σ H' → Ra H' x → Rb H' y → g x y H') :
    wE X a σ H fun x H1 => wE X b σ H1 fun y H2 => g x y H2 :=
  (ha σ H s).mono fun x H1 ⟨e1, r1⟩ => (hb σ H1 (Stab.up s e1)).mono fun y H2 ⟨e2, r2⟩ => h x y H2 (e1.trans e2) (Stab.up s (e1.trans e2)) (Mon.up e2 r1) r2
theorem he_op {op : Operator} {r : R2} (ho : OpR X (binaryOp op) r) (ha : HE X S a Ra) (hb : HE X S b Rb) [Mon Ra] (q : ∀ x y H, Ra H x → Rb H y → r x y H fun v H' => Ex H H' ∧ R H' v) (hmono : ∀ x y H (Q Q' : VK), (∀ v H', Q v H' → Q' v H') → r x y H Q → r x y H Q') : HE X S (.BinOp a op b pos) R :=
  he_of (pe_op ho pe_w pe_w) fun σ H s => he_seq2 (Q := fun _ _ => True) ha hb s fun x y H' e1 s' r1 r2 => hmono _ _ _ _ _ (fun v H2 ⟨e2, r⟩ => ⟨e1.trans e2, r⟩) (q x y H' r1 r2)
theorem hn_op {op : Operator} {r : R2} {C : Addr → Hp → Prop} (ho : OpR X (binaryOp op) r) (ha : HE X S a Ra) (hb : HE X S b Rb) [Mon Ra] (q : ∀ x y H, Ra H x → Rb H y → ∀ H0, Ex H0 H → r x y H fun v H' => Ex H0 H' ∧ ∃ p, v = .ref p ∧ H0 p = none ∧ C p H') : HN X S (.BinOp a op b pos) C :=
  hn_of (pe_op ho pe_w pe_w) fun σ H s => he_seq2 (Q := fun _ _ => True) ha hb s fun x y H' e1 s' r1 r2 => q x y H' r1 r2 H e1
/-- a comparison -/
def wC (X : Cx) (op : CmpOp) (a b : Expr) : TE := fun σ H Q => ∀ (pins : List (Addr × Obj)) (s : Shared), Inv X pins σ H s →
    wpAny (model X.prog X.w) X.A (eval a X.env) (fun v s₁ => wpAny (model X.prog X.w) X.A (eval b X.env) (fun u s₂ => wpAny (model X.prog X.w) X.A (compareOp op v u) (EP X pins σ Q) X.xe s₂) X.xe s₁) X.xe s
theorem pc_w {op : CmpOp} : PC X op a b (wC X op a b) := ⟨fun pins s σ H Q I h => h pins s I⟩
structure HC (X : Cx) (S : SA) (op : CmpOp) (a b : Expr) (k : Bool) : Prop where
  run : ∀ σ H, S σ H → wC X op a b σ H fun v H' => Ex H H' ∧ v = .bl k
  mar : behindInMarks op b = false
theorem hc_op {op : CmpOp} {r : R2} {k : Bool} (ho : OpR X (compareOp op) r) (ha : HE X S a Ra) (hb : HE X S b Rb) [Mon Ra] (q : ∀ x y H, Ra H x → Rb H y → ∀ H0, Ex H0 H → r x y H fun v H' => Ex H0 H' ∧ v = .bl k) (hm : behindInMarks op b = false) : HC X S op a b k :=
  ⟨fun σ H s pins sh I => binT pe_w pe_w I (he_seq2 (Q := fun _ _ => True) ha hb s fun x y H' e1 s' r1 r2 => q x y H' r1 r2 H e1) fun v u s2 x y H2 I2 rx ry q => ho pins s2 σ H2 x y v u _ I2 rx ry q, hm⟩
theorem he_c {op : CmpOp} {k : Bool} (h : HC X S op a b k) : HE X S (.Compare a [op] [b] pos) (rB k) := he_of (pe_cmp pc_w h.mar) h.run
theorem ht_c {op : CmpOp} {k : Bool} (h : HC X S op a b k) : HT X S (.Compare a [op] [b] pos) k := ht_of (pt_cmp pc_w h.mar) fun σ H s pins sh I =>
  thn (h.run σ H s pins sh I) fun v s1 h1 => thn h1 fun u s2 h2 => thn h2 fun c s3 ⟨x, H1, I1, r1, e1, e2⟩ => ⟨x, H1, I1, r1, k, e2, e1, rfl⟩
theorem none_of_ex {H0 H : Hp} {p : Addr} (e : Ex H0 H) (h : H p = none) : H0 p = none := (Lk.of e).dom p h

/-! ### names, constants -/
variable {B : Bs} {Γ : Gam} {Δ : List Own} {x : Str}
theorem he_var (i : Nat) (h : Γ[i]? = some (some R)) (hN : X.N[i]? = some x := by rfl) (hv : Vis X.env.scope x := by first | exact Or.inl rfl | exact Or.inr (Or.inl rfl) | exact Or.inr (Or.inr rfl)) (hd : (x == ("__debug__" : Str)) = false := by decide)
    (hcd : (x == ("__classdict__" : Str)) = false := by decide) : HE X (SS B Γ Δ) (.Name x pos) R := he_of (pe_var hN hv hd hcd) fun σ H s => by
  obtain ⟨v, h1, h2⟩ := s.get h
  exact ⟨v, h1, Ex.refl H, h2⟩
theorem he_par [MonK R] (i : Nat) (h : Γ[i]? = some (some (cst B.s R))) (hN : X.N[i]? = some x := by rfl) (hv : Vis X.env.scope x := by first | exact Or.inl rfl | exact Or.inr (Or.inl rfl) | exact Or.inr (Or.inr rfl)) (hd : (x == ("__debug__" : Str)) = false := by decide)
    (hcd : (x == ("__classdict__" : Str)) = false := by decide) : HE X (SS B Γ Δ) (.Name x pos) R := he_of (pe_var hN hv hd hcd) fun σ H s => by
  obtain ⟨v, h1, h2⟩ := s.get h
  exact ⟨v, h1, Ex.refl H, MonK.up s.le h2⟩
theorem he_own {α : Type} [Enc α] {as : List α} {K : PySem.W.Frag} {p : Addr} (i n : Nat) (h : Γ[i]? = some (some (rEq (.ref p)))) (h2 : Δ[n]? = some (oL K p as)) (hN : X.N[i]? = some x := by rfl) (hv : Vis X.env.scope x := by first | exact Or.inl rfl | exact Or.inr (Or.inl rfl) | exact Or.inr (Or.inr rfl)) (hd : (x == ("__debug__" : Str)) = false := by decide)
    (hcd : (x == ("__classdict__" : Str)) = false := by decide) : HE X (SS B Γ Δ) (.Name x pos) (rLs K as) := he_of (pe_var hN hv hd hcd) fun σ H s => by
  obtain ⟨v, h1, h3⟩ := s.get h
  have e : v = .ref p := h3
  subst e
  exact ⟨_, h1, Ex.refl H, ls_of_CL (s.own _ (List.mem_of_getElem? h2))⟩
theorem he_int {K : PySem.W.Frag} {i : Int} {j : Nat} : HE X S (.Constant (.int i) j pos) (rD K i) := he_of pe_int fun σ H s => ⟨Ex.refl H, rfl⟩
theorem he_bl {k : Bool} {j : Nat} : HE X S (.Constant (.bool k) j pos) (rB k) := he_of pe_bl fun σ H s => ⟨Ex.refl H, rfl⟩
theorem he_non {j : Nat} : HE X S (.Constant .none j pos) rN := he_of pe_non fun σ H s => ⟨Ex.refl H, rfl⟩
theorem he_str {z : Str} {j : Nat} : HE X S (.Constant (.str z) j pos) (rS z) := he_of pe_str fun σ H s => ⟨Ex.refl H, rfl⟩
theorem he_glob {v : V} {u : Value} (hg : Gl X x) (hm : X.mg x = some u) (r : RelV v u) (hR : ∀ H, R H v) (hd : (x == ("__debug__" : Str)) = false := by decide) : HE X S (.Name x pos) R :=
  he_of (pe_glob hg hm r hd) fun σ H s => ⟨Ex.refl H, hR H⟩
/-! ### ints -/
variable {K : PySem.W.Frag} {i j k : Int}
theorem he_rI {op : Operator} {g : Int → Int → Int} {C : Int → Int → Prop} (ho : OpR X (binaryOp op) (rI C fun i j => .int (g i j))) (ha : HE X S a (rD K i)) (hb : HE X S b (rD K j)) (hc : C i j) : HE X S (.BinOp a op b pos) (rD K (g i j)) :=
  he_op ho ha hb (fun x y H h1 h2 => ⟨i, j, h1, h2, hc, Ex.refl H, rfl⟩) fun x y H Q Q' f ⟨i, j, e1, e2, c, q⟩ => ⟨i, j, e1, e2, c, f _ _ q⟩
theorem he_rI0 {op : Operator} {g : Int → Int → Int} (ho : OpR X (binaryOp op) (rI0 fun i j => .int (g i j))) (ha : HE X S a (rD K i)) (hb : HE X S b (rD K j)) : HE X S (.BinOp a op b pos) (rD K (g i j)) :=
  he_op ho ha hb (fun x y H h1 h2 => ⟨i, j, h1, h2, Ex.refl H, rfl⟩) fun x y H Q Q' f ⟨i, j, e1, e2, q⟩ => ⟨i, j, e1, e2, f _ _ q⟩
theorem he_add (ha : HE X S a (rD K i)) (hb : HE X S b (rD K j)) : HE X S (.BinOp a .Add b pos) (rD K (i + j)) := he_rI0 op_add ha hb
theorem he_sub (ha : HE X S a (rD K i)) (hb : HE X S b (rD K j)) : HE X S (.BinOp a .Sub b pos) (rD K (i - j)) := he_rI0 op_sub ha hb
theorem he_mul (ha : HE X S a (rD K i)) (hb : HE X S b (rD K j)) (hc : CMulW i j) : HE X S (.BinOp a .Mult b pos) (rD K (i * j)) := he_rI op_mulW ha hb hc
theorem he_fdiv (ha : HE X S a (rD K i)) (hb : HE X S b (rD K j)) (hc : CDivW i j) : HE X S (.BinOp a .FloorDiv b pos) (rD K (i / j)) := he_rI op_fdivW ha hb hc
theorem he_mod (ha : HE X S a (rD K i)) (hb : HE X S b (rD K j)) (hc : 0 < j) : HE X S (.BinOp a .Mod b pos) (rD K (i % j)) := he_rI (C := fun _ j => 0 < j) op_mod ha hb hc
theorem he_pow (ha : HE X S a (rD K i)) (hb : HE X S b (rD K j)) (hc : CPow i j) : HE X S (.BinOp a .Pow b pos) (rD K (i ^ j.toNat)) := he_rI (C := CPow) (g := fun i j => i ^ j.toNat) op_pow ha hb hc
theorem op_neg {X : Cx} : UnR X (unaryOp .USub) (fun x H Q => ∃ i, x = .int i ∧ Q (.int (-i)) H) := by
  intro pins s σ H x v Q I rx h
  obtain ⟨i, rfl, q⟩ := h
  obtain ⟨t, rfl⟩ := rx
  exact neg_int ⟨.int (-i), H, I.tok _, ⟨_, rfl⟩, q⟩
theorem he_neg (ha : HE X S a (rD K i)) : HE X S (.UnaryOp .USub a pos) (rD K (-i)) := he_of (pe_un op_neg pe_w) fun σ H s => (ha σ H s).mono fun x H1 ⟨e1, r1⟩ => ⟨i, r1, e1, rfl⟩
theorem hc_cI {op : CmpOp} {g : Int → Int → Bool} (ho : OpR X (compareOp op) (rI0 fun i j => .bl (g i j))) (ha : HE X S a (rD K i)) (hb : HE X S b (rD K j)) (hm : behindInMarks op b = false) : HC X S op a b (g i j) :=
  hc_op ho ha hb (fun x y H h1 h2 H0 e => ⟨i, j, h1, h2, e, rfl⟩) hm
theorem hc_lt (ha : HE X S a (rD K i)) (hb : HE X S b (rD K j)) : HC X S .Lt a b (decide (i < j)) := hc_cI op_lt ha hb (nomark _)
theorem hc_le (ha : HE X S a (rD K i)) (hb : HE X S b (rD K j)) : HC X S .LtE a b (decide (i ≤ j)) := hc_cI op_le ha hb (nomark _)
theorem hc_gt (ha : HE X S a (rD K i)) (hb : HE X S b (rD K j)) : HC X S .Gt a b (decide (j < i)) := hc_cI op_gt ha hb (nomark _)
theorem hc_ge (ha : HE X S a (rD K i)) (hb : HE X S b (rD K j)) : HC X S .GtE a b (decide (j ≤ i)) := hc_cI op_ge ha hb (nomark _)
theorem he_leleB {g g' : Int → Int → Bool} {op op' : CmpOp} (ho : OpR X (compareOp op) (rI0 fun i j => .bl (g i j))) (ho' : OpR X (compareOp op') (rI0 fun i j => .bl (g' i j))) (ha : HE X S a (rD K i)) (hb : HE X S b (rD K j)) (hc : HE X S c (rD K k)) {σ : L2.St} {H : Hp} (s : S σ H) :
    tChain (rI0 fun i j => .bl (g i j)) (rI0 fun i j => .bl (g' i j)) (wE X a) (wE X b) (wE X c) σ H fun v H' => Ex H H' ∧ v = .bl (g i j && g' j k) := by
  refine he_seq2 (Q := fun _ _ => True) ha hb s fun x y H' e1 s' r1 r2 => ⟨i, j, r1, r2, _, rfl, ?_⟩
  cases z : g i j with
  | true =>
    rw [if_pos rfl]
    refine (hc σ H' s').mono fun u H2 ⟨e2, r3⟩ => ⟨j, k, r2, r3, e1.trans e2, ?_⟩
    rw [Bool.true_and]
  | false =>
    rw [if_neg Bool.false_ne_true]
    exact ⟨e1, rfl⟩
theorem he_lele (ha : HE X S a (rD K i)) (hb : HE X S b (rD K j)) (hc : HE X S c (rD K k)) (hm : lastMarks [.LtE, .LtE] [b, c] = false := by with_unfolding_all rfl) : HE X S (.Compare a [.LtE, .LtE] [b, c] pos) (rB (decide (i ≤ j) && decide (j ≤ k))) :=
  he_of (pe_chain op_le op_le pe_w pe_w pe_w hm) fun σ H s => he_leleB op_le op_le ha hb hc s
theorem ht_lele (ha : HE X S a (rD K i)) (hb : HE X S b (rD K j)) (hc : HE X S c (rD K k)) (hm : lastMarks [.LtE, .LtE] [b, c] = false := by with_unfolding_all rfl) : HT X S (.Compare a [.LtE, .LtE] [b, c] pos) (decide (i ≤ j) && decide (j ≤ k)) :=
  ht_of (pt_chain op_le op_le pe_w pe_w pe_w hm) fun σ H s => by
    have h := he_leleB op_le op_le ha hb hc s
    refine (he_seq2 (Q := fun _ _ => True) ha hb s fun x y H' e1 s' r1 r2 => ⟨i, j, r1, r2, _, rfl, ?_⟩)
    cases z : decide (i ≤ j) with
    | true =>
      rw [if_pos rfl]
      refine (hc σ H' s').mono fun u H2 ⟨e2, r3⟩ => ⟨j, k, r2, r3, _, rfl, e1.trans e2, ?_⟩
      rw [Bool.true_and]
    | false =>
      rw [if_neg Bool.false_ne_true]
      exact ⟨_, rfl, e1, rfl⟩
theorem hc_notN {j' : Nat} {pos' : Pos} (k : Bool) (ha : HE X S a R) (hR : ∀ H v, R H v → decide (v = .non) = k) : HC X S .IsNot a (.Constant .none j' pos') (!k) :=
  ⟨fun σ H s pins sh I => (pc_notN pe_w).run pins sh σ H _ I ((ha σ H s).mono fun x H1 ⟨e1, r1⟩ => ⟨e1, by rw [hR H1 x r1]⟩), nobehind _ (by decide) (by decide)⟩
theorem hc_isN {j' : Nat} {pos' : Pos} (k : Bool) (ha : HE X S a R) (hR : ∀ H v, R H v → decide (v = .non) = k) : HC X S .Is a (.Constant .none j' pos') k :=
  ⟨fun σ H s pins sh I => (pc_isN pe_w).run pins sh σ H _ I ((ha σ H s).mono fun x H1 ⟨e1, r1⟩ => ⟨e1, by rw [hR H1 x r1]⟩), nobehind _ (by decide) (by decide)⟩
/-! ### data -/
variable {α β : Type} [Enc α] [Enc β]
theorem hc_eqE [DecidableEq α] {u v : α} (hr : X.A.units + 40 < cLine) (hd : dp α ≤ 30) (ha : HE X S a (rD X.K u)) (hb : HE X S b (rD X.K v)) : HC X S .Eq a b (decide (u = v)) :=
  hc_op (op_eqE u v hr hd) ha hb (fun x y H h1 h2 H0 e => ⟨h1, h2, e, rfl⟩) (nomark _)
theorem hc_neE [DecidableEq α] {u v : α} (hr : X.A.units + 40 < cLine) (hd : dp α ≤ 30) (ha : HE X S a (rD X.K u)) (hb : HE X S b (rD X.K v)) : HC X S .NotEq a b (!decide (u = v)) :=
  hc_op (op_neE u v hr hd) ha hb (fun x y H h1 h2 H0 e => ⟨h1, h2, e, rfl⟩) (nomark _)
theorem hc_ltE [TupE α] {u v : α} (hr : X.A.units + 40 < cLine) (hd : dp α ≤ 30) (ha : HE X S a (rD X.K u)) (hb : HE X S b (rD X.K v)) : HC X S .Lt a b (elt u v) :=
  hc_op (op_ltE u v hr hd) ha hb (fun x y H h1 h2 H0 e => ⟨h1, h2, e, rfl⟩) (nomark _)
theorem hc_inL [DecidableEq α] {u : α} {as : List α} (hr : X.A.units + 40 < cLine) (hd : dp α ≤ 30) (ha : HE X S a (rD X.K u)) (hb : HE X S b (rLs X.K as)) (hm : behindInMarks .In b = false := by with_unfolding_all rfl) : HC X S .In a b (decide (u ∈ as)) :=
  hc_op (op_inE u as hr hd) ha hb (fun x y H h1 h2 H0 e => ⟨h1, rLs.ls h2, e, rfl⟩) hm
theorem hc_notInL [DecidableEq α] {u : α} {as : List α} (hr : X.A.units + 40 < cLine) (hd : dp α ≤ 30) (ha : HE X S a (rD X.K u)) (hb : HE X S b (rLs X.K as)) (hm : behindInMarks .NotIn b = false := by with_unfolding_all rfl) : HC X S .NotIn a b (!decide (u ∈ as)) :=
  hc_op (op_notInE u as hr hd) ha hb (fun x y H h1 h2 H0 e => ⟨h1, rLs.ls h2, e, rfl⟩) hm
theorem hc_inT [DecidableEq α] {u : α} {as : List α} (hr : X.A.units + 40 < cLine) (hd : dp α ≤ 30) (ha : HE X S a (rD X.K u)) (hb : HE X S b (rD X.K as)) (hm : behindInMarks .In b = false := by with_unfolding_all rfl) : HC X S .In a b (decide (u ∈ as)) :=
  hc_op (op_inT u as hr hd) ha hb (fun x y H h1 h2 H0 e => ⟨h1, h2, e, rfl⟩) hm
theorem hc_notInT [DecidableEq α] {u : α} {as : List α} (hr : X.A.units + 40 < cLine) (hd : dp α ≤ 30) (ha : HE X S a (rD X.K u)) (hb : HE X S b (rD X.K as)) (hm : behindInMarks .NotIn b = false := by with_unfolding_all rfl) : HC X S .NotIn a b (!decide (u ∈ as)) :=
  hc_op (op_notInT u as hr hd) ha hb (fun x y H h1 h2 H0 e => ⟨h1, h2, e, rfl⟩) hm
/-- (x, y) -/
theorem ha_nil : HA X S [] [] := fun σ H s pos pins sh I => pa_nil.run pos pins sh σ H _ I ⟨Ex.refl H, rfl⟩
theorem ha_cons (he : HE X S e R) (hr : HA X S es Rs) [Mon R] (hs : starEach (e :: es) X.env = (false, eval e X.env) :: starEach es X.env := by rfl) : HA X S (e :: es) (R :: Rs) := fun σ H s pos pins sh I =>
  (pa_cons pe_w pa_w hs).run pos pins sh σ H _ I ((he σ H s).mono fun x H1 ⟨e1, r1⟩ => (hr σ H1 (Stab.up s e1)).mono fun xs H2 ⟨e2, r2⟩ => ⟨e1.trans e2, x, xs, rfl, Mon.up e2 r1, r2⟩)
theorem ims_of_rs2 {u : α} {v : β} {H : Hp} {xs : List V} (h : RsOk [rD K u, rD K v] H xs) : Ims K H [enc u, enc v] xs := by
  obtain ⟨x, r, rfl, h1, y, r2, rfl, h2, h3⟩ := h
  exact ⟨x, _, rfl, h1, y, r2, rfl, h2, h3⟩
theorem he_tup {κ : NestedKey} {ks : List NestedKey} (ha : HA X S es Rs) (hl : es.length ≤ 1000) (hR : ∀ H xs, RsOk Rs H xs → xs.length ≤ 1000 ∧ Ims K H ks xs) {x1 : Nat} : HE X S (.Tuple es x1 pos) (fun H v => Im K H (.tup ks) v) :=
  he_of (pe_tup pa_w) fun σ H s => (ha σ H s).mono fun xs H1 ⟨e1, r1⟩ => by
    obtain ⟨h1, h2⟩ := hR H1 xs r1
    refine ⟨by rw [sizeLine_eq]; omega, fun p hp => ⟨e1.trans (Ex.new hp), p, xs, rfl, .of upd_same, Ims.up (le_of (Ex.new hp)) _ _ h2⟩⟩
theorem he_pair {u : α} {v : β} {x1 : Nat} (ha : HE X S a (rD K u)) (hb : HE X S b (rD K v)) (hs : starEach [a, b] X.env = (false, eval a X.env) :: starEach [b] X.env := by rfl) (hs2 : starEach [b] X.env = (false, eval b X.env) :: starEach [] X.env := by rfl) : HE X S (.Tuple [a, b] x1 pos) (rD K (u, v)) :=
  he_tup (κ := .none) (ha_cons ha (ha_cons hb ha_nil hs2) hs) (by simp) fun H xs h => ⟨by rw [h.len]; simp, ims_of_rs2 h⟩
theorem he_one {u : α} {x1 : Nat} (ha : HE X S a (rD K u)) (hs : starEach [a] X.env = (false, eval a X.env) :: starEach [] X.env := by rfl) : HE X S (.Tuple [a] x1 pos) (rD K [u]) :=
  he_tup (κ := .none) (ha_cons ha ha_nil hs) (by simp) fun H xs h => ⟨by rw [h.len]; simp, by
    obtain ⟨x, r, rfl, h1, h2⟩ := h
    exact ⟨x, r, rfl, h1, h2⟩⟩
theorem he_two {u v : α} {x1 : Nat} (ha : HE X S a (rD K u)) (hb : HE X S b (rD K v)) (hs : starEach [a, b] X.env = (false, eval a X.env) :: starEach [b] X.env := by rfl) (hs2 : starEach [b] X.env = (false, eval b X.env) :: starEach [] X.env := by rfl) : HE X S (.Tuple [a, b] x1 pos) (rD K [u, v]) :=
  he_tup (κ := .none) (ha_cons ha (ha_cons hb ha_nil hs2) hs) (by simp) fun H xs h => ⟨by rw [h.len]; simp, ims_of_rs2 h⟩
theorem he_unit {x1 : Nat} : HE X S (.Tuple [] x1 pos) (rD K ([] : List α)) :=
  he_tup (κ := .none) (ks := []) ha_nil (by simp) fun H xs h => ⟨by rw [h.len]; simp, h⟩
/-- items of a pair -/
theorem he_ix {r : R2} (hr : IxR X r) (ha : HE X S a Ra) (hb : HE X S b Rb) [Mon Ra] (hs : PlainIx b) (q : ∀ x y H, Ra H x → Rb H y → ∀ H0, Ex H0 H → r x y H fun v H' => Ex H0 H' ∧ R H' v) : HE X S (.Subscript a b pos) R :=
  he_of (pe_ix hr pe_w pe_w hs) fun σ H s => he_seq2 (Q := fun _ _ => True) ha hb s fun x y H' e1 s' r1 r2 => q x y H' r1 r2 H e1
theorem plainIx_int {j : Nat} {i : Int} : PlainIx (.Constant (.int i) j pos) := fun _ _ => rfl
theorem plainIx_name : PlainIx (.Name x pos) := fun _ _ => rfl
theorem plainIx_call {es : List Expr} {f : Expr} : PlainIx (.Call f es [] pos) := fun _ _ => rfl
theorem plainIx_sub {f : Expr} : PlainIx (.Subscript f e pos) := fun _ _ => rfl
theorem he_fst {p : α × β} {j : Nat} {pos' : Pos} (ha : HE X S a (rD X.K p)) : HE X S (.Subscript a (.Constant (.int 0) j pos') pos) (rD X.K p.1) :=
  he_ix ix_tup ha (he_int (K := X.K)) plainIx_int fun x y H h1 h2 H0 e => by
    obtain ⟨q, xs, rfl, h3, z, r, rfl, h4, h5⟩ := h1
    exact ⟨q, _, 0, z, rfl, h2, h3, atI_nat (j := 0) rfl, e, h4⟩
theorem he_snd {p : α × β} {j : Nat} {pos' : Pos} (ha : HE X S a (rD X.K p)) : HE X S (.Subscript a (.Constant (.int 1) j pos') pos) (rD X.K p.2) :=
  he_ix ix_tup ha (he_int (K := X.K)) plainIx_int fun x y H h1 h2 H0 e => by
    obtain ⟨q, xs, rfl, h3, z, r, rfl, h4, w, r2, rfl, h5, h6⟩ := h1
    exact ⟨q, _, 1, w, rfl, h2, h3, atI_nat (j := 1) rfl, e, h5⟩
theorem he_num {p : Rat} {j : Nat} {pos' : Pos} (ha : HE X S a (rD X.K p)) : HE X S (.Subscript a (.Constant (.int 0) j pos') pos) (rD X.K p.num) :=
  he_ix ix_tup ha (he_int (K := X.K)) plainIx_int fun x y H h1 h2 H0 e => by
    obtain ⟨q, xs, rfl, h3, z, r, rfl, h4, h5⟩ := h1
    exact ⟨q, _, 0, z, rfl, h2, h3, atI_nat (j := 0) rfl, e, h4⟩
theorem he_den {p : Rat} {j : Nat} {pos' : Pos} (ha : HE X S a (rD X.K p)) : HE X S (.Subscript a (.Constant (.int 1) j pos') pos) (rD X.K (p.den : Int)) :=
  he_ix ix_tup ha (he_int (K := X.K)) plainIx_int fun x y H h1 h2 H0 e => by
    obtain ⟨q, xs, rfl, h3, z, r, rfl, h4, w, r2, rfl, h5, h6⟩ := h1
    exact ⟨q, _, 1, w, rfl, h2, h3, atI_nat (j := 1) rfl, e, h5⟩
/-- t[i], xs[i]: within -/
theorem he_at {as : List α} {u : α} {i : Int} (ha : HE X S a (rD X.K as)) (hb : HE X S b (rD X.K i)) (hs : PlainIx b) (h : atI as i = some u) : HE X S (.Subscript a b pos) (rD X.K u) :=
  he_ix ix_tup ha hb hs fun x y H h1 h2 H0 e => by
    obtain ⟨q, xs, rfl, h3, h4⟩ := h1
    have hl := h4.length
    rw [List.length_map] at hl
    obtain ⟨n, hn, hx⟩ := Option.bind_eq_some_iff.mp h
    have hk : (as.map enc)[n]? = some (enc u) := by rw [List.getElem?_map, hx]; rfl
    obtain ⟨w, hw, iw⟩ := h4.get' hk
    refine ⟨q, xs, i, w, rfl, h2, h3, ?_, e, iw⟩
    unfold atI
    rw [hl, hn]
    exact hw
theorem he_atL {as : List α} {u : α} {i : Int} (ha : HE X S a (rLs X.K as)) (hb : HE X S b (rD X.K i)) (hs : PlainIx b) (h : atI as i = some u) : HE X S (.Subscript a b pos) (rD X.K u) :=
  he_ix ix_list ha hb hs fun x y H h1 h2 H0 e => by
    obtain ⟨q, xs, rfl, h3, h4⟩ := rLs.ls h1
    have hl := h4.length
    rw [List.length_map] at hl
    obtain ⟨n, hn, hx⟩ := Option.bind_eq_some_iff.mp h
    have hk : (as.map enc)[n]? = some (enc u) := by rw [List.getElem?_map, hx]; rfl
    obtain ⟨w, hw, iw⟩ := h4.get' hk
    refine ⟨q, xs, i, w, rfl, h2, h3, ?_, e, iw⟩
    unfold atI
    rw [hl, hn]
    exact hw
/-- t + u -/
theorem he_cat {as bs : List α} (ha : HE X S a (rD X.K as)) (hb : HE X S b (rD X.K bs)) (hz : as.length + bs.length ≤ 1000) : HE X S (.BinOp a .Add b pos) (rD X.K (as ++ bs)) :=
  he_op op_catA ha hb (fun x y H h1 h2 => by
    obtain ⟨p, xs, rfl, h3, h4⟩ := h1
    obtain ⟨q, ys, rfl, h5, h6⟩ := h2
    have l1 := h4.length
    have l2 := h6.length
    rw [List.length_map] at l1 l2
    have e3 : ((as ++ bs).map enc) = as.map enc ++ bs.map enc := List.map_append
    refine ⟨p, q, xs, ys, rfl, rfl, h3, h5, by rw [sizeLine_eq]; omega, fun e => ?_, fun _ e => ?_, fun _ _ r hr => ?_⟩
    · subst e
      have : as = [] := List.eq_nil_of_length_eq_zero (by simpa using l1.symm)
      subst this
      exact ⟨Ex.refl H, q, ys, rfl, h5, h6⟩
    · subst e
      have : bs = [] := List.eq_nil_of_length_eq_zero (by simpa using l2.symm)
      subst this
      rw [List.append_nil]
      exact ⟨Ex.refl H, p, xs, rfl, h3, h4⟩
    · refine ⟨Ex.new hr, r, xs ++ ys, rfl, .of upd_same, ?_⟩
      rw [e3]
      exact Ims.up (le_of (Ex.new hr)) _ _ (h4.append h6)) fun x y H Q Q' f ⟨p, q, xs, ys, e1, e2, h1, h2, h3, h4, h5, h6⟩ => ⟨p, q, xs, ys, e1, e2, h1, h2, h3, fun e => f _ _ (h4 e), fun e e' => f _ _ (h5 e e'), fun e e' r hr => f _ _ (h6 e e' r hr)⟩
/-! ### and, or, not, if -/
variable {rest : List Expr} {k k' : Bool}
theorem ht_val (h : HE X S e (rB k)) (he : ∀ whole, isTrue e X.env whole = (do let v ← whole; standAt e.pos; holding [v] (truthy v)) := by intro _; rfl) : HT X S e k :=
  ht_of (pt_val pe_w he) fun σ H s => (h σ H s).mono fun v H1 ⟨e1, r1⟩ => ⟨k, r1, e1, rfl⟩
theorem ht_not (h : HT X S a k) : HT X S (.UnaryOp .Not a pos) (!k) := ht_of (pt_not pt_w) fun σ H s => (h σ H s).mono fun c H1 ⟨e1, r1⟩ => ⟨e1, by rw [r1]⟩
theorem he_not (h : HE X S a (rB k)) : HE X S (.UnaryOp .Not a pos) (rB (!k)) := he_of (pe_not pe_w) fun σ H s => (h σ H s).mono fun c H1 ⟨e1, r1⟩ => ⟨k, r1, e1, rfl⟩
theorem hw_and1 (h : HT X S a k) : HW X S (.BoolOp .And [a] pos) k := fun σ H s wh pins sh I => (pw_and1 pt_w).run wh pins sh σ H _ I (h σ H s)
theorem hw_or1 (h : HT X S a k) : HW X S (.BoolOp .Or [a] pos) k := fun σ H s wh pins sh I => (pw_or1 pt_w).run wh pins sh σ H _ I (h σ H s)
theorem hw_and (h : HT X S a k) (hr : k = true → HW X S (.BoolOp .And (b :: rest) pos) k') : HW X S (.BoolOp .And (a :: b :: rest) pos) (k && k') := fun σ H s wh pins sh I =>
  (pw_and pt_w pw_w).run wh pins sh σ H _ I ((h σ H s).mono fun c H1 ⟨e1, r1⟩ => by
    subst r1
    cases c with
    | true => exact iteT ((hr rfl σ H1 (Stab.up s e1)).mono fun c H2 ⟨e2, r2⟩ => ⟨e1.trans e2, by rw [r2, Bool.true_and]⟩)
    | false => exact iteF ⟨e1, rfl⟩)
theorem hw_or (h : HT X S a k) (hr : k = false → HW X S (.BoolOp .Or (b :: rest) pos) k') : HW X S (.BoolOp .Or (a :: b :: rest) pos) (k || k') := fun σ H s wh pins sh I =>
  (pw_or pt_w pw_w).run wh pins sh σ H _ I ((h σ H s).mono fun c H1 ⟨e1, r1⟩ => by
    subst r1
    cases c with
    | true => exact iteT ⟨e1, rfl⟩
    | false => exact iteF ((hr rfl σ H1 (Stab.up s e1)).mono fun c H2 ⟨e2, r2⟩ => ⟨e1.trans e2, by rw [r2, Bool.false_or]⟩))
theorem ht_w (h : HW X S e k) : HT X S e k := fun σ H s pins sh I => h σ H s _ pins sh I
theorem he_b1 {op : BoolOp} (h : HE X S a R) : HE X S (.BoolOp op [a] pos) R := he_of (pe_one pe_w) h
theorem he_and (h : HE X S a (rB k)) (hr : k = true → HE X S (.BoolOp .And (b :: rest) pos) (rB k')) : HE X S (.BoolOp .And (a :: b :: rest) pos) (rB (k && k')) :=
  he_of (pe_and pe_w pe_w) fun σ H s => (h σ H s).mono fun c H1 ⟨e1, r1⟩ => by
    refine ⟨k, r1, ?_⟩
    cases k with
    | true => exact iteT ((hr rfl σ H1 (Stab.up s e1)).mono fun c H2 ⟨e2, r2⟩ => ⟨e1.trans e2, by rw [Bool.true_and]; exact r2⟩)
    | false => exact iteF ⟨e1, rfl⟩
theorem he_or (h : HE X S a (rB k)) (hr : k = false → HE X S (.BoolOp .Or (b :: rest) pos) (rB k')) : HE X S (.BoolOp .Or (a :: b :: rest) pos) (rB (k || k')) :=
  he_of (pe_or pe_w pe_w) fun σ H s => (h σ H s).mono fun c H1 ⟨e1, r1⟩ => by
    refine ⟨k, r1, ?_⟩
    cases k with
    | true => exact iteT ⟨e1, rfl⟩
    | false => exact iteF ((hr rfl σ H1 (Stab.up s e1)).mono fun c H2 ⟨e2, r2⟩ => ⟨e1.trans e2, by rw [Bool.false_or]; exact r2⟩)
theorem he_if (h : HT X S c k) (ha : k = true → HE X S a R) (hb : k = false → HE X S b R) : HE X S (.IfExp c a b pos) R :=
  he_of (pe_ifExp pt_w pe_w pe_w) fun σ H s => (h σ H s).mono fun d H1 ⟨e1, r1⟩ => by
    subst r1
    cases d with
    | true => exact iteT ((ha rfl σ H1 (Stab.up s e1)).mono fun v H2 ⟨e2, r2⟩ => ⟨e1.trans e2, r2⟩)
    | false => exact iteF ((hb rfl σ H1 (Stab.up s e1)).mono fun v H2 ⟨e2, r2⟩ => ⟨e1.trans e2, r2⟩)
theorem hn_if {C : Addr → Hp → Prop} (h : HT X S c k) (ha : k = true → HN X S a C) (hb : k = false → HN X S b C) : HN X S (.IfExp c a b pos) C :=
  hn_of (pe_ifExp pt_w pe_w pe_w) fun σ H s => (h σ H s).mono fun d H1 ⟨e1, r1⟩ => by
    subst r1
    cases d with
    | true => exact iteT ((ha rfl σ H1 (Stab.up s e1)).mono fun v H2 ⟨e2, p, h1, h2, h3⟩ => ⟨e1.trans e2, p, h1, none_of_ex e1 h2, h3⟩)
    | false => exact iteF ((hb rfl σ H1 (Stab.up s e1)).mono fun v H2 ⟨e2, p, h1, h2, h3⟩ => ⟨e1.trans e2, p, h1, none_of_ex e1 h2, h3⟩)
end
end CB
end
section
set_option Elab.async false
set_option linter.all false
set_option maxRecDepth 100000
set_option maxHeartbeats 2000000
/-! J. calls, statements, loops, comprehensions. -/
namespace CB
open PySem PySem.Spec PyProof.Rows L2 Enc

theorem pl_DO {P : Program} {w : World} {p : Addr} {t : Raw} : Pl p (DO P w p t) := ⟨fun _ z => (nomatch z), fun q z => by
  have e : dphi P w p t = fun h => ∃ (oc : Obj) (vs : Array Value) (t : Tok), h.get? p = some oc ∧ oc.data = .fields vs ∧ vs[1]? = some (.str q t) := HO.ext.inj z
  let o : Obj := { cls := .none, data := .fields #[.none, .str q 0] }
  have hg : (({ objs := Array.replicate (p + 1) o } : Heap).get? p) = some o := by
    simp [Heap.get?, o]
  have h2 : dphi P w p t { objs := Array.replicate (p + 1) o } := by
    rw [e]
    exact ⟨o, _, 0, hg, rfl, rfl⟩
  obtain ⟨_, _, xs, _, o', es, ep, g1, _, g2, _⟩ := h2
  rw [hg] at g1
  cases g1
  cases g2⟩
/-! ### defs and what they promise -/
section
variable [Tbs]
abbrev PR := List Rel → (Hp → Rel) → Prop
def spF (P : PR) : Sp := fun vs H Q _ => ∃ Rs R, P Rs R ∧ RsOk Rs H vs ∧ LamX.Tabs Tbs.T H ∧ ∀ v H', Ex H H' → R H H' v → Q v H'
end
def rNew (C : Addr → Hp → Prop) : Hp → Rel := fun H H' v => ∃ p, v = .ref p ∧ H p = none ∧ C p H'
def Known (P : Program) (w : World) (K : PySem.W.Frag) (mg : Str → Option Value) (base : Heap) (k : Nat) (x : Str) (sp : Sp) : Prop :=
  ∃ (f : Addr) (fd : FuncData) (ps : List Str), FnOk P w K mg base CX0 k f fd ps sp ∧ mg x = some (.ref f) ∧ PySem.W.keepIn K (.ref f) = true ∧ Binds K fd ps []
section
variable [Tbs] {X : Cx} {S : SA} [Stab S] {e a b c : Expr} {es : List Expr} {R Ra Rb Rc : Rel} {Rs : List Rel} {pos p : Pos} {x : Str} {j k : Nat} {P : PR}
theorem call_w (F : Known X.prog X.w X.K X.mg X.base k x (spF P)) (hr : Room j X.A) (hk : k ≤ j) (hg : Gl X x) {R' : Hp → Rel} (ha : HA X S (e :: es) Rs) (hP : P Rs R')
    (hdb : (x == ("__debug__" : Str)) = false) (he : starEach (e :: es) X.env = (false, eval e X.env) :: starEach es X.env) (hpl : (backTo pos (starEach es X.env)).any (·.1) = false)
    {σ : L2.St} {H : Hp} (s : S σ H) {Q : VK} (q : ∀ v H1 H', Ex H H1 → Ex H1 H' → R' H1 H' v → Q v H') : wE X (.Call (.Name x p) (e :: es) [] pos) σ H Q := fun pins sh I => by
  obtain ⟨f, fd, ps, F1, F2, F3, F4⟩ := F
  refine (pe_call F1 (hr.mono hk) hg F2 F3 F4 .nil pass0 pa_w hdb he hpl).run pins sh σ H Q I ?_
  refine (ha σ H s).mono fun vs H1 ⟨e1, r1⟩ => ?_
  rw [List.append_nil]
  exact ⟨Rs, R', hP, r1, e1.tb (Stab.tb s), fun v H' e2 r => q v H1 H' e1 e2 r⟩
theorem he_call (F : Known X.prog X.w X.K X.mg X.base k x (spF P)) (hr : Room j X.A) (ha : HA X S (e :: es) Rs) (hP : P Rs fun _ => R) (hg : Gl X x := by rfl) (hk : k ≤ j := by decide) (hdb : (x == ("__debug__" : Str)) = false := by decide)
    (he : starEach (e :: es) X.env = (false, eval e X.env) :: starEach es X.env := by rfl) (hpl : (backTo pos (starEach es X.env)).any (·.1) = false := by rfl) : HE X S (.Call (.Name x p) (e :: es) [] pos) R := fun σ H s =>
  call_w F hr hk hg ha hP hdb he hpl s fun v H1 H' e1 e2 r => ⟨e1.trans e2, r⟩
theorem hn_call {C : Addr → Hp → Prop} (F : Known X.prog X.w X.K X.mg X.base k x (spF P)) (hr : Room j X.A) (ha : HA X S (e :: es) Rs) (hP : P Rs (rNew C)) (hg : Gl X x := by rfl) (hk : k ≤ j := by decide) (hdb : (x == ("__debug__" : Str)) = false := by decide)
    (he : starEach (e :: es) X.env = (false, eval e X.env) :: starEach es X.env := by rfl) (hpl : (backTo pos (starEach es X.env)).any (·.1) = false := by rfl) : HN X S (.Call (.Name x p) (e :: es) [] pos) C := fun σ H s =>
  call_w F hr hk hg ha hP hdb he hpl s fun v H1 H' e1 e2 ⟨q, h1, h2, h3⟩ => ⟨e1.trans e2, q, h1, none_of_ex e1 h2, h3⟩
/-! ### built-ins -/
theorem bi_w {id : String} {r : List V → Hp → VK → Prop} (hc : CallR X (.builtin id) r) (hm : X.mg x = none) (hv : bootBuiltins x = some (.builtin id)) (ha : HA X S (e :: es) Rs) {σ : L2.St} {H : Hp} (s : S σ H) {Q : VK} (q : ∀ vs H1, Ex H H1 → RsOk Rs H1 vs → r vs H1 Q)
    (hg : Gl X x) (hn : x ≠ "__name__") (hdb : (x == ("__debug__" : Str)) = false) (he : starEach (e :: es) X.env = (false, eval e X.env) :: starEach es X.env) (hpl : (backTo pos (starEach es X.env)).any (·.1) = false) :
    wE X (.Call (.Name x p) (e :: es) [] pos) σ H Q := fun pins sh I => (pe_callB hc hg hm hv pa_w hn hdb he hpl).run pins sh σ H Q I ((ha σ H s).mono fun vs H1 ⟨e1, r1⟩ => q vs H1 e1 r1)
theorem ty_w {T : String} {r : List V → Hp → VK → Prop} (hc : CallR X (.type T) r) (hm : X.mg x = none) (hv : bootBuiltins x = some (.type T)) (ha : HA X S (e :: es) Rs) {σ : L2.St} {H : Hp} (s : S σ H) {Q : VK} (q : ∀ vs H1, Ex H H1 → RsOk Rs H1 vs → r vs H1 Q)
    (hg : Gl X x) (hn : x ≠ "__name__") (hdb : (x == ("__debug__" : Str)) = false) (he : starEach (e :: es) X.env = (false, eval e X.env) :: starEach es X.env) (hpl : (backTo pos (starEach es X.env)).any (·.1) = false) :
    wE X (.Call (.Name x p) (e :: es) [] pos) σ H Q := fun pins sh I => (pe_callTy hc hg hm hv pa_w hn hdb he hpl).run pins sh σ H Q I ((ha σ H s).mono fun vs H1 ⟨e1, r1⟩ => q vs H1 e1 r1)
/-- the built-in names are free -/
structure Bi (mg : Str → Option Value) : Prop where
  len : mg "len" = none
  isinstance : mg "isinstance" = none
  range : mg "range" = none
  list : mg "list" = none
  sorted : mg "sorted" = none
  abs : mg "abs" = none
  int : mg "int" = none
  tuple : mg "tuple" = none
  dict : mg "dict" = none
  set : mg "set" = none
  all : mg "all" = none
  any : mg "any" = none
  sum : mg "sum" = none
  enumerate : mg "enumerate" = none
  zip : mg "zip" = none
  bool : mg "bool" = none
variable {K : PySem.W.Frag} {α β : Type} [Enc α] [Enc β]
theorem rs1 {H : Hp} {vs : List V} (h : RsOk [R] H vs) : ∃ v, vs = [v] ∧ R H v := by
  obtain ⟨v, r, rfl, h1, h2⟩ := h
  rw [show r = [] from h2]
  exact ⟨v, rfl, h1⟩
theorem rs2 {H : Hp} {vs : List V} (h : RsOk [Ra, Rb] H vs) : ∃ v u, vs = [v, u] ∧ Ra H v ∧ Rb H u := by
  obtain ⟨v, r, rfl, h1, u, r2, rfl, h2, h3⟩ := h
  rw [show r2 = [] from h3]
  exact ⟨v, u, rfl, h1, h2⟩
theorem he_lenT {as : List α} (B : Bi X.mg) (ha : HE X S a (rD X.K as)) (hg : Gl X "len" := by rfl) (he : starEach [a] X.env = (false, eval a X.env) :: starEach [] X.env := by rfl) (hpl : (backTo pos (starEach [] X.env)).any (·.1) = false := by rfl) :
    HE X S (.Call (.Name "len" p) [a] [] pos) (rD K (as.length : Int)) := fun σ H s => bi_w call_len_seq B.len boot_len (ha_cons ha ha_nil he) s (fun vs H1 e1 r => by
    obtain ⟨v, rfl, q, xs, rfl, h1, h2⟩ := rs1 r
    refine ⟨q, xs, rfl, .inr h1, e1, ?_⟩
    have l := h2.length
    rw [List.length_map] at l
    rw [l] <;> rfl) hg (by decide) (by decide) he hpl
theorem he_lenL {Ra : List Rel} (B : Bi X.mg) (ha : HE X S a (rL X.K Ra)) [Mon (rL X.K Ra)] (hg : Gl X "len" := by rfl) (he : starEach [a] X.env = (false, eval a X.env) :: starEach [] X.env := by rfl) (hpl : (backTo pos (starEach [] X.env)).any (·.1) = false := by rfl) :
    HE X S (.Call (.Name "len" p) [a] [] pos) (rD K (Ra.length : Int)) := fun σ H s => bi_w call_len_seq B.len boot_len (ha_cons ha ha_nil he) s (fun vs H1 e1 r => by
    obtain ⟨v, rfl, q, xs, rfl, h1, h2⟩ := rs1 r
    refine ⟨q, xs, rfl, .inl h1, e1, ?_⟩
    rw [h2.len] <;> rfl) hg (by decide) (by decide) he hpl
theorem he_abs {i : Int} (B : Bi X.mg) (ha : HE X S a (rD K i)) (hg : Gl X "abs" := by rfl) (he : starEach [a] X.env = (false, eval a X.env) :: starEach [] X.env := by rfl) (hpl : (backTo pos (starEach [] X.env)).any (·.1) = false := by rfl) :
    HE X S (.Call (.Name "abs" p) [a] [] pos) (rD K (i.natAbs : Int)) := fun σ H s => bi_w call_abs B.abs boot_abs (ha_cons ha ha_nil he) s (fun vs H1 e1 r => by
    obtain ⟨v, rfl, h⟩ := rs1 r
    refine ⟨i, by rw [show v = .int i from h], e1, ?_⟩
    show V.int _ = V.int _
    congr 1
    split <;> omega) hg (by decide) (by decide) he hpl
theorem he_int1 {i : Int} (B : Bi X.mg) (ha : HE X S a (rD K i)) (hg : Gl X "int" := by rfl) (he : starEach [a] X.env = (false, eval a X.env) :: starEach [] X.env := by rfl) (hpl : (backTo pos (starEach [] X.env)).any (·.1) = false := by rfl) :
    HE X S (.Call (.Name "int" p) [a] [] pos) (rD K i) := fun σ H s => ty_w call_int1 B.int PyProof.Rows.boot_int (ha_cons ha ha_nil he) s (fun vs H1 e1 r => by
    obtain ⟨v, rfl, h⟩ := rs1 r
    exact .inl ⟨i, by rw [show v = .int i from h], e1, rfl⟩) hg (by decide) (by decide) he hpl
theorem he_all {bs : List Bool} (hc : X.calm = true) (B : Bi X.mg) (ha : HE X S a (rL X.K (bs.map rB))) (hg : Gl X "all" := by rfl) (he : starEach [a] X.env = (false, eval a X.env) :: starEach [] X.env := by rfl) (hpl : (backTo pos (starEach [] X.env)).any (·.1) = false := by rfl) :
    HE X S (.Call (.Name "all" p) [a] [] pos) (rB (bs.all id)) := fun σ H s => bi_w (cr_all hc) B.all boot_all (ha_cons ha ha_nil he) s (fun vs H1 e1 r => by
    obtain ⟨v, rfl, q, xs, rfl, h1, h2⟩ := rs1 r
    rw [rsok_bl h2] at h1
    exact ⟨q, bs, rfl, h1, e1, rfl⟩) hg (by decide) (by decide) he hpl
theorem he_any {bs : List Bool} (hc : X.calm = true) (B : Bi X.mg) (ha : HE X S a (rL X.K (bs.map rB))) (hg : Gl X "any" := by rfl) (he : starEach [a] X.env = (false, eval a X.env) :: starEach [] X.env := by rfl) (hpl : (backTo pos (starEach [] X.env)).any (·.1) = false := by rfl) :
    HE X S (.Call (.Name "any" p) [a] [] pos) (rB (bs.any id)) := fun σ H s => bi_w (cr_any hc) B.any boot_any (ha_cons ha ha_nil he) s (fun vs H1 e1 r => by
    obtain ⟨v, rfl, q, xs, rfl, h1, h2⟩ := rs1 r
    rw [rsok_bl h2] at h1
    exact ⟨q, bs, rfl, h1, e1, rfl⟩) hg (by decide) (by decide) he hpl
theorem ints_rs {is : List Int} {H : Hp} {xs : List V} (h : RsOk (is.map (rD K)) H xs) : xs = is.map V.int := ims_ints (rsok_ims.mp h)
theorem he_sum {is : List Int} (hc : X.calm = true) (B : Bi X.mg) (ha : HE X S a (rLs X.K is)) (hg : Gl X "sum" := by rfl) (he : starEach [a] X.env = (false, eval a X.env) :: starEach [] X.env := by rfl) (hpl : (backTo pos (starEach [] X.env)).any (·.1) = false := by rfl) :
    HE X S (.Call (.Name "sum" p) [a] [] pos) (rD K is.sum) := fun σ H s => bi_w (cr_sum hc) B.sum boot_sum (ha_cons ha ha_nil he) s (fun vs H1 e1 r => by
    obtain ⟨v, rfl, q, xs, rfl, h1, h2⟩ := rs1 r
    rw [ints_rs h2] at h1
    exact ⟨q, is, rfl, h1, e1, rfl⟩) hg (by decide) (by decide) he hpl
theorem he_sortL [TupE α] {as : List α} (B : Bi X.mg) (hr : X.A.units + 40 < cLine) (hd : dp α ≤ 30) (ha : HE X S a (rLs X.K as)) (hg : Gl X "sorted" := by rfl) (he : starEach [a] X.env = (false, eval a X.env) :: starEach [] X.env := by rfl) (hpl : (backTo pos (starEach [] X.env)).any (·.1) = false := by rfl) :
    HN X S (.Call (.Name "sorted" p) [a] [] pos) (CL X.K (esort as)) := fun σ H s => bi_w (cr_sortL as hr hd) B.sorted boot_sorted (ha_cons ha ha_nil he) s (fun vs H1 e1 r => by
    obtain ⟨v, rfl, h⟩ := rs1 r
    exact ⟨v, rfl, rLs.ls h, fun q xs hq hi => ⟨e1.trans (Ex.new hq), q, rfl, none_of_ex e1 hq, xs, upd_same, Ims.up (le_of (Ex.new hq)) _ _ hi⟩⟩) hg (by decide) (by decide) he hpl
theorem he_sortD [TupE α] {kvs : List (α × β)} (hc : X.calm = true) (B : Bi X.mg) (hr : X.A.units + 40 < cLine) (hd : dp α ≤ 8) (ha : HE X S a (rDs X.prog X.w X.K kvs)) [Mon (rDs X.prog X.w X.K kvs)] (hg : Gl X "sorted" := by rfl) (he : starEach [a] X.env = (false, eval a X.env) :: starEach [] X.env := by rfl) (hpl : (backTo pos (starEach [] X.env)).any (·.1) = false := by rfl) :
    HN X S (.Call (.Name "sorted" p) [a] [] pos) (CL X.K (esort (kvs.map (·.1)))) := fun σ H s => bi_w (cr_sortD (kvs.map (·.1)) hc hr (by omega)) B.sorted boot_sorted (ha_cons ha ha_nil he) s (fun vs H1 e1 r => by
    obtain ⟨v, rfl, d, t, rfl, h1, h2⟩ := rs1 r
    refine ⟨d, t, rfl, h1, h2.keys hd, ?_, fun q xs hq hi => ⟨e1.trans (Ex.new hq), q, rfl, none_of_ex e1 hq, xs, upd_same, Ims.up (le_of (Ex.new hq)) _ _ hi⟩⟩
    rw [h2.encs]) hg (by decide) (by decide) he hpl
theorem he_tupL {as : List α} (B : Bi X.mg) (ha : HE X S a (rLs X.K as)) (hg : Gl X "tuple" := by rfl) (he : starEach [a] X.env = (false, eval a X.env) :: starEach [] X.env := by rfl) (hpl : (backTo pos (starEach [] X.env)).any (·.1) = false := by rfl) :
    HE X S (.Call (.Name "tuple" p) [a] [] pos) (rP X.K as) := fun σ H s => ty_w (cr_tupF as) B.tuple PyProof.Rows.boot_tuple (ha_cons ha ha_nil he) s (fun vs H1 e1 r => by
    obtain ⟨v, rfl, h⟩ := rs1 r
    exact ⟨v, rfl, rLs.ls h, fun q o xs hq ho hi => ⟨e1.trans (Ex.new hq), q, o, xs, rfl, upd_same, ho, Ims.up (le_of (Ex.new hq)) _ _ hi⟩⟩) hg (by decide) (by decide) he hpl
theorem rP.d {as : List α} (h : HE X S e (rP X.K as)) : HE X S e (rD X.K as) := h.imp fun _ _ h => Pt.is h
theorem he_tupT {as : List α} (B : Bi X.mg) (ha : HE X S a (rLs X.K as)) (hg : Gl X "tuple" := by rfl) (he : starEach [a] X.env = (false, eval a X.env) :: starEach [] X.env := by rfl) (hpl : (backTo pos (starEach [] X.env)).any (·.1) = false := by rfl) :
    HE X S (.Call (.Name "tuple" p) [a] [] pos) (rD X.K as) := rP.d (he_tupL B ha hg he hpl)
/-! ### dicts -/
/-- new at p: a dict of data -/
def CD (P : Program) (w : World) (K : PySem.W.Frag) {κ β : Type} [Enc κ] [Enc β] (kvs : List (κ × β)) (p : Addr) (H : Hp) : Prop := ∃ t, H p = some (DO P w p t) ∧ DR K (fun H v b => Is K H v b) H t kvs
theorem DR.upT {κ β : Type} [Enc κ] [Enc β] {K : PySem.W.Frag} {t : Raw} {kvs : List (κ × β)} {H H' : Hp} (h : DR K (fun H v b => Is K H v b) H t kvs) (e : Lt H H') : DR K (fun H v b => Is K H v b) H' t kvs := Paired.mapP h fun _ _ z => ⟨z.1, Im.upT e _ _ z.2.1, Im.upT e _ _ z.2.2⟩
def oD (P : Program) (w : World) (K : PySem.W.Frag) {κ β : Type} [Enc κ] [Enc β] (p : Addr) (kvs : List (κ × β)) : Own where
  p := p
  C := CD P w K kvs p
  at_ := fun {H} h => by
    obtain ⟨t, h1, h2⟩ := h
    exact ⟨_, h1, loose_ext, pl_DO⟩
  sta := fun {H H'} h e l => by
    obtain ⟨t, h1, h2⟩ := h
    exact ⟨t, e.trans h1, DR.upT h2 l⟩
instance {P : Program} {w : World} {K : PySem.W.Frag} {κ β : Type} [Enc κ] [Enc β] {kvs : List (κ × β)} : MonK (rDs P w K kvs) := ⟨fun e h => Ds.up h e.le fun _ _ h => Im.up e.le _ _ h⟩
theorem ds_of_CD {P : Program} {w : World} {K : PySem.W.Frag} {κ β : Type} [Enc κ] [Enc β] {kvs : List (κ × β)} {p : Addr} {H : Hp} (h : CD P w K kvs p H) : rDs P w K kvs H (.ref p) := by
  obtain ⟨t, h1, h2⟩ := h
  exact ⟨p, t, rfl, .inl h1, h2⟩
theorem HN.ds {κ β : Type} [Enc κ] [Enc β] {kvs : List (κ × β)} {P : Program} {w : World} {K : PySem.W.Frag} (h : HN X S e (CD P w K kvs)) : HE X S e (rDs P w K kvs) := h.he fun _ _ => ds_of_CD
variable {B : Bs} {Γ : Gam} {Δ : List Own}
theorem he_ownD {κ β : Type} [Enc κ] [Enc β] {kvs : List (κ × β)} {P : Program} {w : World} {q : Addr} (i n : Nat) (h : Γ[i]? = some (some (rEq (.ref q)))) (h2 : Δ[n]? = some (oD P w K q kvs)) (hN : X.N[i]? = some x := by rfl) (hv : Vis X.env.scope x := by first | exact Or.inl rfl | exact Or.inr (Or.inl rfl) | exact Or.inr (Or.inr rfl)) (hd : (x == ("__debug__" : Str)) = false := by decide)
    (hcd : (x == ("__classdict__" : Str)) = false := by decide) : HE X (SS B Γ Δ) (.Name x pos) (rDs P w K kvs) := he_of (pe_var hN hv hd hcd) fun σ H s => by
  obtain ⟨v, h1, h3⟩ := s.get h
  have e : v = .ref q := h3
  subst e
  exact ⟨_, h1, Ex.refl H, ds_of_CD (s.own _ (List.mem_of_getElem? h2))⟩
variable {κ : Type} [Enc κ] [DecidableEq κ] [TupE κ] {kvs : List (κ × β)} {u : κ} {v : β}
theorem key_ref {H : Hp} {K : PySem.W.Frag} {u : κ} {x : V} (h : rD K u H x) : ∃ b, x = .ref b := by
  obtain ⟨ks, e⟩ := TupE.tup u
  have h' : Im K H (enc u) x := h
  rw [e] at h'
  obtain ⟨b, _, e1, _⟩ := h'
  exact ⟨b, e1⟩
theorem he_xget (hu : X.A.units + 40 < cLine) (hd : dp κ ≤ 8) (ha : HE X S a (rDs X.prog X.w X.K kvs)) (hb : HE X S b (rD X.K u)) (hs : NoSl b) (h : look kvs u = some v) : HE X S (.Subscript a b pos) (rD X.K v) :=
  he_of (pe_xget (by omega) pe_w pe_w hs) fun σ H s => he_seq2 (Q := fun _ _ => True) ha hb s fun x y H' e1 s' r1 r2 => by
    obtain ⟨d, t, rfl, h1, h2⟩ := r1
    obtain ⟨q, rfl⟩ := key_ref r2
    obtain ⟨z, g, hz⟩ := h2.get h
    exact ⟨d, q, t, enc u, z, rfl, rfl, h1, h2.keys hd, r2, Nat.le_trans (Enc.le u) hd, g, e1, hz⟩
theorem hc_xin (hu : X.A.units + 40 < cLine) (hd : dp κ ≤ 8) (ha : HE X S a (rD X.K u)) (hb : HE X S b (rDs X.prog X.w X.K kvs)) (hm : behindInMarks .In b = false := by with_unfolding_all rfl) : HC X S .In a b (look kvs u).isSome :=
  ⟨fun σ H s pins sh I => (pc_xin (by omega) pe_w pe_w).run pins sh σ H _ I (he_seq2 (Q := fun _ _ => True) ha hb s fun y x H' e1 s' r2 r1 => by
    obtain ⟨d, t, rfl, h1, h2⟩ := r1
    obtain ⟨q, rfl⟩ := key_ref r2
    exact ⟨d, q, t, enc u, rfl, rfl, h1, h2.keys hd, r2, Nat.le_trans (Enc.le u) hd, e1, by rw [h2.isSome]⟩), hm⟩
theorem hc_xnotin (hu : X.A.units + 40 < cLine) (hd : dp κ ≤ 8) (ha : HE X S a (rD X.K u)) (hb : HE X S b (rDs X.prog X.w X.K kvs)) (hm : behindInMarks .NotIn b = false := by with_unfolding_all rfl) : HC X S .NotIn a b (!(look kvs u).isSome) :=
  ⟨fun σ H s pins sh I => (pc_xnotin (by omega) pe_w pe_w).run pins sh σ H _ I (he_seq2 (Q := fun _ _ => True) ha hb s fun y x H' e1 s' r2 r1 => by
    obtain ⟨d, t, rfl, h1, h2⟩ := r1
    obtain ⟨q, rfl⟩ := key_ref r2
    exact ⟨d, q, t, enc u, rfl, rfl, h1, h2.keys hd, r2, Nat.le_trans (Enc.le u) hd, e1, by rw [h2.isSome]⟩), hm⟩
theorem he_get2 {apos : Pos} (hu : X.A.units + 40 < cLine) (hd : dp κ ≤ 8) (ha : HE X S a (rDs X.prog X.w X.K kvs)) (hb : HE X S b (rD X.K u)) (hc : HE X S c (rD X.K v)) (m : M2 X a "get" apos b c pos) : HE X S (.Call (.Attribute a "get" apos) [b, c] [] pos) (rD X.K ((look kvs u).getD v)) :=
  he_of (pe_xget2 (by omega) pe_w pe_w pe_w m) fun σ H s => (ha σ H s).mono fun x H1 ⟨e1, r1⟩ => by
    obtain ⟨d, t, rfl, h1, h2⟩ := id r1
    refine ⟨d, rfl, ⟨t, h1⟩, he_seq2 (Q := fun _ _ => True) hb hc (Stab.up s e1) fun y z H' e2 s' r2 r3 => ?_⟩
    obtain ⟨d', t', e, h1', h2'⟩ := Mon.up e2 r1
    cases e
    obtain ⟨q, rfl⟩ := key_ref r2
    refine ⟨q, t', enc u, rfl, h1', h2'.keys hd, r2, Nat.le_trans (Enc.le u) hd, e1.trans e2, ?_⟩
    cases l : look kvs u with
    | none => rw [h2'.none_ l]; exact r3
    | some w' =>
      obtain ⟨z', g, hz⟩ := h2'.get l
      rw [g]
      exact hz
theorem hn_xnew (κ β : Type) [Enc κ] [Enc β] : HN X S (.Dict [] [] pos) (CD X.prog X.w X.K ([] : List (κ × β))) := hn_of pe_xnew fun σ H s q hq => ⟨Ex.new hq, q, rfl, hq, [], upd_same, .nil⟩
theorem hn_dict (hc : X.calm = true) (Bm : Bi X.mg) (hu : X.A.units + 40 < cLine) (hd : dp κ ≤ 8) (ha : HE X S a R) [Mon R] (hR : ∀ H v, R H v → Ls X.K H v kvs ∨ Pt X.K H v kvs) (hn : (kvs.map (·.1)).Nodup) (hg : Gl X "dict" := by rfl) (he : starEach [a] X.env = (false, eval a X.env) :: starEach [] X.env := by rfl) (hpl : (backTo pos (starEach [] X.env)).any (·.1) = false := by rfl) :
    HN X S (.Call (.Name "dict" p) [a] [] pos) (CD X.prog X.w X.K kvs) := fun σ H s => ty_w (cr_dictP kvs hc (by omega) hd) Bm.dict PyProof.Rows.boot_dict (ha_cons ha ha_nil he) s (fun vs H1 e1 r => by
    obtain ⟨v, rfl, h⟩ := rs1 r
    exact ⟨v, rfl, hR H1 v h, hn, fun q t hq hr => ⟨e1.trans (Ex.new hq), q, rfl, none_of_ex e1 hq, t, upd_same, hr.up (le_of (Ex.new hq)) fun _ _ h => Im.up (le_of (Ex.new hq)) _ _ h⟩⟩) hg (by decide) (by decide) he hpl
/-! ### isinstance -/
theorem he_isi {t cu : Value} {k : Bool} {v : V} (Bm : Bi X.mg) (ha : HE X S a Ra) [Mon Ra] (hb : HE X S b (rEq v)) (hcv : ClsV v cu) (hR : ∀ H x, Ra H x → TyX X.K H x t) (hk : PySem.W.kitOne X.K t cu = some k) (hg : Gl X "isinstance" := by rfl)
    (he : starEach [a, b] X.env = (false, eval a X.env) :: starEach [b] X.env := by rfl) (he2 : starEach [b] X.env = (false, eval b X.env) :: starEach [] X.env := by rfl) (hpl : (backTo pos (starEach [b] X.env)).any (·.1) = false := by rfl) :
    HE X S (.Call (.Name "isinstance" p) [a, b] [] pos) (rB k) := fun σ H s => bi_w call_isi Bm.isinstance PyProof.Rows.boot_isinstance (ha_cons ha (ha_cons hb ha_nil he2) he) s (fun vs H1 e1 r => by
    obtain ⟨x, y, rfl, h1, h2⟩ := rs2 r
    exact ⟨x, y, t, cu, k, rfl, by rw [show y = v from h2]; exact hcv, hR H1 x h1, hk, e1, rfl⟩) hg (by decide) (by decide) he hpl
theorem he_isiInt {i : Int} (Bm : Bi X.mg) (ha : HE X S a (rD X.K i)) {p2 : Pos} (hg : Gl X "isinstance" := by rfl) (hg2 : Gl X "int" := by rfl)
    (he : starEach [a, .Name "int" p2] X.env = (false, eval a X.env) :: starEach [.Name "int" p2] X.env := by rfl) (he2 : starEach [.Name "int" p2] X.env = (false, eval (.Name "int" p2) X.env) :: starEach [] X.env := by rfl) (hpl : (backTo pos (starEach [.Name "int" p2] X.env)).any (·.1) = false := by rfl) :
    HE X S (.Call (.Name "isinstance" p) [a, .Name "int" p2] [] pos) (rB true) :=
  he_isi (t := .type "int") (cu := .type "int") (v := .ty "int") Bm ha (he_of (pe_bltn hg2 Bm.int PyProof.Rows.boot_int (show RelV (.ty "int") _ from rfl)) fun σ H s => ⟨Ex.refl H, rfl⟩) (.ty _) (fun H x h => by rw [show x = .int i from h]; exact .base (.int i)) (kit_ty (by decide +kernel)) hg he he2 hpl
theorem he_isiBool {i : Int} (Bm : Bi X.mg) (ha : HE X S a (rD X.K i)) {p2 : Pos} (hg : Gl X "isinstance" := by rfl) (hg2 : Gl X "bool" := by rfl)
    (he : starEach [a, .Name "bool" p2] X.env = (false, eval a X.env) :: starEach [.Name "bool" p2] X.env := by rfl) (he2 : starEach [.Name "bool" p2] X.env = (false, eval (.Name "bool" p2) X.env) :: starEach [] X.env := by rfl) (hpl : (backTo pos (starEach [.Name "bool" p2] X.env)).any (·.1) = false := by rfl) :
    HE X S (.Call (.Name "isinstance" p) [a, .Name "bool" p2] [] pos) (rB false) :=
  he_isi (t := .type "int") (cu := .type "bool") (v := .ty "bool") Bm ha (he_of (pe_bltn hg2 Bm.bool PyProof.Rows.boot_bool (show RelV (.ty "bool") _ from rfl)) fun σ H s => ⟨Ex.refl H, rfl⟩) (.ty _) (fun H x h => by rw [show x = .int i from h]; exact .base (.int i)) (kit_ty (by decide +kernel)) hg he he2 hpl
theorem ty_tup {K : PySem.W.Frag} {H : Hp} {q : Addr} {xs : List V} (h : SqT K H q xs) : TyX K H (.ref q) (.type "tuple") := by
  rcases h with (h | ⟨o, h⟩) | ⟨o, its, n, h1, h2, _⟩
  · exact .base (.tup h)
  · exact .fTuple h
  · exact .kTuple h1 h2
theorem he_isiTup {γ : Type} [Enc γ] [TupE γ] {g : γ} (Bm : Bi X.mg) (ha : HE X S a (rD X.K g)) {p2 : Pos} (hg : Gl X "isinstance" := by rfl) (hg2 : Gl X "tuple" := by rfl)
    (he : starEach [a, .Name "tuple" p2] X.env = (false, eval a X.env) :: starEach [.Name "tuple" p2] X.env := by rfl) (he2 : starEach [.Name "tuple" p2] X.env = (false, eval (.Name "tuple" p2) X.env) :: starEach [] X.env := by rfl) (hpl : (backTo pos (starEach [.Name "tuple" p2] X.env)).any (·.1) = false := by rfl) :
    HE X S (.Call (.Name "isinstance" p) [a, .Name "tuple" p2] [] pos) (rB true) :=
  he_isi (t := .type "tuple") (cu := .type "tuple") (v := .ty "tuple") Bm ha (he_of (pe_bltn hg2 Bm.tuple PyProof.Rows.boot_tuple (show RelV (.ty "tuple") _ from rfl)) fun σ H s => ⟨Ex.refl H, rfl⟩) (.ty _) (fun H x h => by
    obtain ⟨ks, e⟩ := TupE.tup g
    have h' : Im X.K H (enc g) x := h
    rw [e] at h'
    obtain ⟨q, xs, rfl, h1, _⟩ := h'
    exact ty_tup h1) (kit_ty (by decide +kernel)) hg he he2 hpl
/-- an int is no tuple -/
theorem he_isiTupI {i : Int} (Bm : Bi X.mg) (ha : HE X S a (rD X.K i)) {p2 : Pos} (hg : Gl X "isinstance" := by rfl) (hg2 : Gl X "tuple" := by rfl)
    (he : starEach [a, .Name "tuple" p2] X.env = (false, eval a X.env) :: starEach [.Name "tuple" p2] X.env := by rfl) (he2 : starEach [.Name "tuple" p2] X.env = (false, eval (.Name "tuple" p2) X.env) :: starEach [] X.env := by rfl) (hpl : (backTo pos (starEach [.Name "tuple" p2] X.env)).any (·.1) = false := by rfl) :
    HE X S (.Call (.Name "isinstance" p) [a, .Name "tuple" p2] [] pos) (rB false) :=
  he_isi (t := .type "int") (cu := .type "tuple") (v := .ty "tuple") Bm ha (he_of (pe_bltn hg2 Bm.tuple PyProof.Rows.boot_tuple (show RelV (.ty "tuple") _ from rfl)) fun σ H s => ⟨Ex.refl H, rfl⟩) (.ty _) (fun H x h => by rw [show x = .int i from h]; exact .base (.int i)) (kit_ty (by decide +kernel)) hg he he2 hpl
end
end CB
end
section
set_option Elab.async false
set_option linter.all false
set_option maxRecDepth 100000
set_option maxHeartbeats 2000000
/-! K. statements, loops, comprehensions. -/
namespace CB
open PySem PySem.Spec PyProof.Rows L2 Enc

/-- lo, .., hi - 1 -/
def rgL (lo hi : Int) : List Int := (List.range (hi - lo).toNat).map fun (i : Nat) => lo + (i : Int)
/-! ### statements -/
section
variable [Tbs] {X : Cx} {S : SA} [Stab S] {e a b c : Expr} {es : List Expr} {R Ra Rb : Rel} {Rs : List Rel} {pos pos' p : Pos} {x : Str} {D : Ends} {st : Stmt} {rest A A2 : List Stmt} {k : Bool}
theorem hb_of {t : TS} (P : PS X st t) (h : ∀ σ H, S σ H → t { D with nx := wB X rest D } σ H) : HB X S (st :: rest) D := fun σ H s pins sh I => (pss_cons P pb_w).run pins sh σ H D I (h σ H s)
theorem hb_nil (h : ∀ σ H, S σ H → D.nx σ H) : HB X S [] D := fun σ H s pins sh I => pss_nil.run pins sh σ H D I (h σ H s)
theorem hb_ret (he : HE X S e R) (h : ∀ σ H H' v, S σ H → Ex H H' → R H' v → D.rt v H') : HB X S (.Return (some e) pos :: rest) D :=
  hb_of (ps_ret pe_w) fun σ H s => (he σ H s).mono fun v H' ⟨e1, r⟩ => h σ H H' v s e1 r
theorem hb_retN {C : Addr → Hp → Prop} (he : HN X S e C) (h : ∀ σ H H' q, S σ H → Ex H H' → H q = none → C q H' → D.rt (.ref q) H') : HB X S (.Return (some e) pos :: rest) D :=
  hb_of (ps_ret pe_w) fun σ H s => (he σ H s).mono fun v H' ⟨e1, q, r1, r2, r3⟩ => by rw [r1]; exact h σ H H' q s e1 r2 r3
theorem hb_if (hc : HT X S c k) (ha : k = true → HB X S A { D with nx := wB X rest D }) (hb : k = false → HB X S A2 { D with nx := wB X rest D }) : HB X S (.If c A A2 pos :: rest) D :=
  hb_of (ps_if pt_w pb_w pb_w) fun σ H s => (hc σ H s).mono fun d H1 ⟨e1, r1⟩ => by
    subst r1
    cases d with
    | true => exact iteT (ha rfl σ H1 (Stab.up s e1))
    | false => exact iteF (hb rfl σ H1 (Stab.up s e1))
variable {B : Bs} {Γ Γ' : Gam} {Δ Δ' : List Own}
theorem hb_sub (h : HB X (SS B Γ' Δ') A D) (hs : Subg Γ' Γ) (hd : List.Sublist Δ' Δ) : HB X (SS B Γ Δ) A D := fun σ H s => h σ H ((s.sub hs).drop hd)
theorem hb_set (i : Nat) (he : HE X (SS B Γ Δ) e R) [Sta R] (h : HB X (SS B (Γ.set i (some R)) Δ) rest D) (hN : X.N.Nodup) (hi : X.N[i]? = some x := by rfl) (hx : Loc X.env.scope x := by first | exact Or.inl rfl | exact Or.inr rfl)
    (hs : swapsWith e (some (.Name x pos')) pos.line X.env = pure false := by rfl) (hf : X.fn x = true ∨ X.env.scope.names.lookup x = some .local := by first | exact .inl rfl | exact .inr rfl) : HB X (SS B Γ Δ) (.Assign [.Name x pos'] e pos :: rest) D :=
  hb_of (ps_set hN hi hx pe_w hs hf) fun σ H s => (he σ H s).mono fun v H' ⟨e1, r⟩ => h _ H' ((Stab.up s e1).set r)
theorem hb_setN (i : Nat) {o : Addr → Own} {C : Addr → Hp → Prop} (he : HN X (SS B Γ Δ) e C) (ho : ∀ q, (o q).p = q ∧ (o q).C = C q) (h : ∀ q, HB X (SS B (Γ.set i (some (rEq (.ref q)))) (o q :: Δ)) rest D) (hN : X.N.Nodup) (hi : X.N[i]? = some x := by rfl) (hx : Loc X.env.scope x := by first | exact Or.inl rfl | exact Or.inr rfl)
    (hs : swapsWith e (some (.Name x pos')) pos.line X.env = pure false := by rfl) (hf : X.fn x = true ∨ X.env.scope.names.lookup x = some .local := by first | exact .inl rfl | exact .inr rfl) : HB X (SS B Γ Δ) (.Assign [.Name x pos'] e pos :: rest) D :=
  hb_of (ps_set hN hi hx pe_w hs hf) fun σ H s => (he σ H s).mono fun v H' ⟨e1, q, r1, r2, r3⟩ => by
    subst r1
    obtain ⟨o1, o2⟩ := ho q
    exact h q _ H' (SS.set (SS.add s e1 (o := o q) (by rw [o1]; exact r2) (by rw [o2]; exact r3)) rfl)
theorem hb_setL {α : Type} [Enc α] {as : List α} {K : PySem.W.Frag} (i : Nat) (he : HN X (SS B Γ Δ) e (CL K as)) (h : ∀ q, HB X (SS B (Γ.set i (some (rEq (.ref q)))) (oL K q as :: Δ)) rest D) (hN : X.N.Nodup) (hi : X.N[i]? = some x := by rfl) (hx : Loc X.env.scope x := by first | exact Or.inl rfl | exact Or.inr rfl)
    (hs : swapsWith e (some (.Name x pos')) pos.line X.env = pure false := by rfl) (hf : X.fn x = true ∨ X.env.scope.names.lookup x = some .local := by first | exact .inl rfl | exact .inr rfl) : HB X (SS B Γ Δ) (.Assign [.Name x pos'] e pos :: rest) D :=
  hb_setN i (o := fun q => oL K q as) he (fun q => ⟨rfl, rfl⟩) h hN hi hx hs hf
theorem hb_setD {κ β : Type} [Enc κ] [Enc β] {kvs : List (κ × β)} {P : Program} {w : World} {K : PySem.W.Frag} (i : Nat) (he : HN X (SS B Γ Δ) e (CD P w K kvs)) (h : ∀ q, HB X (SS B (Γ.set i (some (rEq (.ref q)))) (oD P w K q kvs :: Δ)) rest D) (hN : X.N.Nodup) (hi : X.N[i]? = some x := by rfl) (hx : Loc X.env.scope x := by first | exact Or.inl rfl | exact Or.inr rfl)
    (hs : swapsWith e (some (.Name x pos')) pos.line X.env = pure false := by rfl) (hf : X.fn x = true ∨ X.env.scope.names.lookup x = some .local := by first | exact .inl rfl | exact .inr rfl) : HB X (SS B Γ Δ) (.Assign [.Name x pos'] e pos :: rest) D :=
  hb_setN i (o := fun q => oD P w K q kvs) he (fun q => ⟨rfl, rfl⟩) h hN hi hx hs hf
/-- d[k] = v -/
theorem hb_put {κ β : Type} [Enc κ] [DecidableEq κ] [TupE κ] [Enc β] {kvs : List (κ × β)} {q : Addr} {u : κ} {v : β} (i n : Nat) (hΓ : Γ[i]? = some (some (rEq (.ref q)))) (hΔ : Δ[n]? = some (oD X.prog X.w X.K q kvs)) (hu : X.A.units + 40 < cLine) (hd : dp κ ≤ 8) (hl : kvs.length < 10000)
    (hv : HE X (SS B Γ Δ) e (rD X.K v)) (hk : HE X (SS B Γ Δ) b (rD X.K u)) (h : HB X (SS B Γ (Δ.set n (oD X.prog X.w X.K q (put kvs u v)))) rest D) (hN : X.N[i]? = some x := by rfl) (hvs : Vis X.env.scope x := by first | exact Or.inl rfl | exact Or.inr (Or.inl rfl) | exact Or.inr (Or.inr rfl)) (hdb : (x == ("__debug__" : Str)) = false := by decide)
    (hcd : (x == ("__classdict__" : Str)) = false := by decide) (hs : swapsWith e (some (.Subscript (.Name x p) b pos')) pos.line X.env = pure false := by rfl) : HB X (SS B Γ Δ) (.Assign [.Subscript (.Name x p) b pos'] e pos :: rest) D :=
  hb_of (ps_xput (by omega) (pe_var hN hvs hdb hcd) pe_w pe_w hs) fun σ H s => (hv σ H s).mono fun y H1 ⟨e1, r1⟩ => by
    have s1 := Stab.up s e1
    obtain ⟨z, h1, h2⟩ := s1.get hΓ
    have e2 : z = .ref q := h2
    subst e2
    refine ⟨_, h1, (hk σ H1 s1).mono fun w H2 ⟨e3, r2⟩ => ?_⟩
    have s2 := Stab.up s1 e3
    obtain ⟨t, g1, g2⟩ := s2.own _ (List.mem_of_getElem? hΔ)
    obtain ⟨bq, rfl⟩ := key_ref r2
    have lt : Lt H2 (upd H2 q (DO X.prog X.w q (rput t (enc u) bq y))) := Lt.put g1 loose_ext
    refine ⟨q, bq, t, enc u, rfl, rfl, g1, g2.keys hd, r2, Nat.le_trans (Enc.le u) hd, ?_, h _ _ (SS.mut s2 hΔ (o' := oD X.prog X.w X.K q (put kvs u v)) rfl ⟨_, upd_same, ?_⟩)⟩
    · rw [g2.length, sizeLine_eq]; omega
    · have r1' : Im X.K H2 (enc v) y := Mon.up (R := rD X.K v) e3 r1
      exact DR.upT (g2.put (b := v) r2 r1') lt
/-- xs.append(v) -/
theorem hb_append {α : Type} [Enc α] {as : List α} {q : Addr} {u : α} {apos cpos : Pos} (i n : Nat) (hΓ : Γ[i]? = some (some (rEq (.ref q)))) (hΔ : Δ[n]? = some (oL X.K q as)) (hl : as.length < 10000)
    (hv : HE X (SS B Γ Δ) e (rD X.K u)) (h : HB X (SS B Γ (Δ.set n (oL X.K q (as ++ [u])))) rest D) (hN : X.N[i]? = some x := by rfl) (hvs : Vis X.env.scope x := by first | exact Or.inl rfl | exact Or.inr (Or.inl rfl) | exact Or.inr (Or.inr rfl)) (hdb : (x == ("__debug__" : Str)) = false := by decide)
    (hcd : (x == ("__classdict__" : Str)) = false := by decide) (hbase : attributeBase (.Name x p) "append" X.env (eval (.Name x p) X.env) = eval (.Name x p) X.env := by rfl)
    (hfew : ((backTo cpos (starEach [e] X.env)).all (fun x => !x.1) && (backToKw cpos (keywordEach [] X.env)).all (fun x => x.1.isSome) && decide (([e] : List Expr).length + ([] : List Keyword).length + (if ([] : List Keyword).isEmpty then 0 else 1) < 30)) = true := by rfl)
    (hline : (apos.endLine == cpos.line) = true := by rfl) (hs : starEach [e] X.env = (false, eval e X.env) :: starEach [] X.env := by rfl) (hplain : (backTo cpos (starEach [] X.env)).any (·.1) = false := by rfl) (hsw : swapsWith (.Call (.Attribute (.Name x p) "append" apos) [e] [] cpos) none pos.line X.env = pure false := by rfl) :
    HB X (SS B Γ Δ) (.Expr (.Call (.Attribute (.Name x p) "append" apos) [e] [] cpos) pos :: rest) D := by
  refine hb_of (ps_expr (pe_bm PySem.F.plainAttrs_list F.slot_list_append F.type_list_append mt_append (pe_var hN hvs hdb hcd) pa_w hbase hfew hline hs hplain) hsw) fun σ H s => ?_
  obtain ⟨z, h1, h2⟩ := s.get hΓ
  have e2 : z = .ref q := h2
  subst e2
  obtain ⟨xs, g1, g2⟩ := s.own _ (List.mem_of_getElem? hΔ)
  refine ⟨_, h1, Or.inl ⟨rfl, xs, .of g1⟩, ?_⟩
  exact (ha_cons hv ha_nil hs σ H s).mono fun vs H1 ⟨e1, r⟩ => by
    obtain ⟨y, rfl, r1⟩ := rs1 r
    have s1 := Stab.up s e1
    obtain ⟨ys, g1, g2⟩ := s1.own _ (List.mem_of_getElem? hΔ)
    have lt : Lt H1 (upd H1 q (.lst (ys ++ [y]))) := Lt.put g1 loose_lst
    have l := g2.length
    rw [List.length_map] at l
    refine ⟨q, ys, y, rfl, rfl, g1, by rw [sizeLine_eq]; omega, h _ _ (SS.mut s1 hΔ (o' := oL X.K q (as ++ [u])) rfl ⟨_, upd_same, ?_⟩)⟩
    rw [List.map_append]
    exact Ims.upT lt _ _ (g2.append ⟨y, [], rfl, r1, rfl⟩)
/-- xs.extend(new list) -/
theorem hb_extend {α : Type} [Enc α] {as bs : List α} {q : Addr} {apos cpos : Pos} (i n : Nat) (hΓ : Γ[i]? = some (some (rEq (.ref q)))) (hΔ : Δ[n]? = some (oL X.K q as)) (hl : as.length + bs.length < 10000)
    (hv : HN X (SS B Γ Δ) e (CL X.K bs)) (h : HB X (SS B Γ (Δ.set n (oL X.K q (as ++ bs)))) rest D) (hN : X.N[i]? = some x := by rfl) (hvs : Vis X.env.scope x := by first | exact Or.inl rfl | exact Or.inr (Or.inl rfl) | exact Or.inr (Or.inr rfl)) (hdb : (x == ("__debug__" : Str)) = false := by decide)
    (hcd : (x == ("__classdict__" : Str)) = false := by decide) (hbase : attributeBase (.Name x p) "extend" X.env (eval (.Name x p) X.env) = eval (.Name x p) X.env := by rfl)
    (hfew : ((backTo cpos (starEach [e] X.env)).all (fun x => !x.1) && (backToKw cpos (keywordEach [] X.env)).all (fun x => x.1.isSome) && decide (([e] : List Expr).length + ([] : List Keyword).length + (if ([] : List Keyword).isEmpty then 0 else 1) < 30)) = true := by rfl)
    (hline : (apos.endLine == cpos.line) = true := by rfl) (hs : starEach [e] X.env = (false, eval e X.env) :: starEach [] X.env := by rfl) (hplain : (backTo cpos (starEach [] X.env)).any (·.1) = false := by rfl) (hsw : swapsWith (.Call (.Attribute (.Name x p) "extend" apos) [e] [] cpos) none pos.line X.env = pure false := by rfl) :
    HB X (SS B Γ Δ) (.Expr (.Call (.Attribute (.Name x p) "extend" apos) [e] [] cpos) pos :: rest) D := by
  refine hb_of (ps_expr (pe_bm PySem.F.plainAttrs_list F.slot_list_extend F.type_list_extend mt_extend (pe_var hN hvs hdb hcd) pa_w hbase hfew hline hs hplain) hsw) fun σ H s => ?_
  obtain ⟨z, h1, h2⟩ := s.get hΓ
  have e2 : z = .ref q := h2
  subst e2
  obtain ⟨xs, g1, g2⟩ := s.own _ (List.mem_of_getElem? hΔ)
  refine ⟨_, h1, Or.inl ⟨rfl, xs, .of g1⟩, fun pos' pins sh I => ?_⟩
  refine (pa_cons pe_w pa_w hs).run pos' pins sh σ H _ I ((hv σ H s).mono fun v H1 ⟨e1, b, r1, r2, zs, r3, r4⟩ => (ha_nil (S := SS B Γ Δ) σ H1 (Stab.up s e1)).mono fun vs H2 ⟨e2, r⟩ => ?_)
  rw [show vs = [] from r, r1]
  have s1 := Stab.up s (e1.trans e2)
  obtain ⟨ys, g1, g2⟩ := s1.own _ (List.mem_of_getElem? hΔ)
  have lt : Lt H2 (upd H2 q (.lst (ys ++ zs))) := Lt.put g1 loose_lst
  have l := g2.length
  have l2 := r4.length
  rw [List.length_map] at l l2
  refine ⟨q, b, ys, zs, rfl, rfl, g1, e2.at_ r3 (fun _ z => (nomatch z)), by rw [sizeLine_eq]; omega, h _ _ (SS.mut s1 hΔ (o' := oL X.K q (as ++ bs)) rfl ⟨_, upd_same, ?_⟩)⟩
  rw [List.map_append]
  exact Ims.upT lt _ _ (g2.append (Ims.up (le_of e2) _ _ r4))
/-! ### targets -/
def wG (X : Cx) (tg : Expr) : TG := fun v σ H Q => ∀ (pins : List (Addr × Obj)) (s : Shared) (u : Value), Inv X pins σ H s → RelV v u → wpAny (model X.prog X.w) X.A (assign tg X.env u) (fun _ s' => ∃ σ' H', Inv X pins σ' H' s' ∧ Q σ' H') X.xe s
theorem pg_w {tg : Expr} : PG X tg (wG X tg) := ⟨fun pins s σ H v u Q I r h => h pins s u I r⟩
/-- what a target makes of the slots -/
def HG (X : Cx) (tg : Expr) (R : Rel) (f : Gam → Gam) (vs : List Nat) : Prop :=
  ∀ (B : Bs) (Γ : Gam) (Δ : List Own) (σ : L2.St) (H : Hp) (v : V), SS B Γ Δ σ H → R H v → wG X tg v σ H fun σ' H' => H' = H ∧ SS B (f Γ) Δ σ' H ∧ σ'.length = σ.length ∧ ∀ j, j ∉ vs → σ'[j]? = σ[j]?
theorem hg_name (i : Nat) [Sta R] (hN : X.N.Nodup) (hi : X.N[i]? = some x := by rfl) (hx : Loc X.env.scope x := by first | exact Or.inl rfl | exact Or.inr rfl) (hf : X.fn x = true ∨ X.env.scope.names.lookup x = some .local := by first | exact .inl rfl | exact .inr rfl) : HG X (.Name x pos) R (fun Γ => Γ.set i (some R)) [i] :=
  fun B Γ Δ σ H v s r pins sh u I rv => (pg_name hN hi hx hf).run pins sh σ H v u _ I rv ⟨rfl, s.set r, by rw [List.length_set], fun j hj => List.getElem?_set_ne (by simpa using fun e => hj (by simp [e]))⟩
theorem hg_pair {α β : Type} [Enc α] [Enc β] {u : α} {v : β} {y : Str} {px py pt : Pos} {kk : Nat} (i j : Nat) (hc : X.calm = true) (hN : X.N.Nodup) (hi : X.N[i]? = some x := by rfl) (hx : Loc X.env.scope x := by first | exact Or.inl rfl | exact Or.inr rfl) (hf : X.fn x = true ∨ X.env.scope.names.lookup x = some .local := by first | exact .inl rfl | exact .inr rfl)
    (hi2 : X.N[j]? = some y := by rfl) (hx2 : Loc X.env.scope y := by first | exact Or.inl rfl | exact Or.inr rfl) (hf2 : X.fn y = true ∨ X.env.scope.names.lookup y = some .local := by first | exact .inl rfl | exact .inr rfl)
    (hs : (assignEach [.Name x px, .Name y py] X.env).map (·.2) = assign (.Name x px) X.env :: (assignEach [.Name y py] X.env).map (·.2) := by rfl) (hs2 : (assignEach [.Name y py] X.env).map (·.2) = assign (.Name y py) X.env :: (assignEach [] X.env).map (·.2) := by rfl)
    (hn : (assignEach [.Name x px, .Name y py] X.env).length = 2 := by rfl) (hst : (assignEach [.Name x px, .Name y py] X.env).findIdx? (·.1) = none := by rfl) :
    HG X (.Tuple [.Name x px, .Name y py] kk pt) (rD X.K (u, v)) (fun Γ => (Γ.set i (some (rD X.K u))).set j (some (rD X.K v))) [i, j] :=
  fun B Γ Δ σ H w s r pins sh uu I rv => by
    refine (pg_tup (pos := pt) (k := kk) hc (pgs_cons (pg_name hN hi hx hf) (pgs_cons (pg_name hN hi2 hx2 hf2) pgs_nil hs2) hs) hn hst).run pins sh σ H w uu _ I rv ?_
    obtain ⟨q, xs, rfl, h1, x1, r1, rfl, h2, x2, r2, rfl, h3, h4⟩ := r
    rw [show r2 = [] from h4] at h1
    refine ⟨q, _, rfl, h1, rfl, x1, _, rfl, x2, _, rfl, rfl, rfl, (s.set (R := rD X.K u) h2).set (R := rD X.K v) h3, by rw [List.length_set, List.length_set], fun n hn => ?_⟩
    simp only [List.mem_cons, not_or] at hn
    rw [List.getElem?_set_ne (fun e => hn.2.1 e.symm), List.getElem?_set_ne (fun e => hn.1 e.symm)]
theorem wipe_at {σ : L2.St} {i : Nat} : ∀ {vs : List Nat}, i ∈ vs → i < σ.length → (wipe σ vs)[i]? = some none
  | v :: vs, h, hl => by
    unfold wipe
    by_cases e : v = i
    · subst e
      exact List.getElem?_set_self (by rw [wipe_length]; exact hl)
    · rw [List.getElem?_set_ne e]
      exact wipe_at ((List.mem_cons.mp h).resolve_left fun q => e q.symm) hl
theorem wipe_ext {σ σ' : L2.St} {vs : List Nat} (hl : σ'.length = σ.length) (h : ∀ j, j ∉ vs → σ'[j]? = σ[j]?) : wipe σ' vs = wipe σ vs := by
  refine List.ext_getElem? fun j => ?_
  by_cases hj : j ∈ vs
  · by_cases q : j < σ.length
    · rw [wipe_at hj q, wipe_at hj (by rw [hl]; exact q)]
    · rw [List.getElem?_eq_none (by rw [wipe_length]; omega), List.getElem?_eq_none (by rw [wipe_length]; omega)]
  · rw [wipe_get hj, wipe_get hj]
    exact h j hj
theorem wipe_wipe {σ : L2.St} {vs : List Nat} : wipe (wipe σ vs) vs = wipe σ vs := wipe_ext (wipe_length σ vs) fun _ hj => wipe_get hj
/-! ### what is walked -/
def wI (X : Cx) (tg it : Expr) : TI := fun σ H R => ∀ (pins : List (Addr × Obj)) (s : Shared), Inv X pins σ H s →
    wpAny (model X.prog X.w) X.A (eval it X.env) (fun v s1 => wpAny (model X.prog X.w) X.A (pyIter v) (PIE X pins σ tg R) X.xe s1) X.xe s
theorem pi_w {tg it : Expr} : PI X tg it (wI X tg it) := ⟨fun pins s σ H R I h => h pins s I⟩
/-- typed items, one a turn -/
abbrev YT (K : PySem.W.Frag) {α : Type} [Enc α] (as : List α) : Nat → Hp → V → Hp → Prop := fun i H x H' => Ex H H' ∧ ∃ a, as[i]? = some a ∧ rD K a H' x
def HIt (ord : Hp → Hp → Prop) (X : Cx) (S : SA) (tg it : Expr) {α : Type} [Enc α] (as : List α) : Prop :=
  ∀ σ H, S σ H → ∀ Rr : It → Hp → Prop, (∀ J H1 (G : Hp → Prop), Ex H H1 → Walk J as.length G (YT X.K as) → G H1 → (∀ Ha Hb, G Ha → ord Ha Hb → G Hb) → Rr J H1) → wI X tg it σ H Rr
variable {tg it : Expr} {α : Type} [Enc α] {as : List α}
theorem HIt.ex (h : HIt Lt X S tg it as) : HIt Ex X S tg it as := fun σ H s Rr f => h σ H s Rr fun J H1 G e w g k => f J H1 G e w g fun Ha Hb ga o => k Ha Hb ga (Lt.of o)
theorem walk_tupT {q : Addr} {K : PySem.W.Frag} : Walk (Itt K q) as.length (fun H => ∃ xs, SqT K H q xs ∧ Ims K H (as.map enc) xs) (YT K as) := by
  refine ⟨fun i H hi ⟨xs, h1, h2⟩ => ?_, fun H ⟨xs, h1, h2⟩ => ⟨xs, h1, ?_⟩, fun i H x H' hi ⟨xs, h1, h2⟩ y => ?_⟩
  · have l := h2.length
    rw [List.length_map] at l
    exact ⟨xs, xs[i], h1, List.getElem?_eq_getElem (by omega)⟩
  · have l := h2.length
    rw [List.length_map] at l
    omega
  · obtain ⟨e, y⟩ := y
    subst e
    refine ⟨Ex.refl _, ?_⟩
    obtain ⟨k, hk, ik⟩ := h2.get (y xs h1)
    rw [List.getElem?_map] at hk
    obtain ⟨a, ha, ea⟩ := Option.map_eq_some_iff.mp hk
    exact ⟨a, ha, by rw [← ea] at ik; exact ik⟩
theorem hi_tup (he : HE X S e (rD X.K as)) : HIt Lt X S tg e as := fun σ H s Rr f pins sh I => (pi_tup pe_w).run pins sh σ H Rr I ((he σ H s).mono fun v H1 ⟨e1, q, xs, r1, r2, r3⟩ =>
  ⟨q, r1, ⟨xs, r2⟩, f _ H1 _ e1 walk_tupT ⟨xs, r2, r3⟩ fun Ha Hb ⟨ys, h1, h2⟩ o => ⟨ys, o.sqT h1, Ims.upT o _ _ h2⟩⟩)
theorem walk_listT {q : Addr} {K : PySem.W.Frag} : Walk (Itl K q) as.length (fun H => Ls K H (.ref q) as) (YT K as) := by
  refine ⟨fun i H hi ⟨q', xs, e, h1, h2⟩ => ?_, fun H ⟨q', xs, e, h1, h2⟩ => ?_, fun i H x H' hi ⟨q', xs, e, h1, h2⟩ y => ?_⟩
  · cases e
    have l := h2.length
    rw [List.length_map] at l
    exact ⟨xs, xs[i], h1, List.getElem?_eq_getElem (by omega)⟩
  · cases e
    have l := h2.length
    rw [List.length_map] at l
    exact ⟨xs, h1, by omega⟩
  · cases e
    obtain ⟨e, y⟩ := y
    subst e
    refine ⟨Ex.refl _, ?_⟩
    obtain ⟨k, hk, ik⟩ := h2.get (y xs h1)
    rw [List.getElem?_map] at hk
    obtain ⟨a, ha, ea⟩ := Option.map_eq_some_iff.mp hk
    exact ⟨a, ha, by rw [← ea] at ik; exact ik⟩
theorem hi_list (he : HE X S e (rLs X.K as)) : HIt Ex X S tg e as := fun σ H s Rr f pins sh I => (pi_list pe_w).run pins sh σ H Rr I ((he σ H s).mono fun v H1 ⟨e1, r⟩ => by
  obtain ⟨q, xs, rfl, r2, r3⟩ := rLs.ls r
  exact ⟨q, rfl, ⟨xs, r2⟩, f _ H1 _ e1 walk_listT ⟨q, xs, rfl, r2, r3⟩ fun Ha Hb h o => Ls.up h (le_of o)⟩)
theorem walk_rangeT {lo hi : Int} {K : PySem.W.Frag} {n : Nat} (hn : n = (hi - lo).toNat) : Walk (Itr lo n) (rgL lo hi).length (fun _ => True) (YT K (rgL lo hi)) := by
  have l : (rgL lo hi).length = n := by unfold rgL; rw [List.length_map, List.length_range, hn]
  refine ⟨fun i H hi _ => by show i < n; omega, fun H _ => by show n ≤ _; omega, fun i H x H' hi _ y => ?_⟩
  obtain ⟨e, y⟩ := y
  subst e
  refine ⟨Ex.refl _, lo + i, ?_, y⟩
  unfold rgL
  rw [List.getElem?_map, List.getElem?_range (by omega)]
  rfl
theorem hi_range1 {n : Int} {ord : Hp → Hp → Prop} (Bm : Bi X.mg) (he : HE X S a (rD X.K n)) (h0 : 0 ≤ n) (h1 : n ≤ 100000) (hg : Gl X "range" := by rfl) (hs : starEach [a] X.env = [(false, eval a X.env)] := by rfl) (hs2 : starEach [a] X.env = (false, eval a X.env) :: starEach [] X.env := by rfl) : HIt ord X S tg (.Call (.Name "range" p) [a] [] pos) (rgL 0 n) := fun σ H s Rr f pins sh I =>
  (pi_range1 hg Bm.range pa_w hs).run pins sh σ H Rr I ((ha_cons he ha_nil hs2 σ H s).mono fun vs H1 ⟨e1, r⟩ => by
    obtain ⟨v, rfl, r1⟩ := rs1 r
    refine ⟨n, by rw [show v = .int n from r1], by omega, by omega, f _ H1 (fun _ => True) e1 (walk_rangeT (by omega)) trivial fun _ _ _ _ => trivial⟩)
theorem hi_range2 {n m : Int} {ord : Hp → Hp → Prop} (Bm : Bi X.mg) (he : HE X S a (rD X.K m)) (he2 : HE X S b (rD X.K n)) (h0 : 0 ≤ m ∧ m ≤ 100000) (h1 : 0 ≤ n ∧ n ≤ 100000) (hg : Gl X "range" := by rfl) (hs : starEach [a, b] X.env = [(false, eval a X.env), (false, eval b X.env)] := by rfl) (hs2 : starEach [b] X.env = [(false, eval b X.env)] := by rfl)
    (hs3 : starEach [a, b] X.env = (false, eval a X.env) :: starEach [b] X.env := by rfl) (hs4 : starEach [b] X.env = (false, eval b X.env) :: starEach [] X.env := by rfl) : HIt ord X S tg (.Call (.Name "range" p) [a, b] [] pos) (rgL m n) := fun σ H s Rr f pins sh I =>
  (pi_range2 hg Bm.range pa_w hs hs2).run pins sh σ H Rr I ((ha_cons he (ha_cons he2 ha_nil hs4) hs3 σ H s).mono fun vs H1 ⟨e1, r⟩ => by
    obtain ⟨v, u, rfl, r1, r2⟩ := rs2 r
    refine ⟨m, n, by rw [show v = .int m from r1, show u = .int n from r2], ⟨by omega, by omega, by omega, by omega⟩, f _ H1 (fun _ => True) e1 (walk_rangeT rfl) trivial fun _ _ _ _ => trivial⟩)
/-! ### for -/
/-- the ends of a loop's body -/
abbrev LE (X : Cx) (rest : List Stmt) (D : Ends) (S' : SA) : Ends := { nx := S', ct := S', bk := wB X rest D, rt := D.rt }
theorem hb_for {body : List Stmt} (Γi : Nat → Gam) (Δi : Nat → List Own) (f : α → Gam → Gam) {vs : List Nat} (hc : X.calm = true) (hp : PassesOwn (model X.prog X.w) X.A X.env X.xe) (hi : HIt Lt X (SS B Γ Δ) tg it as) (h0 : Subg (Γi 0) Γ) (hΔ : List.Sublist (Δi 0) Δ) (hg : ∀ u, HG X tg (rD X.K u) (f u) vs)
    (hb : ∀ t i u, as[i]? = some u → HB X (SS ⟨B.s, B.f, t⟩ (f u (Γi i)) (Δi i)) body (LE X rest D (SS ⟨B.s, B.f, t⟩ (Γi (i + 1)) (Δi (i + 1)))))
    (hd : HB X (SS B (Γi as.length) (Δi as.length)) rest D) (hs : ∀ z, foldedSetIterable it X.env z = pure z := by intro _; rfl) : HB X (SS B Γ Δ) (.For tg it body [] pos :: rest) D :=
  hb_of (ps_for hp hc pi_w pg_w pb_w hs) fun σ H s => hi σ H s _ fun J H1 G e1 w g0 gk => by
    have s1 := Stab.up s e1
    refine for_it w (fun i σ' H' => SS ⟨B.s, B.f, H1⟩ (Γi i) (Δi i) σ' H') ((s1.now.sub h0).drop hΔ) (fun i σ' H' _ s' => gk H1 H' g0 s'.lt) (fun i x σ' Ha Hb hi s' y => ?_) (fun σ' H' s' => hd σ' H' (SS.back (B := B) s' s1.lt))
    obtain ⟨e2, u, hu, ru⟩ := y
    intro pins sh uu I rv
    refine thn (hg u _ _ _ σ' Hb x (Stab.up s' e2) ru pins sh uu I rv) fun _ s3 ⟨σ2, H2, I2, r1, r2, _⟩ => ⟨σ2, H2, I2, ?_⟩
    subst r1
    exact hb H1 i u hu σ2 H2 r2
/-- over a list that stays: hG -/
theorem hb_forG {body : List Stmt} {q : Addr} (Γi : Nat → Gam) (Δi : Nat → List Own) (f : α → Gam → Gam) {vs : List Nat} (hc : X.calm = true) (hp : PassesOwn (model X.prog X.w) X.A X.env X.xe) {σ : L2.St} {H1 : Hp} (s1 : SS B Γ Δ σ H1) (h0 : SS ⟨B.s, B.f, H1⟩ (Γi 0) (Δi 0) σ H1)
    (hG : ∀ i σ H, SS ⟨B.s, B.f, H1⟩ (Γi i) (Δi i) σ H → Ls X.K H (.ref q) as) (hg : ∀ u, HG X tg (rD X.K u) (f u) vs)
    (hb : ∀ t i u, as[i]? = some u → HB X (SS ⟨B.s, B.f, t⟩ (f u (Γi i)) (Δi i)) body (LE X rest D (SS ⟨B.s, B.f, t⟩ (Γi (i + 1)) (Δi (i + 1)))))
    (hd : HB X (SS B (Γi as.length) (Δi as.length)) rest D) : ∃ W : Nat → Nat → L2.St → Hp → Prop, (∃ m, W 0 m σ H1) ∧ ∀ i m σ H, W i m σ H →
      ((Itl X.K q).stop i H ∧ wB X rest D σ H) ∨ ((Itl X.K q).go i H ∧ ∃ N : L2.St → Hp → Prop, (∀ σ' H', N σ' H' → ∃ m', m' < m ∧ W (i + 1) m' σ' H') ∧ ∀ x H', (Itl X.K q).yld i H x H' → wG X tg x σ H' fun σ2 H2 => wB X body { D with nx := N, ct := N, bk := wB X rest D } σ2 H2) := by
  refine for_it (D := { D with nx := wB X rest D }) walk_listT (fun i σ' H' => SS ⟨B.s, B.f, H1⟩ (Γi i) (Δi i) σ' H') h0 (fun i σ' H' _ s' => hG i σ' H' s') (fun i x σ' Ha Hb hi s' y => ?_) (fun σ' H' s' => hd σ' H' (SS.back (B := B) s' s1.lt))
  obtain ⟨e2, u, hu, ru⟩ := y
  intro pins sh uu I rv
  refine thn (hg u _ _ _ σ' Hb x (Stab.up s' e2) ru pins sh uu I rv) fun _ s3 ⟨σ2, H2, I2, r1, r2, _⟩ => ⟨σ2, H2, I2, ?_⟩
  subst r1
  exact hb H1 i u hu σ2 H2 r2
/-- over a new list -/
theorem hb_forN {body : List Stmt} (Γi : Nat → Gam) (Δi : Nat → List Own) (f : α → Gam → Gam) {vs : List Nat} (hc : X.calm = true) (hp : PassesOwn (model X.prog X.w) X.A X.env X.xe) (he : HN X (SS B Γ Δ) it (CL X.K as)) (h0 : Subg (Γi 0) Γ) (hΔ : List.Sublist (Δi 0) Δ) (hg : ∀ u, HG X tg (rD X.K u) (f u) vs)
    (hb : ∀ t q i u, as[i]? = some u → HB X (SS ⟨B.s, B.f, t⟩ (f u (Γi i)) (oL X.K q as :: Δi i)) body (LE X rest D (SS ⟨B.s, B.f, t⟩ (Γi (i + 1)) (oL X.K q as :: Δi (i + 1)))))
    (hd : HB X (SS B (Γi as.length) (Δi as.length)) rest D) (hs : ∀ z, foldedSetIterable it X.env z = pure z := by intro _; rfl) : HB X (SS B Γ Δ) (.For tg it body [] pos :: rest) D :=
  hb_of (ps_for hp hc (pi_list pe_w) pg_w pb_w hs) fun σ H s => (he σ H s).mono fun v H1 ⟨e1, q, r1, r2, xs, r3, r4⟩ => by
    have s1 : SS B Γ (oL X.K q as :: Δ) σ H1 := s.add e1 (o := oL X.K q as) r2 ⟨xs, r3, r4⟩
    refine ⟨q, r1, ⟨xs, .of r3⟩, hb_forG (q := q) Γi (fun i => oL X.K q as :: Δi i) f hc hp s1 ((s1.now.sub h0).drop (hΔ.cons_cons _)) (fun i σ H s => ?_) hg (fun t i u hu => hb t q i u hu) fun σ H s => hd σ H (s.drop (List.sublist_cons_self ..))⟩
    obtain ⟨xs, h1, h2⟩ := s.own _ (List.mem_cons_self ..)
    exact ⟨q, xs, rfl, .of h1, h2⟩
/-- over a parameter's list -/
theorem hb_forP {body : List Stmt} (n : Nat) (Γi : Nat → Gam) (Δi : Nat → List Own) (f : α → Gam → Gam) {vs : List Nat} (hc : X.calm = true) (hp : PassesOwn (model X.prog X.w) X.A X.env X.xe) (hn : Γ[n]? = some (some (cst B.s (rLs X.K as)))) (h0 : Subg (Γi 0) Γ) (hΔ : List.Sublist (Δi 0) Δ) (hg : ∀ u, HG X tg (rD X.K u) (f u) vs)
    (hb : ∀ t i u, as[i]? = some u → HB X (SS ⟨B.s, B.f, t⟩ (f u (Γi i)) (Δi i)) body (LE X rest D (SS ⟨B.s, B.f, t⟩ (Γi (i + 1)) (Δi (i + 1)))))
    (hd : HB X (SS B (Γi as.length) (Δi as.length)) rest D) (hN : X.N[n]? = some x := by rfl) (hvs : Vis X.env.scope x := by first | exact Or.inl rfl | exact Or.inr (Or.inl rfl) | exact Or.inr (Or.inr rfl)) (hdb : (x == ("__debug__" : Str)) = false := by decide)
    (hcd : (x == ("__classdict__" : Str)) = false := by decide) (hs : ∀ z, foldedSetIterable (.Name x p) X.env z = pure z := by intro _; rfl) : HB X (SS B Γ Δ) (.For tg (.Name x p) body [] pos :: rest) D :=
  hb_of (ps_for hp hc (pi_list (pe_var hN hvs hdb hcd)) pg_w pb_w hs) fun σ H s => by
    obtain ⟨v, h1, h2⟩ := s.get hn
    have h2' : rLs X.K as B.s v := h2
    obtain ⟨q, xs, rfl, h3, h4⟩ := rLs.ls h2'
    refine ⟨_, h1, q, rfl, ⟨xs, s.le.le.sqL h3⟩, hb_forG (q := q) Γi Δi f hc hp s ((s.now.sub h0).drop hΔ) (fun i σ H s => ?_) hg hb hd⟩
    exact ⟨q, xs, rfl, s.le.le.sqL h3, Ims.up s.le.le _ _ h4⟩
end
end CB
end
section
set_option Elab.async false
set_option linter.all false
set_option maxRecDepth 100000
set_option maxHeartbeats 2000000
/-! L. comprehensions; loops over dicts. -/
namespace CB
open PySem PySem.Spec PyProof.Rows L2 Enc

/-- a block's context, any state -/
abbrev Bk (X : Cx) (sc : Scope) (s : Shared) (H : Hp) (C : Addr) (cl : List (Str × Addr)) (fp : List Addr) : Cx := X.blk s H sc (compEnvC sc cl C X.env) fp
theorem take_snoc {β : Type} : ∀ {l : List β} {i : Nat} {x : β}, l[i]? = some x → l.take (i + 1) = l.take i ++ [x]
  | [], i, x, h => by simp at h
  | a :: l, 0, x, h => by
    have e : a = x := Option.some.inj h
    subst e
    rfl
  | a :: l, i + 1, x, h => by
    have ih := take_snoc (l := l) (i := i) (x := x) h
    show a :: l.take (i + 1) = a :: l.take i ++ [x]
    rw [ih]
    rfl
section
variable [Tbs] {X : Cx} {S : SA} [Stab S] {e a b c elt tg it : Expr} {es ifs : List Expr} {R Ra Rb : Rel} {Rs : List Rel} {pos pos' p : Pos} {x : Str} {D : Ends} {st : Stmt} {rest A A2 : List Stmt} {k : Bool} {sc : Scope} {B : Bs} {Γ Γ' : Gam} {Δ Δ' : List Own}
def uG (X : Cx) (sc : Scope) (tg : Expr) : TG := fun v σ H Q => ∀ s H0 C cl fp, wG (Bk X sc s H0 C cl fp) tg v σ H Q
def uE (X : Cx) (sc : Scope) (e : Expr) : TE := fun σ H Q => ∀ s H0 C cl fp, wE (Bk X sc s H0 C cl fp) e σ H Q
def wTs (X : Cx) (ifs : List Expr) : TT := fun σ H Q => ∀ (pins : List (Addr × Obj)) (s : Shared), Inv X pins σ H s →
    wpAny (model X.prog X.w) X.A (forIn ifs true fun c r => if r = true then do let ok ← isTrue c X.env (eval c X.env); pure (ForInStep.yield ok) else pure (ForInStep.yield r)) (TP X pins σ Q) X.xe s
def uTs (X : Cx) (sc : Scope) (ifs : List Expr) : TT := fun σ H Q => ∀ s H0 C cl fp, wTs (Bk X sc s H0 C cl fp) ifs σ H Q
def HTs (X : Cx) (S : SA) (ifs : List Expr) (k : Bool) : Prop := ∀ σ H, S σ H → wTs X ifs σ H fun c H' => Ex H H' ∧ c = k
theorem hts_nil : HTs X S [] true := fun σ H s pins sh I => pts_nil.run pins sh σ H _ I ⟨Ex.refl H, rfl⟩
theorem hts_one (h : HT X S c k) : HTs X S [c] k := fun σ H s pins sh I => (pts_one pt_w).run pins sh σ H _ I (h σ H s)
theorem wTs.mono {σ : L2.St} {H : Hp} {Q Q' : Bool → Hp → Prop} (h : wTs X ifs σ H Q) (f : ∀ v H', Q v H' → Q' v H') : wTs X ifs σ H Q' := fun pins s I =>
  thn (h pins s I) fun u s' ⟨H', I', q⟩ => ⟨H', I', f u H' q⟩
/-- stays while the list at D grows -/
class Keep (R : Addr → Rel) : Prop where
  mon : ∀ D, Mon (R D)
  put : ∀ {D H v acc acc'}, R D H v → H D = some (.lst acc) → R D (upd H D (.lst acc')) v
instance {R : Rel} [Sta R] : Keep fun _ => R := ⟨fun _ => inferInstance, fun r h => Sta.up (Lt.put h loose_lst) r⟩
/-- a list that is not the one at D -/
def rFL (K : PySem.W.Frag) {α : Type} [Enc α] (as : List α) (D : Addr) : Rel := fun H v => ∃ p, v = .ref p ∧ p ≠ D ∧ CL K as p H
instance {K : PySem.W.Frag} {α : Type} [Enc α] {as : List α} : Keep (rFL K as) := ⟨fun D => ⟨fun e h => by
  obtain ⟨p, e1, n, xs, h1, h2⟩ := h
  exact ⟨p, e1, n, xs, e.at_ h1 (fun _ z => (nomatch z)), Ims.up (le_of e) _ _ h2⟩⟩, fun r h => by
  obtain ⟨p, e1, n, xs, h1, h2⟩ := r
  exact ⟨p, e1, n, xs, (upd_ne n).trans h1, Ims.upT (Lt.put h loose_lst) _ _ h2⟩⟩
theorem RsOk.putD {D : Addr} {acc acc' : List V} : ∀ {Rs : List (Addr → Rel)} {H : Hp} {vs : List V}, (∀ R ∈ Rs, Keep R) → H D = some (.lst acc) → RsOk (Rs.map (· D)) H vs → RsOk (Rs.map (· D)) (upd H D (.lst acc')) vs
  | [], _, _, _, _, h => h
  | R :: Rs, _, _, m, hD, h => by
    obtain ⟨v, r, e1, h1, h2⟩ := h
    exact ⟨v, r, e1, (m R (List.mem_cons_self ..)).put h1 hD, RsOk.putD (fun R hR => m R (List.mem_cons_of_mem _ hR)) hD h2⟩
/-- what the new list at D holds -/
def CRs (Rs : List (Addr → Rel)) (D : Addr) (H : Hp) : Prop := ∃ xs, H D = some (.lst xs) ∧ RsOk (Rs.map (· D)) H xs
variable {α : Type} [Enc α] {as : List α}
/-- a comprehension's reading -/
theorem lc_t (pb : α → Bool) (Re : α → Addr → Rel) [∀ u, Keep (Re u)] (f : α → Gam → Gam) {own : List (Str × Nat)} {wi : TI} {σ : L2.St} {H : Hp} (s : SS B Γ Δ σ H)
    (hi : ∀ Rr : It → Hp → Prop, (∀ J H1 (G : Hp → Prop), Ex H H1 → Walk J as.length G (YT X.K as) → G H1 → (∀ Ha Hb, G Ha → Ex Ha Hb → G Hb) → Rr J H1) → wi σ H Rr) (hl : as.length ≤ 10000) (hfr : freeAt Γ (own.map (·.2)) = true)
    (hg : ∀ s H0 C cl fp u, HG (Bk X sc s H0 C cl fp) tg (rD X.K u) (f u) (own.map (·.2))) (ht : ∀ s H0 C cl fp u, u ∈ as → HTs (Bk X sc s H0 C cl fp) (SS B (f u Γ) Δ) ifs (pb u))
    (he : ∀ s H0 C cl fp u q, u ∈ as → pb u = true → ∀ σ H, SS B (f u Γ) Δ σ H → (∃ acc, H q = some (.lst acc)) → wE (Bk X sc s H0 C cl fp) elt σ H fun v H' => Ex H H' ∧ Re u q H' v) :
    tLc wi (uG X sc tg) (uTs X sc ifs) (uE X sc elt) (own.map (·.2)) σ H fun v H' => Ex H H' ∧ ∃ q, v = .ref q ∧ H q = none ∧ CRs ((as.filter pb).map Re) q H' :=
  hi _ fun J H1 G e1 w g0 gk q hq => by
    have s1 := Stab.up s e1
    have hqH : H q = none := none_of_ex e1 hq
    refine lc_it w (fun i H' => Ex H1 H' ∧ ∃ acc, H' q = some (.lst acc) ∧ acc.length ≤ i ∧ RsOk ((((as.take i).filter pb).map Re).map (· q)) H' acc) ⟨Ex.new hq, [], upd_same, Nat.le_refl _, rfl⟩ (fun i H' _ h => gk H1 H' g0 h.1) (fun i x Ha Hb hi hP y => ?_) (fun H' ⟨ex, acc, h1, _, h2⟩ => ⟨e1.trans ex, q, rfl, hqH, acc, h1, ?_⟩)
    · obtain ⟨ea, acc, h1, h2, h3⟩ := hP
      obtain ⟨e2, u, hu, ru⟩ := y
      have hm : u ∈ as := List.mem_of_getElem? hu
      have sb : SS B Γ Δ (wipe σ (own.map (·.2))) Hb := (Stab.up s1 (ea.trans e2)).wiped hfr
      have tk := take_snoc hu
      intro ss H0 C cl fp pins sh uu I rv
      refine thn (hg ss H0 C cl fp u B Γ Δ _ Hb x sb ru pins sh uu I rv) fun _ s3 ⟨σ2, H2, I2, r1, r2, r3, r4⟩ => ⟨σ2, H2, I2, ?_⟩
      subst r1
      refine ⟨(wipe_ext r3 r4).trans wipe_wipe, fun ss H0 C cl fp => ?_⟩
      refine (ht ss H0 C cl fp u hm σ2 H2 r2).mono fun k H3 ⟨e3, ek⟩ => ?_
      subst ek
      have up : RsOk ((((as.take i).filter pb).map Re).map (· q)) H3 acc := RsOk.up (fun R hR => by
        obtain ⟨R', hR', rfl⟩ := List.mem_map.mp hR
        obtain ⟨u', _, rfl⟩ := List.mem_map.mp hR'
        exact Keep.mon q) (e2.trans e3) h3
      have hq3 : H3 q = some (.lst acc) := (e2.trans e3).at_ h1 (fun _ z => (nomatch z))
      cases z : pb u with
      | false =>
        refine iteF ⟨ea.trans (e2.trans e3), acc, hq3, Nat.le_succ_of_le h2, ?_⟩
        rw [tk, List.filter_append, List.filter_cons_of_neg (by rw [z]; exact Bool.false_ne_true), List.filter_nil, List.append_nil]
        exact up
      | true =>
        refine iteT fun ss H0 C cl fp => (he ss H0 C cl fp u q hm z σ2 H3 (Stab.up r2 e3) ⟨acc, hq3⟩).mono fun y H4 ⟨e4, ry⟩ => ⟨acc, e4.at_ hq3 (fun _ z => (nomatch z)), ?_, ?_, acc ++ [y], upd_same, ?_, ?_⟩
        · rw [sizeLine_eq]; omega
        · exact Ex.mut (ea.trans (e2.trans (e3.trans e4))) hq (e4.at_ hq3 (fun _ z => (nomatch z))) pl_lst
        · rw [List.length_append, List.length_singleton]; omega
        · rw [tk, List.filter_append, List.filter_cons_of_pos z, List.filter_nil, List.map_append, List.map_append, List.map_cons, List.map_nil, List.map_cons, List.map_nil]
          refine RsOk.snoc (RsOk.putD (fun R hR => ?_) (e4.at_ hq3 (fun _ z => (nomatch z))) (RsOk.up (fun R hR => ?_) e4 up)) ?_
          · obtain ⟨u', _, rfl⟩ := List.mem_map.mp hR
            infer_instance
          · obtain ⟨R', hR', rfl⟩ := List.mem_map.mp hR
            obtain ⟨u', _, rfl⟩ := List.mem_map.mp hR'
            exact Keep.mon q
          · exact Keep.put ry (e4.at_ hq3 (fun _ z => (nomatch z)))
    · rw [List.take_length] at h2
      exact h2
/-- the comprehension -/
theorem hn_lcR (pb : α → Bool) (Re : α → Addr → Rel) [∀ u, Keep (Re u)] (f : α → Gam → Gam) (own : List (Str × Nat)) (hc : X.calm = true) (hN : X.N.Nodup) (hi : HIt Ex X (SS B Γ Δ) tg it as) (hl : as.length ≤ 10000)
    (hg : ∀ s H0 C cl fp u, HG (Bk X sc s H0 C cl fp) tg (rD X.K u) (f u) (own.map (·.2))) (ht : ∀ s H0 C cl fp u, u ∈ as → HTs (Bk X sc s H0 C cl fp) (SS B (f u Γ) Δ) ifs (pb u))
    (he : ∀ s H0 C cl fp u q, u ∈ as → pb u = true → ∀ σ H, SS B (f u Γ) Δ σ H → (∃ acc, H q = some (.lst acc)) → wE (Bk X sc s H0 C cl fp) elt σ H fun v H' => Ex H H' ∧ Re u q H' v)
    (ok : blkC X.N X.env.scope sc own = true) (hfr : freeAt Γ (own.map (·.2)) = true := by rfl) (hs : ∀ z, foldedSetIterable it X.env z = pure z := by intro _; rfl) :
    HN X (SS B Γ Δ) (.ListComp elt [⟨tg, it, ifs, 0⟩] sc pos) (CRs ((as.filter pb).map Re)) :=
  hn_of (pe_lc (wi := wI X tg it) (g := uG X sc tg) (tt := uTs X sc ifs) (te := uE X sc elt) (own := own) hc hN pi_w (blkOk_by ok) (fun s H C cl fp => ⟨fun pins sh σ H' v u Q I r h => h s H C cl fp pins sh u I r⟩) (fun s H C cl fp => ⟨fun pins sh σ H' Q I h => h s H C cl fp pins sh I⟩)
    (fun s H C cl fp => ⟨fun pins sh σ H' Q I h => h s H C cl fp pins sh I⟩) hs) fun σ H s => lc_t pb Re f s (fun Rr h => hi σ H s Rr h) hl hfr hg ht he
variable {β : Type} [Enc β]
theorem cl_of_crs {K : PySem.W.Frag} {l : List β} {q : Addr} {H : Hp} (h : CRs (l.map fun v _ => rD K v) q H) : CL K l q H := by
  obtain ⟨xs, h1, h2⟩ := h
  rw [List.map_map] at h2
  exact ⟨xs, h1, rsok_ims.mp h2⟩
theorem hn_lc (pb : α → Bool) (g : α → β) (f : α → Gam → Gam) (own : List (Str × Nat)) (hc : X.calm = true) (hN : X.N.Nodup) (hi : HIt Ex X (SS B Γ Δ) tg it as) (hl : as.length ≤ 10000)
    (hg : ∀ s H0 C cl fp u, HG (Bk X sc s H0 C cl fp) tg (rD X.K u) (f u) (own.map (·.2))) (ht : ∀ s H0 C cl fp u, u ∈ as → HTs (Bk X sc s H0 C cl fp) (SS B (f u Γ) Δ) ifs (pb u))
    (he : ∀ s H0 C cl fp u, u ∈ as → pb u = true → HE (Bk X sc s H0 C cl fp) (SS B (f u Γ) Δ) elt (rD X.K (g u)))
    (ok : blkC X.N X.env.scope sc own = true) (hfr : freeAt Γ (own.map (·.2)) = true := by rfl) (hs : ∀ z, foldedSetIterable it X.env z = pure z := by intro _; rfl) :
    HN X (SS B Γ Δ) (.ListComp elt [⟨tg, it, ifs, 0⟩] sc pos) (CL X.K ((as.filter pb).map g)) :=
  (hn_lcR pb (fun u _ => rD X.K (g u)) f own hc hN hi hl hg ht (fun s H0 C cl fp u q hm hp σ H st _ => he s H0 C cl fp u hm hp σ H st) ok hfr hs).imp fun q H h => cl_of_crs (by rw [List.map_map]; exact h)
/-- without a test -/
theorem hn_map (g : α → β) (f : α → Gam → Gam) (own : List (Str × Nat)) (hc : X.calm = true) (hN : X.N.Nodup) (hi : HIt Ex X (SS B Γ Δ) tg it as) (hl : as.length ≤ 10000)
    (hg : ∀ s H0 C cl fp u, HG (Bk X sc s H0 C cl fp) tg (rD X.K u) (f u) (own.map (·.2)))
    (he : ∀ s H0 C cl fp u, u ∈ as → HE (Bk X sc s H0 C cl fp) (SS B (f u Γ) Δ) elt (rD X.K (g u)))
    (ok : blkC X.N X.env.scope sc own = true) (hfr : freeAt Γ (own.map (·.2)) = true := by rfl) (hs : ∀ z, foldedSetIterable it X.env z = pure z := by intro _; rfl) :
    HN X (SS B Γ Δ) (.ListComp elt [⟨tg, it, [], 0⟩] sc pos) (CL X.K (as.map g)) :=
  (hn_lc (fun _ => true) g f own hc hN hi hl hg (fun _ _ _ _ _ _ _ => hts_nil) (fun s H0 C cl fp u hm _ => he s H0 C cl fp u hm) ok hfr hs).imp fun q H h => by
    have e : as.filter (fun _ => true) = as := List.filter_eq_self.mpr fun _ _ => rfl
    rw [e] at h
    exact h
/-- truths -/
theorem he_lcB (g : α → Bool) (f : α → Gam → Gam) (own : List (Str × Nat)) (hc : X.calm = true) (hN : X.N.Nodup) (hi : HIt Ex X (SS B Γ Δ) tg it as) (hl : as.length ≤ 10000)
    (hg : ∀ s H0 C cl fp u, HG (Bk X sc s H0 C cl fp) tg (rD X.K u) (f u) (own.map (·.2)))
    (he : ∀ s H0 C cl fp u, u ∈ as → HE (Bk X sc s H0 C cl fp) (SS B (f u Γ) Δ) elt (rB (g u)))
    (ok : blkC X.N X.env.scope sc own = true) (hfr : freeAt Γ (own.map (·.2)) = true := by rfl) (hs : ∀ z, foldedSetIterable it X.env z = pure z := by intro _; rfl) :
    HE X (SS B Γ Δ) (.ListComp elt [⟨tg, it, [], 0⟩] sc pos) (rL X.K ((as.map g).map rB)) :=
  (hn_lcR (fun _ => true) (fun u _ => rB (g u)) f own hc hN hi hl hg (fun _ _ _ _ _ _ _ => hts_nil) (fun s H0 C cl fp u q hm _ σ H st _ => he s H0 C cl fp u hm σ H st) ok hfr hs).he fun q H h => by
    obtain ⟨xs, h1, h2⟩ := h
    have e : as.filter (fun _ => true) = as := List.filter_eq_self.mpr fun _ _ => rfl
    rw [e, List.map_map] at h2
    refine ⟨q, xs, rfl, .of h1, ?_⟩
    rw [List.map_map]
    exact h2
theorem RsOk.imp {ι : Type} {f g : ι → Rel} (h : ∀ i H v, f i H v → g i H v) : ∀ {is : List ι} {H : Hp} {vs : List V}, RsOk (is.map f) H vs → RsOk (is.map g) H vs
  | [], _, _, r => r
  | i :: is, _, _, r => by
    obtain ⟨v, vr, e, h1, h2⟩ := r
    exact ⟨v, vr, e, h i _ _ h1, RsOk.imp h h2⟩
/-- new lists as items -/
theorem he_lcL (g : α → List β) (f : α → Gam → Gam) (own : List (Str × Nat)) (hc : X.calm = true) (hN : X.N.Nodup) (hi : HIt Ex X (SS B Γ Δ) tg it as) (hl : as.length ≤ 10000)
    (hg : ∀ s H0 C cl fp u, HG (Bk X sc s H0 C cl fp) tg (rD X.K u) (f u) (own.map (·.2)))
    (he : ∀ s H0 C cl fp u, u ∈ as → HN (Bk X sc s H0 C cl fp) (SS B (f u Γ) Δ) elt (CL X.K (g u)))
    (ok : blkC X.N X.env.scope sc own = true) (hfr : freeAt Γ (own.map (·.2)) = true := by rfl) (hs : ∀ z, foldedSetIterable it X.env z = pure z := by intro _; rfl) :
    HE X (SS B Γ Δ) (.ListComp elt [⟨tg, it, [], 0⟩] sc pos) (rL X.K ((as.map g).map (rLs X.K))) :=
  (hn_lcR (fun _ => true) (fun u q => rFL X.K (g u) q) f own hc hN hi hl hg (fun _ _ _ _ _ _ _ => hts_nil) (fun s H0 C cl fp u q hm _ σ H st ⟨acc, hq⟩ => (he s H0 C cl fp u hm σ H st).mono fun v H' ⟨e1, y, r1, r2, r3⟩ => ⟨e1, y, r1, (fun z => by rw [z, hq] at r2; cases r2), r3⟩) ok hfr hs).he fun q H h => by
    obtain ⟨xs, h1, h2⟩ := h
    have e : as.filter (fun _ => true) = as := List.filter_eq_self.mpr fun _ _ => rfl
    rw [e, List.map_map] at h2
    refine ⟨q, xs, rfl, .of h1, ?_⟩
    rw [List.map_map]
    exact RsOk.imp (fun u H v ⟨y, e2, _, h3⟩ => by rw [e2]; exact ls_of_CL h3) h2
end
end CB
end
section
set_option Elab.async false
set_option linter.all false
set_option maxRecDepth 100000
set_option maxHeartbeats 2000000
/-! M. defs of the text. -/
namespace CB
open PySem PySem.Spec PyProof.Rows L2 Enc

section
variable [Tbs] {X : Cx} {S : SA} [Stab S] {e : Expr} {R : Rel} {pos p : Pos} {x : Str} {D : Ends} {rest : List Stmt} {B : Bs} {Γ : Gam} {Δ : List Own}
theorem hb_rt (he : HE X (SS B Γ Δ) e R) (h : ∀ v H', Ex B.f H' → R H' v → D.rt v H') : HB X (SS B Γ Δ) (.Return (some e) pos :: rest) D := hb_ret he fun σ H H' v s e1 r => h v H' (s.ex.trans e1) r
theorem hb_rtN {C : Addr → Hp → Prop} (he : HN X (SS B Γ Δ) e C) (h : ∀ q H', Ex B.f H' → B.f q = none → C q H' → D.rt (.ref q) H') : HB X (SS B Γ Δ) (.Return (some e) pos :: rest) D :=
  hb_retN he fun σ H H' q s e1 n c => h q H' (s.ex.trans e1) (none_of_ex s.ex n) c
theorem hb_rtO {q : Addr} {o : Own} (i n : Nat) (hΓ : Γ[i]? = some (some (rEq (.ref q)))) (hΔ : Δ[n]? = some o) (hq : o.p = q) (h : ∀ H', Ex B.f H' → B.f q = none → o.C H' → D.rt (.ref q) H') (hN : X.N[i]? = some x := by rfl) (hv : Vis X.env.scope x := by first | exact Or.inl rfl | exact Or.inr (Or.inl rfl) | exact Or.inr (Or.inr rfl)) (hd : (x == ("__debug__" : Str)) = false := by decide)
    (hcd : (x == ("__classdict__" : Str)) = false := by decide) : HB X (SS B Γ Δ) (.Return (some (.Name x p)) pos :: rest) D :=
  hb_of (ps_ret (pe_var hN hv hd hcd)) fun σ H s => by
    obtain ⟨v, h1, h2⟩ := s.get hΓ
    have e : v = .ref q := h2
    subst e
    have ho := List.mem_of_getElem? hΔ
    exact ⟨_, h1, h H s.ex (by rw [← hq]; exact (s.fr o ho).2) (s.own o ho)⟩
end
/-! ### the text -/
abbrev FnP (K : PySem.W.Frag) (x : Str) (st : Stmt) (f : Addr) (fd : FuncData) : Prop := FunD K x x (defArgs st) (defBody st) (defScope st) [] [] f fd
/-- the def at the place i, named x -/
def Has (K : PySem.W.Frag) (mg : Str → Option Value) (i : Nat) (x : Str) : Prop := ∃ (f : Addr) (fd : FuncData), mg x = some (.ref f) ∧ FnP K x (top i) f fd
abbrev D0 [Tbs] (H : Hp) (R : Hp → Rel) : Ends := { nx := fun _ H' => Ex H H' ∧ R H H' .non, rt := fun v H' => Ex H H' ∧ R H H' v }
abbrev G0 (H : Hp) (N : List Str) (Rs : List Rel) : Gam := (Rs.map fun R => some (cst H R)) ++ List.replicate (N.length - Rs.length) none
section
variable [Tbs] {P : Program} {w : World} {K : PySem.W.Frag} {mg : Str → Option Value} {base : Heap}
theorem known_of {x : Str} {i k : Nat} {N ps : List Str} {p : PR} (T : Has K mg i x) (sc : FnScope N ps (defScope (top i)))
    (hb : ∀ (kV doc pm : Value) (an : Option Addr) (cdv ct : Value) (us : List Value), us.length = ps.length → bindArgs (PySem.W.fnOf x x (defArgs (top i)) (defBody (top i)) (defScope (top i)) .none kV doc pm an cdv ct) ⟨us, []⟩ = pure (ps.zip us))
    (hp : ∀ Rs R, p Rs R → Rs.length = ps.length)
    (body : ∀ (f : Addr) (cdv : Value) (A : Around) (outer : List Env) (s : Shared) (H : Hp) (E : XK), Room k (A.deeper (envOfC x (defScope (top i)) s.heap.objs.size f cdv)) → ∀ Rs R, p Rs R →
      HB (cxOf CX0 P w K mg base N x (defScope (top i)) f cdv A outer s H E).nox (SS ⟨H, H, H⟩ (G0 H N Rs) []) (defBody (top i)) (D0 H R)) : Known P w K mg base (k + 1) x (spF p) := by
  obtain ⟨f, fd, hm, F⟩ := T
  refine ⟨f, fd, ps, F.ok sc (fun vs H Q E h => ?_) (fun cdv A outer s H vs Q E hr h => ?_), hm, F.kp, F.bindsN hb⟩
  · obtain ⟨Rs, R, h1, h2, _⟩ := h
    rw [h2.len]
    exact hp Rs R h1
  · obtain ⟨Rs, R, h1, h2, htb, h3⟩ := h
    have hl : Rs.length ≤ N.length := by
      have := congrArg List.length sc.pre
      rw [List.length_take] at this
      have := hp Rs R h1
      omega
    refine ⟨_, PSs.nox (pb_w (X := (cxOf CX0 P w K mg base N x (defScope (top i)) f cdv A outer s H E).nox) (b := defBody (top i))), fun pins sh I => ?_⟩
    refine thn (body f cdv A outer s H E hr Rs R h1 _ H (SS.start h2 hl htb) pins sh I) fun fl s' q => ?_
    cases fl with
    | next => obtain ⟨σ', H', I', e1, q⟩ := q; exact ⟨σ', H', I', h3 _ _ e1 q⟩
    | ret u => obtain ⟨v, σ', H', I', r, e1, q⟩ := q; exact ⟨v, σ', H', I', r, h3 _ _ e1 q⟩
    | brk => obtain ⟨_, _, _, q⟩ := q; exact q.elim
    | cont => obtain ⟨_, _, _, q⟩ := q; exact q.elim
end
end CB
end
section
set_option Elab.async false
set_option linter.all false
set_option maxRecDepth 100000
set_option maxHeartbeats 2000000
/-! N. more statements; fractions. -/
namespace CB
open PySem PySem.Spec PyProof.Rows L2 Enc

section
variable [Tbs] {X : Cx} {S : SA} [Stab S] {e a b c : Expr} {R Ra Rb : Rel} {pos p pos' : Pos} {x y : Str} {D : Ends} {rest body : List Stmt} {B : Bs} {Γ : Gam} {Δ : List Own}
theorem SS.cur {σ : L2.St} {H : Hp} (s : SS B Γ Δ σ H) {i : Nat} [m : Sta R] (h : Γ[i]? = some (some (cst B.s R))) : SS B (Γ.set i (some R)) Δ σ H := by
  obtain ⟨v, h1, h2⟩ := s.get h
  have z := SS.set (i := i) s (R := R) (v := v) (MonK.up s.le h2)
  have hlt : i < σ.length := (List.getElem?_eq_some_iff.mp h1).1
  have e : σ.set i (some v) = σ := by
    refine List.ext_getElem? fun j => ?_
    by_cases q : i = j
    · subst q
      rw [List.getElem?_set_self hlt, h1]
    · rw [List.getElem?_set_ne q]
  rw [e] at z
  exact z
theorem hb_cur (i : Nat) [Sta R] (h : Γ[i]? = some (some (cst B.s R))) (hb : HB X (SS B (Γ.set i (some R)) Δ) rest D) : HB X (SS B Γ Δ) rest D := fun σ H s => hb σ H (s.cur h)
/-- while: a family of states with a measure -/
theorem hb_while {ι : Type} (St : ι → SA) [∀ g, Stab (St g)] (tb : ι → Bool) (μ : ι → Nat) (g0 : ι) (hp : PassesOwn (model X.prog X.w) X.A X.env X.xe) (h0 : ∀ σ H, S σ H → St g0 σ H) (hc : ∀ g, HT X (St g) c (tb g))
    (hb : ∀ g, tb g = true → HB X (St g) body (LE X rest D fun σ H => ∃ g', μ g' < μ g ∧ St g' σ H)) (hd : ∀ g, tb g = false → HB X (St g) rest D) : HB X S (.While c body [] pos :: rest) D :=
  hb_of (ps_while hp pt_w pb_w) fun σ H s => by
    refine ⟨fun m σ H => ∃ g, m = μ g ∧ St g σ H, ⟨_, g0, rfl, h0 σ H s⟩, ?_⟩
    rintro m σ1 H1 ⟨g, rfl, s1⟩
    refine (hc g σ1 H1 s1).mono fun k H2 ⟨e1, ek⟩ => ?_
    subst ek
    have s2 := Stab.up s1 e1
    cases z : tb g with
    | true => exact iteT ⟨fun σ H => ∃ g', μ g' < μ g ∧ St g' σ H, fun σ' H' ⟨g', l, s'⟩ => ⟨_, l, g', rfl, s'⟩, hb g z σ1 H2 s2⟩
    | false => exact iteF (hd g z σ1 H2 s2)
/-- x, y = a, b -/
theorem hb_par (i j : Nat) {px py pt pt2 : Pos} {kt k2 : Nat} (hc : X.calm = true) (ha : HE X (SS B Γ Δ) a Ra) (hb : HE X (SS B Γ Δ) b Rb) [Sta Ra] [Sta Rb] (h : HB X (SS B ((Γ.set i (some Ra)).set j (some Rb)) Δ) rest D) (hN : X.N.Nodup) (hij : i ≠ j) (hi : X.N[i]? = some x := by rfl) (hj : X.N[j]? = some y := by rfl)
    (hx : X.env.scope.names.lookup x = some .local := by rfl) (hy : X.env.scope.names.lookup y = some .local := by rfl) (hs1 : starEach [a, b] X.env = (false, eval a X.env) :: starEach [b] X.env := by rfl) (hs2 : starEach [b] X.env = (false, eval b X.env) :: starEach [] X.env := by rfl)
    (hw : swappedStores [.Tuple [.Name x px, .Name y py] kt pt] (.Tuple [a, b] k2 pt2) X.env = pure (some [x, y]) := by rfl)
    (hs : swapsWithSole [.Tuple [.Name x px, .Name y py] kt pt] (.Tuple [a, b] k2 pt2) pos.line X.env = pure false := by rfl) : HB X (SS B Γ Δ) (.Assign [.Tuple [.Name x px, .Name y py] kt pt] (.Tuple [a, b] k2 pt2) pos :: rest) D :=
  hb_of (ps_par hc hN hi hj hij hx hy pa_w hw hs) fun σ H s => (ha_cons ha (ha_cons hb ha_nil hs2) hs1 σ H s).mono fun vs H1 ⟨e1, r⟩ => by
    obtain ⟨v, u, rfl, h1, h2⟩ := rs2 r
    exact ⟨v, u, rfl, h _ _ (((Stab.up s e1).set h1).set h2)⟩
/-- x *= b, ints -/
theorem ip_mulW : PIp X .Mult (fun x y H Q => ∃ i j, x = .int i ∧ y = .int j ∧ CMulW i j ∧ Q (.int (i * j)) H) := by
  intro pins s σ H x y v u Q I r1 r2 h
  obtain ⟨i, j, e1, e2, c, q⟩ := h
  subst e1; subst e2
  obtain ⟨t, rfl⟩ := r1
  obtain ⟨t', rfl⟩ := r2
  exact imul_int ⟨.int _, H, I.tok _, ⟨_, rfl⟩, q⟩ c.ok
theorem hb_mulI (i : Nat) {m n : Int} (hi' : Γ[i]? = some (some (rD X.K m))) (he : HE X (SS B Γ Δ) e (rD X.K n)) (hc : CMulW m n) (h : HB X (SS B (Γ.set i (some (rD X.K (m * n)))) Δ) rest D) (hN : X.N.Nodup) (hi : X.N[i]? = some x := by rfl) (hx : Loc X.env.scope x := by first | exact Or.inl rfl | exact Or.inr rfl)
    (hf : X.fn x = true ∨ X.env.scope.names.lookup x = some .local := by first | exact .inl rfl | exact .inr rfl) : HB X (SS B Γ Δ) (.AugAssign (.Name x pos') .Mult e pos :: rest) D :=
  hb_of (ps_aug hN hi hx pe_w ip_mulW hf) fun σ H s => by
    obtain ⟨v, h1, h2⟩ := s.get hi'
    exact ⟨v, h1, (he σ H s).mono fun w H1 ⟨e1, r⟩ => ⟨m, n, h2, r, hc, h _ _ ((Stab.up s e1).set rfl)⟩⟩
theorem hb_never (h : ∀ σ H, S σ H → False) {b : List Stmt} : HB X S b D := fun σ H s => (h σ H s).elim
end
/-! ### fractions -/
theorem rat_mk {n : Int} {d : Nat} (h : d ≠ 0) : (mkRat n d).num = n / (n.natAbs.gcd d : Nat) ∧ (mkRat n d).den = d / n.natAbs.gcd d := by
  rw [Rat.mkRat_def, dif_neg h, Rat.normalize_eq]
  exact ⟨rfl, rfl⟩
theorem rat_add (a b : Rat) : a + b = mkRat (a.num * b.den + b.num * a.den) (a.den * b.den) := by rw [Rat.add_def, Rat.normalize_eq_mkRat]
theorem rat_mul (a b : Rat) : a * b = mkRat (a.num * b.num) (a.den * b.den) := by rw [Rat.mul_def, Rat.normalize_eq_mkRat]
theorem rat_div (a b : Rat) (h : 0 < b.num) : a / b = mkRat (a.num * b.den) (a.den * b.num.toNat) := by
  have e : b⁻¹ = mkRat b.den b.num.toNat := by
    rw [Rat.inv_def]
    obtain ⟨k, hk⟩ := Int.eq_ofNat_of_zero_le (Int.le_of_lt h)
    rw [hk]
    rfl
  rw [Rat.div_def, e]
  conv => lhs; rw [← Rat.mkRat_self a]
  rw [Rat.mkRat_mul_mkRat]
/-- below 2^n -/
def Bt (n : Nat) (q : Rat) : Prop := q.num.natAbs < 2 ^ n ∧ q.den < 2 ^ n
def Ok2 (a b : Rat) : Prop := ∃ n m, Bt n a ∧ Bt m b ∧ n + m ≤ 8999
theorem mul_lt {a b n m : Nat} (h : a < 2 ^ n) (h2 : b < 2 ^ m) : a * b < 2 ^ (n + m) := by
  rw [Nat.pow_add]
  exact Nat.mul_lt_mul'' h h2
theorem log2_lt {a n : Nat} (h : a < 2 ^ (n + 1)) : a.log2 ≤ n := by
  by_cases e : a = 0
  · subst e
    exact Nat.zero_le _
  · have := (Nat.log2_lt e).mpr h
    omega
theorem cmul_of {i j : Int} {n m : Nat} (h : i.natAbs < 2 ^ n) (h2 : j.natAbs < 2 ^ m) (hs : n + m ≤ 100000) : CMulW i j := by
  have h1 : i.natAbs < 2 ^ (n + 1) := Nat.lt_of_lt_of_le h (Nat.pow_le_pow_right (by decide) (by omega))
  have h3 : j.natAbs < 2 ^ (m + 1) := Nat.lt_of_lt_of_le h2 (Nat.pow_le_pow_right (by decide) (by omega))
  have := log2_lt h1
  have := log2_lt h3
  show _ + _ < _
  omega
theorem cdiv_of {i : Int} {j : Nat} (h0 : 0 < j) (h : j < 2 ^ 9000) : CDivW i (j : Int) := by
  refine ⟨by omega, ?_⟩
  rw [Int.natAbs_natCast]
  exact (Nat.log2_lt (by omega)).mpr h
end CB
end
section
set_option Elab.async false
set_option linter.all false
set_option maxRecDepth 100000
set_option maxHeartbeats 2000000
/-! O. enumerate over a tuple, zip, ranges as lists; loops with ghosts. -/
namespace PySem
open AutoSeq1 (wpAny_loadPart')
theorem meets_enumerate_newB1 {v : Value} {o : Obj} {H : Heap → Prop} (B : Begins v o H) :
    Meets (Builtin.«enumerate.__new__» ⟨[.type "enumerate", v], []⟩) (fun _ R s => H s.heap ∧
      R (.ok (.ret (.ref (s.heap.push o).objs.size))) { s with heap := (s.heap.push o).push { cls := .type "enumerate", data := .fields #[.none, .bool false, .ref s.heap.objs.size, rawInt 0, .none, .none] } }) :=
  .of_wp fun prog w A R s h => by
    obtain ⟨hp, g, d, tk, os⟩ := s; obtain ⟨h1, h⟩ := h
    have hsub := sub_enumerate
    have q1 : ∀ {A' : Around} {E : Value → Shared → Prop} {Q : Value → Shared → Prop}, Q (.ref hp.objs.size) ⟨hp.push o, g, d, tk, os⟩ → wpAny (model prog w) A' (pyIter v) Q E ⟨hp, g, d, tk, os⟩ :=
      fun q => B.iter prog w _ _ ⟨hp, g, d, tk, os⟩ _ h1 q
    wp_walk using q1
    refine wpAny_stack_any fun st => wpAny_pure ?_
    split
    · rename_i c _ _ _ _ _
      cases (c == Value.type "enumerate")
      · wp_walk using q1
        exact ⟨_, rfl, h⟩
      · wp_walk using q1
        exact ⟨_, rfl, h⟩
    · wp_walk using q1
      exact ⟨_, rfl, h⟩
theorem enum_begins1 {prog : Program} {w : World} {A : Around} {E : Value → Shared → Prop} {s : Shared} {v : Value} {o : Obj} {H : Heap → Prop} {Q : Value → Shared → Prop} (B : Begins v o H) (h1 : H s.heap)
    (h : ∀ h', IsEnum h' (s.heap.objs.size + 1) s.heap.objs.size 0 .none → h'.get? s.heap.objs.size = some o → h'.objs.size = s.heap.objs.size + 2 →
      (∀ b o, s.heap.get? b = some o → h'.get? b = some o) → Q (.ref (s.heap.objs.size + 1)) { s with heap := h' }) :
    wpAny (model prog w) A (call (.type "enumerate") [v]) Q E s := by
  refine callType_new F.called_enumerate (by decide) (F.typeCall_enumerate_1 _) (F.newCall_enumerate_1 _) (fun obj => F.args_object_init_2 obj _) F.entry_enumerate_new
    (meets_enumerate_newB1 B) ⟨h1, ?_⟩
  have hz : (s.heap.push o).objs.size = s.heap.objs.size + 1 := Heap.size_push ..
  show _ ∧ _
  rw [hz]
  have he : IsEnum ((s.heap.push o).push { cls := .type "enumerate", data := .fields #[.none, .bool false, .ref s.heap.objs.size, rawInt 0, .none, .none] }) (s.heap.objs.size + 1) s.heap.objs.size 0 .none := by
    have := Heap.get?_push_size (s.heap.push o) (o := { cls := .type "enumerate", data := .fields #[.none, .bool false, .ref s.heap.objs.size, rawInt 0, .none, .none] }) rfl
    rw [hz] at this; exact this
  refine ⟨⟨_, he, rfl⟩, h _ he (Heap.get?_push_of_some _ (Heap.get?_push_size _ B.free)) (by rw [Heap.size_push, hz]) fun b o x => Heap.get?_push_of_some _ (Heap.get?_push_of_some _ x)⟩
end PySem
namespace CB
open PySem PySem.Spec PyProof.Rows L2 Enc

/-- the tuple at a as it stands, each item in a new pair -/
def IteT (K : PySem.W.Frag) (a : Addr) : It :=
  ⟨fun i H => ∃ (xs : List V) (x : V), SqT K H a xs ∧ xs[i]? = some x, fun i H v H' => ∃ T x, v = .ref T ∧ H T = none ∧ H' = upd H T (.tup [.int (i : Nat), x]) ∧ ∀ xs, SqT K H a xs → xs[i]? = some x, fun i H => ∃ xs : List V, SqT K H a xs ∧ xs.length ≤ i⟩
theorem turn_enumT {P : Program} {w : World} {K : PySem.W.Frag} {elts : List Expr} {kk : Nat} {tpos : Pos} (a e it : Addr) :
    Turn P w K (.Tuple elts kk tpos) (IteT K a) [e, it] e (fun i h => (∃ old, IsEnum h e it ((i : Nat) : Int) old) ∧ h.IsTupleIter it a i ∧ e ≠ it ∧ a ≠ it ∧ a ≠ e) where
  mem := by simp
  obj := fun i h st b hb => by
    obtain ⟨⟨old, he⟩, ⟨o, ho, hc, hd⟩, _⟩ := st
    have e' : b = e ∨ b = it := by simpa using hb
    rcases e' with z | z
    · rw [z]; exact ⟨_, he, fun v q => nomatch q⟩
    · rw [z]; exact ⟨o, ho, fun v q => by rw [hd] at q; cases q⟩
  keep := fun i h h' st k => let ⟨⟨old, he⟩, hi, hne⟩ := st; ⟨⟨old, k e (by simp) _ he⟩, hi.at fun o q => k it (by simp) o q, hne⟩
  item := by
    intro X hP hw hK hc i pins s σ H E I hf st hg
    subst hP hw hK
    obtain ⟨⟨old, he⟩, hit, hne, hai, hae⟩ := st
    obtain ⟨xs, x, hq, hx⟩ := hg
    obtain ⟨its, rv, p, hz⟩ := I.tuple hq
    obtain ⟨u, hu, ru⟩ := rv.get hx
    have hel : e < s.heap.objs.size := Heap.lt_size he
    have hil : it < s.heap.objs.size := by obtain ⟨_, q, _⟩ := hit; exact Heap.lt_size q
    have D := Draws.tuple (prog := X.prog) (w := X.w) (A := X.A.in1) (I.ok.hd hc) it a hai its.toArray
    have hlt : i < its.toArray.size := by
      rw [List.size_toArray]
      exact (List.getElem?_eq_some_iff.mp hu).1
    refine wpAny_pyNext_enum_itemD D he ⟨hit, p⟩ hlt hne (by simp; exact ⟨hne, Ne.symm hae⟩) fun x' h' tk hx' ho ⟨hit', pt'⟩ hT hsz hk => ?_
    have ex' : x' = u := by
      have : its.toArray[i]? = some u := by simpa using hu
      rw [this] at hx'
      exact (Option.some.inj hx').symm
    subst ex'
    refine ⟨_, rfl, wpAny_letOwnedTupleGo_enum (s := { s with heap := h', toks := tk + 1 }) ho fun h'' he' sb => ?_⟩
    have hT2 : h''.get? s.heap.objs.size = some { cls := .type "tuple", data := .seq #[.int i tk, x'] } := (sb.2 _ (Nat.ne_of_gt hel)).trans hT
    have new : ObjOk X.prog X.w (upd H s.heap.objs.size (.tup [.int (i : Nat), x])) h'' s.heap.objs.size (.tup [.int (i : Nat), x]) :=
      ⟨by show 2 ≤ sizeLine; decide, [.int i tk, x'], .cons ⟨_, rfl⟩ (.cons ru .nil), ⟨_, hT2, rfl, _, rfl⟩⟩
    have I1 : Inv X pins σ (upd H s.heap.objs.size (.tup [.int (i : Nat), x])) { s with heap := h'', toks := tk + 1 } :=
      I.turnedNew (ch := [e, it]) (fun b ob hb q => (sb.2 b (fun z => hb (by simp [z]))).trans (hk b ob (fun z => hb (by simp [z])) (fun z => hb (by simp [z])) q)) hf (Nat.le_refl _) new
    refine ⟨.ref s.heap.objs.size, _, I1, rfl, ⟨_, x, rfl, I.hok.fresh (Nat.le_refl _), rfl, fun ys hy => by rw [I.tuple_inj hy hq]; exact hx⟩, ⟨⟨x', ?_⟩, hit'.at fun o q => (sb.2 it (Ne.symm hne)).trans q, hne, hai, hae⟩, fun b hb => ?_⟩
    · have e1 : ((i + 1 : Nat) : Int) = (i : Int) + 1 := by omega
      rw [e1]; exact he'
    · have hb' : b < s.heap.objs.size := by
        have e' : b = e ∨ b = it := by simpa using hb
        rcases e' with z | z
        · rw [z]; exact hel
        · rw [z]; exact hil
      rw [upd_ne (Nat.ne_of_lt hb')]
      exact (hf b hb).1
  done := by
    intro X hP hw hK hc i pins s σ H E I hf st hg
    subst hP hw hK
    obtain ⟨⟨old, he⟩, hit, hne, hai, hae⟩ := st
    obtain ⟨xs, hq, hx⟩ := hg
    obtain ⟨its, rv, p, hz⟩ := I.tuple hq
    obtain ⟨f0, f1, f2, f3, f4, f5⟩ := hf it (by simp)
    have hl := rv.length
    unfold pyNext
    have hT : s.TypeIs (.ref e) "enumerate" := ⟨_, he, rfl⟩
    refine wpAny_bind (wpAny_attempt (wpAny_callSpecial?_slot (name := Str.ofString "__next__") hT F.slot_enumerate_next
      (wpAny_call_entry F.slot_enumerate_next hT F.entry_enumerate_next ?_ (F.args_enumerate_next_1 _))))
    show wpAny _ _ (field (.ref e) 2 >>= _) _ _ _
    refine wpAny_bind (wpAny_field he rfl (x := .ref it) rfl ?_)
    refine wpAny_bind (wpAny_nextOf_tuple_end (I.ok.hd hc) hit p (by simp; omega) fun h' x he' hx' => ?_)
    obtain ⟨o, ho, hc'⟩ := hx'
    refine wpAny_bind (wpAny_isInstance (T := "StopIteration") (b := true) ⟨o, ho, hc'⟩ isSubtype_stop ?_)
    exact wpAny_pure ⟨rfl, I.turned (t' := s.toks) (fun b o hb q => he' b o hb q) f0 f1 f3 f4 f5⟩
  self := fun A i s Q E st h => let ⟨⟨_, he⟩, _⟩ := st; wpAny_pyIter_enum he h
def iEnumT (K : PySem.W.Frag) (ta : TA) : TI := fun σ H R => ta σ H fun vs H1 => ∃ a xs, vs = [.ref a] ∧ SqT K H1 a xs ∧ R (IteT K a) H1
theorem pi_enumT {X : Cx} {e : Expr} {ta : TA} {p pos tpos : Pos} {elts : List Expr} {kk : Nat} (hg : Gl X "enumerate") (hm : X.mg "enumerate" = none) (ha : PA X [e] ta) (hs : starEach [e] X.env = [(false, eval e X.env)] := by rfl) :
    PI X (.Tuple elts kk tpos) (.Call (.Name "enumerate" p) [e] [] pos) (iEnumT X.K ta) := by
  refine ⟨fun pins s σ H R I h => ?_⟩
  refine Call_ (ld_blt I hg hm boot_enumerate (PyProof.Rows.callWith_type1 (thn (ha.run pos pins s σ H _ I h) fun us s1 ⟨vs, H1, I1, r1, q1⟩ => ?_) hs rfl))
  obtain ⟨a, xs, ex, hq, q⟩ := q1
  subst ex
  cases r1 with
  | cons r rr =>
    cases rr
    cases r
    obtain ⟨its, rv, p', hz⟩ := I1.tuple hq
    have hal : a < s1.heap.objs.size := by obtain ⟨o, q, _⟩ := id p'; exact Heap.lt_size q
    refine enum_begins1 (begins_tuple a its.toArray) p' fun h' he hit hsz hk => wpAny_pyIter_enum he ?_
    have I2 : Inv X pins σ H1 { s1 with heap := h' } := I1.kept (t' := s1.toks) hk
    refine ⟨s1.heap.objs.size + 1, [s1.heap.objs.size + 1, s1.heap.objs.size], _, _, H1, rfl, I2, turn_enumT a (s1.heap.objs.size + 1) s1.heap.objs.size, ⟨⟨.none, he⟩, ⟨_, hit, rfl, rfl⟩, Nat.succ_ne_self _, Nat.ne_of_lt hal, Nat.ne_of_lt (Nat.lt_succ_of_lt hal)⟩, fun b hb => ?_, q⟩
    have e' : b = s1.heap.objs.size + 1 ∨ b = s1.heap.objs.size := by simpa using hb
    have hle : s1.heap.objs.size ≤ b := by
      rcases e' with z | z
      · rw [z]; exact Nat.le_add_right _ _
      · rw [z]; exact Nat.le_refl _
    exact I1.fpOk hle (I1.hok.fresh hle)
/-- (0, a), (1, b), .. -/
def enumL {α : Type} (as : List α) : List (Int × α) := as.zipIdx.map fun p => ((p.2 : Int), p.1)
theorem enumL_get {α : Type} {as : List α} {i : Nat} {a : α} (h : as[i]? = some a) : (enumL as)[i]? = some ((i : Int), a) := by
  unfold enumL
  rw [List.getElem?_map, List.getElem?_zipIdx, h]
  simp
theorem enumL_len {α : Type} (as : List α) : (enumL as).length = as.length := by unfold enumL; rw [List.length_map, List.length_zipIdx]
section
variable [Tbs] {X : Cx} {S : SA} [Stab S] {e a b c it : Expr} {R Ra Rb : Rel} {pos p pos' p2 tpos : Pos} {x y : Str} {D : Ends} {rest body : List Stmt} {B : Bs} {Γ : Gam} {Δ : List Own} {K : PySem.W.Frag} {α β : Type} [Enc α] [Enc β] {as : List α} {bs : List β} {elts : List Expr} {kk : Nat}
theorem walk_enumT {q : Addr} {K : PySem.W.Frag} : Walk (IteT K q) (enumL as).length (fun H => ∃ xs, SqT K H q xs ∧ Ims K H (as.map enc) xs) (YT K (enumL as)) := by
  rw [enumL_len]
  refine ⟨fun i H hi ⟨xs, h1, h2⟩ => ?_, fun H ⟨xs, h1, h2⟩ => ⟨xs, h1, ?_⟩, fun i H v H' hi ⟨xs, h1, h2⟩ y => ?_⟩
  · have l := h2.length
    rw [List.length_map] at l
    exact ⟨xs, xs[i], h1, List.getElem?_eq_getElem (by omega)⟩
  · have l := h2.length
    rw [List.length_map] at l
    omega
  · obtain ⟨T, x, rfl, hT, rfl, y⟩ := y
    obtain ⟨k, hk, ik⟩ := h2.get (y xs h1)
    rw [List.getElem?_map] at hk
    obtain ⟨a, ha, ea⟩ := Option.map_eq_some_iff.mp hk
    refine ⟨Ex.new hT, ((i : Int), a), enumL_get ha, T, [.int (i : Nat), x], rfl, .of upd_same, .int (i : Nat), [x], rfl, rfl, x, [], rfl, ?_, rfl⟩
    rw [← ea] at ik
    exact Im.up (le_of (Ex.new hT)) _ _ ik
theorem hi_enum (Bm : Bi X.mg) (he : HE X S e (rD X.K as)) (hg : Gl X "enumerate" := by rfl) (hs : starEach [e] X.env = [(false, eval e X.env)] := by rfl) : HIt Lt X S (.Tuple elts kk tpos) (.Call (.Name "enumerate" p) [e] [] pos) (enumL as) := fun σ H s Rr f pins sh I =>
  (pi_enumT hg Bm.enumerate pa_w hs).run pins sh σ H Rr I ((ha_cons he ha_nil hs σ H s).mono fun vs H1 ⟨e1, r⟩ => by
    obtain ⟨v, rfl, q, xs, rfl, r2, r3⟩ := rs1 r
    exact ⟨q, xs, rfl, r2, f _ H1 _ e1 walk_enumT ⟨xs, r2, r3⟩ fun Ha Hb ⟨ys, h1, h2⟩ o => ⟨ys, o.sqT h1, Ims.upT o _ _ h2⟩⟩)
theorem walk_zipT {q q2 : Addr} {K : PySem.W.Frag} : Walk (RZ.ItzT K q q2) (as.zip bs).length (fun H => (∃ xs, SqT K H q xs ∧ Ims K H (as.map enc) xs) ∧ ∃ ys, SqT K H q2 ys ∧ Ims K H (bs.map enc) ys) (YT K (as.zip bs)) := by
  rw [List.length_zip]
  refine ⟨fun i H hi ⟨⟨xs, h1, h2⟩, ys, g1, g2⟩ => ?_, fun H ⟨⟨xs, h1, h2⟩, ys, g1, g2⟩ => ⟨xs, ys, h1, g1, ?_⟩, fun i H v H' hi ⟨⟨xs, h1, h2⟩, ys, g1, g2⟩ y => ?_⟩
  · have l := h2.length
    have l2 := g2.length
    rw [List.length_map] at l l2
    exact ⟨xs, ys, xs[i], ys[i], h1, g1, List.getElem?_eq_getElem (by omega), List.getElem?_eq_getElem (by omega)⟩
  · have l := h2.length
    have l2 := g2.length
    rw [List.length_map] at l l2
    omega
  · obtain ⟨T, x, z, rfl, hT, rfl, y1, y2⟩ := y
    obtain ⟨k, hk, ik⟩ := h2.get (y1 xs h1)
    obtain ⟨k2, hk2, ik2⟩ := g2.get (y2 ys g1)
    rw [List.getElem?_map] at hk hk2
    obtain ⟨a, ha, ea⟩ := Option.map_eq_some_iff.mp hk
    obtain ⟨b, hb, eb⟩ := Option.map_eq_some_iff.mp hk2
    rw [← ea] at ik
    rw [← eb] at ik2
    refine ⟨Ex.new hT, (a, b), ?_, T, [x, z], rfl, .of upd_same, x, [z], rfl, Im.up (le_of (Ex.new hT)) _ _ ik, z, [], rfl, Im.up (le_of (Ex.new hT)) _ _ ik2, rfl⟩
    rw [List.getElem?_zip_eq_some]
    exact ⟨ha, hb⟩
theorem hi_zip (Bm : Bi X.mg) (ha : HE X S a (rD X.K as)) (hb : HE X S b (rD X.K bs)) (hg : Gl X "zip" := by rfl) (hs : starEach [a, b] X.env = (false, eval a X.env) :: starEach [b] X.env := by rfl) (hs2 : starEach [b] X.env = (false, eval b X.env) :: starEach [] X.env := by rfl) (hpl : (backTo pos (starEach [b] X.env)).any (·.1) = false := by rfl) :
    HIt Lt X S (.Tuple elts kk tpos) (.Call (.Name "zip" p) [a, b] [] pos) (as.zip bs) := fun σ H s Rr f pins sh I =>
  (RZ.pi_zipA hg Bm.zip pa_w hs hpl).run pins sh σ H Rr I ((ha_cons ha (ha_cons hb ha_nil hs2) hs σ H s).mono fun vs H1 ⟨e1, r⟩ => by
    obtain ⟨v, u, rfl, ⟨q, xs, rfl, r2, r3⟩, q2, ys, rfl, g2, g3⟩ := rs2 r
    exact ⟨q, q2, xs, ys, rfl, .inr ⟨r2, g2, f _ H1 _ e1 walk_zipT ⟨⟨xs, r2, r3⟩, ys, g2, g3⟩ fun Ha Hb ⟨⟨xs, h1, h2⟩, ys, h3, h4⟩ o => ⟨⟨xs, o.sqT h1, Ims.upT o _ _ h2⟩, ys, o.sqT h3, Ims.upT o _ _ h4⟩⟩⟩)
/-- list(range(n)), tuple(range(n)) -/
theorem rgV_rgL {a b : Int} : rgV a b = (rgL a b).map V.int := by
  unfold rgV rgL
  rw [List.map_map]
  rfl
theorem hn_listRg {n : Int} (hc : X.calm = true) (Bm : Bi X.mg) (ha : HE X S a (rD X.K n)) (h0 : 0 ≤ n) (h1 : n ≤ 100000) {pos3 : Pos} (hg : Gl X "list" := by rfl) (hg2 : Gl X "range" := by rfl) (na : starEach [a] X.env = (false, eval a X.env) :: starEach [] X.env := by rfl)
    (na2 : starEach [.Call (.Name "range" p2) [a] [] pos3] X.env = (false, eval (.Call (.Name "range" p2) [a] [] pos3) X.env) :: starEach [] X.env := by rfl) : HN X S (.Call (.Name "list" p) [.Call (.Name "range" p2) [a] [] pos3] [] pos) (CL X.K (rgL 0 n)) :=
  hn_of (pe_listRg hc hg Bm.list (prg_1 hg2 Bm.range pe_w na) na2) fun σ H s => (ha σ H s).mono fun v H1 ⟨e1, r⟩ => ⟨n, r, RgOk.of_le (Int.le_refl _) (by omega) (by omega) h0, fun q hq => ⟨e1.trans (Ex.new hq), q, rfl, none_of_ex e1 hq, _, upd_same, by rw [rgV_rgL]; exact ints_ims _⟩⟩
theorem he_tupRg {n : Int} (hc : X.calm = true) (Bm : Bi X.mg) (ha : HE X S a (rD X.K n)) (h0 : 0 ≤ n) (h1 : n ≤ 100000) {pos3 : Pos} (hg : Gl X "tuple" := by rfl) (hg2 : Gl X "range" := by rfl) (na : starEach [a] X.env = (false, eval a X.env) :: starEach [] X.env := by rfl)
    (na2 : starEach [.Call (.Name "range" p2) [a] [] pos3] X.env = (false, eval (.Call (.Name "range" p2) [a] [] pos3) X.env) :: starEach [] X.env := by rfl) : HE X S (.Call (.Name "tuple" p) [.Call (.Name "range" p2) [a] [] pos3] [] pos) (rD X.K (rgL 0 n)) :=
  he_of (pe_tupRg hc hg Bm.tuple (prg_1 hg2 Bm.range pe_w na) na2) fun σ H s => (ha σ H s).mono fun v H1 ⟨e1, r⟩ => ⟨n, r, RgOk.of_le (Int.le_refl _) (by omega) (by omega) h0, fun q hq => ⟨e1.trans (Ex.new hq), q, _, rfl, .of upd_same, by rw [rgV_rgL]; exact ints_ims _⟩⟩
/-- [a, b, ..] -/
theorem hn_lst {es : List Expr} {l : List α} (ha : HA X S es (l.map (rD X.K))) (hl : l.length ≤ 1000) : HN X S (.List es pos) (CL X.K l) :=
  hn_of (pe_lst pa_w) fun σ H s => (ha σ H s).mono fun xs H1 ⟨e1, r1⟩ => by
    have h2 := rsok_ims.mp r1
    have l2 := h2.length
    have l3 := r1.len
    rw [List.length_map] at l2
    exact ⟨by rw [sizeLine_eq]; omega, fun q hq => ⟨e1.trans (Ex.new hq), q, rfl, none_of_ex e1 hq, xs, upd_same, Ims.up (le_of (Ex.new hq)) _ _ h2⟩⟩
/-- a list of one -/
theorem hn_lst0 : HN X S (.List [] pos) (CL X.K ([] : List α)) := hn_of (pe_lst pa_w) fun σ H s => (ha_nil σ H s).mono fun xs H1 ⟨e1, r1⟩ => by
  rw [show xs = [] from r1]
  exact ⟨Nat.zero_le _, fun q hq => ⟨e1.trans (Ex.new hq), q, rfl, none_of_ex e1 hq, [], upd_same, rfl⟩⟩
/-- xs + new list -/
theorem hn_cat {as bs : List α} (i n : Nat) {q : Addr} {K : PySem.W.Frag} (h : Γ[i]? = some (some (rEq (.ref q)))) (h2 : Δ[n]? = some (oL K q as)) (hb : HN X (SS B Γ Δ) b (CL K bs)) (hz : as.length + bs.length ≤ 10000) (hN : X.N[i]? = some x := by rfl) (hv : Vis X.env.scope x := by first | exact Or.inl rfl | exact Or.inr (Or.inl rfl) | exact Or.inr (Or.inr rfl)) (hd : (x == ("__debug__" : Str)) = false := by decide)
    (hcd : (x == ("__classdict__" : Str)) = false := by decide) : HN X (SS B Γ Δ) (.BinOp (.Name x p) .Add b pos) (CL K (as ++ bs)) :=
  hn_of (pe_op op_cat (pe_var hN hv hd hcd) pe_w) fun σ H s => by
    obtain ⟨v, h1, h3⟩ := s.get h
    have e : v = .ref q := h3
    subst e
    refine ⟨_, h1, (hb σ H s).mono fun y H1 ⟨e1, q2, r1, r2, ys, r3, r4⟩ => ?_⟩
    have s1 := Stab.up s e1
    obtain ⟨xs, g1, g2⟩ := s1.own _ (List.mem_of_getElem? h2)
    have l1 := g2.length
    have l2 := r4.length
    rw [List.length_map] at l1 l2
    refine ⟨q, q2, xs, ys, rfl, r1, g1, r3, by rw [sizeLine_eq]; omega, fun r hr => ⟨e1.trans (Ex.new hr), r, rfl, none_of_ex e1 hr, xs ++ ys, upd_same, ?_⟩⟩
    rw [List.map_append]
    exact Ims.up (le_of (Ex.new hr)) _ _ (g2.append r4)
theorem ims_rep {H : Hp} {k : NestedKey} {z : V} (h : Im K H k z) : ∀ m : Nat, Ims K H (List.replicate m k) (List.replicate m z)
  | 0 => rfl
  | m + 1 => ⟨z, _, rfl, h, ims_rep h m⟩
/-- (u,) * n -/
theorem he_rep {u : α} {n : Int} (ha : HE X S a (rD X.K [u])) (hb : HE X S b (rD X.K n)) (h0 : 2 ≤ n) (h1 : n ≤ 1000) : HE X S (.BinOp a .Mult b pos) (rD X.K (List.replicate n.toNat u)) :=
  he_op op_repT ha hb (fun x y H h2 h3 => by
    obtain ⟨q, xs, rfl, h4, z, r, rfl, h5, h6⟩ := h2
    rw [show r = [] from h6] at h4
    refine ⟨q, n, [z], rfl, h3, h4, by simp, h0, h1, by simp, fun r hr => ⟨Ex.new hr, r, _, rfl, .of upd_same, ?_⟩⟩
    have e1 : (List.replicate n.toNat [z]).flatten = List.replicate n.toNat z := by
      induction n.toNat with
      | zero => rfl
      | succ m ih => rw [List.replicate_succ, List.replicate_succ, List.flatten_cons, ih]; rfl
    rw [e1, List.map_replicate]
    exact ims_rep (Im.up (le_of (Ex.new hr)) _ _ h5) _) fun x y H Q Q' f ⟨l, k, xs, e1, e2, h1, h2, h3, h4, h5, h6⟩ => ⟨l, k, xs, e1, e2, h1, h2, h3, h4, h5, fun r hr => f _ _ (h6 r hr)⟩
end
end CB
end
section
set_option Elab.async false
set_option linter.all false
set_option maxRecDepth 100000
set_option maxHeartbeats 2000000
/-! P. loops with ghosts. -/
namespace CB
open PySem PySem.Spec PyProof.Rows L2 Enc

theorem SS.subd [Tbs] {B : Bs} {Γ Γ' : Gam} {Δ Δ' : List Own} {σ : L2.St} {H : Hp} (s : SS B Γ Δ σ H) (h : Subg Γ' Γ) (hd : List.Sublist Δ' Δ) : SS B Γ' Δ' σ H := (s.sub h).drop hd
section
variable [Tbs] {X : Cx} {S : SA} [Stab S] {e a b c it tg : Expr} {R Ra Rb : Rel} {pos p pos' p2 tpos : Pos} {x y : Str} {D : Ends} {rest body : List Stmt} {B : Bs} {Γ : Gam} {Δ : List Own} {K : PySem.W.Frag} {α β : Type} {as : List α} {ι : Type}
/-- items told by Ra -/
abbrev YR (Ra : α → Rel) (as : List α) : Nat → Hp → V → Hp → Prop := fun i H x H' => Ex H H' ∧ ∃ a, as[i]? = some a ∧ Ra a H' x
/-- the body's end with a ghost -/
abbrev LX (X : Cx) (rest : List Stmt) (D : Ends) (B : Bs) (t : Hp) (Γi : ι → Nat → Gam) (Δi : ι → Nat → List Own) (i : Nat) : Ends := LE X rest D fun σ H => ∃ g, SS ⟨B.s, B.f, t⟩ (Γi g i) (Δi g i) σ H
theorem for_coreX {J : It} {G : Hp → Prop} {Ra : α → Rel} (w : Walk J as.length G (YR Ra as)) (Γi : ι → Nat → Gam) (Δi : ι → Nat → List Own) (g0 : ι) (f : α → Gam → Gam) {vs : List Nat} {σ : L2.St} {H1 : Hp} (s1 : SS B Γ Δ σ H1) (h0 : SS ⟨B.s, B.f, H1⟩ (Γi g0 0) (Δi g0 0) σ H1)
    (hG : ∀ g i σ H, SS ⟨B.s, B.f, H1⟩ (Γi g i) (Δi g i) σ H → G H) (hg : ∀ u, HG X tg (Ra u) (f u) vs)
    (hb : ∀ t g i u, as[i]? = some u → HB X (SS ⟨B.s, B.f, t⟩ (f u (Γi g i)) (Δi g i)) body (LX X rest D B t Γi Δi (i + 1)))
    (hd : ∀ g, HB X (SS B (Γi g as.length) (Δi g as.length)) rest D) : ∃ W : Nat → Nat → L2.St → Hp → Prop, (∃ m, W 0 m σ H1) ∧ ∀ i m σ H, W i m σ H →
      (J.stop i H ∧ wB X rest D σ H) ∨ (J.go i H ∧ ∃ N : L2.St → Hp → Prop, (∀ σ' H', N σ' H' → ∃ m', m' < m ∧ W (i + 1) m' σ' H') ∧ ∀ x H', J.yld i H x H' → wG X tg x σ H' fun σ2 H2 => wB X body { D with nx := N, ct := N, bk := wB X rest D } σ2 H2) := by
  refine for_it (D := { D with nx := wB X rest D }) w (fun i σ' H' => ∃ g, SS ⟨B.s, B.f, H1⟩ (Γi g i) (Δi g i) σ' H') ⟨g0, h0⟩ (fun i σ' H' _ ⟨g, s'⟩ => hG g i σ' H' s') (fun i x σ' Ha Hb hi ⟨g, s'⟩ y => ?_) (fun σ' H' ⟨g, s'⟩ => hd g σ' H' (SS.back (B := B) s' s1.lt))
  obtain ⟨e2, u, hu, ru⟩ := y
  intro pins sh uu I rv
  refine thn (hg u _ _ _ σ' Hb x (Stab.up s' e2) ru pins sh uu I rv) fun _ s3 ⟨σ2, H2, I2, r1, r2, _⟩ => ⟨σ2, H2, I2, ?_⟩
  subst r1
  exact hb H1 g i u hu σ2 H2 r2
/-- over a parameter's list of lists -/
theorem walk_listR {q : Addr} {Ra : α → Rel} [∀ u, MonK (Ra u)] {H0 : Hp} {xs : List V} (h4 : RsOk (as.map Ra) H0 xs) : Walk (Itl K q) as.length (fun H => SqL K H q xs ∧ Lk H0 H) (YR (fun u => cst H0 (Ra u)) as) := by
  have l := h4.len
  rw [List.length_map] at l
  refine ⟨fun i H hi ⟨h1, _⟩ => ⟨xs, xs[i], h1, List.getElem?_eq_getElem (by omega)⟩, fun H ⟨h1, _⟩ => ⟨xs, h1, by omega⟩, fun i H x H' hi ⟨h1, _⟩ y => ?_⟩
  obtain ⟨e, y⟩ := y
  subst e
  obtain ⟨R, hR, r⟩ := h4.get (y xs h1)
  rw [List.getElem?_map] at hR
  obtain ⟨a, ha, ea⟩ := Option.map_eq_some_iff.mp hR
  exact ⟨Ex.refl _, a, ha, by rw [← ea] at r; exact r⟩
variable [Enc α] [Enc β]
theorem hb_forX (Γi : ι → Nat → Gam) (Δi : ι → Nat → List Own) (g0 : ι) (f : α → Gam → Gam) {vs : List Nat} (hc : X.calm = true) (hp : PassesOwn (model X.prog X.w) X.A X.env X.xe) (hi : HIt Lt X (SS B Γ Δ) tg it as) (h0 : Subg (Γi g0 0) Γ) (hΔ : List.Sublist (Δi g0 0) Δ) (hg : ∀ u, HG X tg (rD X.K u) (f u) vs)
    (hb : ∀ t g i u, as[i]? = some u → HB X (SS ⟨B.s, B.f, t⟩ (f u (Γi g i)) (Δi g i)) body (LX X rest D B t Γi Δi (i + 1)))
    (hd : ∀ g, HB X (SS B (Γi g as.length) (Δi g as.length)) rest D) (hs : ∀ z, foldedSetIterable it X.env z = pure z := by intro _; rfl) : HB X (SS B Γ Δ) (.For tg it body [] pos :: rest) D :=
  hb_of (ps_for hp hc pi_w pg_w pb_w hs) fun σ H s => hi σ H s _ fun J H1 G e1 w g1 gk => by
    have s1 := Stab.up s e1
    exact for_coreX (Ra := rD X.K) w Γi Δi g0 f s1 ((s1.now.sub h0).drop hΔ) (fun g i σ' H' s' => gk H1 H' g1 s'.lt) hg hb hd
/-- over a new list -/
theorem hb_forNX (Γi : ι → Nat → Gam) (Δi : ι → Nat → List Own) (g0 : ι) (f : α → Gam → Gam) {vs : List Nat} (hc : X.calm = true) (hp : PassesOwn (model X.prog X.w) X.A X.env X.xe) (he : HN X (SS B Γ Δ) it (CL X.K as)) (h0 : Subg (Γi g0 0) Γ) (hΔ : List.Sublist (Δi g0 0) Δ) (hg : ∀ u, HG X tg (rD X.K u) (f u) vs)
    (hb : ∀ t q g i u, as[i]? = some u → HB X (SS ⟨B.s, B.f, t⟩ (f u (Γi g i)) (oL X.K q as :: Δi g i)) body (LX X rest D B t Γi (fun g i => oL X.K q as :: Δi g i) (i + 1)))
    (hd : ∀ g, HB X (SS B (Γi g as.length) (Δi g as.length)) rest D) (hs : ∀ z, foldedSetIterable it X.env z = pure z := by intro _; rfl) : HB X (SS B Γ Δ) (.For tg it body [] pos :: rest) D :=
  hb_of (ps_for hp hc (pi_list pe_w) pg_w pb_w hs) fun σ H s => (he σ H s).mono fun v H1 ⟨e1, q, r1, r2, xs, r3, r4⟩ => by
    have s1 : SS B Γ (oL X.K q as :: Δ) σ H1 := s.add e1 (o := oL X.K q as) r2 ⟨xs, r3, r4⟩
    refine ⟨q, r1, ⟨xs, .of r3⟩, for_coreX (Ra := rD X.K) walk_listT Γi (fun g i => oL X.K q as :: Δi g i) g0 f s1 ((s1.now.sub h0).drop (hΔ.cons_cons _)) (fun g i σ H s => ?_) hg (fun t g i u hu => hb t q g i u hu) fun g σ H s => hd g σ H (s.drop (List.sublist_cons_self ..))⟩
    obtain ⟨xs, h1, h2⟩ := s.own _ (List.mem_cons_self ..)
    exact ⟨q, xs, rfl, .of h1, h2⟩
/-- over a parameter's list -/
theorem hb_forPX (n : Nat) (Γi : ι → Nat → Gam) (Δi : ι → Nat → List Own) (g0 : ι) (f : α → Gam → Gam) {vs : List Nat} (hc : X.calm = true) (hp : PassesOwn (model X.prog X.w) X.A X.env X.xe) (hn : Γ[n]? = some (some (cst B.s (rLs X.K as)))) (h0 : Subg (Γi g0 0) Γ) (hΔ : List.Sublist (Δi g0 0) Δ) (hg : ∀ u, HG X tg (rD X.K u) (f u) vs)
    (hb : ∀ t g i u, as[i]? = some u → HB X (SS ⟨B.s, B.f, t⟩ (f u (Γi g i)) (Δi g i)) body (LX X rest D B t Γi Δi (i + 1)))
    (hd : ∀ g, HB X (SS B (Γi g as.length) (Δi g as.length)) rest D) (hN : X.N[n]? = some x := by rfl) (hvs : Vis X.env.scope x := by first | exact Or.inl rfl | exact Or.inr (Or.inl rfl) | exact Or.inr (Or.inr rfl)) (hdb : (x == ("__debug__" : Str)) = false := by decide)
    (hcd : (x == ("__classdict__" : Str)) = false := by decide) (hs : ∀ z, foldedSetIterable (.Name x p) X.env z = pure z := by intro _; rfl) : HB X (SS B Γ Δ) (.For tg (.Name x p) body [] pos :: rest) D :=
  hb_of (ps_for hp hc (pi_list (pe_var hN hvs hdb hcd)) pg_w pb_w hs) fun σ H s => by
    obtain ⟨v, h1, h2⟩ := s.get hn
    have h2' : rLs X.K as B.s v := h2
    obtain ⟨q, xs, rfl, h3, h4⟩ := rLs.ls h2'
    exact ⟨_, h1, q, rfl, ⟨xs, s.le.le.sqL h3⟩, for_coreX (Ra := rD X.K) walk_listT Γi Δi g0 f s ((s.now.sub h0).drop hΔ) (fun g i σ H s => ⟨q, xs, rfl, s.le.le.sqL h3, Ims.up s.le.le _ _ h4⟩) hg hb hd⟩
/-- over an own list that stands in slot n -/
theorem hb_forOX (n m : Nat) {q : Addr} (Γi : ι → Nat → Gam) (Δi : ι → Nat → List Own) (g0 : ι) (f : α → Gam → Gam) {vs : List Nat} (hc : X.calm = true) (hp : PassesOwn (model X.prog X.w) X.A X.env X.xe) (hn : Γ[n]? = some (some (rEq (.ref q)))) (hm : Δ[m]? = some (oL X.K q as)) (h0 : Subg (Γi g0 0) Γ) (hΔ : List.Sublist (Δi g0 0) Δ) (hO : ∀ g i, oL X.K q as ∈ Δi g i) (hg : ∀ u, HG X tg (rD X.K u) (f u) vs)
    (hb : ∀ t g i u, as[i]? = some u → HB X (SS ⟨B.s, B.f, t⟩ (f u (Γi g i)) (Δi g i)) body (LX X rest D B t Γi Δi (i + 1)))
    (hd : ∀ g, HB X (SS B (Γi g as.length) (Δi g as.length)) rest D) (hN : X.N[n]? = some x := by rfl) (hvs : Vis X.env.scope x := by first | exact Or.inl rfl | exact Or.inr (Or.inl rfl) | exact Or.inr (Or.inr rfl)) (hdb : (x == ("__debug__" : Str)) = false := by decide)
    (hcd : (x == ("__classdict__" : Str)) = false := by decide) (hs : ∀ z, foldedSetIterable (.Name x p) X.env z = pure z := by intro _; rfl) : HB X (SS B Γ Δ) (.For tg (.Name x p) body [] pos :: rest) D :=
  hb_of (ps_for hp hc (pi_list (pe_var hN hvs hdb hcd)) pg_w pb_w hs) fun σ H s => by
    obtain ⟨v, h1, h2⟩ := s.get hn
    have e : v = .ref q := h2
    subst e
    obtain ⟨xs, g1, g2⟩ := s.own _ (List.mem_of_getElem? hm)
    refine ⟨_, h1, q, rfl, ⟨xs, .of g1⟩, for_coreX (Ra := rD X.K) walk_listT Γi Δi g0 f s ((s.now.sub h0).drop hΔ) (fun g i σ H s => ?_) hg hb hd⟩
    obtain ⟨xs, h1, h2⟩ := s.own _ (hO g i)
    exact ⟨q, xs, rfl, .of h1, h2⟩
theorem hb_forRX {γ : Type} {rows : List γ} {Ra : γ → Rel} [∀ u, MonK (Ra u)] (n : Nat) (Γi : ι → Nat → Gam) (Δi : ι → Nat → List Own) (g0 : ι) (f : γ → Gam → Gam) {vs : List Nat} (hc : X.calm = true) (hp : PassesOwn (model X.prog X.w) X.A X.env X.xe) (hn : Γ[n]? = some (some (cst B.s (rL X.K (rows.map Ra))))) (h0 : Subg (Γi g0 0) Γ) (hΔ : List.Sublist (Δi g0 0) Δ) (hg : ∀ u, HG X tg (cst B.s (Ra u)) (f u) vs)
    (hb : ∀ t g i u, rows[i]? = some u → HB X (SS ⟨B.s, B.f, t⟩ (f u (Γi g i)) (Δi g i)) body (LX X rest D B t Γi Δi (i + 1)))
    (hd : ∀ g, HB X (SS B (Γi g rows.length) (Δi g rows.length)) rest D) (hN : X.N[n]? = some x := by rfl) (hvs : Vis X.env.scope x := by first | exact Or.inl rfl | exact Or.inr (Or.inl rfl) | exact Or.inr (Or.inr rfl)) (hdb : (x == ("__debug__" : Str)) = false := by decide)
    (hcd : (x == ("__classdict__" : Str)) = false := by decide) (hs : ∀ z, foldedSetIterable (.Name x p) X.env z = pure z := by intro _; rfl) : HB X (SS B Γ Δ) (.For tg (.Name x p) body [] pos :: rest) D :=
  hb_of (ps_for hp hc (pi_list (pe_var hN hvs hdb hcd)) pg_w pb_w hs) fun σ H s => by
    obtain ⟨v, h1, q, xs, rfl, h3, h4⟩ := s.get hn
    exact ⟨_, h1, q, rfl, ⟨xs, s.le.le.sqL h3⟩, for_coreX (walk_listR h4) Γi Δi g0 f s ((s.now.sub h0).drop hΔ) (fun g i σ H s => ⟨s.le.le.sqL h3, s.le⟩) hg hb hd⟩
end
end CB
end
section
set_option Elab.async false
set_option linter.all false
set_option maxRecDepth 100000
set_option maxHeartbeats 2000000
/-! Q. lambdas; sorted with a key. -/
namespace CB
open PySem PySem.Spec PyProof.Rows L2 Enc

/-- the function object of a lambda -/
def LamO (f : Addr) (q : Str) (params : Arguments) (body : Expr) (scope : Scope) (cl : List (Str × Addr)) (c' : Addr) : HO := .ext fun h => ∃ pm ctv, h.get? f = some (PySem.W.kla_obj "<lambda>" q params body scope cl pm c' ctv)
theorem lamO_pl {f : Addr} {q : Str} {params : Arguments} {body : Expr} {scope : Scope} {cl : List (Str × Addr)} {c' : Addr} (ps : Array Value) : LamO f q params body scope cl c' ≠ .tbl ps := fun z => by
  unfold LamO at z
  cases z
theorem lamO_at {P : Program} {w : World} {H : Hp} {h : Heap} {f : Addr} {q : Str} {params : Arguments} {body : Expr} {scope : Scope} {cl : List (Str × Addr)} {c' : Addr} (hok : HOk P w H h) (e : H f = some (LamO f q params body scope cl c')) : ∃ pm ctv, h.get? f = some (PySem.W.kla_obj "<lambda>" q params body scope cl pm c' ctv) := by
  obtain ⟨z, _, _⟩ := hok f _ e
  exact z
theorem code_at {P : Program} {w : World} {H : Hp} {h : Heap} {c : Addr} {q : Str} (hok : HOk P w H h) (e : H c = some (LamX.CodeO c q)) : h.CodeRec (.ref c) q := by
  obtain ⟨⟨oc, vs, t, h1, h2, h3⟩, _, _⟩ := hok c _ e
  exact ⟨c, oc, vs, t, rfl, h1, h2, h3⟩
/-- what the making of a lambda asks of the maker -/
structure LamC [Tbs] (X : Cx) (c P : Addr) : Prop where
  tab : LamX.TabB X.base X.mg c P
  code : X.env.code = .ref c
  mem : (P, X.env.qual ++ "<lambda>") ∈ Tbs.T
  uniq : ∀ p ∈ Tbs.T, p.1 = P → p.2 = X.env.qual ++ "<lambda>"
/-- what a lambda is, once made -/
structure IsLam (H : Hp) (v : V) (q : Str) (params : Arguments) (body : Expr) (scope : Scope) (cl : List (Str × Addr)) (f c' : Addr) : Prop where
  v : v = .ref f
  fn : H f = some (LamO f q params body scope cl c')
  co : H c' = some (LamX.CodeO c' q)
section
variable [Tbs] {X : Cx} {pins : List (Addr × Obj)} {σ : L2.St} {H : Hp} {s : Shared}
theorem inv_lam {q : Str} {params : Arguments} {body : Expr} {scope : Scope} {cl : List (Str × Addr)} {c' : Addr} {pm ctv : Value} {t' : Nat} (I : Inv X pins σ H s) :
    Inv X pins σ (upd H s.heap.objs.size (LamO s.heap.objs.size q params body scope cl c')) { s with heap := s.heap.push (PySem.W.kla_obj "<lambda>" q params body scope cl pm c' ctv), toks := t' } := by
  refine I.laid (a := s.heap.objs.size) (fun b u e => Heap.get?_push_of_some _ e) (Nat.le_refl _) ?_
  have e : (s.heap.push (PySem.W.kla_obj "<lambda>" q params body scope cl pm c' ctv)).get? s.heap.objs.size = some (PySem.W.kla_obj "<lambda>" q params body scope cl pm c' ctv) := Heap.get?_push_size _ rfl
  exact ⟨⟨pm, ctv, e⟩, ⟨_, e⟩, fun h1 h2 ⟨p, t, z⟩ st => ⟨p, t, st _ z⟩⟩
/-- a lambda is made -/
def tLamM (X : Cx) (params : Arguments) (body : Expr) (scope : Scope) : TE := fun σ H Q => LamX.Tabs Tbs.T H ∧ ∀ H1 f c', Ex H H1 → H1 f = none → H1 c' = some (LamX.CodeO c' (X.env.qual ++ "<lambda>")) → Q (.ref f) (upd H1 f (LamO f (X.env.qual ++ "<lambda>") params body scope (cloFrom X.env.cells scope.names []) c'))
theorem pe_lamM {c P : Addr} {params : Arguments} {body : Expr} {scope : Scope} {pos : Pos} (L : LamC X c P) (hdef : defaultsOf params X.env = ([], [])) (hfree : X.Ok → ∀ y ∈ scope.names, y.2 = .free → ∃ c, X.env.cells.lookup y.1 = some c) :
    PE X (.Lambda params body scope pos) (tLamM X params body scope) := by
  refine ⟨fun pins s σ H Q I h => ?_⟩
  obtain ⟨hT, h⟩ := h
  have hfree := hfree I.ok
  obtain ⟨ps, hP, ht, ha⟩ := hT _ L.mem
  refine PySem.W.kla_eval hdef ?_
  have TB := L.tab
  have bP : s.heap.BuiltinsAt X.mg P := TB.bm.keeps I.bk
  have hP' : s.heap.get? P = some { cls := .none, data := .fields ps } := I.hok P _ hP
  cases hc : codeAmong pos ps.toList with
  | none =>
    refine PySem.W.kla_makeFunction (mg := X.mg) (c := c) (P := P) (ps := ps) (closure_ok hfree) I.ok.glob (I.mod.glob.keeps I.bk) L.code (TB.code.keeps I.bk) hP' ht hc TB.gP bP fun c' ctv h' tk hx hge hlt hrec htb => ?_
    obtain ⟨c2, oc, vs, t, e2, hoc, hd, hv⟩ := hrec
    cases e2
    have nC : H c' = none := I.hok.fresh hge
    have I1 := LamX.inv_table (t' := tk) (more := #[rawInt pos.line, rawInt pos.col, .ref c']) (h' := h') I hP (fun b o hb e => hx b o hb e) htb hge ⟨oc, vs, t, hoc, hd, hv⟩
    have hE : LamX.ExtN H (upd (upd H P (.tbl (ps ++ #[rawInt pos.line, rawInt pos.col, .ref c']))) c' (LamX.CodeO c' (X.env.qual ++ "<lambda>"))) := fun b o e n => by
      rw [upd_ne (ne_of_none e nC), upd_ne (fun z => n ps (Option.some.inj (e.symm.trans (by rw [z]; exact hP))))]
      exact e
    have eL : (ps ++ #[rawInt pos.line, rawInt pos.col, .ref c']).toList = ps.toList ++ [rawInt pos.line, rawInt pos.col, .ref c'] := by simp
    have hT1 : LamX.Tabs Tbs.T (upd (upd H P (.tbl (ps ++ #[rawInt pos.line, rawInt pos.col, .ref c']))) c' (LamX.CodeO c' (X.env.qual ++ "<lambda>"))) := fun p hp => by
      by_cases hb : p.1 = P
      · rw [L.uniq p hp hb, hb]
        refine ⟨_, by rw [upd_ne (ne_of_none hP nC), upd_same], by rw [eL]; exact PySem.TriplesOk_snoc _ _ _ _ ht, fun p' cv hcv => ?_⟩
        rw [eL] at hcv
        rcases LamX.among_app _ ht hcv with z | z
        · obtain ⟨c0, e1, e2⟩ := ha p' cv z
          exact ⟨c0, e1, hE _ _ e2 LamX.codeO_ne⟩
        · exact ⟨c', z, upd_same⟩
      · obtain ⟨ps', a1, a2, a3⟩ := hT p hp
        refine ⟨ps', by rw [upd_ne (ne_of_none a1 nC), upd_ne hb]; exact a1, a2, fun p' cv hcv => ?_⟩
        obtain ⟨c0, e1, e2⟩ := a3 p' cv hcv
        exact ⟨c0, e1, hE _ _ e2 LamX.codeO_ne⟩
    refine ⟨.ref _, _, inv_lam I1, rfl, h _ _ c' ⟨fun {a u} e n => hE a u e n, fun _ => hT1, fun a e => ?_⟩ (I1.hok.fresh (Nat.le_refl _)) upd_same⟩
    by_cases z : a = c'
    · rw [z]; exact nC
    · rw [upd_ne z] at e
      by_cases z2 : a = P
      · rw [z2, upd_same] at e; cases e
      · rw [upd_ne z2] at e; exact e
  | some cv =>
    obtain ⟨c', e, hco⟩ := ha pos cv hc
    subst e
    refine PySem.W.kla_makeFunctionHit (mg := X.mg) (c := c) (P := P) (ps := ps) (closure_ok hfree) I.ok.glob (I.mod.glob.keeps I.bk) L.code (TB.code.keeps I.bk) hP' ht hc bP fun ctv h' tk hx hsz => ?_
    have I1 : Inv X pins σ H { s with heap := h', toks := tk } := I.kept (t' := tk) fun b o e => hx b o e
    exact ⟨.ref _, _, inv_lam I1, rfl, h H _ c' (Ex.refl H) (I1.hok.fresh (Nat.le_refl _)) hco⟩
end
/-! ### a key: (len(x), x) or (-len(x), x) -/
def keyD (neg : Bool) (l : List Int) : PyData := .tuple [.int (if neg then -(l.length : Int) else (l.length : Int)), dat l]
def lenE (x : Str) (p1 p2 p3 : Pos) : Expr := .Call (.Name "len" p1) [.Name x p2] [] p3
def keyE (neg : Bool) (x : Str) (p1 p2 p3 p4 p5 p6 : Pos) (k : Nat) : Expr := .Tuple [if neg then .UnaryOp .USub (lenE x p1 p2 p3) p4 else lenE x p1 p2 p3, .Name x p5] k p6
theorem key_turn {prog : Program} {w : World} {A : Around} {T : Shared} {f c' : Addr} {q x : Str} {params : Arguments} {scope : Scope} {pm ctv : Value} {t : Addr} {l : List Int} {its : List Value} {mg mb : Str → Option Value} {neg : Bool} {p1 p2 p3 p4 p5 p6 : Pos} {kk : Nat}
    (ho : T.heap.get? f = some (PySem.W.kla_obj "<lambda>" q params (keyE neg x p1 p2 p3 p4 p5 p6 kk) scope [] pm c' ctv)) (hc : T.heap.CodeRec (.ref c') q) (hlim : T.heap.NoLimit) (hg : T.heap.Ns mainGlobals mg) (hmg : mg "len" = none) (hb : T.heap.Ns builtinsNs mb) (hmb : mb "len" = bootBuiltins "len")
    (hroom : A.depth < recursionLimit) (hbind : bindArgs (PySem.W.kla_fn "<lambda>" q params (keyE neg x p1 p2 p3 p4 p5 p6 kk) scope [] pm (.ref c') ctv) ⟨[.ref t], []⟩ = pure [(x, .ref t)])
    (h1 : scope.isCoroutine = false) (h2 : scope.isGenerator = false) (h3 : scope.kind = .function) (h4 : scope.names = [(x, .local), ("len", .globalImplicit)]) (hx : (x == ("__debug__" : Str)) = false) (hxl : x ≠ "len")
    (ht : IsTup T.heap t its.toArray) (hlen : its.length = l.length) (hl : l.length ≤ 1000) (hr : Reads T.heap (.ref t) (dat l) []) :
    wpAny (model prog w) A (call (.ref f) [.ref t]) (PySem.W.KeyPure (keyD neg l) T) (fun _ _ => False) T := by
  have lk1 : scope.names.lookup x = some NameKind.local := by rw [h4]; simp [List.lookup]
  have lk2 : scope.names.lookup ("len" : Str) = some NameKind.globalImplicit := by
    rw [h4]
    have : (("len" : Str) == x) = false := beq_eq_false_iff_ne.mpr (Ne.symm hxl)
    simp [List.lookup, this]
  refine wpAny_call (PySem.W.kla_callFunE hroom ho rfl h1 h2 rfl hc ?_)
  rw [hbind]
  refine wpAny_pure (wpAny_newFunctionEnv (fun y hy => by rw [h4] at hy; simp at hy; rcases hy with e | e <;> (rw [e]; exact fun z => nomatch z)) (fun y hy => by rw [List.mem_singleton] at hy; rw [hy]; exact lk1) (fun h₁ hns hsb => ⟨hlim.fresh _ hsb, ?_⟩) h3)
  have kp : ∀ b o, T.heap.get? b = some o → h₁.get? b = some o := fun b o e => hsb.extBut b o (Nat.ne_of_lt (Heap.lt_size e)) (Heap.get?_push_of_some _ e)
  show codeAny _ _ (.expr _ (PySem.W.envX q scope T.heap.objs.size f (.ref c') [])) _ _
  refine PySem.W.kla_codeExpr ?_
  have hlx : (PySem.W.envX q scope T.heap.objs.size f (.ref c') []).kindOf x = some .local := lk1
  have hll : (PySem.W.envX q scope T.heap.objs.size f (.ref c') []).kindOf "len" = some .globalImplicit := lk2
  -- x
  have ldx : ∀ {A : Around} {E : Value → Shared → Prop} {Q : Value → Shared → Prop} {h2 : Heap} {tk : Nat} {p : Pos}, (∀ b o, h₁.get? b = some o → h2.get? b = some o) → Q (.ref t) { T with heap := h2, toks := tk } →
      wpAny (model prog w) A (eval (.Name x p) (PySem.W.envX q scope T.heap.objs.size f (.ref c') [])) Q E { T with heap := h2, toks := tk } := fun {A E Q h2 tk p} k hq =>
    wpAny_Name (wpAny_loadName_local h3 hlx (hns.keeps k) (v := .ref t) (by simp) hq) hx
  -- len(x)
  have ldl : ∀ {A : Around} {E : Value → Shared → Prop} {Q : Value → Shared → Prop} {tk : Nat}, (∀ i tk', i = (l.length : Int) → Q (.int i tk') { T with heap := h₁, toks := tk' + 1 }) →
      wpAny (model prog w) A (eval (lenE x p1 p2 p3) (PySem.W.envX q scope T.heap.objs.size f (.ref c') [])) Q E { T with heap := h₁, toks := tk } := fun {A E Q tk} hq => by
    refine wpAny_Call_Name_kw (Calls.Name_function_global h3 hll (Calls.loadGlobal_builtin (show h₁.Ns mainGlobals mg from hg.keeps kp) hmg (show h₁.Ns builtinsNs mb from hb.keeps kp) (hmb.trans boot_len) ?_))
    refine PyProof.Rows.callWith_builtin1 (e := .Name x p2) (rest := []) (Calls.spliced_cons (ldx (fun _ _ e => e) (Calls.spliced_nil ?_)))
    have ht1 : IsTup h₁ t its.toArray := by
      obtain ⟨o, e1, e2⟩ := ht
      exact ⟨o, kp _ _ e1, e2⟩
    exact PyProof.Rows.len_tuple ht1 (by simp only [List.size_toArray]; omega) (hq _ _ (by rw [List.size_toArray, hlen]))
  have fin : ∀ (i : Int) (u : Tok) (tk : Nat), (keyD neg l) = .tuple [.int i, dat l] → PySem.W.KeyPure (keyD neg l) T (.ref h₁.objs.size) { T with heap := h₁.push { cls := .type "tuple", data := .seq [Value.int i u, .ref t].toArray }, toks := tk } := fun i u tk e => by
    rw [e]
    have kp2 : ∀ b o, T.heap.get? b = some o → (h₁.push { cls := .type "tuple", data := .seq [Value.int i u, .ref t].toArray }).get? b = some o := fun b o z => Heap.get?_push_of_some _ (kp b o z)
    exact ⟨_, tk, rfl, kp2, .tuple (Heap.get?_push_size _ rfl) rfl rfl (.cons (as := []) (bs := []) (.int i u) (.cons (as := []) (bs := []) (PyProof.Rows.Reads.keeps kp2 hr) .nil))⟩
  cases neg with
  | false =>
    refine wpAny_Tuple_spliced (Calls.spliced_cons (ldl fun i tk' hi => Calls.spliced_cons (ldx (fun _ _ e => e) (Calls.spliced_nil ⟨by show 2 ≤ sizeLine; decide, fin i _ _ ?_⟩))))
    rw [hi]
    rfl
  | true =>
    refine wpAny_Tuple_spliced (Calls.spliced_cons (UnaryOp_ (ldl fun i tk' hi => neg_int (Calls.spliced_cons (ldx (fun _ _ e => e) (Calls.spliced_nil ⟨by show 2 ≤ sizeLine; decide, fin (-i) _ _ ?_⟩))))))
    rw [hi]
    rfl
def ksort (neg : Bool) (as : List (List Int)) : List (List Int) := as.mergeSort (PySem.W.dataLe false (keyD neg))
theorem keyD_alike (neg : Bool) (a b : List Int) : PySem.W.alike (keyD neg a) (keyD neg b) = true := by
  have := alk a b
  have h2 : PySem.W.alike (dat a) (dat b) = true := this
  simp [keyD, PySem.W.alike, PySem.W.alikeAll, h2]
theorem keyD_depth (neg : Bool) (a : List Int) : (keyD neg a).depth ≤ 4 := by
  have := dat_depth a
  have h2 : dp (List Int) = 1 := rfl
  rw [h2] at this
  simp [keyD, PyData.depth, PyData.depthAll]
  omega
section
variable [Tbs] {X : Cx}
/-- sorted(as, key=lambda x: (len(x), x)) -/
def rSortK (P : Program) (w : World) (K : PySem.W.Frag) (neg : Bool) (q : Str) (params : Arguments) (body : Expr) (scope : Scope) (as : List (List Int)) : List V → List V → Hp → VK → Prop := fun vs zs H Q => ∃ v f c', vs = [v] ∧ zs = [.ref f] ∧ Ls K H v as ∧ H f = some (LamO f q params body scope [] c') ∧ H c' = some (LamX.CodeO c' q) ∧ NewLs K (ksort neg as) H Q
theorem cr_sortK (neg : Bool) {q x : Str} {params : Arguments} {scope : Scope} {p1 p2 p3 p4 p5 p6 : Pos} {kk : Nat} (as : List (List Int)) (Bm : Bi X.mg) (hu : X.A.units + 40 < cLine) (hroom : X.A.depth + 4 < recursionLimit) (has : as.length ≤ 10000) (hls : ∀ l ∈ as, l.length ≤ 1000)
    (hbind : ∀ (pm ctv : Value) (t c' : Addr), bindArgs (PySem.W.kla_fn "<lambda>" q params (keyE neg x p1 p2 p3 p4 p5 p6 kk) scope [] pm (.ref c') ctv) ⟨[.ref t], []⟩ = pure [(x, .ref t)])
    (h1 : scope.isCoroutine = false) (h2 : scope.isGenerator = false) (h3 : scope.kind = .function) (h4 : scope.names = [(x, .local), ("len", .globalImplicit)]) (hx : (x == ("__debug__" : Str)) = false) (hxl : x ≠ "len") :
    CallRK X (.builtin "sorted") [Str.ofString "key"] (rSortK X.prog X.w X.K neg q params (keyE neg x p1 p2 p3 p4 p5 p6 kk) scope as) := by
  intro pins s σ H vs zs us ws Q I r1 r2 h
  obtain ⟨v, f, c', rfl, rfl, ⟨l, xs, rfl, hl, hi⟩, hf, hco, hq⟩ := h
  obtain ⟨u, rfl, ru⟩ := vals1 r1
  obtain ⟨u2, rfl, ru2⟩ := vals1 r2
  cases ru
  cases ru2
  obtain ⟨its, rv, pl, hz⟩ := I.list hl
  obtain ⟨pm, ctv, of_⟩ := lamO_at I.hok hf
  have hcr := code_at I.hok hco
  obtain ⟨mb, hb1, hb2⟩ := I.mod.blt
  have e : PySem.W.EachIs (RI X.K H) its as := ri_of hi rv
  have hsz : as.length ≤ sizeLine := by rw [sizeLine_eq]; omega
  refine PySem.W.sorted_key_data (b := false) (R := RI X.K H) (keyD neg) pl.isList e (PySem.W.AllAlike.of fun a b => keyD_alike neg a b) (PySem.W.Sortable.tuples fun _ => ⟨_, _, rfl⟩) hsz (fun a _ => ?_) (PyProof.Rows.ksk_s1 _ _) (fun _ => PyProof.Rows.ksk_l1 _ _) (fun _ => PyProof.Rows.ksk_t1 _ _) (fun v a hR ha h tk kp => ?_) fun out c h' tk kp fr hD ho eo => ?_
  · have := keyD_depth neg a
    omega
  · obtain ⟨y, ry, iy⟩ := hR
    obtain ⟨t, ys, rfl, ht, hys⟩ := iy
    cases ry
    obtain ⟨jts, rj, ⟨o, o1, o2, n, o3⟩, _⟩ := I.tuple ht
    have hd := Im.reads I _ _ _ (show Im X.K H (enc a) (.ref t) from ⟨t, ys, rfl, ht, hys⟩) (show RelV (.ref t) (.ref t) from rfl)
    have l1 := rj.length
    have l2 := hys.length
    rw [List.length_map] at l2
    obtain ⟨c2, oc, vs2, tq, e2, hoc, hdc, hvc⟩ := hcr
    refine key_turn (T := { s with heap := h, toks := tk }) (kp _ _ of_) ⟨c2, oc, vs2, tq, e2, kp _ _ hoc, hdc, hvc⟩ (I.nolimit.keeps kp) ((I.mod.glob.keeps I.bk).keeps kp) Bm.len ((hb1.keeps I.bk).keeps kp) (hb2 _ (by decide)) ?_ (hbind pm ctv t c') h1 h2 h3 h4 hx hxl ⟨o, kp _ _ o1, o2, n, o3⟩ (by omega) (hls a ha) (PyProof.Rows.Reads.keeps kp hd)
    show X.A.depth < recursionLimit
    omega
  · obtain ⟨zs, i2, r2⟩ := of_ri eo
    have hn : H (s.heap.objs.size + 1) = none := I.hok.fresh (Nat.le_succ _)
    have hy : zs.length ≤ sizeLine := by
      have h1 := i2.length
      rw [List.length_map, List.length_mergeSort] at h1
      omega
    exact ⟨.ref (s.heap.objs.size + 1), upd H (s.heap.objs.size + 1) (.lst zs), I.laid (t' := tk) kp (Nat.le_succ _) (show ObjOk X.prog X.w _ _ _ (.lst zs) from ⟨hy, _, c, r2, hD⟩), rfl, hq _ zs hn i2⟩
variable {S : SA} [Stab S] {a : Expr}
/-- sorted(xs, key=lambda ..) -/
theorem hn_sortK (neg : Bool) {c P : Addr} {x : Str} {params : Arguments} {scope : Scope} {p1 p2 p3 p4 p5 p6 p pos lpos kpos : Pos} {kk j : Nat} {as : List (List Int)} {body : Expr} (L : LamC X c P) (Bm : Bi X.mg) (hr : Room (j + 1) X.A) (ha : HE X S a (rLs X.K as)) (has : as.length ≤ 10000) (hls : ∀ l ∈ as, l.length ≤ 1000)
    (hbody : body = keyE neg x p1 p2 p3 p4 p5 p6 kk) (hdef : defaultsOf params X.env = ([], [])) (hbind : ∀ (pm ctv : Value) (t c' : Addr), bindArgs (PySem.W.kla_fn "<lambda>" (X.env.qual ++ "<lambda>") params (keyE neg x p1 p2 p3 p4 p5 p6 kk) scope [] pm (.ref c') ctv) ⟨[.ref t], []⟩ = pure [(x, .ref t)])
    (h1 : scope.isCoroutine = false) (h2 : scope.isGenerator = false) (h3 : scope.kind = .function) (h4 : scope.names = [(x, .local), ("len", .globalImplicit)]) (hx : (x == ("__debug__" : Str)) = false) (hxl : x ≠ "len") (hg : Gl X "sorted" := by rfl)
    (hs : starEach [a] X.env = (false, eval a X.env) :: starEach [] X.env := by rfl) (he : backTo pos (starEach [a] X.env) = (false, eval a X.env) :: backTo pos (starEach [] X.env) := by rfl) (hpl : (backTo pos (starEach [a] X.env)).any (·.1) = false := by rfl)
    (hall : (backToKw pos (keywordEach [⟨some "key", .Lambda params body scope lpos, kpos⟩] X.env)).all (·.1.isSome) = true := by rfl) (hnone : (backToKw pos (keywordEach [⟨some "key", .Lambda params body scope lpos, kpos⟩] X.env)).any (·.1.isNone) = false := by rfl) (hks : (backToKw pos (keywordEach [⟨some "key", .Lambda params body scope lpos, kpos⟩] X.env)).filterMap (·.1) = [Str.ofString "key"] := by rfl) :
    HN X S (.Call (.Name "sorted" p) [a] [⟨some "key", .Lambda params body scope lpos, kpos⟩] pos) (CL X.K (ksort neg as)) := by
  subst hbody
  have hfr : ∀ y ∈ scope.names, y.2 = .free → False := fun y hy e => by
    rw [h4] at hy
    simp at hy
    rcases hy with z | z <;> (rw [z] at e; cases e)
  have hcl : cloFrom X.env.cells scope.names [] = [] := by
    rw [h4]
    rfl
  have d1 := hr.dp
  have d2 := hr.un
  refine hn_of (pe_callBK (cr_sortK neg as Bm (by omega) (by omega) has hls hbind h1 h2 h3 h4 hx hxl) hg Bm.sorted boot_sorted pa_w (pk_cons (pe_lamM L hdef fun _ y hy e => (hfr y hy e).elim) pk_nil) (by decide) (by decide) he hpl hall hnone hks) fun σ H s => ?_
  refine (ha_cons ha ha_nil hs σ H s).mono fun vs H1 ⟨e1, r⟩ => ?_
  obtain ⟨v, rfl, r1⟩ := rs1 r
  refine ⟨Stab.tb (Stab.up s e1), fun H2 f c' e2 nf hco => ?_⟩
  have e3 : Ex H2 (upd H2 f (LamO f (X.env.qual ++ "<lambda>") params (keyE neg x p1 p2 p3 p4 p5 p6 kk) scope (cloFrom X.env.cells scope.names []) c')) := Ex.new nf
  refine ⟨v, f, c', rfl, rfl, rLs.ls (Mon.up (e2.trans e3) r1), by rw [upd_same, hcl], e3.at_ hco fun ps z => LamX.codeO_ne ps z, fun q xs hq hi => ⟨(e1.trans (e2.trans e3)).trans (Ex.new hq), q, rfl, none_of_ex (e1.trans (e2.trans e3)) hq, xs, upd_same, Ims.up (Le.new hq) _ _ hi⟩⟩
end
end CB
end
section
set_option Elab.async false
set_option linter.all false
set_option maxRecDepth 100000
set_option maxHeartbeats 2000000
namespace CB
open PySem PySem.Spec PyProof.Rows L2 Enc
section
variable {P : Program} {w : World} {K : PySem.W.Frag} {mg : Str → Option Value} {base : Heap}
theorem hu0 {k : Nat} {A : Around} (h : Room k A) : A.units + 40 < cLine := by have := h.un; omega
/-- is_integer -/
abbrev pIsInt (K : PySem.W.Frag) : PR := fun Rs R => ∃ i : Int, Rs = [rD K i] ∧ R = fun _ => rB true
theorem k_is_integer [Tbs] (T : Has K mg 1 "is_integer") (Bm : Bi mg) : Known P w K mg base 1 "is_integer" (spF (pIsInt K)) := by
  refine known_of (N := ["thing"]) (ps := ["thing"]) T ⟨rfl, rfl, rfl, by decide +kernel, rfl, by decide +kernel, by decide +kernel⟩ (fun _ _ _ _ _ _ us hl => match us, hl with | [_], _ => rfl) (fun Rs R ⟨i, h, _⟩ => by rw [h]; rfl) fun f cdv A outer s H E hr Rs R hp => ?_
  obtain ⟨i, rfl, rfl⟩ := hp
  refine hb_rt (he_and (he_isiInt Bm (he_par 0 rfl)) fun _ => he_b1 (he_not (he_isiBool Bm (he_par 0 rfl)))) fun v H' e r => ⟨e, r⟩
/-- is_within -/
abbrev pWithin (K : PySem.W.Frag) : PR := fun Rs R => ∃ i l m : Int, Rs = [rD K i, rD K l, rD K m] ∧ R = fun _ => rB (decide (l ≤ i) && decide (i ≤ m))
theorem k_is_within [Tbs] (T : Has K mg 2 "is_within") (k1 : Known P w K mg base 1 "is_integer" (spF (pIsInt K))) : Known P w K mg base 2 "is_within" (spF (pWithin K)) := by
  refine known_of (N := ["thing", "least", "most"]) (ps := ["thing", "least", "most"]) T ⟨rfl, rfl, rfl, by decide +kernel, rfl, by decide +kernel, by decide +kernel⟩ (fun _ _ _ _ _ _ us hl => match us, hl with | [_, _, _], _ => rfl) (fun Rs R ⟨i, l, m, h, _⟩ => by rw [h]; rfl) fun f cdv A outer s H E hr Rs R hp => ?_
  obtain ⟨i, l, m, rfl, rfl⟩ := hp
  exact hb_rt ((he_and (he_call k1 hr (ha_cons (he_par 0 rfl) ha_nil) ⟨_, rfl, rfl⟩) fun _ => he_b1 (he_lele (he_par 1 rfl) (he_par 0 rfl) (he_par 2 rfl))).eq (by rw [Bool.true_and])) fun v H' e r => ⟨e, r⟩
/-- divisor -/
abbrev pDiv (K : PySem.W.Frag) : PR := fun Rs R => ∃ a b : Nat, Rs = [rD K (a : Int), rD K (b : Int)] ∧ R = fun _ => rD K (Nat.gcd a b : Int)
end
end CB
end
section
set_option Elab.async false
set_option linter.all false
set_option maxRecDepth 100000
set_option maxHeartbeats 2000000
set_option exponentiation.threshold 100
namespace CB
open PySem PySem.Spec PyProof.Rows L2 Enc
/-- no exception leaves -/
theorem nox {M : Model} {A : Around} {env : Env} : PassesOwn M A env (fun _ _ => False) := PySem.PassesOwn.never
section
variable {P : Program} {w : World} {K : PySem.W.Frag} {mg : Str → Option Value} {base : Heap}
/-- divisor -/
theorem k_divisor [Tbs] (T : Has K mg 16 "divisor") : Known P w K mg base 1 "divisor" (spF (pDiv K)) := by
  have S : FnScope ["one", "other"] ["one", "other"] (defScope (top 16)) := ⟨rfl, rfl, rfl, by decide +kernel, rfl, by decide +kernel, by decide +kernel⟩
  refine known_of T S (fun _ _ _ _ _ _ us hl => match us, hl with | [_, _], _ => rfl) (fun Rs R ⟨a, b, h, _⟩ => by rw [h]; rfl) fun f cdv A outer s H E hr Rs R hp => ?_
  obtain ⟨a, b, rfl, rfl⟩ := hp
  refine hb_cur 0 rfl (hb_cur 1 rfl ?_)
  refine hb_while (ι := { g : Nat × Nat // g.1.gcd g.2 = a.gcd b }) (fun g => SS ⟨H, H, H⟩ [some (rD K (g.1.1 : Int)), some (rD K (g.1.2 : Int))] []) (fun g => decide ((0 : Int) < (g.1.2 : Int))) (fun g => g.1.2) ⟨(a, b), rfl⟩ nox (fun σ H' s => s) ?_ ?_ ?_
  · exact fun g => ht_c (hc_gt (he_var 1 rfl) he_int)
  · intro g hg
    have h0 : 0 < g.1.2 := by
      have := of_decide_eq_true hg
      omega
    refine hb_par 0 1 rfl (he_var 1 rfl) (he_mod (he_var 0 rfl) (he_var 1 rfl) (by omega)) (hb_nil fun σ H' s => ⟨⟨(g.1.2, g.1.1 % g.1.2), ?_⟩, Nat.mod_lt _ h0, s⟩) S.nd (by decide)
    refine Eq.trans ?_ g.2
    show g.1.2.gcd (g.1.1 % g.1.2) = _
    rw [Nat.gcd_comm, ← Nat.gcd_rec, Nat.gcd_comm]
  · intro g hg
    have h0 : g.1.2 = 0 := by
      have := of_decide_eq_false hg
      omega
    have e := g.2
    rw [h0, Nat.gcd_zero_right] at e
    refine hb_rt (he_var 0 rfl) fun v H' e1 r => ⟨e1, ?_⟩
    rw [← e]
    exact r
/-- lowest -/
abbrev pLow (K : PySem.W.Frag) : PR := fun Rs R => ∃ (t : Int) (b : Nat), Rs = [rD K t, rD K (b : Int)] ∧ (b ≠ 0 ∧ b < 2 ^ 9000) ∧ R = fun _ => rD K (mkRat t b)
theorem rat_pair {t : Int} {b : Nat} (h : b ≠ 0) {H : Hp} {v : V} (r : rD K (t / ((t.natAbs.gcd b : Nat) : Int), (b : Int) / ((t.natAbs.gcd b : Nat) : Int)) H v) : rD K (mkRat t b) H v := by
  obtain ⟨h1, h2⟩ := rat_mk (n := t) h
  have e : enc (mkRat t b) = enc (t / ((t.natAbs.gcd b : Nat) : Int), (b : Int) / ((t.natAbs.gcd b : Nat) : Int)) := by
    show NestedKey.tup [.num (mkRat t b).num, .num ((mkRat t b).den : Int)] = .tup [.num _, .num _]
    rw [h1, h2, Int.natCast_ediv]
  show Im K H (enc (mkRat t b)) v
  rw [e]
  exact r
theorem gcd_ok {t : Int} {b : Nat} (h : b ≠ 0 ∧ b < 2 ^ 9000) {i : Int} : CDivW i ((t.natAbs.gcd b : Nat) : Int) := by
  have h1 : t.natAbs.gcd b ≤ b := Nat.le_of_dvd (Nat.pos_of_ne_zero h.1) (Nat.gcd_dvd_right _ _)
  exact cdiv_of (Nat.gcd_pos_of_pos_right _ (Nat.pos_of_ne_zero h.1)) (Nat.lt_of_le_of_lt h1 h.2)
theorem k_lowest [Tbs] (T : Has K mg 17 "lowest") (Bm : Bi mg) (k1 : Known P w K mg base 1 "divisor" (spF (pDiv K))) : Known P w K mg base 2 "lowest" (spF (pLow K)) := by
  have S : FnScope ["top", "bottom", "common"] ["top", "bottom"] (defScope (top 17)) := ⟨rfl, rfl, rfl, by decide +kernel, rfl, by decide +kernel, by decide +kernel⟩
  refine known_of T S (fun _ _ _ _ _ _ us hl => match us, hl with | [_, _], _ => rfl) (fun Rs R ⟨a, b, h, _⟩ => by rw [h]; rfl) fun f cdv A outer s H E hr Rs R hp => ?_
  obtain ⟨t, b, rfl, hb, rfl⟩ := hp
  refine hb_set 2 (he_call k1 hr (ha_cons (he_abs Bm (he_par 0 rfl)) (ha_cons (he_par 1 rfl) ha_nil)) ⟨_, _, rfl, rfl⟩) ?_ S.nd
  refine hb_rt (he_pair (he_fdiv (he_par 0 rfl) (he_var 2 rfl) (gcd_ok hb)) (he_fdiv (he_par 1 rfl) (he_var 2 rfl) (gcd_ok hb))) fun v H' e r => ⟨e, rat_pair hb.1 r⟩
/-- is_pair -/
abbrev pPair (K : PySem.W.Frag) : PR := fun Rs R => ∃ ks : List NestedKey, Rs = [fun H v => Im K H (.tup ks) v] ∧ R = fun _ => rB (decide (ks.length = 2))
/-- plus, times, over -/
abbrev pPlus (K : PySem.W.Frag) : PR := fun Rs R => ∃ a b : Rat, Rs = [rD K a, rD K b] ∧ Ok2 a b ∧ R = fun _ => rD K (a + b)
abbrev pTimes (K : PySem.W.Frag) : PR := fun Rs R => ∃ a b : Rat, Rs = [rD K a, rD K b] ∧ Ok2 a b ∧ R = fun _ => rD K (a * b)
abbrev pOver (K : PySem.W.Frag) : PR := fun Rs R => ∃ a b : Rat, Rs = [rD K a, rD K b] ∧ (Ok2 a b ∧ 0 < b.num) ∧ R = fun _ => rD K (a / b)
theorem ok2_den {a b : Rat} (h : Ok2 a b) : a.den * b.den ≠ 0 ∧ a.den * b.den < 2 ^ 9000 := by
  obtain ⟨n, m, h1, h2, h3⟩ := h
  refine ⟨Nat.mul_ne_zero a.den_nz b.den_nz, Nat.lt_of_lt_of_le (mul_lt h1.2 h2.2) (Nat.pow_le_pow_right (by decide) (by omega))⟩
theorem ok2_over {a b : Rat} (h : Ok2 a b) (h0 : 0 < b.num) : a.den * b.num.toNat ≠ 0 ∧ a.den * b.num.toNat < 2 ^ 9000 := by
  obtain ⟨n, m, h1, h2, h3⟩ := h
  have e : b.num.toNat = b.num.natAbs := by omega
  refine ⟨Nat.mul_ne_zero a.den_nz (by omega), Nat.lt_of_lt_of_le (mul_lt h1.2 (by rw [e]; exact h2.1)) (Nat.pow_le_pow_right (by decide) (by omega))⟩
theorem low_ok {t bi : Int} {b : Nat} (e : bi = (b : Int)) (h : b ≠ 0 ∧ b < 2 ^ 9000) : pLow K [rD K t, rD K bi] (fun _ => rD K (mkRat t b)) := ⟨t, b, by rw [e], h, rfl⟩
theorem k_plus [Tbs] (T : Has K mg 19 "plus") (k1 : Known P w K mg base 2 "lowest" (spF (pLow K))) : Known P w K mg base 3 "plus" (spF (pPlus K)) := by
  have S : FnScope ["one", "other"] ["one", "other"] (defScope (top 19)) := ⟨rfl, rfl, rfl, by decide +kernel, rfl, by decide +kernel, by decide +kernel⟩
  refine known_of T S (fun _ _ _ _ _ _ us hl => match us, hl with | [_, _], _ => rfl) (fun Rs R ⟨a, b, h, _⟩ => by rw [h]; rfl) fun f cdv A outer s H E hr Rs R hp => ?_
  obtain ⟨a, b, rfl, hb, rfl⟩ := hp
  obtain ⟨n, m, h1, h2, h3⟩ := id hb
  refine hb_rt (he_call k1 hr (ha_cons (he_add (he_mul (he_num (he_par 0 rfl)) (he_den (he_par 1 rfl)) (cmul_of h1.1 h2.2 (by omega))) (he_mul (he_num (he_par 1 rfl)) (he_den (he_par 0 rfl)) (cmul_of h2.1 h1.2 (by omega)))) (ha_cons (he_mul (he_den (he_par 0 rfl)) (he_den (he_par 1 rfl)) (cmul_of h1.2 h2.2 (by omega))) ha_nil))
    (low_ok (Int.natCast_mul _ _).symm (ok2_den hb))) fun v H' e r => ⟨e, by rw [rat_add]; exact r⟩
theorem k_times [Tbs] (T : Has K mg 20 "times") (k1 : Known P w K mg base 2 "lowest" (spF (pLow K))) : Known P w K mg base 3 "times" (spF (pTimes K)) := by
  have S : FnScope ["one", "other"] ["one", "other"] (defScope (top 20)) := ⟨rfl, rfl, rfl, by decide +kernel, rfl, by decide +kernel, by decide +kernel⟩
  refine known_of T S (fun _ _ _ _ _ _ us hl => match us, hl with | [_, _], _ => rfl) (fun Rs R ⟨a, b, h, _⟩ => by rw [h]; rfl) fun f cdv A outer s H E hr Rs R hp => ?_
  obtain ⟨a, b, rfl, hb, rfl⟩ := hp
  obtain ⟨n, m, h1, h2, h3⟩ := id hb
  refine hb_rt (he_call k1 hr (ha_cons (he_mul (he_num (he_par 0 rfl)) (he_num (he_par 1 rfl)) (cmul_of h1.1 h2.1 (by omega))) (ha_cons (he_mul (he_den (he_par 0 rfl)) (he_den (he_par 1 rfl)) (cmul_of h1.2 h2.2 (by omega))) ha_nil))
    (low_ok (Int.natCast_mul _ _).symm (ok2_den hb))) fun v H' e r => ⟨e, by rw [rat_mul]; exact r⟩
theorem k_over [Tbs] (T : Has K mg 21 "over") (k1 : Known P w K mg base 2 "lowest" (spF (pLow K))) : Known P w K mg base 3 "over" (spF (pOver K)) := by
  have S : FnScope ["one", "other"] ["one", "other"] (defScope (top 21)) := ⟨rfl, rfl, rfl, by decide +kernel, rfl, by decide +kernel, by decide +kernel⟩
  refine known_of T S (fun _ _ _ _ _ _ us hl => match us, hl with | [_, _], _ => rfl) (fun Rs R ⟨a, b, h, _⟩ => by rw [h]; rfl) fun f cdv A outer s H E hr Rs R hp => ?_
  obtain ⟨a, b, rfl, ⟨hb, h0⟩, rfl⟩ := hp
  obtain ⟨n, m, h1, h2, h3⟩ := id hb
  refine hb_rt (he_call k1 hr (ha_cons (he_mul (he_num (he_par 0 rfl)) (he_den (he_par 1 rfl)) (cmul_of h1.1 h2.2 (by omega))) (ha_cons (he_mul (he_den (he_par 0 rfl)) (he_num (he_par 1 rfl)) (cmul_of h1.2 h2.1 (by omega))) ha_nil))
    (low_ok (by rw [Int.natCast_mul, Int.toNat_of_nonneg (by omega)]) (ok2_over hb h0))) fun v H' e r => ⟨e, by rw [rat_div _ _ h0]; exact r⟩
end
end CB
end
section
set_option Elab.async false
set_option linter.all false
set_option maxRecDepth 100000
set_option maxHeartbeats 2000000
set_option exponentiation.threshold 100
namespace CB
open PySem PySem.Spec PyProof.Rows L2 Enc
section
variable {P : Program} {w : World} {K : PySem.W.Frag} {mg : Str → Option Value} {base : Heap}
/-! ### the pure things -/
theorem he_isiK [Tbs] {X : Cx} {S : SA} [Stab S] {a : Expr} {p pos p2 : Pos} {ks : List NestedKey} (Bm : Bi X.mg) (ha : HE X S a (fun H v => Im X.K H (.tup ks) v)) (hg : Gl X "isinstance" := by rfl) (hg2 : Gl X "tuple" := by rfl)
    (he : starEach [a, .Name "tuple" p2] X.env = (false, eval a X.env) :: starEach [.Name "tuple" p2] X.env := by rfl) (he2 : starEach [.Name "tuple" p2] X.env = (false, eval (.Name "tuple" p2) X.env) :: starEach [] X.env := by rfl) (hpl : (backTo pos (starEach [.Name "tuple" p2] X.env)).any (·.1) = false := by rfl) :
    HE X S (.Call (.Name "isinstance" p) [a, .Name "tuple" p2] [] pos) (rB true) :=
  haveI : Mon (fun H v => Im X.K H (.tup ks) v) := ⟨fun e h => Im.up (le_of e) _ _ h⟩
  he_isi (t := .type "tuple") (cu := .type "tuple") (v := .ty "tuple") Bm ha (he_of (pe_bltn hg2 Bm.tuple PyProof.Rows.boot_tuple (show RelV (.ty "tuple") _ from rfl)) fun σ H s => ⟨Ex.refl H, rfl⟩) (.ty _) (fun H x h => by
    obtain ⟨q, xs, rfl, h1, _⟩ := h
    exact ty_tup h1) (kit_ty (by decide +kernel)) hg he he2 hpl
theorem he_lenK [Tbs] {X : Cx} {S : SA} [Stab S] {a : Expr} {p pos : Pos} {ks : List NestedKey} {K : PySem.W.Frag} (B : Bi X.mg) (ha : HE X S a (fun H v => Im X.K H (.tup ks) v)) (hg : Gl X "len" := by rfl) (he : starEach [a] X.env = (false, eval a X.env) :: starEach [] X.env := by rfl) (hpl : (backTo pos (starEach [] X.env)).any (·.1) = false := by rfl) :
    HE X S (.Call (.Name "len" p) [a] [] pos) (rD K (ks.length : Int)) := fun σ H s =>
  haveI : Mon (fun H v => Im X.K H (.tup ks) v) := ⟨fun e h => Im.up (le_of e) _ _ h⟩
  bi_w call_len_seq B.len boot_len (ha_cons ha ha_nil he) s (fun vs H1 e1 r => by
    obtain ⟨v, rfl, q, xs, rfl, h1, h2⟩ := rs1 r
    refine ⟨q, xs, rfl, .inr h1, e1, ?_⟩
    rw [h2.length] <;> rfl) hg (by decide) (by decide) he hpl
instance {K : PySem.W.Frag} {k : NestedKey} : Sta (fun H v => Im K H k v) := ⟨fun e h => Im.upT e _ _ h⟩
theorem HB.ends [Tbs] {X : Cx} {S : SA} {b : List Stmt} {D D' : Ends} (h : HB X S b D) (e : D = D') : HB X S b D' := e ▸ h
theorem k_is_pair [Tbs] (T : Has K mg 4 "is_pair") (Bm : Bi mg) : Known P w K mg base 1 "is_pair" (spF (pPair K)) := by
  have S : FnScope ["thing"] ["thing"] (defScope (top 4)) := ⟨rfl, rfl, rfl, by decide +kernel, rfl, by decide +kernel, by decide +kernel⟩
  refine known_of T S (fun _ _ _ _ _ _ us hl => match us, hl with | [_], _ => rfl) (fun Rs R ⟨_, h, _⟩ => by rw [h] <;> rfl) fun f cdv A outer s H E hr Rs R hp => ?_
  obtain ⟨ks, rfl, rfl⟩ := hp
  refine hb_rt (R := rB (true && decide ((ks.length : Int) = 2))) (he_and (he_isiK Bm (he_par (R := fun H v => Im K H (.tup ks) v) 0 rfl)) fun _ => he_b1 (he_c (hc_eqE (hu0 hr) (by decide) (he_lenK Bm (he_par (R := fun H v => Im K H (.tup ks) v) 0 rfl)) he_int))) fun v H' e r => ⟨e, ?_⟩
  have e2 : (true && decide ((ks.length : Int) = 2)) = decide (ks.length = 2) := by
    rw [Bool.true_and]
    exact decide_eq_decide.mpr (by omega)
  rw [← e2]
  exact r
abbrev pFrac (K : PySem.W.Frag) : PR := fun Rs R => ∃ a : Rat, Rs = [rD K a] ∧ R = fun _ => rB true
theorem k_is_fraction [Tbs] (T : Has K mg 18 "is_fraction") (Bm : Bi mg) (k1 : Known P w K mg base 1 "is_pair" (spF (pPair K))) (k2 : Known P w K mg base 1 "is_integer" (spF (pIsInt K))) (k3 : Known P w K mg base 1 "divisor" (spF (pDiv K))) : Known P w K mg base 2 "is_fraction" (spF (pFrac K)) := by
  have S : FnScope ["thing"] ["thing"] (defScope (top 18)) := ⟨rfl, rfl, rfl, by decide +kernel, rfl, by decide +kernel, by decide +kernel⟩
  refine known_of T S (fun _ _ _ _ _ _ us hl => match us, hl with | [_], _ => rfl) (fun Rs R ⟨_, h, _⟩ => by rw [h] <;> rfl) fun f cdv A outer s H E hr Rs R hp => ?_
  obtain ⟨a, rfl, rfl⟩ := hp
  refine hb_if (ht_w (hw_or (ht_not (ht_val (he_call k1 hr (ha_cons (he_par (R := rD K a) 0 rfl) ha_nil) ⟨_, rfl, rfl⟩))) fun _ => hw_or (ht_not (ht_val (he_call k2 hr (ha_cons (he_num (he_par (R := rD K a) 0 rfl)) ha_nil) ⟨_, rfl, rfl⟩))) fun _ => hw_or1 (ht_not (ht_val (he_call k2 hr (ha_cons (he_den (he_par (R := rD K a) 0 rfl)) ha_nil) ⟨_, rfl, rfl⟩))))) (fun h => absurd h (by simp)) fun _ => hb_nil ?_
  refine hb_rt (he_and (he_c (hc_gt (he_den (he_par (R := rD K a) 0 rfl)) he_int)) fun _ => he_b1 (he_c (hc_eqE (hu0 hr) (by decide) (he_call k3 hr (ha_cons (he_abs (K := K) Bm (he_num (he_par (R := rD K a) 0 rfl))) (ha_cons (he_den (he_par (R := rD K a) 0 rfl)) ha_nil)) ⟨_, _, rfl, rfl⟩) he_int))) fun v H' e r => ⟨e, ?_⟩
  have e2 : (decide ((0 : Int) < (a.den : Int)) && decide (((a.num.natAbs.gcd a.den : Nat) : Int) = 1)) = true := by
    have h1 := a.reduced
    have h2 := a.den_pos
    unfold Nat.Coprime at h1
    rw [h1]
    simp
    omega
  rw [e2] at r
  exact r
/-- sums -/
def rsum (as : List Rat) : Rat := as.foldl (· + ·) 0
theorem rsum_snoc (as : List Rat) (a : Rat) : rsum (as ++ [a]) = rsum as + a := by unfold rsum; rw [List.foldl_append]; rfl
abbrev pSum (K : PySem.W.Frag) : PR := fun Rs R => ∃ as : List Rat, Rs = [rLs K as] ∧ (∀ i a, as[i]? = some a → Ok2 (rsum (as.take i)) a) ∧ R = fun _ => rD K (rsum as)
theorem k_add_all [Tbs] (T : Has K mg 22 "add_all") {z : Addr} (Z : mg "ZERO" = some (.ref z)) (hZ : ∀ H, rD K (0 : Rat) H (.ref z)) (k1 : Known P w K mg base 3 "plus" (spF (pPlus K))) : Known P w K mg base 4 "add_all" (spF (pSum K)) := by
  have S : FnScope ["some", "found", "part"] ["some"] (defScope (top 22)) := ⟨rfl, rfl, rfl, by decide +kernel, rfl, by decide +kernel, by decide +kernel⟩
  refine known_of T S (fun _ _ _ _ _ _ us hl => match us, hl with | [_], _ => rfl) (fun Rs R ⟨_, h, _⟩ => by rw [h] <;> rfl) fun f cdv A outer s H E hr Rs R hp => ?_
  obtain ⟨as, rfl, hs, rfl⟩ := hp
  refine hb_set 1 (he_glob rfl Z (show RelV (.ref z) (.ref z) from rfl) hZ) ?_ S.nd
  refine hb_forP (x := "some") 0 (fun i => [some (cst H (rLs K as)), some (rD K (rsum (as.take i))), none]) (fun _ => []) (fun u Γ => Γ.set 2 (some (rD K u))) rfl nox rfl ?_ (List.Sublist.refl _) (fun u => hg_name 2 S.nd) (fun t i u hu => ?_) ?_
  · exact Subg.refl _
  · refine hb_set 1 (he_call k1 hr (ha_cons (he_var 1 rfl) (ha_cons (he_var 2 rfl) ha_nil)) ⟨_, _, rfl, hs i u hu, rfl⟩) (hb_nil fun σ H' s => ?_) S.nd
    rw [take_snoc hu, rsum_snoc]
    exact s.sub ⟨rfl, rfl, trivial⟩
  · rw [List.take_length]
    exact hb_rt (he_var 1 rfl) fun v H' e r => ⟨e, r⟩
end
end CB
end
section
set_option Elab.async false
set_option linter.all false
set_option maxRecDepth 100000
set_option maxHeartbeats 2000000
set_option exponentiation.threshold 100
namespace CB
open PySem PySem.Spec PyProof.Rows L2 Enc
section
variable {P : Program} {w : World} {K : PySem.W.Frag} {mg : Str → Option Value} {base : Heap}
/-- the globals -/
structure Glo (K : PySem.W.Frag) (mg : Str → Option Value) : Prop where
  zero : ∃ z, mg "ZERO" = some (.ref z) ∧ ∀ H, rD K (0 : Rat) H (.ref z)
  one : ∃ z, mg "ONE" = some (.ref z) ∧ ∀ H, rD K (1 : Rat) H (.ref z)
  columns : ∃ t, mg "MOST_COLUMNS" = some (.int 4 t)
  worths : ∃ t, mg "MOST_WORTHS" = some (.int 4 t)
  contents : ∃ t, mg "MOST_CONTENTS" = some (.int 64 t)
  blank : ∃ t, mg "BLANK" = some (.int (-1) t)
theorem he_gI [Tbs] {X : Cx} {S : SA} [Stab S] {x : Str} {pos : Pos} {i : Int} {K : PySem.W.Frag} (h : ∃ t, X.mg x = some (.int i t)) (hg : Gl X x := by rfl) (hd : (x == ("__debug__" : Str)) = false := by decide) : HE X S (.Name x pos) (rD K i) := by
  obtain ⟨t, h⟩ := h
  exact he_glob (v := .int i) hg h ⟨t, rfl⟩ (fun H => rfl) hd
theorem he_gR [Tbs] {X : Cx} {S : SA} [Stab S] {x : Str} {pos : Pos} {R : Rel} (h : ∃ z, X.mg x = some (.ref z) ∧ ∀ H, R H (.ref z)) (hg : Gl X x := by rfl) (hd : (x == ("__debug__" : Str)) = false := by decide) : HE X S (.Name x pos) R := by
  obtain ⟨z, h, hR⟩ := h
  exact he_glob (v := .ref z) hg h rfl hR hd
/-! ### sizes -/
def allSz : List (List Int) := [[2], [3], [4], [2, 2], [3, 2], [2, 3], [3, 3], [2, 2, 2], [2, 3, 2], [4, 4], [2, 2, 3]]
def iprod (l : List Int) : Int := l.foldl (· * ·) 1
theorem sz_len : ∀ sz ∈ allSz, 1 ≤ (sz.length : Int) ∧ (sz.length : Int) ≤ 3 := by decide
theorem sz_all : ∀ sz ∈ allSz, ∀ s ∈ sz, 2 ≤ s ∧ s ≤ 4 := by decide
theorem sz_prod : ∀ sz ∈ allSz, ∀ i ∈ List.range 4, 0 ≤ iprod (sz.take i) ∧ iprod (sz.take i) ≤ 64 := by decide
theorem iprod_snoc (l : List Int) (a : Int) : iprod (l ++ [a]) = iprod l * a := by unfold iprod; rw [List.foldl_append]; rfl
abbrev pSizes (K : PySem.W.Frag) : PR := fun Rs R => ∃ sz : List Int, Rs = [rD K sz] ∧ sz ∈ allSz ∧ R = fun _ => rB true
theorem k_is_sizes [Tbs] (T : Has K mg 29 "is_sizes") (Bm : Bi mg) (G : Glo K mg) (k1 : Known P w K mg base 2 "is_within" (spF (pWithin K))) : Known P w K mg base 3 "is_sizes" (spF (pSizes K)) := by
  have S : FnScope ["thing", "product", "size"] ["thing"] (defScope (top 29)) := ⟨rfl, rfl, rfl, by decide +kernel, rfl, by decide +kernel, by decide +kernel⟩
  refine known_of T S (fun _ _ _ _ _ _ us hl => match us, hl with | [_], _ => rfl) (fun Rs R ⟨_, h, _⟩ => by rw [h] <;> rfl) fun f cdv A outer s H E hr Rs R hp => ?_
  obtain ⟨sz, rfl, hz, rfl⟩ := hp
  obtain ⟨l1, l2⟩ := sz_len sz hz
  refine hb_if (ht_w (hw_or (ht_not (ht_val (he_isiTup Bm (he_par (R := rD K sz) 0 rfl)))) fun _ => hw_or1 (ht_not (ht_lele (he_int (K := K)) (he_lenT Bm (he_par (R := rD K sz) 0 rfl)) (he_gI G.columns))))) (fun h => ?_) fun _ => hb_nil ?_
  · exfalso
    simp at h
    omega
  refine hb_if (ht_not (ht_val (he_all rfl Bm (he_lcB (as := sz) (fun s => decide (2 ≤ s) && decide (s ≤ 4)) (fun u Γ => Γ.set 2 (some (rD K u))) [("size", 2)] rfl S.nd (HIt.ex (hi_tup (he_par (R := rD K sz) 0 rfl))) (by omega) (fun s H0 C cl fp u => hg_name 2 S.nd)
    (fun s H0 C cl fp u hu => he_call k1 hr (ha_cons (he_var 2 rfl) (ha_cons he_int (ha_cons (he_gI G.worths) ha_nil))) ⟨_, _, _, rfl, rfl⟩) (by kernel_rfl))))) (fun h => ?_) fun _ => hb_nil ?_
  · exfalso
    have : (sz.map fun s => decide (2 ≤ s) && decide (s ≤ 4)).all id = true := by
      rw [List.all_eq_true]
      intro b hb
      obtain ⟨s, hs, rfl⟩ := List.mem_map.mp hb
      have := sz_all sz hz s hs
      simp
      omega
    rw [this] at h
    cases h
  refine hb_set (R := rD K (iprod (sz.take 0))) 1 he_int ?_ S.nd
  refine hb_for (as := sz) (fun i => [some (cst H (rD K sz)), some (rD K (iprod (sz.take i))), none]) (fun _ => []) (fun u Γ => Γ.set 2 (some (rD K u))) rfl nox (hi_tup (he_par (R := rD K sz) 0 rfl)) (Subg.refl _) (List.Sublist.refl _) (fun u => hg_name 2 S.nd) (fun t i u hu => ?_) ?_
  · have hi : i < 4 := by
      have := (List.getElem?_eq_some_iff.mp hu).1
      omega
    have h1 := sz_prod sz hz i (List.mem_range.mpr hi)
    have h2 := sz_all sz hz u (List.mem_of_getElem? hu)
    refine hb_mulI 1 rfl (he_var 2 rfl) (cmul_of (n := 10) (m := 10) (by omega) (by omega) (by decide)) (hb_nil fun σ H' s => ?_) S.nd
    rw [take_snoc hu, iprod_snoc]
    exact s.sub ⟨rfl, rfl, trivial⟩
  · have h1 := sz_prod sz hz sz.length (List.mem_range.mpr (by omega))
    refine hb_rt (he_c (hc_le (he_var 1 rfl) (he_gI G.contents))) fun v H' e r => ⟨e, ?_⟩
    have e2 : decide (iprod (sz.take sz.length) ≤ 64) = true := decide_eq_true h1.2
    rw [← e2]
    exact r
abbrev pContent (K : PySem.W.Frag) : PR := fun Rs R => ∃ sz c : List Int, Rs = [rD K sz, rD K c] ∧ (c.length = sz.length ∧ sz.length ≤ 10) ∧ R = fun _ => rB ((c.zip sz).all fun p => decide (0 ≤ p.1) && decide (p.1 ≤ p.2 - 1))
theorem k_is_content [Tbs] (T : Has K mg 30 "is_content") (Bm : Bi mg) (G : Glo K mg) (k1 : Known P w K mg base 2 "is_within" (spF (pWithin K))) : Known P w K mg base 3 "is_content" (spF (pContent K)) := by
  have S : FnScope ["sizes", "thing", "worth", "size"] ["sizes", "thing"] (defScope (top 30)) := ⟨rfl, rfl, rfl, by decide +kernel, rfl, by decide +kernel, by decide +kernel⟩
  refine known_of T S (fun _ _ _ _ _ _ us hl => match us, hl with | [_, _], _ => rfl) (fun Rs R ⟨_, _, h, _⟩ => by rw [h] <;> rfl) fun f cdv A outer s H E hr Rs R hp => ?_
  obtain ⟨sz, c, rfl, ⟨hz, hz2⟩, rfl⟩ := hp
  refine hb_if (ht_w (hw_or (ht_not (ht_val (he_isiTup Bm (he_par (R := rD K c) 1 rfl)))) fun _ => hw_or1 (ht_c (hc_neE (hu0 hr) (by decide) (he_lenT Bm (he_par (R := rD K c) 1 rfl)) (he_lenT Bm (he_par (R := rD K sz) 0 rfl)))))) (fun h => ?_) fun _ => hb_nil ?_
  · exfalso
    rw [hz] at h
    simp at h
  refine hb_rt (he_all rfl Bm (he_lcB (as := c.zip sz) (fun p => decide (0 ≤ p.1) && decide (p.1 ≤ p.2 - 1)) (fun u Γ => (Γ.set 2 (some (rD K u.1))).set 3 (some (rD K u.2))) [("worth", 2), ("size", 3)] rfl S.nd (HIt.ex (hi_zip Bm (he_par (R := rD K c) 1 rfl) (he_par (R := rD K sz) 0 rfl))) (by rw [List.length_zip]; omega) (fun s H0 C cl fp u => hg_pair 2 3 rfl S.nd)
    (fun s H0 C cl fp u hu => he_call k1 hr (ha_cons (he_var 2 rfl) (ha_cons he_int (ha_cons (he_sub (he_var 3 rfl) he_int) ha_nil))) ⟨_, _, _, rfl, rfl⟩) (by kernel_rfl))) fun v H' e r => ⟨e, ?_⟩
  rw [List.all_map] at r
  exact r
abbrev pView (K : PySem.W.Frag) : PR := fun Rs R => ∃ sz c : List Int, Rs = [rD K sz, rD K c] ∧ (c.length = sz.length ∧ sz.length ≤ 10) ∧ R = fun _ => rB ((c.zip sz).all fun p => decide (-1 ≤ p.1) && decide (p.1 ≤ p.2 - 1))
theorem k_is_view [Tbs] (T : Has K mg 31 "is_view") (Bm : Bi mg) (G : Glo K mg) (k1 : Known P w K mg base 2 "is_within" (spF (pWithin K))) : Known P w K mg base 3 "is_view" (spF (pView K)) := by
  have S : FnScope ["sizes", "thing", "worth", "size"] ["sizes", "thing"] (defScope (top 31)) := ⟨rfl, rfl, rfl, by decide +kernel, rfl, by decide +kernel, by decide +kernel⟩
  refine known_of T S (fun _ _ _ _ _ _ us hl => match us, hl with | [_, _], _ => rfl) (fun Rs R ⟨_, _, h, _⟩ => by rw [h] <;> rfl) fun f cdv A outer s H E hr Rs R hp => ?_
  obtain ⟨sz, c, rfl, ⟨hz, hz2⟩, rfl⟩ := hp
  refine hb_if (ht_w (hw_or (ht_not (ht_val (he_isiTup Bm (he_par (R := rD K c) 1 rfl)))) fun _ => hw_or1 (ht_c (hc_neE (hu0 hr) (by decide) (he_lenT Bm (he_par (R := rD K c) 1 rfl)) (he_lenT Bm (he_par (R := rD K sz) 0 rfl)))))) (fun h => ?_) fun _ => hb_nil ?_
  · exfalso
    rw [hz] at h
    simp at h
  refine hb_rt (he_all rfl Bm (he_lcB (as := c.zip sz) (fun p => decide (-1 ≤ p.1) && decide (p.1 ≤ p.2 - 1)) (fun u Γ => (Γ.set 2 (some (rD K u.1))).set 3 (some (rD K u.2))) [("worth", 2), ("size", 3)] rfl S.nd (HIt.ex (hi_zip Bm (he_par (R := rD K c) 1 rfl) (he_par (R := rD K sz) 0 rfl))) (by rw [List.length_zip]; omega) (fun s H0 C cl fp u => hg_pair 2 3 rfl S.nd)
    (fun s H0 C cl fp u hu => he_call k1 hr (ha_cons (he_var 2 rfl) (ha_cons (he_gI G.blank) (ha_cons (he_sub (he_var 3 rfl) he_int) ha_nil))) ⟨_, _, _, rfl, rfl⟩) (by kernel_rfl))) fun v H' e r => ⟨e, ?_⟩
  rw [List.all_map] at r
  exact r
/-! ### tuples -/
def tupl (rows : List (List Int)) : List (List Int) := rows.foldl (fun found row => found.flatMap fun fr => row.map fun x => fr ++ [x]) [[]]
theorem tupl_snoc (rows : List (List Int)) (row : List Int) : tupl (rows ++ [row]) = (tupl rows).flatMap fun fr => row.map fun x => fr ++ [x] := by unfold tupl; rw [List.foldl_append]; rfl
def RowsOk (rows : List (List Int)) : Prop := rows.length ≤ 4 ∧ ∀ r ∈ rows, r.length ≤ 4
theorem flatMap_len {α β : Type} {f : α → List β} {n : Nat} : ∀ {l : List α}, (∀ a ∈ l, (f a).length ≤ n) → (l.flatMap f).length ≤ l.length * n
  | [], _ => by simp
  | a :: l, h => by
    rw [List.flatMap_cons, List.length_append, List.length_cons, Nat.succ_mul]
    have := h a (List.mem_cons_self ..)
    have := flatMap_len (f := f) (l := l) fun b hb => h b (List.mem_cons_of_mem _ hb)
    omega
theorem tupl_len : ∀ (n : Nat) (rows : List (List Int)), rows.length = n → (∀ r ∈ rows, r.length ≤ 4) → (tupl rows).length ≤ 4 ^ n ∧ ∀ t ∈ tupl rows, t.length = n
  | 0, rows, h, _ => by
    have e : rows = [] := List.eq_nil_of_length_eq_zero h
    subst e
    exact ⟨by decide, fun t ht => by
      have : t = [] := by simpa [tupl] using ht
      rw [this] <;> rfl⟩
  | n + 1, rows, h, hr => by
    obtain ⟨r0, row, e⟩ : ∃ r0 row, rows = r0 ++ [row] := ⟨rows.dropLast, rows.getLast (by intro q; rw [q] at h; cases h), (List.dropLast_concat_getLast _).symm⟩
    subst e
    rw [List.length_append, List.length_singleton] at h
    obtain ⟨h1, h2⟩ := tupl_len n r0 (by omega) fun r q => hr r (List.mem_append_left _ q)
    rw [tupl_snoc]
    refine ⟨?_, fun t ht => ?_⟩
    · refine Nat.le_trans (flatMap_len (n := 4) fun a _ => by rw [List.length_map]; exact hr row (by simp)) ?_
      rw [Nat.pow_succ]
      omega
    · obtain ⟨fr, hf, hm⟩ := List.mem_flatMap.mp ht
      obtain ⟨x, _, rfl⟩ := List.mem_map.mp hm
      rw [List.length_append, h2 fr hf]
      rfl
theorem rows_ok {rows : List (List Int)} (h : RowsOk rows) (i : Nat) : (tupl (rows.take i)).length ≤ 256 ∧ ∀ t ∈ tupl (rows.take i), t.length ≤ 4 := by
  obtain ⟨h1, h2⟩ := tupl_len _ (rows.take i) rfl fun r hr => h.2 r (List.mem_of_mem_take hr)
  have hl : (rows.take i).length ≤ 4 := by
    rw [List.length_take]
    have := h.1
    omega
  exact ⟨Nat.le_trans h1 (Nat.pow_le_pow_right (by decide) hl), fun t ht => by rw [h2 t ht]; exact hl⟩
abbrev pTupl (K : PySem.W.Frag) : PR := fun Rs R => ∃ rows : List (List Int), Rs = [rL K (rows.map (rLs K))] ∧ RowsOk rows ∧ R = rNew (CL K (tupl rows))
theorem k_tuples_of [Tbs] (T : Has K mg 32 "tuples_of")  : Known P w K mg base 1 "tuples_of" (spF (pTupl K)) := by
  have S : FnScope ["rows", "found", "row", "longer", "front", "item"] ["rows"] (defScope (top 32)) := ⟨rfl, rfl, rfl, by decide +kernel, rfl, by decide +kernel, by decide +kernel⟩
  refine known_of T S (fun _ _ _ _ _ _ us hl => match us, hl with | [_], _ => rfl) (fun Rs R ⟨_, h, _⟩ => by rw [h] <;> rfl) fun f cdv A outer s H E hr Rs R hp => ?_
  obtain ⟨rows, rfl, hro, rfl⟩ := hp
  refine hb_setL (as := [([] : List Int)]) (K := K) 1 (hn_lst (l := [([] : List Int)]) (ha_cons he_unit ha_nil) (by simp)) (fun q0 => ?_) S.nd
  refine hb_forRX (Ra := fun r => rLs K r) (rows := rows) 0 (fun q _ => [some (cst H (rL K (rows.map (rLs K)))), some (rEq (.ref q)), none, none, none, none]) (fun q i => [oL K q (tupl (rows.take i))]) q0 (fun u Γ => Γ.set 2 (some (cst H (rLs K u)))) rfl nox rfl (Subg.refl _) (List.Sublist.refl _) (fun u => hg_name 2 S.nd) (fun t q i row hu => ?_) (fun q => ?_)
  · have hrow : row.length ≤ 4 := hro.2 row (List.mem_of_getElem? hu)
    obtain ⟨b1, b2⟩ := rows_ok hro i
    refine hb_setL (as := ([] : List (List Int))) (K := K) 3 hn_lst0 (fun q2 => ?_) S.nd
    refine hb_forOX (ι := Unit) (as := tupl (rows.take i)) 1 1 (fun _ _ => [some (cst H (rL K (rows.map (rLs K)))), some (rEq (.ref q)), some (cst H (rLs K row)), some (rEq (.ref q2)), none, none]) (fun _ j => [oL K q2 (((tupl (rows.take i)).take j).flatMap fun fr => row.map fun x => fr ++ [x]), oL K q (tupl (rows.take i))]) () (fun u Γ => Γ.set 4 (some (rD K u))) rfl nox rfl rfl (Subg.refl _) (List.Sublist.refl _) (fun _ _ => List.mem_cons_of_mem _ (List.mem_singleton.mpr rfl)) (fun u => hg_name 4 S.nd) (fun t2 _ j fr hf => ?_) (fun _ => ?_)
    · have hfr : fr.length ≤ 4 := b2 fr (List.mem_of_getElem? hf)
      refine hb_extend (as := ((tupl (rows.take i)).take j).flatMap fun fr => row.map fun x => fr ++ [x]) (bs := row.map fun x => fr ++ [x]) 3 0 rfl rfl ?_ (hn_map (as := row) (fun x => fr ++ [x]) (fun u Γ => Γ.set 5 (some (rD K u))) [("item", 5)] rfl S.nd (hi_list (he_par (R := rLs K row) 2 rfl)) (by omega) (fun s H0 C cl fp u => hg_name 5 S.nd)
        (fun s H0 C cl fp u hu => he_cat (he_var 4 rfl) (he_one (he_var 5 rfl)) (by simp; omega)) (by kernel_rfl)) (hb_nil fun σ H' s => ⟨(), ?_⟩)
      · have : (((tupl (rows.take i)).take j).flatMap fun fr => row.map fun x => fr ++ [x]).length ≤ ((tupl (rows.take i)).take j).length * 4 := flatMap_len fun a _ => by rw [List.length_map]; exact hrow
        rw [List.length_take] at this
        rw [List.length_map]
        omega
      · dsimp only
        rw [take_snoc hf, List.flatMap_append, List.flatMap_singleton]
        exact s.sub ⟨rfl, rfl, rfl, rfl, trivial⟩
    · dsimp only
      rw [List.take_length]
      refine hb_set (R := rEq (.ref q2)) 1 (he_var 3 rfl) (hb_nil fun σ H' s => ⟨q2, ?_⟩) S.nd
      dsimp only
      rw [take_snoc hu, tupl_snoc]
      exact s.subd ⟨rfl, rfl, trivial⟩ (List.Sublist.cons_cons _ (List.nil_sublist _))
  · rw [List.take_length]
    exact hb_rtO (o := oL K q (tupl rows)) 1 0 rfl rfl rfl fun H' e n c => ⟨e, q, rfl, n, c⟩
theorem k__law_tuples [Tbs] (T : Has K mg 79 "_law_tuples")  : Known P w K mg base 1 "_law_tuples" (spF (pTupl K)) := by
  have S : FnScope ["_law_rows_here", "_law_found", "_law_row", "_law_longer", "_law_front", "_law_item"] ["_law_rows_here"] (defScope (top 79)) := ⟨rfl, rfl, rfl, by decide +kernel, rfl, by decide +kernel, by decide +kernel⟩
  refine known_of T S (fun _ _ _ _ _ _ us hl => match us, hl with | [_], _ => rfl) (fun Rs R ⟨_, h, _⟩ => by rw [h] <;> rfl) fun f cdv A outer s H E hr Rs R hp => ?_
  obtain ⟨rows, rfl, hro, rfl⟩ := hp
  refine hb_setL (as := [([] : List Int)]) (K := K) 1 (hn_lst (l := [([] : List Int)]) (ha_cons he_unit ha_nil) (by simp)) (fun q0 => ?_) S.nd
  refine hb_forRX (Ra := fun r => rLs K r) (rows := rows) 0 (fun q _ => [some (cst H (rL K (rows.map (rLs K)))), some (rEq (.ref q)), none, none, none, none]) (fun q i => [oL K q (tupl (rows.take i))]) q0 (fun u Γ => Γ.set 2 (some (cst H (rLs K u)))) rfl nox rfl (Subg.refl _) (List.Sublist.refl _) (fun u => hg_name 2 S.nd) (fun t q i row hu => ?_) (fun q => ?_)
  · have hrow : row.length ≤ 4 := hro.2 row (List.mem_of_getElem? hu)
    obtain ⟨b1, b2⟩ := rows_ok hro i
    refine hb_setL (as := ([] : List (List Int))) (K := K) 3 hn_lst0 (fun q2 => ?_) S.nd
    refine hb_forOX (ι := Unit) (as := tupl (rows.take i)) 1 1 (fun _ _ => [some (cst H (rL K (rows.map (rLs K)))), some (rEq (.ref q)), some (cst H (rLs K row)), some (rEq (.ref q2)), none, none]) (fun _ j => [oL K q2 (((tupl (rows.take i)).take j).flatMap fun fr => row.map fun x => fr ++ [x]), oL K q (tupl (rows.take i))]) () (fun u Γ => Γ.set 4 (some (rD K u))) rfl nox rfl rfl (Subg.refl _) (List.Sublist.refl _) (fun _ _ => List.mem_cons_of_mem _ (List.mem_singleton.mpr rfl)) (fun u => hg_name 4 S.nd) (fun t2 _ j fr hf => ?_) (fun _ => ?_)
    · have hfr : fr.length ≤ 4 := b2 fr (List.mem_of_getElem? hf)
      refine hb_extend (as := ((tupl (rows.take i)).take j).flatMap fun fr => row.map fun x => fr ++ [x]) (bs := row.map fun x => fr ++ [x]) 3 0 rfl rfl ?_ (hn_map (as := row) (fun x => fr ++ [x]) (fun u Γ => Γ.set 5 (some (rD K u))) [("_law_item", 5)] rfl S.nd (hi_list (he_par (R := rLs K row) 2 rfl)) (by omega) (fun s H0 C cl fp u => hg_name 5 S.nd)
        (fun s H0 C cl fp u hu => he_cat (he_var 4 rfl) (he_one (he_var 5 rfl)) (by simp; omega)) (by kernel_rfl)) (hb_nil fun σ H' s => ⟨(), ?_⟩)
      · have : (((tupl (rows.take i)).take j).flatMap fun fr => row.map fun x => fr ++ [x]).length ≤ ((tupl (rows.take i)).take j).length * 4 := flatMap_len fun a _ => by rw [List.length_map]; exact hrow
        rw [List.length_take] at this
        rw [List.length_map]
        omega
      · dsimp only
        rw [take_snoc hf, List.flatMap_append, List.flatMap_singleton]
        exact s.sub ⟨rfl, rfl, rfl, rfl, trivial⟩
    · dsimp only
      rw [List.take_length]
      refine hb_set (R := rEq (.ref q2)) 1 (he_var 3 rfl) (hb_nil fun σ H' s => ⟨q2, ?_⟩) S.nd
      dsimp only
      rw [take_snoc hu, tupl_snoc]
      exact s.subd ⟨rfl, rfl, trivial⟩ (List.Sublist.cons_cons _ (List.nil_sublist _))
  · rw [List.take_length]
    exact hb_rtO (o := oL K q (tupl rows)) 1 0 rfl rfl rfl fun H' e n c => ⟨e, q, rfl, n, c⟩
end
end CB
end
section
set_option Elab.async false
set_option linter.all false
set_option maxRecDepth 100000
set_option maxHeartbeats 2000000
set_option exponentiation.threshold 100
namespace CB
open PySem PySem.Spec PyProof.Rows L2 Enc
section
variable {P : Program} {w : World} {K : PySem.W.Frag} {mg : Str → Option Value} {base : Heap}
theorem he_deq [Tbs] {X : Cx} {S : SA} {e : Expr} {α : Type} [Enc α] {K : PySem.W.Frag} {u v : α} (h : HE X S e (rD K u)) (q : u = v) : HE X S e (rD K v) := q ▸ h
theorem rat_one : (rD K (1 : Rat)) = rD K ((1 : Int), (1 : Int)) := rfl
theorem rat_zero : (rD K (0 : Rat)) = rD K ((0 : Int), (1 : Int)) := rfl
/-! ### contents, views -/
def contents (sz : List Int) : List (List Int) := tupl (sz.map (rgL 0))
theorem rgL_len (a b : Int) : (rgL a b).length = (b - a).toNat := by unfold rgL; rw [List.length_map, List.length_range]
theorem sz_rows {sz : List Int} (h : sz ∈ allSz) : RowsOk (sz.map (rgL 0)) := by
  refine ⟨by rw [List.length_map]; have := (sz_len sz h).2; omega, fun r hr => ?_⟩
  obtain ⟨s, hs, rfl⟩ := List.mem_map.mp hr
  have := sz_all sz h s hs
  rw [rgL_len]
  omega
abbrev pConts (K : PySem.W.Frag) : PR := fun Rs R => ∃ sz : List Int, Rs = [rD K sz] ∧ sz ∈ allSz ∧ R = rNew (CL K (contents sz))
theorem k_contents_of [Tbs] (T : Has K mg 33 "contents_of") (Bm : Bi mg) (k1 : Known P w K mg base 1 "tuples_of" (spF (pTupl K))) : Known P w K mg base 2 "contents_of" (spF (pConts K)) := by
  have S : FnScope ["sizes", "size"] ["sizes"] (defScope (top 33)) := ⟨rfl, rfl, rfl, by decide +kernel, rfl, by decide +kernel, by decide +kernel⟩
  refine known_of T S (fun _ _ _ _ _ _ us hl => match us, hl with | [_], _ => rfl) (fun Rs R ⟨_, h, _⟩ => by rw [h] <;> rfl) fun f cdv A outer s H E hr Rs R hp => ?_
  obtain ⟨sz, rfl, hz, rfl⟩ := hp
  exact hb_rtN (hn_call k1 hr (ha_cons (he_lcL (as := sz) (rgL 0) (fun u Γ => Γ.set 1 (some (rD K u))) [("size", 1)] rfl S.nd (HIt.ex (hi_tup (he_par (R := rD K sz) 0 rfl))) (by have := (sz_len sz hz).2; omega) (fun s H0 C cl fp u => hg_name 1 S.nd)
    (fun s H0 C cl fp u hu => hn_listRg rfl Bm (he_var 1 rfl) (by have := sz_all sz hz u hu; omega) (by have := sz_all sz hz u hu; omega)) (by kernel_rfl)) ha_nil) ⟨sz.map (rgL 0), rfl, sz_rows hz, rfl⟩) fun q H' e n c => ⟨e, q, rfl, n, c⟩
theorem k__law_contents [Tbs] (T : Has K mg 80 "_law_contents") (Bm : Bi mg) (k1 : Known P w K mg base 1 "_law_tuples" (spF (pTupl K))) : Known P w K mg base 2 "_law_contents" (spF (pConts K)) := by
  have S : FnScope ["_law_sizes_here", "_law_size"] ["_law_sizes_here"] (defScope (top 80)) := ⟨rfl, rfl, rfl, by decide +kernel, rfl, by decide +kernel, by decide +kernel⟩
  refine known_of T S (fun _ _ _ _ _ _ us hl => match us, hl with | [_], _ => rfl) (fun Rs R ⟨_, h, _⟩ => by rw [h] <;> rfl) fun f cdv A outer s H E hr Rs R hp => ?_
  obtain ⟨sz, rfl, hz, rfl⟩ := hp
  exact hb_rtN (hn_call k1 hr (ha_cons (he_lcL (as := sz) (rgL 0) (fun u Γ => Γ.set 1 (some (rD K u))) [("_law_size", 1)] rfl S.nd (HIt.ex (hi_tup (he_par (R := rD K sz) 0 rfl))) (by have := (sz_len sz hz).2; omega) (fun s H0 C cl fp u => hg_name 1 S.nd)
    (fun s H0 C cl fp u hu => hn_listRg rfl Bm (he_var 1 rfl) (by have := sz_all sz hz u hu; omega) (by have := sz_all sz hz u hu; omega)) (by kernel_rfl)) ha_nil) ⟨sz.map (rgL 0), rfl, sz_rows hz, rfl⟩) fun q H' e n c => ⟨e, q, rfl, n, c⟩
def vrow (P : List Int) (p : Int × Int) : List Int := if p.1 ∈ P then rgL 0 p.2 else [-1]
def views (sz P : List Int) : List (List Int) := tupl ((enumL sz).map (vrow P))
theorem enumL_mem {α : Type} {as : List α} {p : Int × α} (h : p ∈ enumL as) : ∃ i : Nat, as[i]? = some p.2 ∧ p.1 = (i : Int) := by
  unfold enumL at h
  obtain ⟨q, hq, rfl⟩ := List.mem_map.mp h
  obtain ⟨a, i⟩ := q
  exact ⟨i, by simpa using List.mem_zipIdx_iff_getElem?.mp hq, rfl⟩
theorem vw_rows {sz P : List Int} (h : sz ∈ allSz) : RowsOk ((enumL sz).map (vrow P)) := by
  refine ⟨by rw [List.length_map, enumL_len]; have := (sz_len sz h).2; omega, fun r hr => ?_⟩
  obtain ⟨p, hp, rfl⟩ := List.mem_map.mp hr
  obtain ⟨i, h1, _⟩ := enumL_mem hp
  have := sz_all sz h p.2 (List.mem_of_getElem? h1)
  unfold vrow
  split
  · rw [rgL_len]; omega
  · simp
abbrev pViews (K : PySem.W.Frag) : PR := fun Rs R => ∃ sz P : List Int, Rs = [rD K sz, rD K P] ∧ sz ∈ allSz ∧ R = rNew (CL K (views sz P))
theorem k_views_of [Tbs] (T : Has K mg 35 "views_of") (Bm : Bi mg) (G : Glo K mg) (k1 : Known P w K mg base 1 "tuples_of" (spF (pTupl K))) : Known P w K mg base 2 "views_of" (spF (pViews K)) := by
  have S : FnScope ["sizes", "pattern", "column", "size"] ["sizes", "pattern"] (defScope (top 35)) := ⟨rfl, rfl, rfl, by decide +kernel, rfl, by decide +kernel, by decide +kernel⟩
  refine known_of T S (fun _ _ _ _ _ _ us hl => match us, hl with | [_, _], _ => rfl) (fun Rs R ⟨_, _, h, _⟩ => by rw [h] <;> rfl) fun f cdv A outer s H E hr Rs R hp => ?_
  obtain ⟨sz, pa, rfl, hz, rfl⟩ := hp
  exact hb_rtN (hn_call k1 hr (ha_cons (he_lcL (as := enumL sz) (vrow pa) (fun u Γ => (Γ.set 2 (some (rD K u.1))).set 3 (some (rD K u.2))) [("column", 2), ("size", 3)] rfl S.nd (HIt.ex (hi_enum Bm (he_par (R := rD K sz) 0 rfl))) (by rw [enumL_len]; have := (sz_len sz hz).2; omega) (fun s H0 C cl fp u => hg_pair 2 3 rfl S.nd)
    (fun s H0 C cl fp u hu => hn_if (ht_c (hc_inT (hu0 hr) (by decide) (he_var 2 rfl) (he_par (R := rD K pa) 1 rfl))) (fun h => (hn_listRg rfl Bm (he_var 3 rfl) (by obtain ⟨i, h1, _⟩ := enumL_mem hu; have := sz_all sz hz u.2 (List.mem_of_getElem? h1); omega) (by obtain ⟨i, h1, _⟩ := enumL_mem hu; have := sz_all sz hz u.2 (List.mem_of_getElem? h1); omega)).imp fun q H' c => by rw [show vrow pa u = rgL 0 u.2 from if_pos (of_decide_eq_true h)]; exact c)
      (fun h => (hn_lst (l := [(-1 : Int)]) (ha_cons (he_gI G.blank) ha_nil) (by simp)).imp fun q H' c => by rw [show vrow pa u = [-1] from if_neg (of_decide_eq_false h)]; exact c)) (by kernel_rfl)) ha_nil) ⟨(enumL sz).map (vrow pa), rfl, vw_rows hz, rfl⟩) fun q H' e n c => ⟨e, q, rfl, n, c⟩
def vcell (P : List Int) (p : Int × Int) : Int := if p.1 ∈ P then p.2 else -1
def view (c P : List Int) : List Int := (enumL c).map (vcell P)
abbrev pView2 (K : PySem.W.Frag) : PR := fun Rs R => ∃ c P : List Int, Rs = [rD K c, rD K P] ∧ c.length ≤ 1000 ∧ R = fun _ => rD K (view c P)
theorem k_view_of [Tbs] (T : Has K mg 36 "view_of") (Bm : Bi mg) (G : Glo K mg) : Known P w K mg base 1 "view_of" (spF (pView2 K)) := by
  have S : FnScope ["content", "pattern", "column", "worth"] ["content", "pattern"] (defScope (top 36)) := ⟨rfl, rfl, rfl, by decide +kernel, rfl, by decide +kernel, by decide +kernel⟩
  refine known_of T S (fun _ _ _ _ _ _ us hl => match us, hl with | [_, _], _ => rfl) (fun Rs R ⟨_, _, h, _⟩ => by rw [h] <;> rfl) fun f cdv A outer s H E hr Rs R hp => ?_
  obtain ⟨c, pa, rfl, hl, rfl⟩ := hp
  exact hb_rt (he_tupT Bm (HN.ls (hn_map (as := enumL c) (vcell pa) (fun u Γ => (Γ.set 2 (some (rD K u.1))).set 3 (some (rD K u.2))) [("column", 2), ("worth", 3)] rfl S.nd (HIt.ex (hi_enum Bm (he_par (R := rD K c) 0 rfl))) (by rw [enumL_len]; omega) (fun s H0 C cl fp u => hg_pair 2 3 rfl S.nd)
    (fun s H0 C cl fp u hu => he_if (ht_c (hc_inT (hu0 hr) (by decide) (he_var 2 rfl) (he_par (R := rD K pa) 1 rfl))) (fun h => he_deq (he_var 3 rfl) (show u.2 = vcell pa u from (if_pos (of_decide_eq_true h)).symm)) (fun h => he_deq (he_gI G.blank) (show -1 = vcell pa u from (if_neg (of_decide_eq_false h)).symm))) (by kernel_rfl)))) fun v H' e r => ⟨e, r⟩
theorem k__law_view [Tbs] (T : Has K mg 82 "_law_view") (Bm : Bi mg) (G : Glo K mg) : Known P w K mg base 1 "_law_view" (spF (pView2 K)) := by
  have S : FnScope ["_law_content", "_law_pattern", "_law_column", "_law_worth"] ["_law_content", "_law_pattern"] (defScope (top 82)) := ⟨rfl, rfl, rfl, by decide +kernel, rfl, by decide +kernel, by decide +kernel⟩
  refine known_of T S (fun _ _ _ _ _ _ us hl => match us, hl with | [_, _], _ => rfl) (fun Rs R ⟨_, _, h, _⟩ => by rw [h] <;> rfl) fun f cdv A outer s H E hr Rs R hp => ?_
  obtain ⟨c, pa, rfl, hl, rfl⟩ := hp
  exact hb_rt (he_tupT Bm (HN.ls (hn_map (as := enumL c) (vcell pa) (fun u Γ => (Γ.set 2 (some (rD K u.1))).set 3 (some (rD K u.2))) [("_law_column", 2), ("_law_worth", 3)] rfl S.nd (HIt.ex (hi_enum Bm (he_par (R := rD K c) 0 rfl))) (by rw [enumL_len]; omega) (fun s H0 C cl fp u => hg_pair 2 3 rfl S.nd)
    (fun s H0 C cl fp u hu => he_if (ht_c (hc_inT (hu0 hr) (by decide) (he_var 2 rfl) (he_par (R := rD K pa) 1 rfl))) (fun h => he_deq (he_var 3 rfl) (show u.2 = vcell pa u from (if_pos (of_decide_eq_true h)).symm)) (fun h => he_deq (he_neg (i := 1) he_int) (show -1 = vcell pa u from (if_neg (of_decide_eq_false h)).symm))) (by kernel_rfl)))) fun v H' e r => ⟨e, r⟩
def pat (v : List Int) : List Int := ((enumL v).filter fun p => !decide (p.2 = -1)).map (·.1)
abbrev pPat (K : PySem.W.Frag) : PR := fun Rs R => ∃ v : List Int, Rs = [rD K v] ∧ v.length ≤ 1000 ∧ R = fun _ => rD K (pat v)
theorem k_pattern_of [Tbs] (T : Has K mg 37 "pattern_of") (Bm : Bi mg) (G : Glo K mg) : Known P w K mg base 1 "pattern_of" (spF (pPat K)) := by
  have S : FnScope ["view", "column", "worth"] ["view"] (defScope (top 37)) := ⟨rfl, rfl, rfl, by decide +kernel, rfl, by decide +kernel, by decide +kernel⟩
  refine known_of T S (fun _ _ _ _ _ _ us hl => match us, hl with | [_], _ => rfl) (fun Rs R ⟨_, h, _⟩ => by rw [h] <;> rfl) fun f cdv A outer s H E hr Rs R hp => ?_
  obtain ⟨v, rfl, hl, rfl⟩ := hp
  exact hb_rt (he_tupT Bm (HN.ls (hn_lc (as := enumL v) (fun p => !decide (p.2 = -1)) (·.1) (fun u Γ => (Γ.set 1 (some (rD K u.1))).set 2 (some (rD K u.2))) [("column", 1), ("worth", 2)] rfl S.nd (HIt.ex (hi_enum Bm (he_par (R := rD K v) 0 rfl))) (by rw [enumL_len]; omega) (fun s H0 C cl fp u => hg_pair 1 2 rfl S.nd)
    (fun s H0 C cl fp u hu => hts_one (ht_c (hc_neE (hu0 hr) (by decide) (he_var 2 rfl) (he_gI G.blank)))) (fun s H0 C cl fp u hu _ => he_var 1 rfl) (by kernel_rfl)))) fun v H' e r => ⟨e, r⟩
/-! ### patterns -/
def more (P O : List Int) : Bool := decide ((O.length : Int) < (P.length : Int)) && O.all fun c => decide (c ∈ P)
abbrev pMore (K : PySem.W.Frag) : PR := fun Rs R => ∃ P O : List Int, Rs = [rD K P, rD K O] ∧ O.length ≤ 1000 ∧ R = fun _ => rB (more P O)
theorem k_shows_more [Tbs] (T : Has K mg 54 "shows_more") (Bm : Bi mg) : Known P w K mg base 1 "shows_more" (spF (pMore K)) := by
  have S : FnScope ["pattern", "other", "column"] ["pattern", "other"] (defScope (top 54)) := ⟨rfl, rfl, rfl, by decide +kernel, rfl, by decide +kernel, by decide +kernel⟩
  refine known_of T S (fun _ _ _ _ _ _ us hl => match us, hl with | [_, _], _ => rfl) (fun Rs R ⟨_, _, h, _⟩ => by rw [h] <;> rfl) fun f cdv A outer s H E hr Rs R hp => ?_
  obtain ⟨pa, o, rfl, hl, rfl⟩ := hp
  refine hb_rt (he_and (he_c (hc_gt (he_lenT (K := K) Bm (he_par (R := rD K pa) 0 rfl)) (he_lenT Bm (he_par (R := rD K o) 1 rfl)))) fun _ => he_b1 (he_all rfl Bm (he_lcB (as := o) (fun c => decide (c ∈ pa)) (fun u Γ => Γ.set 2 (some (rD K u))) [("column", 2)] rfl S.nd (HIt.ex (hi_tup (he_par (R := rD K o) 1 rfl))) (by omega) (fun s H0 C cl fp u => hg_name 2 S.nd)
    (fun s H0 C cl fp u hu => he_c (hc_inT (hu0 hr) (by decide) (he_var 2 rfl) (he_par (R := rD K pa) 0 rfl))) (by kernel_rfl)))) fun v H' e r => ⟨e, ?_⟩
  rw [List.all_map] at r
  exact r
theorem k__law_shows_more [Tbs] (T : Has K mg 83 "_law_shows_more") (Bm : Bi mg) : Known P w K mg base 1 "_law_shows_more" (spF (pMore K)) := by
  have S : FnScope ["_law_one", "_law_other", "_law_column"] ["_law_one", "_law_other"] (defScope (top 83)) := ⟨rfl, rfl, rfl, by decide +kernel, rfl, by decide +kernel, by decide +kernel⟩
  refine known_of T S (fun _ _ _ _ _ _ us hl => match us, hl with | [_, _], _ => rfl) (fun Rs R ⟨_, _, h, _⟩ => by rw [h] <;> rfl) fun f cdv A outer s H E hr Rs R hp => ?_
  obtain ⟨pa, o, rfl, hl, rfl⟩ := hp
  refine hb_rt (he_and (he_c (hc_gt (he_lenT (K := K) Bm (he_par (R := rD K pa) 0 rfl)) (he_lenT Bm (he_par (R := rD K o) 1 rfl)))) fun _ => he_b1 (he_all rfl Bm (he_lcB (as := o) (fun c => decide (c ∈ pa)) (fun u Γ => Γ.set 2 (some (rD K u))) [("_law_column", 2)] rfl S.nd (HIt.ex (hi_tup (he_par (R := rD K o) 1 rfl))) (by omega) (fun s H0 C cl fp u => hg_name 2 S.nd)
    (fun s H0 C cl fp u hu => he_c (hc_inT (hu0 hr) (by decide) (he_var 2 rfl) (he_par (R := rD K pa) 0 rfl))) (by kernel_rfl)))) fun v H' e r => ⟨e, ?_⟩
  rw [List.all_map] at r
  exact r
def evens (sz : List Int) : List (List Rat) := sz.map fun s => List.replicate s.toNat 1
abbrev pEven (K : PySem.W.Frag) : PR := fun Rs R => ∃ sz : List Int, Rs = [rD K sz] ∧ sz ∈ allSz ∧ R = fun _ => rD K (evens sz)
theorem k_even_tilts [Tbs] (T : Has K mg 57 "even_tilts") (Bm : Bi mg) (G : Glo K mg) : Known P w K mg base 1 "even_tilts" (spF (pEven K)) := by
  have S : FnScope ["sizes", "size"] ["sizes"] (defScope (top 57)) := ⟨rfl, rfl, rfl, by decide +kernel, rfl, by decide +kernel, by decide +kernel⟩
  refine known_of T S (fun _ _ _ _ _ _ us hl => match us, hl with | [_], _ => rfl) (fun Rs R ⟨_, h, _⟩ => by rw [h] <;> rfl) fun f cdv A outer s H E hr Rs R hp => ?_
  obtain ⟨sz, rfl, hz, rfl⟩ := hp
  exact hb_rt (he_tupT Bm (HN.ls (hn_map (as := sz) (fun s => List.replicate s.toNat (1 : Rat)) (fun u Γ => Γ.set 1 (some (rD K u))) [("size", 1)] rfl S.nd (HIt.ex (hi_tup (he_par (R := rD K sz) 0 rfl))) (by have := (sz_len sz hz).2; omega) (fun s H0 C cl fp u => hg_name 1 S.nd)
    (fun s H0 C cl fp u hu => he_rep (he_one (he_gR (R := rD K (1 : Rat)) G.one)) (he_var 1 rfl) (by have := sz_all sz hz u hu; omega) (by have := sz_all sz hz u hu; omega)) (by kernel_rfl)))) fun v H' e r => ⟨e, r⟩
theorem k__law_even [Tbs] (T : Has K mg 92 "_law_even") (Bm : Bi mg) (G : Glo K mg) : Known P w K mg base 1 "_law_even" (spF (pEven K)) := by
  have S : FnScope ["_law_sizes_here", "_law_size"] ["_law_sizes_here"] (defScope (top 92)) := ⟨rfl, rfl, rfl, by decide +kernel, rfl, by decide +kernel, by decide +kernel⟩
  refine known_of T S (fun _ _ _ _ _ _ us hl => match us, hl with | [_], _ => rfl) (fun Rs R ⟨_, h, _⟩ => by rw [h] <;> rfl) fun f cdv A outer s H E hr Rs R hp => ?_
  obtain ⟨sz, rfl, hz, rfl⟩ := hp
  exact hb_rt (he_tupT Bm (HN.ls (hn_map (as := sz) (fun s => List.replicate s.toNat (1 : Rat)) (fun u Γ => Γ.set 1 (some (rD K u))) [("_law_size", 1)] rfl S.nd (HIt.ex (hi_tup (he_par (R := rD K sz) 0 rfl))) (by have := (sz_len sz hz).2; omega) (fun s H0 C cl fp u => hg_name 1 S.nd)
    (fun s H0 C cl fp u hu => he_rep (he_one (HE.eq (he_pair (K := K) (u := (1 : Int)) (v := (1 : Int)) he_int he_int) rat_one.symm)) (he_var 1 rfl) (by have := sz_all sz hz u hu; omega) (by have := sz_all sz hz u hu; omega)) (by kernel_rfl)))) fun v H' e r => ⟨e, r⟩
end
end CB
end
section
set_option Elab.async false
set_option linter.all false
set_option maxRecDepth 100000
set_option maxHeartbeats 2000000
set_option exponentiation.threshold 100
namespace CB
open PySem PySem.Spec PyProof.Rows L2 Enc
section
variable {P : Program} {w : World} {K : PySem.W.Frag} {mg : Str → Option Value} {base : Heap}
/-! ### the law's own fractions -/
theorem k__law_low [Tbs] (T : Has K mg 72 "_law_low") (Bm : Bi mg) : Known P w K mg base 1 "_law_low" (spF (pLow K)) := by
  have S : FnScope ["_law_top", "_law_bottom", "_law_one", "_law_other"] ["_law_top", "_law_bottom"] (defScope (top 72)) := ⟨rfl, rfl, rfl, by decide +kernel, rfl, by decide +kernel, by decide +kernel⟩
  refine known_of T S (fun _ _ _ _ _ _ us hl => match us, hl with | [_, _], _ => rfl) (fun Rs R ⟨_, _, h, _⟩ => by rw [h] <;> rfl) fun f cdv A outer s H E hr Rs R hp => ?_
  obtain ⟨t, b, rfl, hb, rfl⟩ := hp
  refine hb_par 2 3 rfl (he_abs (K := K) Bm (he_par (R := rD K t) 0 rfl)) (he_par (R := rD K (b : Int)) 1 rfl) ?_ S.nd (by decide)
  refine hb_while (ι := { g : Nat × Nat // g.1.gcd g.2 = t.natAbs.gcd b }) (fun g => SS ⟨H, H, H⟩ [some (cst H (rD K t)), some (cst H (rD K (b : Int))), some (rD K (g.1.1 : Int)), some (rD K (g.1.2 : Int))] []) (fun g => decide ((0 : Int) < (g.1.2 : Int))) (fun g => g.1.2) ⟨(t.natAbs, b), rfl⟩ nox (fun σ H' s => s) ?_ ?_ ?_
  · exact fun g => ht_c (hc_gt (he_var 3 rfl) he_int)
  · intro g hg
    have h0 : 0 < g.1.2 := by
      have := of_decide_eq_true hg
      omega
    refine hb_par 2 3 rfl (he_var 3 rfl) (he_mod (he_int1 Bm (he_var 2 rfl)) (he_var 3 rfl) (by omega)) (hb_nil fun σ H' s => ⟨⟨(g.1.2, g.1.1 % g.1.2), ?_⟩, Nat.mod_lt _ h0, s⟩) S.nd (by decide)
    refine Eq.trans ?_ g.2
    show g.1.2.gcd (g.1.1 % g.1.2) = _
    rw [Nat.gcd_comm, ← Nat.gcd_rec, Nat.gcd_comm]
  · intro g hg
    have h0 : g.1.2 = 0 := by
      have := of_decide_eq_false hg
      omega
    have e := g.2
    rw [h0, Nat.gcd_zero_right] at e
    have hd : ∀ i : Int, CDivW i (g.1.1 : Int) := fun i => by rw [e]; exact gcd_ok hb
    refine hb_rt (he_pair (he_fdiv (he_par (R := rD K t) 0 rfl) (he_var 2 rfl) (hd _)) (he_fdiv (he_par (R := rD K (b : Int)) 1 rfl) (he_var 2 rfl) (hd _))) fun v H' e1 r => ⟨e1, rat_pair hb.1 ?_⟩
    rw [← e]
    exact r
theorem k__law_plus [Tbs] (T : Has K mg 73 "_law_plus") (k1 : Known P w K mg base 1 "_law_low" (spF (pLow K))) : Known P w K mg base 2 "_law_plus" (spF (pPlus K)) := by
  have S : FnScope ["_law_one", "_law_other"] ["_law_one", "_law_other"] (defScope (top 73)) := ⟨rfl, rfl, rfl, by decide +kernel, rfl, by decide +kernel, by decide +kernel⟩
  refine known_of T S (fun _ _ _ _ _ _ us hl => match us, hl with | [_, _], _ => rfl) (fun Rs R ⟨_, _, h, _⟩ => by rw [h] <;> rfl) fun f cdv A outer s H E hr Rs R hp => ?_
  obtain ⟨a, b, rfl, hb, rfl⟩ := hp
  obtain ⟨n, m, h1, h2, h3⟩ := id hb
  exact hb_rt (he_call k1 hr (ha_cons (he_add (he_mul (he_num (he_par (R := rD K a) 0 rfl)) (he_den (he_par (R := rD K b) 1 rfl)) (cmul_of h1.1 h2.2 (by omega))) (he_mul (he_num (he_par (R := rD K b) 1 rfl)) (he_den (he_par (R := rD K a) 0 rfl)) (cmul_of h2.1 h1.2 (by omega)))) (ha_cons (he_mul (he_den (he_par (R := rD K a) 0 rfl)) (he_den (he_par (R := rD K b) 1 rfl)) (cmul_of h1.2 h2.2 (by omega))) ha_nil))
    (low_ok (Int.natCast_mul _ _).symm (ok2_den hb))) fun v H' e r => ⟨e, by rw [rat_add]; exact r⟩
theorem k__law_times [Tbs] (T : Has K mg 74 "_law_times") (k1 : Known P w K mg base 1 "_law_low" (spF (pLow K))) : Known P w K mg base 2 "_law_times" (spF (pTimes K)) := by
  have S : FnScope ["_law_one", "_law_other"] ["_law_one", "_law_other"] (defScope (top 74)) := ⟨rfl, rfl, rfl, by decide +kernel, rfl, by decide +kernel, by decide +kernel⟩
  refine known_of T S (fun _ _ _ _ _ _ us hl => match us, hl with | [_, _], _ => rfl) (fun Rs R ⟨_, _, h, _⟩ => by rw [h] <;> rfl) fun f cdv A outer s H E hr Rs R hp => ?_
  obtain ⟨a, b, rfl, hb, rfl⟩ := hp
  obtain ⟨n, m, h1, h2, h3⟩ := id hb
  exact hb_rt (he_call k1 hr (ha_cons (he_mul (he_num (he_par (R := rD K a) 0 rfl)) (he_num (he_par (R := rD K b) 1 rfl)) (cmul_of h1.1 h2.1 (by omega))) (ha_cons (he_mul (he_den (he_par (R := rD K a) 0 rfl)) (he_den (he_par (R := rD K b) 1 rfl)) (cmul_of h1.2 h2.2 (by omega))) ha_nil))
    (low_ok (Int.natCast_mul _ _).symm (ok2_den hb))) fun v H' e r => ⟨e, by rw [rat_mul]; exact r⟩
theorem k__law_over [Tbs] (T : Has K mg 75 "_law_over") (k1 : Known P w K mg base 1 "_law_low" (spF (pLow K))) : Known P w K mg base 2 "_law_over" (spF (pOver K)) := by
  have S : FnScope ["_law_one", "_law_other"] ["_law_one", "_law_other"] (defScope (top 75)) := ⟨rfl, rfl, rfl, by decide +kernel, rfl, by decide +kernel, by decide +kernel⟩
  refine known_of T S (fun _ _ _ _ _ _ us hl => match us, hl with | [_, _], _ => rfl) (fun Rs R ⟨_, _, h, _⟩ => by rw [h] <;> rfl) fun f cdv A outer s H E hr Rs R hp => ?_
  obtain ⟨a, b, rfl, ⟨hb, h0⟩, rfl⟩ := hp
  obtain ⟨n, m, h1, h2, h3⟩ := id hb
  exact hb_rt (he_call k1 hr (ha_cons (he_mul (he_num (he_par (R := rD K a) 0 rfl)) (he_den (he_par (R := rD K b) 1 rfl)) (cmul_of h1.1 h2.2 (by omega))) (ha_cons (he_mul (he_den (he_par (R := rD K a) 0 rfl)) (he_num (he_par (R := rD K b) 1 rfl)) (cmul_of h1.2 h2.1 (by omega))) ha_nil))
    (low_ok (by rw [Int.natCast_mul, Int.toNat_of_nonneg (by omega)]) (ok2_over hb h0))) fun v H' e r => ⟨e, by rw [rat_div _ _ h0]; exact r⟩
/-- products -/
def rprod (as : List Rat) : Rat := as.foldl (· * ·) 1
theorem rprod_snoc (as : List Rat) (a : Rat) : rprod (as ++ [a]) = rprod as * a := by unfold rprod; rw [List.foldl_append]; rfl
abbrev pProd (K : PySem.W.Frag) : PR := fun Rs R => ∃ as : List Rat, Rs = [rLs K as] ∧ (∀ i a, as[i]? = some a → Ok2 (rprod (as.take i)) a) ∧ R = fun _ => rD K (rprod as)
theorem k__law_sum [Tbs] (T : Has K mg 76 "_law_sum") (k1 : Known P w K mg base 2 "_law_plus" (spF (pPlus K))) : Known P w K mg base 3 "_law_sum" (spF (pSum K)) := by
  have S : FnScope ["_law_some", "_law_found", "_law_part"] ["_law_some"] (defScope (top 76)) := ⟨rfl, rfl, rfl, by decide +kernel, rfl, by decide +kernel, by decide +kernel⟩
  refine known_of T S (fun _ _ _ _ _ _ us hl => match us, hl with | [_], _ => rfl) (fun Rs R ⟨_, h, _⟩ => by rw [h] <;> rfl) fun f cdv A outer s H E hr Rs R hp => ?_
  obtain ⟨as, rfl, hs, rfl⟩ := hp
  refine hb_set (R := rD K (rsum (as.take 0))) 1 (HE.eq (he_pair (K := K) (u := (0 : Int)) (v := (1 : Int)) he_int he_int) rfl) ?_ S.nd
  refine hb_forP (x := "_law_some") 0 (fun i => [some (cst H (rLs K as)), some (rD K (rsum (as.take i))), none]) (fun _ => []) (fun u Γ => Γ.set 2 (some (rD K u))) rfl nox rfl ?_ (List.Sublist.refl _) (fun u => hg_name 2 S.nd) (fun t i u hu => ?_) ?_
  · exact Subg.refl _
  · refine hb_set 1 (he_call k1 hr (ha_cons (he_var 1 rfl) (ha_cons (he_var 2 rfl) ha_nil)) ⟨_, _, rfl, hs i u hu, rfl⟩) (hb_nil fun σ H' s => ?_) S.nd
    rw [take_snoc hu, rsum_snoc]
    exact s.sub ⟨rfl, rfl, trivial⟩
  · rw [List.take_length]
    exact hb_rt (he_var 1 rfl) fun v H' e r => ⟨e, r⟩
theorem k__law_all_times [Tbs] (T : Has K mg 77 "_law_all_times") (k1 : Known P w K mg base 2 "_law_times" (spF (pTimes K))) : Known P w K mg base 3 "_law_all_times" (spF (pProd K)) := by
  have S : FnScope ["_law_some", "_law_found", "_law_part"] ["_law_some"] (defScope (top 77)) := ⟨rfl, rfl, rfl, by decide +kernel, rfl, by decide +kernel, by decide +kernel⟩
  refine known_of T S (fun _ _ _ _ _ _ us hl => match us, hl with | [_], _ => rfl) (fun Rs R ⟨_, h, _⟩ => by rw [h] <;> rfl) fun f cdv A outer s H E hr Rs R hp => ?_
  obtain ⟨as, rfl, hs, rfl⟩ := hp
  refine hb_set (R := rD K (rprod (as.take 0))) 1 (HE.eq (he_pair (K := K) (u := (1 : Int)) (v := (1 : Int)) he_int he_int) rfl) ?_ S.nd
  refine hb_forP (x := "_law_some") 0 (fun i => [some (cst H (rLs K as)), some (rD K (rprod (as.take i))), none]) (fun _ => []) (fun u Γ => Γ.set 2 (some (rD K u))) rfl nox rfl ?_ (List.Sublist.refl _) (fun u => hg_name 2 S.nd) (fun t i u hu => ?_) ?_
  · exact Subg.refl _
  · refine hb_set 1 (he_call k1 hr (ha_cons (he_var 1 rfl) (ha_cons (he_var 2 rfl) ha_nil)) ⟨_, _, rfl, hs i u hu, rfl⟩) (hb_nil fun σ H' s => ?_) S.nd
    rw [take_snoc hu, rprod_snoc]
    exact s.sub ⟨rfl, rfl, trivial⟩
  · rw [List.take_length]
    exact hb_rt (he_var 1 rfl) fun v H' e r => ⟨e, r⟩
/-! ### lots, places -/
def lastOf (l : List Int) : Int := l.getLast?.getD (-1)
def LotOk (l : List Int) (m : Int) : Prop := ∀ (i : Nat) (a : Int), l[i]? = some a → lastOf (l.take i) + 1 ≤ a ∧ a ≤ m - 1
abbrev pLot (K : PySem.W.Frag) : PR := fun Rs R => ∃ (l : List Int) (m : Int), Rs = [rD K l, rD K m] ∧ LotOk l m ∧ R = fun _ => rB true
theorem k_is_lot [Tbs] (T : Has K mg 3 "is_lot") (Bm : Bi mg) (k1 : Known P w K mg base 2 "is_within" (spF (pWithin K))) : Known P w K mg base 3 "is_lot" (spF (pLot K)) := by
  have S : FnScope ["thing", "many", "last", "number"] ["thing", "many"] (defScope (top 3)) := ⟨rfl, rfl, rfl, by decide +kernel, rfl, by decide +kernel, by decide +kernel⟩
  refine known_of T S (fun _ _ _ _ _ _ us hl => match us, hl with | [_, _], _ => rfl) (fun Rs R ⟨_, _, h, _⟩ => by rw [h] <;> rfl) fun f cdv A outer s H E hr Rs R hp => ?_
  obtain ⟨l, m, rfl, hl, rfl⟩ := hp
  refine hb_if (ht_not (ht_val (he_isiTup Bm (he_par (R := rD K l) 0 rfl)))) (fun h => nomatch h) fun _ => hb_nil ?_
  refine hb_set (R := rD K (lastOf (l.take 0))) 2 (he_neg (i := 1) he_int) ?_ S.nd
  refine hb_for (as := l) (fun i => [some (cst H (rD K l)), some (cst H (rD K m)), some (rD K (lastOf (l.take i))), none]) (fun _ => []) (fun u Γ => Γ.set 3 (some (rD K u))) rfl nox (hi_tup (he_par (R := rD K l) 0 rfl)) (Subg.refl _) (List.Sublist.refl _) (fun u => hg_name 3 S.nd) (fun t i u hu => ?_) ?_
  · have h1 := hl i u hu
    refine hb_if (ht_not (ht_val (he_call k1 hr (ha_cons (he_var 3 rfl) (ha_cons (he_add (he_var 2 rfl) he_int) (ha_cons (he_sub (he_par (R := rD K m) 1 rfl) he_int) ha_nil))) ⟨_, _, _, rfl, rfl⟩))) (fun h => ?_) fun _ => hb_nil ?_
    · exfalso
      have e2 : (decide (lastOf (l.take i) + 1 ≤ u) && decide (u ≤ m - 1)) = true := by
        rw [decide_eq_true h1.1, decide_eq_true h1.2] <;> rfl
      rw [e2] at h
      cases h
    · refine hb_set 2 (he_var 3 rfl) (hb_nil fun σ H' s => ?_) S.nd
      have e3 : lastOf (l.take (i + 1)) = u := by
        rw [take_snoc hu]
        unfold lastOf
        rw [List.getLast?_append]
        rfl
      rw [e3]
      exact s.sub ⟨rfl, rfl, rfl, trivial⟩
  · exact hb_rt he_bl fun v H' e r => ⟨e, r⟩
def CtOk (sz c : List Int) : Prop := c.length = sz.length ∧ (c.zip sz).all (fun p => decide (0 ≤ p.1) && decide (p.1 ≤ p.2 - 1)) = true
abbrev pPlace (K : PySem.W.Frag) : PR := fun Rs R => ∃ (sz c l : List Int), Rs = [rD K sz, rD K (c, l)] ∧ (sz ∈ allSz ∧ CtOk sz c ∧ LotOk l (sz.length : Int)) ∧ R = fun _ => rB true
theorem k_is_place [Tbs] (T : Has K mg 41 "is_place") (Bm : Bi mg) (k1 : Known P w K mg base 1 "is_pair" (spF (pPair K))) (k2 : Known P w K mg base 3 "is_content" (spF (pContent K))) (k3 : Known P w K mg base 3 "is_lot" (spF (pLot K))) : Known P w K mg base 4 "is_place" (spF (pPlace K)) := by
  have S : FnScope ["sizes", "thing"] ["sizes", "thing"] (defScope (top 41)) := ⟨rfl, rfl, rfl, by decide +kernel, rfl, by decide +kernel, by decide +kernel⟩
  refine known_of T S (fun _ _ _ _ _ _ us hl => match us, hl with | [_, _], _ => rfl) (fun Rs R ⟨_, _, _, h, _⟩ => by rw [h] <;> rfl) fun f cdv A outer s H E hr Rs R hp => ?_
  obtain ⟨sz, c, l, rfl, ⟨hz, hc, hl⟩, rfl⟩ := hp
  refine hb_rt (he_and (he_call k1 hr (ha_cons (he_par (R := rD K (c, l)) 1 rfl) ha_nil) ⟨_, rfl, rfl⟩) fun _ => he_and (he_call k2 hr (ha_cons (he_par (R := rD K sz) 0 rfl) (ha_cons (he_fst (he_par (R := rD K (c, l)) 1 rfl)) ha_nil)) ⟨sz, c, rfl, ⟨hc.1, by have := (sz_len sz hz).2; omega⟩, rfl⟩) fun _ => he_b1 (he_call k3 hr (ha_cons (he_snd (he_par (R := rD K (c, l)) 1 rfl)) (ha_cons (he_lenT Bm (he_par (R := rD K sz) 0 rfl)) ha_nil)) ⟨l, _, rfl, hl, rfl⟩)) fun v H' e r => ⟨e, ?_⟩
  rw [hc.2] at r
  exact r
/-! ### tilts -/
theorem ct_at {sz c : List Int} (h : CtOk sz c) {i : Nat} {w : Int} (hw : c[i]? = some w) : ∃ s, sz[i]? = some s ∧ 0 ≤ w ∧ w < s := by
  have hi : i < c.length := (List.getElem?_eq_some_iff.mp hw).1
  have hs : sz[i]? = some (sz[i]'(by rw [← h.1]; exact hi)) := List.getElem?_eq_getElem _
  refine ⟨_, hs, ?_⟩
  have hm : (w, sz[i]'(by rw [← h.1]; exact hi)) ∈ c.zip sz := List.mem_of_getElem? (List.getElem?_zip_eq_some.mpr ⟨hw, hs⟩)
  have := List.all_eq_true.mp h.2 _ hm
  simp at this
  omega
theorem ok_one : Ok2 1 1 := ⟨1, 1, ⟨by decide, by decide⟩, ⟨by decide, by decide⟩, by decide⟩
abbrev pTilt (K : PySem.W.Frag) : PR := fun Rs R => ∃ (sz c l : List Int), Rs = [rD K (evens sz), rD K c, rD K l] ∧ (sz ∈ allSz ∧ CtOk sz c) ∧ R = fun _ => rD K (1 : Rat)
theorem k_tilt_at [Tbs] (T : Has K mg 58 "tilt_at") (Bm : Bi mg) (G : Glo K mg) (k1 : Known P w K mg base 3 "times" (spF (pTimes K))) : Known P w K mg base 4 "tilt_at" (spF (pTilt K)) := by
  have S : FnScope ["tilts", "content", "pattern", "found", "column", "worth"] ["tilts", "content", "pattern"] (defScope (top 58)) := ⟨rfl, rfl, rfl, by decide +kernel, rfl, by decide +kernel, by decide +kernel⟩
  refine known_of T S (fun _ _ _ _ _ _ us hl => match us, hl with | [_, _, _], _ => rfl) (fun Rs R ⟨_, _, _, h, _⟩ => by rw [h] <;> rfl) fun f cdv A outer s H E hr Rs R hp => ?_
  obtain ⟨sz, c, l, rfl, ⟨hz, hc⟩, rfl⟩ := hp
  refine hb_set (R := rD K (1 : Rat)) 3 (he_gR G.one) ?_ S.nd
  refine hb_for (as := enumL c) (fun i => [some (cst H (rD K (evens sz))), some (cst H (rD K c)), some (cst H (rD K l)), some (rD K (1 : Rat)), none, none]) (fun _ => []) (fun u Γ => (Γ.set 4 (some (rD K u.1))).set 5 (some (rD K u.2))) rfl nox (hi_enum Bm (he_par (R := rD K c) 1 rfl)) (Subg.refl _) (List.Sublist.refl _) (fun u => hg_pair 4 5 rfl S.nd) (fun t i u hu => ?_) ?_
  · refine hb_if (ht_c (hc_notInT (hu0 hr) (by decide) (he_var 4 rfl) (he_par (R := rD K l) 2 rfl))) (fun h => ?_) fun h => hb_nil (hb_nil fun σ H' s => s.sub ⟨rfl, rfl, rfl, rfl, trivial⟩)
    obtain ⟨j, h1, h2⟩ := enumL_mem (List.mem_of_getElem? hu)
    obtain ⟨s0, g1, g2, g3⟩ := ct_at hc h1
    have a1 : (evens sz)[j]? = some (List.replicate s0.toNat (1 : Rat)) := by unfold evens; rw [List.getElem?_map, g1]; rfl
    have a2 : (List.replicate s0.toNat (1 : Rat))[u.2.toNat]? = some 1 := by
      rw [List.getElem?_replicate, if_pos (by omega)]
    refine hb_set 3 (he_call (R := rD K ((1 : Rat) * 1)) k1 hr (ha_cons (he_var 3 rfl) (ha_cons (he_at (as := List.replicate s0.toNat (1 : Rat)) (he_at (as := evens sz) (he_par (R := rD K (evens sz)) 0 rfl) (he_var 4 rfl) plainIx_name (by rw [h2]; exact atI_nat a1)) (he_var 5 rfl) plainIx_name (u := (1 : Rat)) ?_) ha_nil)) ⟨1, 1, rfl, ok_one, rfl⟩) (hb_nil (hb_nil fun σ H' s => ?_)) S.nd
    · have e4 : u.2 = ((u.2.toNat : Nat) : Int) := by omega
      rw [e4]
      exact atI_nat a2
    · rw [show (1 : Rat) * 1 = 1 from Rat.mul_one 1] at s
      exact s.sub ⟨rfl, rfl, rfl, rfl, trivial⟩
  · exact hb_rt (he_var 3 rfl) fun v H' e r => ⟨e, r⟩
end
end CB
end
section
set_option Elab.async false
set_option linter.all false
set_option maxRecDepth 100000
set_option maxHeartbeats 2000000
set_option exponentiation.threshold 100
namespace CB
open PySem PySem.Spec PyProof.Rows L2 Enc
section
variable {P : Program} {w : World} {K : PySem.W.Frag} {mg : Str → Option Value} {base : Heap}
/-- a def whose code object is c -/
def HasC (K : PySem.W.Frag) (mg : Str → Option Value) (i : Nat) (x : Str) (c : Addr) : Prop := ∃ (f : Addr) (oc : Value) (od : Option Addr) (kV doc pm : Value) (an : Option Addr) (ct : Value) (osl : Array (Option Value)),
  mg x = some (.ref f) ∧ K.lookup f = some ⟨oc, od, .func (PySem.W.fnOf x x (defArgs (top i)) (defBody (top i)) (defScope (top i)) .none kV doc pm an (.ref c) ct), osl⟩ ∧ PySem.W.codeIn K (.ref c) x = true ∧ PySem.W.keepIn K (.ref f) = true
def lamQ (x : Str) : Str := (envOfC x (defScope (top 0)) 0 0 .none).qual ++ "<lambda>"
structure LamK [Tbs] (base : Heap) (mg : Str → Option Value) (x : Str) (c P : Addr) : Prop where
  tab : LamX.TabB base mg c P
  mem : (P, lamQ x) ∈ Tbs.T
  uniq : ∀ p ∈ Tbs.T, p.1 = P → p.2 = lamQ x
theorem known_ofC [Tbs] {x : Str} {i k : Nat} {c : Addr} {N ps : List Str} {p : PR} (T : HasC K mg i x c) (sc : FnScope N ps (defScope (top i)))
    (hb : ∀ (kV doc pm : Value) (an : Option Addr) (cdv ct : Value) (us : List Value), us.length = ps.length → bindArgs (PySem.W.fnOf x x (defArgs (top i)) (defBody (top i)) (defScope (top i)) .none kV doc pm an cdv ct) ⟨us, []⟩ = pure (ps.zip us))
    (hp : ∀ Rs R, p Rs R → Rs.length = ps.length)
    (body : ∀ (f : Addr) (A : Around) (outer : List Env) (s : Shared) (H : Hp) (E : XK), Room k (A.deeper (envOfC x (defScope (top i)) s.heap.objs.size f (.ref c))) → ∀ Rs R, p Rs R →
      HB (cxOf CX0 P w K mg base N x (defScope (top i)) f (.ref c) A outer s H E).nox (SS ⟨H, H, H⟩ (G0 H N Rs) []) (defBody (top i)) (D0 H R)) : Known P w K mg base (k + 1) x (spF p) := by
  obtain ⟨f, oc, od, kV, doc, pm, an, ct, osl, hm, lk, hcd, hkp⟩ := T
  refine ⟨f, _, ps, fn_of lk hcd sc (fun vs H Q E h => ?_) (fun A outer s H vs Q E hr h => ?_), hm, hkp, Binds.all (hb kV doc pm an (.ref c) ct)⟩
  · obtain ⟨Rs, R, h1, h2, _⟩ := h
    rw [h2.len]
    exact hp Rs R h1
  · obtain ⟨Rs, R, h1, h2, htb, h3⟩ := h
    have hl : Rs.length ≤ N.length := by
      have := congrArg List.length sc.pre
      rw [List.length_take] at this
      have := hp Rs R h1
      omega
    refine ⟨_, PSs.nox (pb_w (X := (cxOf CX0 P w K mg base N x (defScope (top i)) f (.ref c) A outer s H E).nox) (b := defBody (top i))), fun pins sh I => ?_⟩
    refine thn (body f A outer s H E hr Rs R h1 _ H (SS.start h2 hl htb) pins sh I) fun fl s' q => ?_
    cases fl with
    | next => obtain ⟨σ', H', I', e1, q⟩ := q; exact ⟨σ', H', I', h3 _ _ e1 q⟩
    | ret u => obtain ⟨v, σ', H', I', r, e1, q⟩ := q; exact ⟨v, σ', H', I', r, h3 _ _ e1 q⟩
    | brk => obtain ⟨_, _, _, q⟩ := q; exact q.elim
    | cont => obtain ⟨_, _, _, q⟩ := q; exact q.elim
/-! ### all lots -/
def lotsR : Nat → List (List Int)
  | 0 => [[]]
  | n + 1 => lotsR n ++ (lotsR n).map (· ++ [(n : Int)])
theorem lotsR_ok : ∀ (n : Nat), n ≤ 4 → (lotsR n).length ≤ 16 ∧ ∀ l ∈ lotsR n, l.length ≤ 4
  | 0, _ => by decide
  | 1, _ => by decide
  | 2, _ => by decide
  | 3, _ => by decide
  | 4, _ => by decide
  | n + 5, h => by omega
theorem rgL_get {n : Nat} {i : Nat} {u : Int} (h : (rgL 0 (n : Int))[i]? = some u) : i < n ∧ u = (i : Int) := by
  unfold rgL at h
  rw [List.getElem?_map] at h
  obtain ⟨j, h1, h2⟩ := Option.map_eq_some_iff.mp h
  have := List.getElem?_eq_some_iff.mp h1
  obtain ⟨h3, h4⟩ := this
  rw [List.length_range] at h3
  rw [List.getElem_range] at h4
  omega
abbrev pLotsA (K : PySem.W.Frag) : PR := fun Rs R => ∃ n : Nat, Rs = [rD K (n : Int)] ∧ n ≤ 4 ∧ R = rNew (CL K (ksort false (lotsR n)))
abbrev pLotsB (K : PySem.W.Frag) : PR := fun Rs R => ∃ n : Nat, Rs = [rD K (n : Int)] ∧ n ≤ 4 ∧ R = rNew (CL K (esort (lotsR n)))
theorem k_all_lots [Tbs] {lc lp : Addr} (T : HasC K mg 5 "all_lots" lc) (L : LamK base mg "all_lots" lc lp) (Bm : Bi mg) : Known P w K mg base 2 "all_lots" (spF (pLotsA K)) := by
  have S : FnScope ["many", "found", "number", "lot"] ["many"] (defScope (top 5)) := ⟨rfl, rfl, rfl, by decide +kernel, rfl, by decide +kernel, by decide +kernel⟩
  refine known_ofC T S (fun _ _ _ _ _ _ us hl => match us, hl with | [_], _ => rfl) (fun Rs R ⟨_, h, _⟩ => by rw [h] <;> rfl) fun f A outer s H E hr Rs R hp => ?_
  obtain ⟨n, rfl, hn, rfl⟩ := hp
  refine hb_setL (as := lotsR 0) (K := K) 1 (hn_lst (l := [([] : List Int)]) (ha_cons he_unit ha_nil) (by simp)) (fun q0 => ?_) S.nd
  refine hb_forX (ι := Addr) (as := rgL 0 (n : Int)) (fun q _ => [some (cst H (rD K (n : Int))), some (rEq (.ref q)), none, none]) (fun q i => [oL K q (lotsR i)]) q0 (fun u Γ => Γ.set 2 (some (rD K u))) rfl nox (hi_range1 Bm (he_par (R := rD K (n : Int)) 0 rfl) (by omega) (by omega)) (Subg.refl _) (List.Sublist.refl _) (fun u => hg_name 2 S.nd) (fun t q i u hu => ?_) (fun q => ?_)
  · obtain ⟨hi, rfl⟩ := rgL_get hu
    obtain ⟨b1, b2⟩ := lotsR_ok i (by omega)
    refine hb_setL (as := lotsR (i + 1)) (K := K) 1 (hn_cat 1 0 rfl rfl (hn_map (as := lotsR i) (· ++ [(i : Int)]) (fun u Γ => Γ.set 3 (some (rD K u))) [("lot", 3)] rfl S.nd (hi_list (he_own 1 0 rfl rfl)) (by omega) (fun s H0 C cl fp u => hg_name 3 S.nd)
      (fun s H0 C cl fp u hu => he_cat (he_var 3 rfl) (he_one (he_var 2 rfl)) (by have := b2 u hu; simp; omega)) (by kernel_rfl)) (by rw [List.length_map]; omega)) (fun q2 => hb_nil fun σ H' s => ⟨q2, ?_⟩) S.nd
    exact s.subd ⟨rfl, rfl, trivial⟩ (List.Sublist.cons_cons _ (List.nil_sublist _))
  · have hl : (rgL 0 (n : Int)).length = n := by rw [rgL_len]; omega
    rw [hl]
    obtain ⟨b1, b2⟩ := lotsR_ok n hn
    exact hb_rtN (hn_sortK (x := "lot") (p4 := ⟨0, 0, 0, 0⟩) false ⟨L.tab, rfl, L.mem, L.uniq⟩ Bm hr (he_own 1 0 rfl rfl) (by omega) (fun l hl => by have := b2 l hl; omega) rfl rfl (fun _ _ _ _ => rfl) rfl rfl rfl rfl (by decide) (by decide)) fun q H' e n c => ⟨e, q, rfl, n, c⟩
theorem k__law_patterns [Tbs] (T : Has K mg 81 "_law_patterns") (Bm : Bi mg) : Known P w K mg base 1 "_law_patterns" (spF (pLotsB K)) := by
  have S : FnScope ["_law_many", "_law_found", "_law_column", "_law_lot"] ["_law_many"] (defScope (top 81)) := ⟨rfl, rfl, rfl, by decide +kernel, rfl, by decide +kernel, by decide +kernel⟩
  refine known_of T S (fun _ _ _ _ _ _ us hl => match us, hl with | [_], _ => rfl) (fun Rs R ⟨_, h, _⟩ => by rw [h] <;> rfl) fun f cdv A outer s H E hr Rs R hp => ?_
  obtain ⟨n, rfl, hn, rfl⟩ := hp
  refine hb_setL (as := lotsR 0) (K := K) 1 (hn_lst (l := [([] : List Int)]) (ha_cons he_unit ha_nil) (by simp)) (fun q0 => ?_) S.nd
  refine hb_forX (ι := Addr) (as := rgL 0 (n : Int)) (fun q _ => [some (cst H (rD K (n : Int))), some (rEq (.ref q)), none, none]) (fun q i => [oL K q (lotsR i)]) q0 (fun u Γ => Γ.set 2 (some (rD K u))) rfl nox (hi_range1 Bm (he_par (R := rD K (n : Int)) 0 rfl) (by omega) (by omega)) (Subg.refl _) (List.Sublist.refl _) (fun u => hg_name 2 S.nd) (fun t q i u hu => ?_) (fun q => ?_)
  · obtain ⟨hi, rfl⟩ := rgL_get hu
    obtain ⟨b1, b2⟩ := lotsR_ok i (by omega)
    refine hb_setL (as := lotsR (i + 1)) (K := K) 1 (hn_cat 1 0 rfl rfl (hn_map (as := lotsR i) (· ++ [(i : Int)]) (fun u Γ => Γ.set 3 (some (rD K u))) [("_law_lot", 3)] rfl S.nd (hi_list (he_own 1 0 rfl rfl)) (by omega) (fun s H0 C cl fp u => hg_name 3 S.nd)
      (fun s H0 C cl fp u hu => he_cat (he_var 3 rfl) (he_one (he_var 2 rfl)) (by have := b2 u hu; simp; omega)) (by kernel_rfl)) (by rw [List.length_map]; omega)) (fun q2 => hb_nil fun σ H' s => ⟨q2, ?_⟩) S.nd
    exact s.subd ⟨rfl, rfl, trivial⟩ (List.Sublist.cons_cons _ (List.nil_sublist _))
  · have hl : (rgL 0 (n : Int)).length = n := by rw [rgL_len]; omega
    rw [hl]
    obtain ⟨b1, b2⟩ := lotsR_ok n hn
    exact hb_rtN (he_sortL Bm (hu0 hr) (by decide) (he_own 1 0 rfl rfl)) fun q H' e n c => ⟨e, q, rfl, n, c⟩
abbrev pLotsC (K : PySem.W.Frag) : PR := fun Rs R => ∃ n : Nat, Rs = [rD K (n : Int)] ∧ n ≤ 4 ∧ R = rNew (CL K (esort (ksort false (lotsR n))))
theorem k_patterns_of [Tbs] (T : Has K mg 34 "patterns_of") (Bm : Bi mg) (k1 : Known P w K mg base 2 "all_lots" (spF (pLotsA K))) : Known P w K mg base 3 "patterns_of" (spF (pLotsC K)) := by
  have S : FnScope ["many"] ["many"] (defScope (top 34)) := ⟨rfl, rfl, rfl, by decide +kernel, rfl, by decide +kernel, by decide +kernel⟩
  refine known_of T S (fun _ _ _ _ _ _ us hl => match us, hl with | [_], _ => rfl) (fun Rs R ⟨_, h, _⟩ => by rw [h] <;> rfl) fun f cdv A outer s H E hr Rs R hp => ?_
  obtain ⟨n, rfl, hn, rfl⟩ := hp
  exact hb_rtN (he_sortL Bm (hu0 hr) (by decide) (HN.ls (hn_call k1 hr (ha_cons (he_par (R := rD K (n : Int)) 0 rfl) ha_nil) ⟨n, rfl, hn, rfl⟩))) fun q H' e n c => ⟨e, q, rfl, n, c⟩
abbrev pDown (K : PySem.W.Frag) : PR := fun Rs R => ∃ as : List (List Int), Rs = [rLs K as] ∧ (as.length ≤ 100 ∧ ∀ l ∈ as, l.length ≤ 100) ∧ R = rNew (CL K (ksort true as))
theorem k_down [Tbs] {lc lp : Addr} (T : HasC K mg 59 "down" lc) (L : LamK base mg "down" lc lp) (Bm : Bi mg) : Known P w K mg base 2 "down" (spF (pDown K)) := by
  have S : FnScope ["patterns"] ["patterns"] (defScope (top 59)) := ⟨rfl, rfl, rfl, by decide +kernel, rfl, by decide +kernel, by decide +kernel⟩
  refine known_ofC T S (fun _ _ _ _ _ _ us hl => match us, hl with | [_], _ => rfl) (fun Rs R ⟨_, h, _⟩ => by rw [h] <;> rfl) fun f A outer s H E hr Rs R hp => ?_
  obtain ⟨as, rfl, ⟨h1, h2⟩, rfl⟩ := hp
  exact hb_rtN (hn_sortK (x := "pattern") true ⟨L.tab, rfl, L.mem, L.uniq⟩ Bm hr (he_par (R := rLs K as) 0 rfl) (by omega) (fun l hl => by have := h2 l hl; omega) rfl rfl (fun _ _ _ _ => rfl) rfl rfl rfl rfl (by decide) (by decide)) fun q H' e n c => ⟨e, q, rfl, n, c⟩
end
end CB
end
section
set_option Elab.async false
set_option linter.all false
set_option maxRecDepth 100000
set_option maxHeartbeats 2000000
/-! R. a lambda with one parameter and one captured name, handed to a def. -/
namespace CB
open PySem PySem.Spec PyProof.Rows L2 Enc

/-- the cell at c as it is -/
def CellO (c : Addr) (o : Obj) : HO := .ext fun h => h.get? c = some o
theorem cellO_ne {c : Addr} {o : Obj} (ps : Array Value) : CellO c o ≠ .tbl ps := fun z => by
  unfold CellO at z
  cases z
theorem pl_cell {c : Addr} {o : Obj} {v : Option Value} (hd : o.data = .cell v) : Pl c (CellO c o) := ⟨cellO_ne, fun q z => by
  have e : (fun h : Heap => h.get? c = some o) = fun h => ∃ (oc : Obj) (vs : Array Value) (t : Tok), h.get? c = some oc ∧ oc.data = .fields vs ∧ vs[1]? = some (.str q t) := HO.ext.inj z
  let o' : Obj := { cls := .none, data := .fields #[.none, .str q 0] }
  have hg : (({ objs := Array.replicate (c + 1) o' } : Heap).get? c) = some o' := by
    simp [Heap.get?, o']
  have h2 : (fun h : Heap => h.get? c = some o) { objs := Array.replicate (c + 1) o' } := by
    rw [e]
    exact ⟨o', _, 0, hg, rfl, rfl⟩
  have h3 : ({ objs := Array.replicate (c + 1) o' } : Heap).get? c = some o := h2
  rw [hg] at h3
  rw [← Option.some.inj h3] at hd
  cases hd⟩
def hid (H : Hp) (c : Addr) : Hp := fun b => if b = c then none else H b
theorem hid_same {H : Hp} {c : Addr} : hid H c c = none := if_pos rfl
theorem hid_ne {H : Hp} {c b : Addr} (h : b ≠ c) : hid H c b = H b := if_neg h
theorem hid_none {H : Hp} {c b : Addr} (h : H b = none) : hid H c b = none := by
  by_cases e : b = c
  · rw [e]; exact hid_same
  · rw [hid_ne e]; exact h
section
variable {P : Program} {w : World} {H H2 : Hp} {h h' : Heap} {c : Addr} {o : Obj} {fs : List Addr}
theorem hok_hid (k : HOk P w H h) (hc : H c = some (CellO c o)) : HOk P w (hid H c) h := fun a u e => by
  have n : a ≠ c := fun z => by rw [z, hid_same] at e; cases e
  rw [hid_ne n] at e
  refine (k a u e).stay (fun _ _ _ q => q) (fun b q => ?_) fun b xs q => ?_
  · rw [hid_ne (fun z => by rw [z, hc] at q; cases q)]; exact q
  · rw [hid_ne (fun z => by rw [z, hc] at q; cases q)]; exact q
theorem hok_show (k : HOk P w H2 h') (hn : H2 c = none) (ho : h'.get? c = some o) : HOk P w (upd H2 c (CellO c o)) h' := fun a u e => by
  by_cases z : a = c
  · subst z
    rw [upd_same] at e
    cases e
    exact ⟨ho, ⟨o, ho⟩, fun h1 h2 y st => st _ y⟩
  · rw [upd_ne z] at e
    refine (k a u e).stay (fun _ _ _ q => q) (fun b q => ?_) fun b xs q => ?_
    · rw [upd_ne (ne_of_none q hn)]; exact q
    · rw [upd_ne (ne_of_none q hn)]; exact q
/-- a callee that did not see the cell -/
theorem un_in (u : Un fs [] (hid H c) H2 h h') (hc : H c = some (CellO c o)) (ho : h.get? c = some o) (hf : c ∉ fs) : h'.get? c = some o ∧ H2 c = none ∧ Un fs [] H (upd H2 c (CellO c o)) h h' := by
  have a1 : h'.get? c = some o := u.keep c o ho hid_same hf (by simp)
  have a2 : H2 c = none := u.free c o ho hid_same (by simp)
  have ne : ∀ {b}, H b = none → b ≠ c := fun {b} z q => by rw [q, hc] at z; cases z
  have ne2 : ∀ {b v}, H b = some v → v ≠ CellO c o → b ≠ c := fun {b v} z n q => by rw [q, hc] at z; exact n (Option.some.inj z).symm
  refine ⟨a1, a2, fun b ob q n hb hx => u.keep b ob q (hid_none n) hb hx, fun b ob q n hb hx => u.slot b ob q (hid_none n) hb hx, fun b ob q n hx => ?_, u.there, fun b xs q => ?_, fun b ob v q => ?_, fun b ps q => ?_⟩
  · rw [upd_ne (ne n)]; exact u.free b ob q (hid_none n) hx
  · have n := ne2 q (fun z => by unfold CellO at z; cases z)
    rw [upd_ne n]; exact u.tups b xs (by rw [hid_ne n]; exact q)
  · have n := ne2 q (fun z => by unfold CellO at z; cases z)
    rw [upd_ne n]; exact u.frzs b ob v (by rw [hid_ne n]; exact q)
  · have n := ne2 q (fun z => by unfold CellO at z; cases z)
    rw [upd_ne n]; exact u.tbls b ps (by rw [hid_ne n]; exact q)
/-- a callee that saw it -/
theorem un_out (u : Un fs [] (upd H c (CellO c o)) H2 h h') (k : HOk P w H2 h') (hc : H c = none) (h2 : H2 c = some (CellO c o)) (ho : h.get? c = some o) (hf : c ∉ fs) : Un fs [] H (hid H2 c) h h' := by
  obtain ⟨a1, _, _⟩ := k c _ h2
  have a1 : h'.get? c = some o := a1
  refine ⟨fun b ob q n hb hx => ?_, fun b ob q n hb hx => ?_, fun b ob q n hx => ?_, u.there, fun b xs q => ?_, fun b ob v q => ?_, fun b ps q => ?_⟩
  · by_cases z : b = c
    · subst z
      rw [ho] at q
      cases q
      exact a1
    · exact u.keep b ob q (by rw [upd_ne z]; exact n) hb hx
  · have z : b ≠ c := fun z => hf (z ▸ hb)
    exact u.slot b ob q (by rw [upd_ne z]; exact n) hb hx
  · by_cases z : b = c
    · rw [z]; exact hid_same
    · rw [hid_ne z]; exact u.free b ob q (by rw [upd_ne z]; exact n) hx
  · have n := ne_of_none q hc
    rw [hid_ne n]; exact u.tups b xs (by rw [upd_ne n]; exact q)
  · have n := ne_of_none q hc
    rw [hid_ne n]; exact u.frzs b ob v (by rw [upd_ne n]; exact q)
  · have n := ne_of_none q hc
    obtain ⟨m, e⟩ := u.tbls b ps (by rw [upd_ne n]; exact q)
    exact ⟨m, by rw [hid_ne n]; exact e⟩
end
/-! ### the lambda's frame -/
abbrev lamEv (q : Str) (scope : Scope) (L f c' : Addr) (y : Str) (c : Addr) : Env := PySem.W.envX q scope L f (.ref c') [(y, c)]
def lamX (X : Cx) (q : Str) (scope : Scope) (f c' : Addr) (y : Str) (c : Addr) (N : List Str) (A : Around) (s : Shared) (H : Hp) : Cx where
  prog := X.prog
  w := X.w
  K := X.K
  mg := X.mg
  base := X.base
  A := A.deeper (lamEv q scope s.heap.objs.size f c' y c)
  N := N
  s_0 := s
  H_0 := H
  env := lamEv q scope s.heap.objs.size f c' y c
  outer := X.stack
  stack := lamEv q scope s.heap.objs.size f c' y c :: X.stack
  ex := []
  calm := true
  fn := fun _ => false
  pn := []
  xe := fun _ _ => False
section
variable {X : Cx} {pins : List (Addr × Obj)} {σ : L2.St} {H : Hp} {s : Shared} {q y p : Str} {scope : Scope} {f c' c : Addr} {o : Obj} {v vy : V} {u uy : Value} {h₁ : Heap} {tk : Nat}
theorem lam_inv (I : Inv X pins σ H s) (hd : X.A.handled = none) (h3 : scope.kind = .function) (hn1 : scope.names.lookup p = some .local) (hn2 : scope.names.lookup y = some .free) (hn3 : ∀ z ∈ scope.names, z.2 = .cell ∨ z.2 = .free → z.1 = y) (hpy : y ≠ p)
    (hc : H c = some (CellO c o)) (hod : o.data = .cell (some uy)) (ry : RelV vy uy) (rv : RelV v u) (hns : h₁.Ns s.heap.objs.size fun x => [(p, u)].reverse.lookup x) (kp : ∀ b ob, s.heap.get? b = some ob → h₁.get? b = some ob) :
    Inv (lamX X q scope f c' y c [p, y] X.A s (hid H c)) [] [some v, some vy] (hid H c) { s with heap := h₁, toks := tk } := by
  have gc : s.heap.get? c = some o := (I.hok c _ hc).1
  have one : ∀ {x : Str} {d : Addr}, ([(y, c)] : List (Str × Addr)).lookup x = some d → x = y ∧ d = c := fun {x d} e => by
    have hm := PySem.mem_of_lookup e
    simp at hm
    exact hm
  have lky : ([(y, c)] : List (Str × Addr)).lookup y = some c := by simp [List.lookup]
  have isC : h₁.IsCell c (some uy) := ⟨o, kp _ _ gc, hod⟩
  have noA : ∀ b : Addr, b ∉ ([] : List Addr) := fun b z => nomatch z
  have fr : hid H c s.heap.objs.size = none := hid_none (I.hok.fresh (Nat.le_refl _))
  refine ⟨⟨I.mod, h3, rfl, rfl, Nat.le_refl _, fun x z d e1 e2 => (one e1).1.trans (one e2).1.symm, fun x hx => ?_, fun x d z _ => ?_, fun _ => hd, Around.frames_deeper I.ok.frames, .inr ⟨rfl, rfl⟩, fun b z => absurd z (noA b), fun b ob e => ⟨(I.bs b ob e).1, hid_none (I.bs b ob e).2⟩, Nat.le_trans I.ok.bsz I.sz, fun b _ _ => noA b, fun b z => absurd z (noA b), I.stack, fun b hb => hid_none (I.stkFree b hb)⟩,
    rfl, I.bare, Un.kept kp, ⟨_, hns, fun i x v' e1 e2 e3 => ?_⟩, fun x d e => ?_, fr, fun x d e => ?_, fun z hz => absurd hz (by intro w; exact nomatch w), (hok_hid I.hok hc).kept kp, rfl⟩
  · have hx' : scope.names.lookup x = some .cell ∨ scope.names.lookup x = some .free := hx
    have e : x = y := by
      rcases hx' with z | z
      · exact hn3 _ (PySem.mem_of_lookup z) (.inl rfl)
      · exact hn3 _ (PySem.mem_of_lookup z) (.inr rfl)
    exact ⟨c, by rw [e]; exact lky⟩
  · have z : false = true := z
    cases z
  · match i, e1, e2 with
    | 0, e1, e2 =>
      cases e1
      cases e2
      exact ⟨u, rv, .inl ⟨hn1, by simp [List.lookup]⟩⟩
    | 1, e1, e2 =>
      cases e1
      cases e2
      exact ⟨uy, ry, .inr ⟨.inr hn2, c, lky, isC⟩⟩
    | i + 2, e1, e2 => cases e1
  · rw [(one e).2]
    exact ⟨_, isC⟩
  · rw [(one e).2]
    exact hid_same
end
/-- a lambda that captures y, where Ry is told of y's value -/
def rLam (params : Arguments) (body : Expr) (scope : Scope) (y : Str) (Ry : Rel) : Rel := fun H v => ∃ f q c' c o uy vy, v = .ref f ∧ H f = some (LamO f q params body scope [(y, c)] c') ∧ H c' = some (LamX.CodeO c' q) ∧ H c = some (CellO c o) ∧ o.data = .cell (some uy) ∧ RelV vy uy ∧ Ry H vy
section
variable [Tbs]
instance {params : Arguments} {body : Expr} {scope : Scope} {y : Str} {Ry : Rel} [m : Sta Ry] : Mon (rLam params body scope y Ry) := ⟨fun e h => by
  obtain ⟨f, q, c', c, o, uy, vy, e1, h1, h2, h3, h4, h5, h6⟩ := h
  exact ⟨f, q, c', c, o, uy, vy, e1, e.at_ h1 fun ps z => lamO_pl ps z, e.at_ h2 fun ps z => LamX.codeO_ne ps z, e.at_ h3 fun ps z => cellO_ne ps z, h4, h5, Sta.up (Lt.of e) h6⟩⟩
theorem Lt.hid {H : Hp} {c : Addr} {o : Obj} (hc : H c = some (CellO c o)) : Lt H (hid H c) := by
  have ne : ∀ {b v}, H b = some v → v ≠ CellO c o → b ≠ c := fun {b v} z n q => by rw [q, hc] at z; exact n (Option.some.inj z).symm
  refine ⟨fun a xs r => ?_, fun a ob xs r => ?_, fun a C dx fs r => ?_⟩
  · rcases r with r | ⟨ob, r⟩
    · exact .inl ((hid_ne (ne r fun z => by unfold CellO at z; cases z)).trans r)
    · exact .inr ⟨ob, (hid_ne (ne r fun z => by unfold CellO at z; cases z)).trans r⟩
  · exact (hid_ne (ne r fun z => by unfold CellO at z; cases z)).trans r
  · exact (hid_ne (ne r fun z => by unfold CellO at z; cases z)).trans r
theorem tabs_hid {T : List (Addr × Str)} {H : Hp} {c : Addr} {o : Obj} {v : Option Value} (t : LamX.Tabs T H) (hc : H c = some (CellO c o)) (hod : o.data = .cell v) : LamX.Tabs T (hid H c) := fun x hx => by
  obtain ⟨ps, a1, a2, a3⟩ := t x hx
  have pl := pl_cell (c := c) hod
  have n1 : x.1 ≠ c := fun e => by rw [e, hc] at a1; exact pl.1 ps (Option.some.inj a1)
  refine ⟨ps, (hid_ne n1).trans a1, a2, fun pos cv hcv => ?_⟩
  obtain ⟨d, e1, e2⟩ := a3 pos cv hcv
  exact ⟨d, e1, (hid_ne fun e => by rw [e, hc] at e2; exact pl.2 _ (Option.some.inj e2)).trans e2⟩
/-- behind the lambda: the cell is seen again -/
theorem Ex.show {H H2 : Hp} {c : Addr} {o : Obj} {v : Option Value} (hc : H c = some (CellO c o)) (hod : o.data = .cell v) (e : Ex (hid H c) H2) (hn : H2 c = none) : Ex H (upd H2 c (CellO c o)) := by
  refine ⟨fun {a u} ha n => ?_, fun t => ?_, fun a q => ?_⟩
  · by_cases z : a = c
    · subst z
      rw [hc] at ha
      cases ha
      exact upd_same
    · rw [upd_ne z]
      exact e.at_ (by rw [hid_ne z]; exact ha) n
  · exact (e.tb (tabs_hid t hc hod)).ext fun b ob hb => (upd_ne (ne_of_none hb hn)).trans hb
  · by_cases z : a = c
    · rw [z, upd_same] at q; cases q
    · rw [upd_ne z] at q
      have := e.dom a q
      rw [hid_ne z] at this
      exact this
variable {X : Cx} {S : SA} [Stab S] {e : Expr} {x y p : Str} {p1 p2 : Pos} {Ra Ry : Rel} {B : Bs} {Γ : Gam} {Δ : List Own} {params : Arguments} {body : Expr} {scope : Scope} {j i : Nat} {k : Bool}
/-- is_key(e) -/
theorem he_callLam [sa : Sta Ra] [sy : Sta Ry] (i : Nat) (hΓ : Γ[i]? = some (some (cst B.f (rLam params body scope y Ry)))) (hr : Room (j + 1) X.A) (ha : HE X (SS B Γ Δ) e Ra) (h1 : scope.isCoroutine = false) (h2 : scope.isGenerator = false) (h3 : scope.kind = .function) (hn1 : scope.names.lookup p = some .local) (hn2 : scope.names.lookup y = some .free)
    (hn3 : ∀ z ∈ scope.names, z.2 = .cell ∨ z.2 = .free → z.1 = y) (hn4 : ∀ z ∈ scope.names, z.2 ≠ .cell) (hpy : y ≠ p)
    (hbind : ∀ (q : Str) (pm ctv u : Value) (c' c : Addr), bindArgs (PySem.W.kla_fn "<lambda>" q params body scope [(y, c)] pm (.ref c') ctv) ⟨[u], []⟩ = pure [(p, u)])
    (hbody : ∀ (q : Str) (f c' c : Addr) (s : Shared) (H : Hp), Room j (X.A.deeper (lamEv q scope s.heap.objs.size f c' y c)) → HE (lamX X q scope f c' y c [p, y] X.A s H) (SS ⟨H, H, H⟩ [some (cst H Ra), some (cst H Ry)] []) body (rB k))
    (hN : X.N[i]? = some x := by rfl) (hv : Vis X.env.scope x := by first | exact Or.inl rfl | exact Or.inr (Or.inl rfl) | exact Or.inr (Or.inr rfl)) (hd : (x == ("__debug__" : Str)) = false := by decide) (hcd : (x == ("__classdict__" : Str)) = false := by decide)
    (hs : starEach [e] X.env = (false, eval e X.env) :: starEach [] X.env := by rfl) (hpl : (backTo p2 (starEach [] X.env)).any (·.1) = false := by rfl) : HE X (SS B Γ Δ) (.Call (.Name x p1) [e] [] p2) (rB k) := fun σ H s pins sh I => by
  obtain ⟨v, hv1, hv2⟩ := s.get hΓ
  have hL : rLam params body scope y Ry H v := Mon.up s.ex hv2
  obtain ⟨f, q, c', c, o, uy, vy, rfl, g1, g2, g3, g4, g5, g6⟩ := id hL
  refine wpAny_Call_Name_kw (thn ((pe_var (pos := p1) hN hv hd hcd).run pins sh σ H (fun v H1 => v = .ref f ∧ H1 = H) I ⟨.ref f, hv1, rfl, rfl⟩) fun u0 s1 ⟨v, H1, I1, r1, q1⟩ => ?_)
  obtain ⟨ev, eH⟩ := q1
  subst ev
  rw [eH] at I1
  obtain rfl : u0 = Value.ref f := r1
  have fnat : ∀ {H2 : Hp} {s2 : Shared}, Inv X pins σ H2 s2 → H2 f = some (LamO f q params body scope [(y, c)] c') → PySem.W.FnAt f s2.heap := fun {H2 s2} J e => by
    obtain ⟨pm, ctv, e⟩ := lamO_at J.hok e
    exact ⟨_, _, _, _, e⟩
  refine PySem.W.callWith_F (first := []) (fnat I1 g1) (thn ((ha_cons (Rs := []) ha ha_nil hs) σ H s p2 pins s1 I1) fun us s2 ⟨vs, H2, I2, r, e2, r2⟩ => ?_) hs hpl
  obtain ⟨w, rfl, ra⟩ := rs1 r2
  obtain ⟨u, rfl, ru⟩ := vals1 r
  have k1 := e2.at_ g1 fun ps z => lamO_pl ps z
  have k2 := e2.at_ g2 fun ps z => LamX.codeO_ne ps z
  have k3 := e2.at_ g3 fun ps z => cellO_ne ps z
  have k6 : Ry H2 vy := Sta.up (Lt.of e2) g6
  refine ⟨fnat I2 k1, ?_⟩
  obtain ⟨pm, ctv, of_⟩ := lamO_at I2.hok k1
  have hcr := code_at I2.hok k2
  have gc : s2.heap.get? c = some o := (I2.hok c _ k3).1
  have cfr : c ∉ frs X.stack := fun z => by
    have := I2.stkFree c z
    rw [k3] at this
    cases this
  have htb : LamX.Tabs Tbs.T (hid H2 c) := tabs_hid (e2.tb s.tb) k3 g4
  show wpAny _ _ (call (.ref f) [u]) _ _ _
  have rc : codeAny (model X.prog X.w) X.A (.call (.ref f) ⟨[u], []⟩) (fun r s' => ∃ u', r = .ok (.ret u') ∧ CE X.stack X.prog X.w (hid H2 c) s2 (fun v H' => Ex (hid H2 c) H' ∧ v = .bl k) u' s') s2 := by
    refine PySem.W.kla_callFunE hr.depth of_ rfl h1 h2 rfl hcr ?_
    rw [hbind]
    refine wpAny_pure (wpAny_newFunctionEnv hn4 (fun z hz => by rw [List.mem_singleton] at hz; rw [hz]; exact hn1) (fun h₁ hns hsb => ⟨I2.nolimit.fresh _ hsb, ?_⟩) h3)
    show codeAny _ _ (.expr body (lamEv q scope s2.heap.objs.size f c' y c)) _ _
    have kp : ∀ b ob, s2.heap.get? b = some ob → h₁.get? b = some ob := fun b ob z => hsb.extBut b ob (Nat.ne_of_lt (Heap.lt_size z)) (Heap.get?_push_of_some _ z)
    have J := lam_inv (tk := s2.toks + ([(p, u)] : List (Str × Value)).length) (q := q) (f := f) (c' := c') I2 hr.hd h3 hn1 hn2 hn3 hpy k3 g4 g5 ru hns kp
    have st : SS ⟨hid H2 c, hid H2 c, hid H2 c⟩ [some (cst (hid H2 c) Ra), some (cst (hid H2 c) Ry)] [] [some w, some vy] (hid H2 c) := by
      refine ⟨Lk.refl _, Ex.refl _, Lt.refl _, rfl, fun n R e => ?_, fun _ z => (nomatch z), fun _ z => (nomatch z), List.nodup_nil, htb⟩
      match n, e with
      | 0, e =>
        cases e
        exact ⟨w, rfl, inferInstance, (show Ra (hid H2 c) w from Sta.up (Lt.hid k3) ra)⟩
      | 1, e =>
        cases e
        exact ⟨vy, rfl, inferInstance, (show Ry (hid H2 c) vy from Sta.up (Lt.hid k3) k6)⟩
      | n + 2, e => cases e
    refine PySem.W.kla_codeExpr (wpAny_mono (hbody q f c' c s2 (hid H2 c) (hr.deeper _) _ _ st [] _ J) (fun v' s' hq => ?_) fun _ _ z => z.elim)
    obtain ⟨w', H', J', rv, e3, q3⟩ := hq
    exact ⟨v', rfl, w', H', J'.os, J'.bare, J'.base, J'.hok, rv, e3, q3⟩
  refine wpAny_call (codeAny_mono rc fun r s' hq => ?_)
  obtain ⟨u', rfl, w', H', b1, b2, b3, b4, b5, b6, b7⟩ := hq
  obtain ⟨c1, c2, c3⟩ := un_in b3 k3 gc cfr
  exact I2.after ⟨w', upd H' c (CellO c o), b1, b2, c3, hok_show b4 c2 c1, b5, e2.trans (Ex.show k3 g4 b6 c2), b7⟩
/-- the cell is no longer seen -/
theorem Ex.hide {H H2 : Hp} {c : Addr} {o : Obj} {v : Option Value} (hc : H c = none) (hod : o.data = .cell v) (e : Ex (upd H c (CellO c o)) H2) : Ex H (hid H2 c) := by
  have h2 : H2 c = some (CellO c o) := e.at_ upd_same fun ps z => cellO_ne ps z
  refine ⟨fun {a u} ha n => ?_, fun t => tabs_hid (e.tb (t.ext fun b ob hb => (upd_ne (ne_of_none hb hc)).trans hb)) h2 hod, fun a q => ?_⟩
  · have z := ne_of_none ha hc
    rw [hid_ne z]
    exact e.at_ (by rw [upd_ne z]; exact ha) n
  · by_cases z : a = c
    · rw [z]; exact hc
    · rw [hid_ne z] at q
      have := e.dom a q
      rw [upd_ne z] at this
      exact this
variable {a b : Expr} {R R1 R2 : Rel} {P : PR} {g : Str} {lpos pos : Pos} {lc lp : Addr}
/-- f(a, b, lambda p: ..), the lambda captures y -/
theorem he_callMk [m1 : Mon R1] [m2 : Mon R2] [sr : Sta R] [sy : Sta Ry] (n : Nat) (F : Known X.prog X.w X.K X.mg X.base j g (spF P)) (L : LamC X lc lp) (hr : Room j X.A) (ha : HE X (SS B Γ Δ) a R1) (hb : HE X (SS B Γ Δ) b R2) (hn : Γ[n]? = some (some Ry)) (hP : P [R1, R2, rLam params body scope y Ry] fun _ => R)
    (hdef : defaultsOf params X.env = ([], [])) (hcell : X.env.scope.names.lookup y = some .cell) (hcl : ∀ c, X.env.cells.lookup y = some c → cloFrom X.env.cells scope.names [] = [(y, c)]) (hfr : ∀ z ∈ scope.names, z.2 = .free → z.1 = y) (hfn : X.fn y = true) (hNn : X.N[n]? = some y)
    (hg : Gl X g := by rfl) (hdb : (g == ("__debug__" : Str)) = false := by decide) (hs : starEach [a, b, .Lambda params body scope lpos] X.env = (false, eval a X.env) :: starEach [b, .Lambda params body scope lpos] X.env := by rfl) (hs2 : starEach [b, .Lambda params body scope lpos] X.env = (false, eval b X.env) :: starEach [.Lambda params body scope lpos] X.env := by rfl)
    (hs3 : starEach [.Lambda params body scope lpos] X.env = (false, eval (.Lambda params body scope lpos) X.env) :: starEach [] X.env := by rfl) (hpl : (backTo pos (starEach [b, .Lambda params body scope lpos] X.env)).any (·.1) = false := by rfl) : HE X (SS B Γ Δ) (.Call (.Name g p1) [a, b, .Lambda params body scope lpos] [] pos) R := fun σ H s pins sh I => by
  obtain ⟨f0, fd, ps, F1, F2, F3, F4⟩ := F
  obtain ⟨c, hcc⟩ := I.ok.has y (.inl hcell)
  refine wpAny_Call_Name_kw (ld_glob I hg F2 ?_ hdb)
  have hA : wA X [a, b, .Lambda params body scope lpos] σ H fun vs H' => Ex H H' ∧ ∃ x1 x2 f c', vs = [x1, x2, .ref f] ∧ R1 H' x1 ∧ R2 H' x2 ∧ H' f = some (LamO f (X.env.qual ++ "<lambda>") params body scope [(y, c)] c') ∧ H' c' = some (LamX.CodeO c' (X.env.qual ++ "<lambda>")) := fun pos pins sh I =>
    (pa_cons pe_w (pa_cons pe_w (pa_cons (pe_lamM L hdef fun ok z hz ez => ⟨c, by rw [hfr z hz ez]; exact hcc⟩) pa_nil hs3) hs2) hs).run pos pins sh σ H _ I ((ha σ H s).mono fun x1 H1 ⟨e1, r1⟩ => (hb σ H1 (Stab.up s e1)).mono fun x2 H2 ⟨e2, r2⟩ => ⟨(Stab.up s (e1.trans e2)).tb, fun H3 f c' e3 nf hco => by
      have e4 : Ex H3 (upd H3 f (LamO f (X.env.qual ++ "<lambda>") params body scope (cloFrom X.env.cells scope.names []) c')) := Ex.new nf
      exact ⟨((e1.trans e2).trans e3).trans e4, x1, x2, f, c', rfl, Mon.up (e2.trans (e3.trans e4)) r1, Mon.up (e3.trans e4) r2, by rw [upd_same, hcl c hcc], e4.at_ hco fun ps z => LamX.codeO_ne ps z⟩⟩)
  refine PySem.W.callWith_K (h₀ := X.base) I.ok.mod.kin F3 (thn (hA pos pins sh I) fun us s1 ⟨vs, H1, I1, r, e1, x1, x2, f, c', ev, r1, r2, hf, hco⟩ => ⟨I1.kIn, ?_⟩) hs hpl
  subst ev
  have st1 := Stab.up s e1
  -- the captured value
  obtain ⟨vy, hv1, hv2⟩ := st1.get hn
  obtain ⟨m, hns, hl⟩ := id I1.loc
  obtain ⟨uy, ry, lk⟩ := hl n y vy hNn hv1 (.inr (.inl hcell))
  have isC : s1.heap.IsCell c (some uy) := by
    rcases lk with ⟨k1, _⟩ | ⟨_, c2, k1, k2⟩
    · have k1 : X.env.scope.names.lookup y = some .local := k1
      rw [hcell] at k1
      cases k1
    · rw [hcc] at k1
      cases k1
      exact k2
  obtain ⟨o, gc, hod⟩ := isC
  have hcn : H1 c = none := I1.freeC y c hcc
  have hge : X.s_0.heap.objs.size ≤ c := I1.ok.cab y c hfn hcc
  have cfr : c ∉ frs X.stack := fun z => by
    rcases List.mem_cons.mp (I1.stkSub c z) with q | q
    · exact I1.cne y c hcc q
    · obtain ⟨_, ob, ho, _⟩ := I1.ok.funs.mem q
      exact Nat.lt_irrefl _ (Nat.lt_of_lt_of_le (Heap.lt_size ho) hge)
  have up : ∀ {a : Addr}, a ≠ c → H1 a = none → upd H1 c (CellO c o) a = none := fun {a} n z => (upd_ne n).trans z
  have e0 := I1.env0
  have e5 : Env0 X.prog X.w X.K X.mg X.base X.A X.stack s1 (upd H1 c (CellO c o)) := ⟨e0.frames, e0.mod, fun z ob q => ⟨(e0.bs z ob q).1, up (fun w => by
      rw [w] at q
      exact Nat.lt_irrefl _ (Nat.lt_of_lt_of_le (Heap.lt_size q) (Nat.le_trans I1.ok.bsz hge))) (e0.bs z ob q).2⟩, e0.bsz, e0.funs, fun z hz => up (fun w => cfr (w ▸ hz)) (e0.frf z hz), hok_show e0.hok hcn gc, e0.bare⟩
  have eN : Ex H1 (upd H1 c (CellO c o)) := Ex.new hcn
  have rr : RsOk [R1, R2, rLam params body scope y Ry] (upd H1 c (CellO c o)) [x1, x2, .ref f] := ⟨x1, _, rfl, Mon.up eN r1, x2, _, rfl, Mon.up eN r2, .ref f, [], rfl, ⟨f, _, c', c, o, uy, vy, rfl, eN.at_ hf fun ps z => lamO_pl ps z, eN.at_ hco fun ps z => LamX.codeO_ne ps z, upd_same, hod, ry, Sta.up (Lt.of eN) hv2⟩, rfl⟩
  show wpAny _ _ (call (.ref f0) us) _ _ _
  have hsp : spF P [x1, x2, .ref f] (upd H1 c (CellO c o)) (fun v H' => Ex (upd H1 c (CellO c o)) H' ∧ R H' v) E0 := ⟨_, _, hP, rr, eN.tb st1.tb, fun v H' e q => ⟨e, q⟩⟩
  have hlen := F1.len _ _ _ _ hsp
  have hz : us.length = ps.length := by rw [← r.length]; exact hlen
  have hbd := F4 s1 us I1.kIn (by rw [List.append_nil]; exact hz)
  rw [List.append_nil] at hbd
  refine wpAny_call (codeAny_mono (F1.run X.A X.stack s1 _ ⟨us, []⟩ us [x1, x2, .ref f] _ E0 hr e5 hbd r hsp) fun r s' hq => ?_)
  cases r with
  | error e => exact pass0 pins σ _ s1 e s' I1 hq
  | ok fl =>
    cases fl with
    | ret u =>
      obtain ⟨v, H2, b1, b2, b3, b4, b5, b6, b7⟩ := hq
      have h2 : H2 c = some (CellO c o) := b6.at_ upd_same fun ps z => cellO_ne ps z
      exact I1.after ⟨v, hid H2 c, b1, b2, un_out b3 b4 hcn h2 gc cfr, hok_hid b4 h2, b5, e1.trans (Ex.hide hcn hod b6), Sta.up (Lt.hid h2) b7⟩
    | next => exact False.elim hq
    | brk => exact False.elim hq
    | cont => exact False.elim hq
end
end CB
end
section
set_option Elab.async false
set_option linter.all false
set_option maxRecDepth 100000
set_option maxHeartbeats 2000000
set_option exponentiation.threshold 100
namespace CB
open PySem PySem.Spec PyProof.Rows L2 Enc
section
variable {P : Program} {w : World} {K : PySem.W.Frag} {mg : Str → Option Value} {base : Heap}
theorem he_parX [Tbs] {X : Cx} {R : Rel} {B : Bs} {Γ : Gam} {Δ : List Own} {x : Str} {pos : Pos} [Mon R] (i : Nat) (h : Γ[i]? = some (some (cst B.f R))) (hN : X.N[i]? = some x := by rfl) (hv : Vis X.env.scope x := by first | exact Or.inl rfl | exact Or.inr (Or.inl rfl) | exact Or.inr (Or.inr rfl)) (hd : (x == ("__debug__" : Str)) = false := by decide)
    (hcd : (x == ("__classdict__" : Str)) = false := by decide) : HE X (SS B Γ Δ) (.Name x pos) R := he_of (pe_var hN hv hd hcd) fun σ H s => by
  obtain ⟨v, h1, h2⟩ := s.get h
  exact ⟨v, h1, Ex.refl H, Mon.up s.ex h2⟩
/-- what is static of a lambda with the parameter p and the captured name y -/
structure LamF (params : Arguments) (body : Expr) (scope : Scope) (y p : Str) : Prop where
  h1 : scope.isCoroutine = false
  h2 : scope.isGenerator = false
  h3 : scope.kind = .function
  n1 : scope.names.lookup p = some .local
  n2 : scope.names.lookup y = some .free
  n3 : ∀ z ∈ scope.names, z.2 = .cell ∨ z.2 = .free → z.1 = y
  n4 : ∀ z ∈ scope.names, z.2 ≠ .cell
  py : y ≠ p
  bind : ∀ (q : Str) (pm ctv u : Value) (c' c : Addr), bindArgs (PySem.W.kla_fn "<lambda>" q params body scope [(y, c)] pm (.ref c') ctv) ⟨[u], []⟩ = pure [(p, u)]
/-- it says True of a -/
def LamAns [Tbs] (P : Program) (w : World) (K : PySem.W.Frag) (mg : Str → Option Value) (base : Heap) (j : Nat) (body : Expr) (scope : Scope) (y p : Str) (Ry Ra : Rel) : Prop :=
  ∀ (X : Cx), X.prog = P → X.w = w → X.K = K → X.mg = mg → X.base = base → ∀ (q : Str) (f c' c : Addr) (s : Shared) (H : Hp), Room j (X.A.deeper (lamEv q scope s.heap.objs.size f c' y c)) → HE (lamX X q scope f c' y c [p, y] X.A s H) (SS ⟨H, H, H⟩ [some (cst H Ra), some (cst H Ry)] []) body (rB true)
/-- keys ascend, shares are positive -/
def forBody : Stmt → List Stmt
  | .For _ _ b _ _ => b
  | _ => []
structure Asc {κ : Type} [Enc κ] (kvs : List (κ × Rat)) : Prop where
  up : ∀ (i : Nat) (a b : κ × Rat), kvs[i]? = some a → kvs[i + 1]? = some b → elt a.1 b.1 = true
  pos : ∀ a ∈ kvs, 0 < a.2.num
  len : kvs.length ≤ 1000
def lastR (K : PySem.W.Frag) {κ : Type} [Enc κ] (l : List (κ × Rat)) : Rel := match l.getLast? with
  | none => rN
  | some a => rD K a.1
instance {K : PySem.W.Frag} {κ : Type} [Enc κ] {l : List (κ × Rat)} : Sta (lastR K l) := by
  unfold lastR
  cases l.getLast? with
  | none => exact (inferInstance : Sta rN)
  | some a => exact (inferInstance : Sta (rD K a.1))
theorem last_snoc {K : PySem.W.Frag} {κ : Type} [Enc κ] {l : List (κ × Rat)} {i : Nat} {a : κ × Rat} (h : l[i]? = some a) : lastR K (l.take (i + 1)) = rD K a.1 := by
  unfold lastR
  rw [take_snoc h, List.getLast?_append]
  rfl
theorem rD_notN {K : PySem.W.Frag} {α : Type} [Enc α] [TupE α] {a : α} {H : Hp} {v : V} (h : rD K a H v) : decide (v = .non) = false := by
  obtain ⟨ks, e⟩ := TupE.tup a
  have h' : Im K H (enc a) v := h
  rw [e] at h'
  obtain ⟨q, _, rfl, _⟩ := h'
  rfl
abbrev pWrong [Tbs] (P : Program) (w : World) (K : PySem.W.Frag) (mg : Str → Option Value) (base : Heap) (κ : Type) [Enc κ] [TupE κ] : PR := fun Rs R => ∃ (kvs : List (κ × Rat)) (params : Arguments) (body : Expr) (scope : Scope) (y p : Str) (Ry : Rel), Rs = [rD K kvs, rLam params body scope y Ry] ∧
  (Sta Ry ∧ LamF params body scope y p ∧ (∀ a ∈ kvs, LamAns P w K mg base 5 body scope y p Ry (rD K a.1)) ∧ Asc kvs) ∧ R = fun _ => rN
theorem k_first_wrong [Tbs] (κ : Type) [Enc κ] [TupE κ] (hd : dp κ ≤ 20) (T : Has K mg 38 "first_wrong") (Bm : Bi mg) (k1 : Known P w K mg base 1 "is_pair" (spF (pPair K))) (k2 : Known P w K mg base 2 "is_fraction" (spF (pFrac K))) : Known P w K mg base 7 "first_wrong" (spF (pWrong P w K mg base κ)) := by
  have S : FnScope ["shares", "is_key", "last", "at", "item"] ["shares", "is_key"] (defScope (top 38)) := ⟨rfl, rfl, rfl, by decide +kernel, rfl, by decide +kernel, by decide +kernel⟩
  refine known_of T S (fun _ _ _ _ _ _ us hl => match us, hl with | [_, _], _ => rfl) (fun Rs R ⟨_, _, _, _, _, _, _, h, _⟩ => by rw [h] <;> rfl) fun f cdv A outer s H E hr Rs R hp => ?_
  obtain ⟨kvs, params, body, scope, y, p, Ry, rfl, ⟨sy, lf, la, asc⟩, rfl⟩ := hp
  refine hb_set (R := lastR K (kvs.take 0)) 2 he_non ?_ S.nd
  refine hb_for (as := enumL kvs) (fun i => [some (cst H (rD K kvs)), some (cst H (rLam params body scope y Ry)), some (lastR K (kvs.take i)), none, none]) (fun _ => []) (fun u Γ => (Γ.set 3 (some (rD K u.1))).set 4 (some (rD K u.2))) rfl nox (hi_enum Bm (he_par (R := rD K kvs) 0 rfl)) (Subg.refl _) (List.Sublist.refl _) (fun u => hg_pair 3 4 rfl S.nd) (fun t i u hu => ?_) ?_
  · obtain ⟨j, h1, h2⟩ := enumL_mem (List.mem_of_getElem? hu)
    have hij : kvs[i]? = some u.2 := by
      have hi : i < kvs.length := by
        have := (List.getElem?_eq_some_iff.mp hu).1
        rw [enumL_len] at this
        exact this
      have e := enumL_get (List.getElem?_eq_getElem hi)
      rw [hu] at e
      rw [List.getElem?_eq_getElem hi, show u = ((i : Int), kvs[i]) from Option.some.inj e]
    have hm : u.2 ∈ kvs := List.mem_of_getElem? hij
    refine hb_if (ht_w (hw_or (ht_not (ht_val (he_call k1 hr (ha_cons (he_var 4 rfl) ha_nil) ⟨_, rfl, rfl⟩))) fun _ => hw_or (ht_not (ht_val (he_callLam (Ra := rD K u.2.1) (k := true) (p := p) 1 rfl hr (he_fst (he_var 4 rfl)) lf.h1 lf.h2 lf.h3 lf.n1 lf.n2 lf.n3 lf.n4 lf.py lf.bind (fun q f c' c s H hr => la u.2 hm _ rfl rfl rfl rfl rfl q f c' c s H hr)))) fun _ => hw_or (ht_not (ht_val (he_call k2 hr (ha_cons (he_snd (he_var 4 rfl)) ha_nil) ⟨_, rfl, rfl⟩))) fun _ => hw_or1 (ht_c (hc_le (he_num (he_snd (he_var 4 rfl))) he_int)))) (fun h => ?_) fun _ => hb_nil ?_
    · exfalso
      have := asc.pos u.2 hm
      simp at h
      omega
    have fin : ∀ {D : Ends}, (∀ σ H', SS ⟨H, H, t⟩ [some (cst H (rD K kvs)), some (cst H (rLam params body scope y Ry)), some (lastR K (kvs.take (i + 1))), none, none] [] σ H' → D.nx σ H') → HB (cxOf CX0 P w K mg base ["shares", "is_key", "last", "at", "item"] "first_wrong" (defScope (top 38)) f cdv A outer s H E).nox (SS ⟨H, H, t⟩ [some (cst H (rD K kvs)), some (cst H (rLam params body scope y Ry)), some (lastR K (kvs.take i)), some (rD K u.1), some (rD K u.2)] []) [(defBody (top 38)).getD 1 (.Pass ⟨0, 0, 0, 0⟩) |> forBody |>.getD 2 (.Pass ⟨0, 0, 0, 0⟩)] D := fun {D} hD =>
      hb_set (R := rD K u.2.1) 2 (he_fst (he_var 4 rfl)) (hb_nil fun σ H' s => hD σ H' (by
        rw [last_snoc hij]
        exact s.sub ⟨rfl, rfl, rfl, trivial⟩)) S.nd
    cases hz : (kvs.take i).getLast? with
    | none =>
      have eR : lastR K (kvs.take i) = rN := by unfold lastR; rw [hz]
      refine hb_if (ht_w (hw_and (k' := false) (ht_c (hc_notN true (he_var (R := lastR K (kvs.take i)) 2 rfl) (fun H v h => by rw [eR] at h; rw [show v = .non from h] <;> rfl))) fun h => absurd h (by decide))) (fun h => absurd h (by simp)) fun _ => hb_nil (fin fun _ _ s => s)
    | some a =>
      have eR : lastR K (kvs.take i) = rD K a.1 := by unfold lastR; rw [hz]
      have hlt : elt a.1 u.2.1 = true := by
        cases i with
        | zero => rw [List.take_zero] at hz; cases hz
        | succ n =>
          have hn : n < kvs.length := by have := (List.getElem?_eq_some_iff.mp hij).1; omega
          have e := List.getElem?_eq_getElem hn
          rw [take_snoc e, List.getLast?_append] at hz
          have e3 : kvs[n] = a := Option.some.inj hz
          rw [e3] at e
          exact asc.up n a u.2 e hij
      refine hb_if (ht_w (hw_and (ht_c (hc_notN false (he_var (R := lastR K (kvs.take i)) 2 rfl) (fun H v h => by rw [eR] at h; exact rD_notN h))) fun _ => hw_and1 (ht_not (ht_c (hc_ltE (u := a.1) (hu0 hr) (by omega) (HE.eq (he_var (R := lastR K (kvs.take i)) 2 rfl) eR) (he_fst (he_var 4 rfl))))))) (fun h => ?_) fun _ => hb_nil (fin fun _ _ s => s)
      exfalso
      rw [hlt] at h
      cases h
  · exact hb_rt he_non fun v H' e r => ⟨e, r⟩
end
end CB
end
section
set_option Elab.async false
set_option linter.all false
set_option maxRecDepth 100000
set_option maxHeartbeats 2000000
/-! S. the two classes: fields, making, own == behind !=. -/
namespace CB
open PySem PySem.Spec PyProof.Rows L2 Enc

/-- what the text has of a class -/
structure ClsK (K : PySem.W.Frag) (mg : Str → Option Value) (x : Str) (C fi fe : Addr) : Prop where
  glo : mg x = some (.ref C)
  cls : Cls K C
  mkr : Mk K C fi
  sz : NoAttr K C "sizes"
  sh : NoAttr K C "shares"
  eq : PySem.W.findIn K (.ref C) "__eq__" = some (some (.ref fe))
  fn : PySem.W.isFn K (.ref fe) = true
  ne : PySem.W.findIn K (.ref C) "__ne__" = some (some (.builtin "object.__ne__"))
  mro : PySem.W.mroIn K C (.type "object") = some true
  ca : PySem.W.findIn K (.ref C) "__class__" = some (some (.builtin "object.__class__"))
  cg : PySem.W.specialIn K (.builtin "object.__class__") "__get__" = some (some (.builtin "getset_descriptor.__get__"))
  ct : PySem.W.takesIn K (.builtin "object.__class__") = some true
  iso : PySem.W.kitOne K (.ref C) (.ref C) = some true
def objF (v1 v2 : V) : List (Str × V) := [("sizes", v1), ("shares", v2)]
/-- an object with sizes and shares -/
def rO (K : PySem.W.Frag) (C : Addr) {κ : Type} [Enc κ] (sz : List Int) (kvs : List (κ × Rat)) : Rel := fun H v => ∃ a dx v1 v2, v = .ref a ∧ H a = some (.ins C dx (objF v1 v2)) ∧ rD K sz H v1 ∧ rP K kvs H v2
instance {K : PySem.W.Frag} {C : Addr} {κ : Type} [Enc κ] {sz : List Int} {kvs : List (κ × Rat)} : Sta (rO K C sz kvs) := ⟨fun e h => by
  obtain ⟨a, dx, v1, v2, e1, h1, h2, h3⟩ := h
  exact ⟨a, dx, v1, v2, e1, e.ins _ _ _ _ h1, Sta.up e h2, Sta.up e h3⟩⟩
section
variable {prog : Program} {w : World} {A : Around} {E : Value → Shared → Prop} {s : Shared} {K : PySem.W.Frag} {x y C f : Addr} {ox : Obj} {od : Option Obj}
theorem ifBound_ne {M : Model} {args : List Value} {Q : Option Value → Shared → Prop} (X : K.In s.heap) (I : PySem.W.InstAt s.heap x ox C od) (hs : PySem.W.findIn K (.ref C) "__ne__" = some (some (.builtin "object.__ne__")))
    (h : wpAny M A (call (.builtin "object.__ne__") (.ref x :: args)) (fun v => Q (some v)) E s) : wpAny M A (callSpecialIfBound? (.ref x) "__ne__" args) Q E s := by
  unfold callSpecialIfBound? bindSpecialIfBound?
  refine wpAny_holding (wpAny_bind (wpAny_bind (wpAny_bind (I.type.here ((PySem.W.looks_findIn X hs).here ?_)))))
  have last : wpAny M A (call (.builtin "object.__ne__") ([.ref x] ++ args) >>= fun v => pure (some v)) Q E s := wpAny_bind (wpAny_mono h (fun _ _ z => wpAny_pure z) fun _ _ z => z)
  refine wpAny_bind (wpAny_askSetting (wpAny_ite ?_))
  split
  · exact wpAny_bind (wpAny_of_eq (F.cmp_object.ne.bind _) (wpAny_pure (by exact last)))
  · exact wpAny_tryCatch (wpAny_bind (wpAny_of_eq (F.cmp_object.ne.bind _) (wpAny_pure (by exact last))))
/-- x != y by the class's own == -/
theorem ne_own {k : Bool} {Q : Value → Shared → Prop} (hu : A.units + 8 < cLine) (X : K.In s.heap) (I : PySem.W.InstAt s.heap x ox C od) (J : PySem.W.Looks (model prog w) s.heap (typeOf (.ref y)) (.ref C)) (hm : PySem.W.mroIn K C (.type "object") = some true)
    (hn : PySem.W.findIn K (.ref C) "__ne__" = some (some (.builtin "object.__ne__"))) (hs : PySem.W.findIn K (.ref C) "__eq__" = some (some (.ref f))) (hf : PySem.W.isFn K (.ref f) = true)
    (h : wpAny (model prog w) A.in1 (call (.ref f) [.ref x, .ref y]) (fun v s' => v = .bool k ∧ Q (.bool (!k)) s') E s) : wpAny (model prog w) A (richCompare .NotEq (.ref x) (.ref y)) Q E s := by
  have ent : wpAny (model prog w) A.in1 (Builtin.«object.__ne__» ⟨[.ref x, .ref y], []⟩) (fun r s' => ∃ u, r = .done (.ret u) ∧ u = .bool (!k) ∧ Q u s') E s := by
    unfold Builtin.«object.__ne__»
    have sp : ∀ {R : Option Value → Shared → Prop}, (∀ s', Q (.bool (!k)) s' → R (some (.bool k)) s') → wpAny (model prog w) A.in1 (callSpecialIfBound? (.ref x) "__eq__" [.ref y]) R E s := fun {R} hR =>
      PySem.W.ifBound_K X I hs hf (wpAny_mono h (fun v s' z => by rw [z.1]; exact hR s' z.2) fun _ _ z => z)
    have hu1 : A.in1.units < cLine := by rw [Around.in1_units]; omega
    repeat (first | with_reducible refine wpAny_cRoomFor hu1 ?_ | with_reducible refine sp fun s' q => ?_ | wp_step)
    exact ⟨_, rfl, rfl, q⟩
  have one : wpAny (model prog w) A (tryCompare (.ref x) "__ne__" (.ref y)) (fun r s' => ∃ v, r = some v ∧ Q v s') E s := by
    unfold tryCompare
    refine wpAny_bind (ifBound_ne X I hn (wpAny_call (codeAny_call_builtin F.cmp_object.ne.plain F.cmpEntry_ne (PySem.W.check_slot F.cmpKind_ne F.cmpSplit_ne (I.type.andThen (PySem.W.looks_mroIn X hm)) (F.cmpArgs_ne _ _) (wpAny_mono ent (fun r s' z => ?_) fun _ _ z => z)))))
    obtain ⟨u, rfl, rfl, q⟩ := z
    exact wpAny_pure ⟨_, rfl, q⟩
  unfold richCompare
  simp only [cmpInfo_NotEq, oneThing_ref]
  refine wpAny_holding (wpAny_bind (wpAny_cRoomFor (by omega) ?_))
  refine wpAny_bind (I.type.here (wpAny_bind (J.here ?_)))
  rw [if_neg (by simp)]
  refine wpAny_bind (wpAny_pure ?_)
  simp only [Bool.false_eq_true, if_false]
  refine wpAny_bind (wpAny_mono one (fun r s' z => ?_) fun _ _ e => e)
  obtain ⟨v, rfl, hq⟩ := z
  exact wpAny_pure hq
end
section
variable [Tbs] {X : Cx} {S : SA} [Stab S] {e a b c : Expr} {x : Str} {R Ra Rb Rc : Rel} {p pos : Pos} {κ : Type} [Enc κ] {sz : List Int} {kvs : List (κ × Rat)} {C fi fe : Addr} {j k : Nat}
theorem he_fld {f : Str} {v0 : V → V → V} (hC : Cls X.K C) (hn : NoAttr X.K C f) (ha : HE X S a (rO X.K C sz kvs)) (hR : ∀ H v1 v2, rD X.K sz H v1 → rP X.K kvs H v2 → R H (v0 v1 v2)) (hl : ∀ v1 v2, (objF v1 v2).lookup f = some (v0 v1 v2)) (hb : attributeBase a f X.env (eval a X.env) = eval a X.env) : HE X S (.Attribute a f pos) R :=
  he_of (pe_fld pe_w hb) fun σ H s => (ha σ H s).mono fun x H1 ⟨e1, q, dx, v1, v2, r1, r2, r3, r4⟩ => ⟨q, C, dx, _, _, r1, r2, hC, hn, hl v1 v2, e1, hR H1 v1 v2 r3 r4⟩
theorem he_sizes (T : ClsK X.K X.mg x C fi fe) (ha : HE X S a (rO X.K C sz kvs)) (hb : attributeBase a "sizes" X.env (eval a X.env) = eval a X.env := by rfl) : HE X S (.Attribute a "sizes" pos) (rD X.K sz) := he_fld (v0 := fun v _ => v) T.cls T.sz ha (fun _ _ _ h _ => h) (fun _ _ => rfl) hb
theorem he_shares (T : ClsK X.K X.mg x C fi fe) (ha : HE X S a (rO X.K C sz kvs)) (hb : attributeBase a "shares" X.env (eval a X.env) = eval a X.env := by rfl) : HE X S (.Attribute a "shares" pos) (rP X.K kvs) := he_fld (v0 := fun _ v => v) T.cls T.sh ha (fun _ _ _ _ h => h) (fun _ _ => rfl) hb
/-- isinstance(a, C) -/
theorem he_isiO {p2 : Pos} (Bm : Bi X.mg) (T : ClsK X.K X.mg x C fi fe) (ha : HE X S a (rO X.K C sz kvs)) (hg2 : Gl X x) (hdb : (x == ("__debug__" : Str)) = false := by decide) (hg : Gl X "isinstance" := by rfl)
    (he : starEach [a, .Name x p2] X.env = (false, eval a X.env) :: starEach [.Name x p2] X.env := by rfl) (he2 : starEach [.Name x p2] X.env = (false, eval (.Name x p2) X.env) :: starEach [] X.env := by rfl) (hpl : (backTo pos (starEach [.Name x p2] X.env)).any (·.1) = false := by rfl) :
    HE X S (.Call (.Name "isinstance" p) [a, .Name x p2] [] pos) (rB true) :=
  he_isi (t := .ref C) (cu := .ref C) (v := .ref C) Bm ha (he_glob hg2 T.glo (show RelV (.ref C) _ from rfl) (fun _ => rfl) hdb) (.own C) (fun H y h => by
    obtain ⟨q, dx, v1, v2, rfl, h1, _⟩ := h
    exact .base (.ins h1 T.cls T.ca T.cg T.ct T.mro)) T.iso hg he he2 hpl
/-- the promise of an own == -/
abbrev pEqO (K : PySem.W.Frag) (C : Addr) (κ : Type) [Enc κ] : PR := fun Rs R => ∃ (sz : List Int) (kvs : List (κ × Rat)), Rs = [rO K C sz kvs, rO K C sz kvs] ∧ R = fun _ => rB true
/-- a method's promise -/
def KnownM (P : Program) (w : World) (K : PySem.W.Frag) (mg : Str → Option Value) (base : Heap) (k : Nat) (f : Addr) (sp : Sp) : Prop := ∃ (fd : FuncData) (ps : List Str), FnOk P w K mg base CX0 k f fd ps sp ∧ Binds K fd ps []
theorem hc_neO (T : ClsK X.K X.mg x C fi fe) (F : KnownM X.prog X.w X.K X.mg X.base k fe (spF (pEqO X.K C κ))) (hr : Room (j + 2) X.A) (hk : k ≤ j) (ha : HE X S a (rO X.K C sz kvs)) (hb : HE X S b (rO X.K C sz kvs)) : HC X S .NotEq a b false := by
  refine ⟨fun σ H s pins sh I => binT pe_w pe_w I (he_seq2 (Q := fun _ _ => True) ha hb s (g := fun x y H' => Ex H H' ∧ LamX.Tabs Tbs.T H' ∧ rO X.K C sz kvs H' x ∧ rO X.K C sz kvs H' y) fun x y H' e1 s' r1 r2 => ⟨e1, Stab.tb s', r1, r2⟩) fun v u s2 x y H2 I2 rx ry q => ?_, nobehind _ (by decide) (by decide)⟩
  obtain ⟨e1, tb, r1, r2⟩ := q
  obtain ⟨q1, dx1, v1, v2, rfl, h1, h2, h3⟩ := id r1
  obtain ⟨q2, dx2, w1, w2, rfl, g1, g2, g3⟩ := id r2
  cases rx
  cases ry
  obtain ⟨mA, J, _⟩ := ins_get I2.hok h1
  obtain ⟨mB, J', _⟩ := ins_get I2.hok g1
  obtain ⟨od, J, _⟩ := J.look
  obtain ⟨od', J', _⟩ := J'.look
  have d1 := hr.un
  have d2 := hr.dp
  obtain ⟨fd, ps, F1, F2⟩ := F
  have hsp : spF (pEqO X.K C κ) [.ref q1, .ref q2] H2 (fun v H' => Ex H2 H' ∧ v = .bl true) E0 := ⟨_, _, ⟨sz, kvs, rfl, rfl⟩, ⟨_, _, rfl, r1, _, _, rfl, r2, rfl⟩, tb, fun v H' e q => ⟨e, q⟩⟩
  show wpAny _ _ (richCompare .NotEq (.ref q1) (.ref q2)) _ _ _
  refine ne_own (k := true) (by omega) I2.kIn J J'.type T.mro T.ne T.eq T.fn ?_
  have hl := F1.len _ _ _ _ hsp
  have rr : Vals [V.ref q1, V.ref q2] [Value.ref q1, Value.ref q2] := .cons rfl (.cons rfl .nil)
  have rm : Room k X.A.in1 := (hr.in1).mono (by omega)
  have hbd := F2 s2 [.ref q1, .ref q2] I2.kIn (by simpa using hl)
  rw [List.append_nil] at hbd
  refine wpAny_call (codeAny_mono (F1.run X.A.in1 X.stack s2 H2 ⟨[.ref q1, .ref q2], []⟩ [.ref q1, .ref q2] [.ref q1, .ref q2] _ E0 rm I2.env0.in1 hbd rr hsp) fun r s' hq => ?_)
  cases r with
  | error e => exact pass0 pins σ _ s2 e s' I2 hq
  | ok fl =>
    cases fl with
    | ret w =>
      obtain ⟨z, H', I', rz, ex, ez⟩ := I2.after hq
      subst ez
      cases rz
      exact ⟨rfl, .bl false, H', I', rfl, e1.trans ex, rfl⟩
    | next => exact False.elim hq
    | brk => exact False.elim hq
    | cont => exact False.elim hq
/-! ### making -/
/-- __init__: the object's fields are set -/
def spI (C : Addr) (P : List Rel → Prop) : Sp := fun vs H Q _ => ∃ Rs p dx v1 v2, P Rs ∧ vs = [.ref p, v1, v2] ∧ H p = some (.ins C dx []) ∧ RsOk Rs H [v1, v2] ∧ LamX.Tabs Tbs.T H ∧ ∀ H1, Ex H H1 → H1 p = some (.ins C dx []) → Q .non (upd H1 p (.ins C dx (objF v1 v2)))
theorem pl_ins {p C dx : Addr} {fs : List (Str × V)} : Pl p (.ins C dx fs) := ⟨fun _ z => (nomatch z), fun _ z => by unfold LamX.CodeO at z; cases z⟩
theorem he_make {P : List Rel → Prop} (T : ClsK X.K X.mg x C fi fe) (F : KnownM X.prog X.w X.K X.mg X.base k fi (spI C P)) (hr : Room (k + 1) X.A) (ha : HE X S a (rD X.K sz)) (hb : HE X S b (rP X.K kvs)) (hP : P [rD X.K sz, rP X.K kvs]) (hg : Gl X x := by rfl) (hdb : (x == ("__debug__" : Str)) = false := by decide)
    (he : starEach [a, b] X.env = (false, eval a X.env) :: starEach [b] X.env := by rfl) (he2 : starEach [b] X.env = (false, eval b X.env) :: starEach [] X.env := by rfl) (hpl : (backTo pos (starEach [b] X.env)).any (·.1) = false := by rfl) : HE X S (.Call (.Name x p) [a, b] [] pos) (rO X.K C sz kvs) := by
  obtain ⟨fd, ps, F1, F2⟩ := F
  refine he_of (pe_make T.mkr F1 hr hg T.glo F2 .nil pass0 pa_w hdb he hpl) fun σ H s => ?_
  refine (ha_cons ha (ha_cons hb ha_nil he2) he σ H s).mono fun vs H1 ⟨e1, r⟩ q dx hq hdx ne => ?_
  obtain ⟨v1, v2, rfl, r1, r2⟩ := rs2 r
  have n2 : upd H1 dx (.own q) q = none := by rw [upd_ne (Ne.symm ne)]; exact hq
  have eA : Ex H1 (upd (upd H1 dx (.own q)) q (.ins C dx [])) := (Ex.new hdx).trans (Ex.new n2)
  rw [List.append_nil]
  refine ⟨_, q, dx, v1, v2, hP, rfl, upd_same, ⟨v1, _, rfl, Mon.up eA r1, v2, _, rfl, Mon.up eA r2, rfl⟩, (e1.trans eA).tb (Stab.tb s), fun H3 e3 h3 => ⟨rfl, (e1.trans ((eA.trans e3).mut hq h3 pl_ins)), q, dx, v1, v2, rfl, upd_same, ?_, ?_⟩⟩
  · exact Im.up (le_of ((eA.trans e3).mut hq h3 pl_ins)) _ _ r1
  · exact Mon.up ((eA.trans e3).mut hq h3 pl_ins) r2
/-- self.sizes = sizes; self.shares = shares -/
theorem hb_fields {B : Bs} {Γ : Gam} {Δ : List Own} {D : Ends} {dx q : Addr} {v1 v2 : V} {n0 n1 n2 : Nat} {z y1 y2 : Str} {p1 p2 p3 p4 p5 p6 p7 p8 : Pos} (hC : Cls X.K C) (hn : NoAttr X.K C "sizes") (hn2 : NoAttr X.K C "shares") {R0 R1 R2 : Rel} (h0 : Γ[n0]? = some (some R0)) (h1 : Γ[n1]? = some (some R1)) (h2 : Γ[n2]? = some (some R2)) (k0 : ∀ H u, R0 H u → u = .ref q) (k1 : ∀ H u, R1 H u → u = v1) (k2 : ∀ H u, R2 H u → u = v2)
    (hq : B.f q = some (.ins C dx [])) (hD : ∀ σ H1, Ex B.f H1 → H1 q = some (.ins C dx []) → D.nx σ (upd H1 q (.ins C dx (objF v1 v2))))
    (g0 : X.N[n0]? = some z := by rfl) (g1 : X.N[n1]? = some y1 := by rfl) (g2 : X.N[n2]? = some y2 := by rfl) (w0 : Vis X.env.scope z := by first | exact Or.inl rfl | exact Or.inr (Or.inl rfl) | exact Or.inr (Or.inr rfl)) (w1 : Vis X.env.scope y1 := by first | exact Or.inl rfl | exact Or.inr (Or.inl rfl) | exact Or.inr (Or.inr rfl)) (w2 : Vis X.env.scope y2 := by first | exact Or.inl rfl | exact Or.inr (Or.inl rfl) | exact Or.inr (Or.inr rfl))
    (d0 : (z == ("__debug__" : Str)) = false := by decide) (c0 : (z == ("__classdict__" : Str)) = false := by decide) (d1 : (y1 == ("__debug__" : Str)) = false := by decide) (c1 : (y1 == ("__classdict__" : Str)) = false := by decide) (d2 : (y2 == ("__debug__" : Str)) = false := by decide) (c2 : (y2 == ("__classdict__" : Str)) = false := by decide)
    (s1 : swapsWith (.Name y1 p1) (some (.Attribute (.Name z p2) "sizes" p3)) p4.line X.env = pure false := by rfl) (s2 : swapsWith (.Name y2 p5) (some (.Attribute (.Name z p6) "shares" p7)) p8.line X.env = pure false := by rfl) :
    HB X (SS B Γ Δ) [.Assign [.Attribute (.Name z p2) "sizes" p3] (.Name y1 p1) p4, .Assign [.Attribute (.Name z p6) "shares" p7] (.Name y2 p5) p8] D := fun σ H s pins sh I => by
  obtain ⟨u0, a0, b0⟩ := s.get h0
  obtain ⟨u1, a1, b1⟩ := s.get h1
  obtain ⟨u2, a2, b2⟩ := s.get h2
  have b0 := k0 _ _ b0
  have b1 := k1 _ _ b1
  have b2 := k2 _ _ b2
  subst b0 b1 b2
  have hH : H q = some (.ins C dx []) := s.ex.at_ hq fun _ z => (nomatch z)
  refine (pss_cons (ps_fld (pe_var g0 w0 d0 c0) (pe_var g1 w1 d1 c1) s1) (pss_one (ps_fld (pe_var g0 w0 d0 c0) (pe_var g2 w2 d2 c2) s2))).run pins sh σ H D I ?_
  refine ⟨_, a1, _, a0, q, C, dx, [], rfl, hH, hC, hn, by show 0 < 1000; decide, ?_⟩
  refine ⟨_, a2, _, a0, q, C, dx, _, rfl, upd_same, hC, hn2, by show 1 < 1000; decide, ?_⟩
  rw [upd_upd]
  exact hD σ H s.ex hH
end
end CB
end
section
set_option Elab.async false
set_option linter.all false
set_option maxRecDepth 100000
set_option maxHeartbeats 2000000
/-! T. own dicts walked under their lock; values told by any relation; objects made and filled. -/
namespace CB
open PySem PySem.Spec PyProof.Rows L2 Enc

class StaR {β : Type} (R : Hp → V → β → Prop) : Prop where
  up : ∀ {H H' : Hp} {v : V} {b : β}, Lt H H' → R H v b → R H' v b
abbrev rIs (K : PySem.W.Frag) (β : Type) [Enc β] : Hp → V → β → Prop := fun H v b => Is K H v b
instance {K : PySem.W.Frag} {β : Type} [Enc β] : StaR (fun H v (b : β) => Is K H v b) := ⟨fun e h => Im.upT e _ _ h⟩
abbrev rRef : Hp → V → Addr → Prop := fun _ v a => v = .ref a
instance : StaR (fun (_ : Hp) v (a : Addr) => v = V.ref a) := ⟨fun _ h => h⟩
theorem DR.upR {κ β : Type} [Enc κ] {K : PySem.W.Frag} {R : Hp → V → β → Prop} [StaR R] {t : Raw} {kvs : List (κ × β)} {H H' : Hp} (h : DR K R H t kvs) (e : Lt H H') : DR K R H' t kvs := Paired.mapP h fun _ _ z => ⟨z.1, Im.upT e _ _ z.2.1, StaR.up e z.2.2⟩
def CDR (P : Program) (w : World) (K : PySem.W.Frag) {κ β : Type} [Enc κ] (R : Hp → V → β → Prop) (kvs : List (κ × β)) (p : Addr) (H : Hp) : Prop := ∃ t, H p = some (DO P w p t) ∧ DR K R H t kvs
def oDR (P : Program) (w : World) (K : PySem.W.Frag) {κ β : Type} [Enc κ] (R : Hp → V → β → Prop) [StaR R] (p : Addr) (kvs : List (κ × β)) : Own where
  p := p
  C := CDR P w K R kvs p
  at_ := fun {H} h => by
    obtain ⟨t, h1, h2⟩ := h
    exact ⟨_, h1, loose_ext, pl_DO⟩
  sta := fun {H H'} h e l => by
    obtain ⟨t, h1, h2⟩ := h
    exact ⟨t, e.trans h1, DR.upR h2 l⟩
theorem loose_fD {P : Program} {w : World} {p : Addr} {t : Raw} {od : Obj} : Loose (.frz od (DO P w p t)) := ⟨fun xs z => (nomatch z), fun _ _ _ z => (nomatch z), fun _ _ z => by injection z with _ z; exact nomatch z⟩
theorem pl_fD {P : Program} {w : World} {p q : Addr} {t : Raw} {od : Obj} : Pl q (.frz od (DO P w p t)) := ⟨fun _ z => (nomatch z), fun _ z => by unfold LamX.CodeO at z; cases z⟩
/-- own, locked -/
def oDF (P : Program) (w : World) (K : PySem.W.Frag) {κ β : Type} [Enc κ] (R : Hp → V → β → Prop) [StaR R] (p : Addr) (od : Obj) (t : Raw) (kvs : List (κ × β)) : Own where
  p := p
  C := fun H => H p = some (.frz od (DO P w p t)) ∧ DR K R H t kvs
  at_ := fun h => ⟨_, h.1, loose_fD, pl_fD⟩
  sta := fun h e l => ⟨e.trans h.1, h.2.upR l⟩
section
variable [Tbs] {B : Bs} {Γ : Gam} {Δ : List Own} {σ : L2.St} {H : Hp} {P : Program} {w : World} {K : PySem.W.Frag} {κ β : Type} [Enc κ] {R : Hp → V → β → Prop} [StaR R] {q : Addr} {kvs : List (κ × β)} {od : Obj} {t : Raw} {n : Nat}
theorem SS.lock (s : SS B Γ Δ σ H) (hn : Δ[n]? = some (oDR P w K R q kvs)) : ∃ t, H q = some (DO P w q t) ∧ ∀ od, SS B Γ (Δ.set n (oDF P w K R q od t kvs)) σ (upd H q (.frz od (DO P w q t))) := by
  obtain ⟨t, h1, h2⟩ := s.own _ (List.mem_of_getElem? hn)
  exact ⟨t, h1, fun od => s.mut hn (o' := oDF P w K R q od t kvs) rfl ⟨upd_same, h2.upR (Lt.put h1 loose_ext)⟩⟩
theorem SS.unlock (s : SS B Γ Δ σ H) (hn : Δ[n]? = some (oDF P w K R q od t kvs)) : H q = some (.frz od (DO P w q t)) ∧ SS B Γ (Δ.set n (oDR P w K R q kvs)) σ (upd H q (DO P w q t)) := by
  obtain ⟨h1, h2⟩ := s.own _ (List.mem_of_getElem? hn)
  exact ⟨h1, s.mut hn (o' := oDR P w K R q kvs) rfl ⟨t, upd_same, h2.upR (Lt.put h1 loose_fD)⟩⟩
theorem first_perm : ∀ {Δ : List Own} {n : Nat} {o : Own}, Δ[n]? = some o → (o :: Δ.eraseIdx n).Perm Δ
  | a :: l, 0, o, h => by cases h; exact .refl _
  | a :: l, n + 1, o, h => (List.Perm.swap a o _).trans ((first_perm (Δ := l) (n := n) h).cons a)
/-- the one at n comes first -/
theorem SS.first (s : SS B Γ Δ σ H) {o : Own} (hn : Δ[n]? = some o) {Δ' : List Own} (hd : List.Sublist Δ' (Δ.eraseIdx n)) : SS B Γ (o :: Δ') σ H := by
  have hp : (o :: Δ.eraseIdx n).Perm Δ := first_perm hn
  have hs : List.Sublist (o :: Δ') (o :: Δ.eraseIdx n) := hd.cons_cons _
  have sub : ∀ x ∈ o :: Δ', x ∈ Δ := fun x hx => hp.subset (hs.subset hx)
  exact ⟨s.le, s.ex, s.lt, s.len, s.env, fun x hx => s.own x (sub x hx), fun x hx => s.fr x (sub x hx), ((hp.map (·.p)).symm.nodup s.ap).sublist (hs.map _), s.tb⟩
end
section
variable [Tbs] {X : Cx} {S : SA} [Stab S] {e a b c it tg elt : Expr} {ifs : List Expr} {pos p pos' : Pos} {x y : Str} {D : Ends} {rest body : List Stmt} {B : Bs} {Γ : Gam} {Δ : List Own} {κ β γ ι : Type} [Enc κ] [Enc γ] {R : Hp → V → β → Prop} [StaR R] {q : Addr} {kvs : List (κ × β)} {od : Obj} {t : Raw} {n : Nat} {sc : Scope}
/-- the keys of a locked dict -/
theorem walk_keysT {P : Program} {w : World} {K : PySem.W.Frag} : Walk (Itx P w q od t) (kvs.map (·.1)).length (fun H => H q = some (.frz od (DO P w q t)) ∧ DR K R H t kvs) (YT K (kvs.map (·.1))) := by
  refine ⟨fun i H hi g => ⟨g.1, ?_⟩, fun H g => ⟨g.1, ?_⟩, fun i H x H' hi g y => ?_⟩
  · rw [g.2.length]; rw [List.length_map] at hi; exact hi
  · rw [g.2.length, List.length_map]; exact Nat.le_refl _
  · obtain ⟨e, z, hz, ex⟩ := y
    subst e ex
    obtain ⟨u, hu, e1, e2, _⟩ := g.2.at_ hz
    refine ⟨Ex.refl _, u.1, by rw [List.getElem?_map, hu]; rfl, ?_⟩
    rw [e1] at e2
    exact e2
theorem hi_keysF {K : PySem.W.Frag} (hK : X.K = K) (he : HE X S it (rEq (.ref q))) (hC : ∀ σ H, S σ H → H q = some (.frz od (DO X.prog X.w q t)) ∧ DR X.K R H t kvs) : HIt Ex X S tg it (kvs.map (·.1)) := fun σ H s Rr f pins sh I =>
  (pi_xkeys pe_w).run pins sh σ H Rr I ((he σ H s).mono fun v H1 ⟨e1, r⟩ => ⟨q, od, t, r, e1.at_ (hC σ H s).1 (pl_fD (q := q)).1, f _ H1 _ e1 (walk_keysT (R := R)) ⟨e1.at_ (hC σ H s).1 (pl_fD (q := q)).1, (hC σ H s).2.upR (Lt.of e1)⟩ fun Ha Hb g o => ⟨o.at_ g.1 (pl_fD (q := q)).1, g.2.upR (Lt.of o)⟩⟩)
theorem hi_keys (R : Hp → V → β → Prop) [StaR R] (n : Nat) (hm : Δ[n]? = some (oDF X.prog X.w X.K R q od t kvs)) (he : HE X (SS B Γ Δ) it (rEq (.ref q))) : HIt Ex X (SS B Γ Δ) tg it (kvs.map (·.1)) :=
  hi_keysF (R := R) rfl he fun σ H s => s.own _ (List.mem_of_getElem? hm)
/-- e may be told with the dict at n locked -/
theorem hn_lockD (o : Addr → Own) (ho : ∀ p, (o p).p = p) (R : Hp → V → β → Prop) [StaR R] (n : Nat) (hm : Δ[n]? = some (oDR X.prog X.w X.K R q kvs))
    (h : ∀ od t, HN X (SS B Γ (Δ.set n (oDF X.prog X.w X.K R q od t kvs))) e fun p => (o p).C) : HN X (SS B Γ Δ) e fun p => (o p).C :=
  hn_of (pe_lock pe_w) fun σ H s => by
    obtain ⟨t, h1, hs⟩ := s.lock hm
    refine ⟨q, _, h1, True.intro, fun od => (h od t σ _ (hs od)).mono fun v H' ⟨e1, p, ev, hn, hc⟩ => ⟨e1.at_ upd_same (pl_fD (q := q)).1, Ex.unlock h1 pl_DO e1, p, ev, ?_, ?_⟩⟩
    · by_cases z : p = q
      · rw [z, upd_same] at hn; cases hn
      · rw [upd_ne z] at hn; exact hn
    · have z : p ≠ q := fun z => by rw [z, upd_same] at hn; cases hn
      refine (o p).sta hc ?_ (Lt.put (e1.at_ upd_same (pl_fD (q := q)).1) loose_fD)
      rw [ho]
      exact upd_ne z
theorem he_lockD {Rr : Rel} [Sta Rr] (R : Hp → V → β → Prop) [StaR R] (n : Nat) (hm : Δ[n]? = some (oDR X.prog X.w X.K R q kvs))
    (h : ∀ od t, HE X (SS B Γ (Δ.set n (oDF X.prog X.w X.K R q od t kvs))) e Rr) : HE X (SS B Γ Δ) e Rr :=
  he_of (pe_lock pe_w) fun σ H s => by
    obtain ⟨t, h1, hs⟩ := s.lock hm
    exact ⟨q, _, h1, True.intro, fun od => (h od t σ _ (hs od)).mono fun v H' ⟨e1, r⟩ => ⟨e1.at_ upd_same (pl_fD (q := q)).1, Ex.unlock h1 pl_DO e1, Sta.up (Lt.put (e1.at_ upd_same (pl_fD (q := q)).1) loose_fD) r⟩⟩
/-- a dict told as locked is a dict -/
theorem he_ownF {Rr : Rel} (i n : Nat) (hΓ : Γ[i]? = some (some (rEq (.ref q)))) (hm : Δ[n]? = some (oDF X.prog X.w X.K R q od t kvs)) (hq : ∀ H, H q = some (.frz od (DO X.prog X.w q t)) → DR X.K R H t kvs → Rr H (.ref q))
    (hN : X.N[i]? = some x := by rfl) (hv : Vis X.env.scope x := by first | exact Or.inl rfl | exact Or.inr (Or.inl rfl) | exact Or.inr (Or.inr rfl)) (hd : (x == ("__debug__" : Str)) = false := by decide) (hcd : (x == ("__classdict__" : Str)) = false := by decide) : HE X (SS B Γ Δ) (.Name x p) Rr := fun σ H s =>
  (he_var i hΓ hN hv hd hcd σ H s).mono fun v H' ⟨e1, r⟩ => ⟨e1, by
    have z : v = .ref q := r
    obtain ⟨h1, h2⟩ := (Stab.up s e1).own _ (List.mem_of_getElem? hm)
    rw [z]
    exact hq H' h1 h2⟩
theorem rds_of_f {P : Program} {w : World} {K : PySem.W.Frag} [Enc β] {kvs : List (κ × β)} {H : Hp} (h : H q = some (.frz od (DO P w q t))) (d : DR K (fun H v b => Is K H v b) H t kvs) : rDs P w K kvs H (.ref q) := ⟨q, t, rfl, .inr ⟨od, h⟩, d⟩
/-- the ends of a body under the lock -/
abbrev LK (S' : SA) : Ends := { nx := S', ct := S', bk := fun _ _ => False, rt := fun _ _ => False }
/-- for k in d, d an own dict -/
theorem hb_forK (R : Hp → V → β → Prop) [StaR R] (n m : Nat) (Γi : ι → Nat → Gam) (Δi : ι → Nat → List Own) (g0 : ι) (f : κ → Gam → Gam) {vs : List Nat} (hc : X.calm = true) (hp : PassesOwn (model X.prog X.w) X.A X.env X.xe) (hn : Γ[n]? = some (some (rEq (.ref q)))) (hm : Δ[m]? = some (oDR X.prog X.w X.K R q kvs))
    (h0 : Subg (Γi g0 0) Γ) (hΔ : List.Sublist (Δi g0 0) (Δ.eraseIdx m)) (hg : ∀ u, HG X tg (rD X.K u) (f u) vs)
    (hb : ∀ tt od t g i u, (kvs.map (·.1))[i]? = some u → HB X (SS ⟨B.s, B.f, tt⟩ (f u (Γi g i)) (oDF X.prog X.w X.K R q od t kvs :: Δi g i)) body (LK fun σ H => ∃ g, SS ⟨B.s, B.f, tt⟩ (Γi g (i + 1)) (oDF X.prog X.w X.K R q od t kvs :: Δi g (i + 1)) σ H))
    (hd : ∀ g, HB X (SS B (Γi g kvs.length) (oDR X.prog X.w X.K R q kvs :: Δi g kvs.length)) rest D)
    (hN : X.N[n]? = some x := by rfl) (hvs : Vis X.env.scope x := by first | exact Or.inl rfl | exact Or.inr (Or.inl rfl) | exact Or.inr (Or.inr rfl)) (hdb : (x == ("__debug__" : Str)) = false := by decide)
    (hcd : (x == ("__classdict__" : Str)) = false := by decide) (hs : ∀ z, foldedSetIterable (.Name x p) X.env z = pure z := by intro _; rfl) : HB X (SS B Γ Δ) (.For tg (.Name x p) body [] pos :: rest) D :=
  hb_of (ps_lock (ps_for hp hc (pi_xkeys (pe_var hN hvs hdb hcd)) pg_w pb_w hs)) fun σ H s => by
    have s0 : SS B Γ (oDR X.prog X.w X.K R q kvs :: Δi g0 0) σ H := s.first hm hΔ
    obtain ⟨t, h1, hl⟩ := s0.lock (n := 0) rfl
    obtain ⟨v, hv1, hv2⟩ := s.get hn
    have ev : v = .ref q := hv2
    subst ev
    refine ⟨q, _, h1, True.intro, fun od => ⟨_, hv1, q, od, t, rfl, upd_same, ?_⟩⟩
    have s1 : SS B Γ (oDF X.prog X.w X.K R q od t kvs :: Δi g0 0) σ (upd H q (.frz od (DO X.prog X.w q t))) := hl od
    have l1 : (kvs.map (·.1)).length = kvs.length := List.length_map _
    refine for_it (walk_keysT (R := R) (kvs := kvs)) (fun i σ' H' => ∃ g, SS ⟨B.s, B.f, upd H q (.frz od (DO X.prog X.w q t))⟩ (Γi g i) (oDF X.prog X.w X.K R q od t kvs :: Δi g i) σ' H') ⟨g0, s1.now.sub h0⟩ (fun i σ' H' _ ⟨g, s'⟩ => s'.own _ (List.mem_cons_self ..)) (fun i x σ' Ha Hb hi ⟨g, s'⟩ y => ?_) (fun σ' H' ⟨g, s'⟩ => ?_)
    · obtain ⟨e2, u, hu, ru⟩ := y
      intro pins sh uu I rv
      refine thn (hg u _ _ _ σ' Hb x (Stab.up s' e2) ru pins sh uu I rv) fun _ s3 ⟨σ2, H2, I2, r1, r2, _⟩ => ⟨σ2, H2, I2, ?_⟩
      subst r1
      intro pins2 sh2 I3
      refine wpAny_mono (hb _ od t g i u hu σ2 H2 r2 pins2 sh2 I3) (fun fl s4 z => ?_) fun _ _ z => z
      cases fl with
      | next => exact z
      | cont => exact z
      | brk => obtain ⟨_, _, _, z⟩ := z; exact z.elim
      | ret v => obtain ⟨_, _, _, _, _, z⟩ := z; exact z.elim
    · rw [l1] at s'
      obtain ⟨h2, s2⟩ := s'.unlock (n := 0) rfl
      exact ⟨h2, hd g σ' _ (SS.back (B := B) s2 s1.lt)⟩
end
end CB
end
section
set_option Elab.async false
set_option linter.all false
set_option maxRecDepth 100000
set_option maxHeartbeats 2000000
/-! U. an object made, then filled anew. -/
namespace CB
open PySem PySem.Spec PyProof.Rows L2 Enc

section
variable {K : PySem.W.Frag} {H H' : Hp}
mutual
theorem Im.upQ (e : ∀ a xs, Rd H a (.tup xs) → Rd H' a (.tup xs)) : ∀ (k : NestedKey) (v : V), Im K H k v → Im K H' k v
  | .none, _, h => h
  | .num _, _, h => h
  | .text _, _, h => h
  | .tup ks, _, h => by
    obtain ⟨a, xs, e1, h1, h2⟩ := h
    refine ⟨a, xs, e1, ?_, Ims.upQ e ks xs h2⟩
    rcases h1 with h1 | h1
    · exact .inl (e a _ h1)
    · exact .inr h1
theorem Ims.upQ (e : ∀ a xs, Rd H a (.tup xs) → Rd H' a (.tup xs)) : ∀ (ks : List NestedKey) (vs : List V), Ims K H ks vs → Ims K H' ks vs
  | [], _, h => h
  | k :: ks, _, h => by
    obtain ⟨x, r, e1, h1, h2⟩ := h
    exact ⟨x, r, e1, Im.upQ e k x h1, Ims.upQ e ks r h2⟩
end
end
theorem rd_ins {H : Hp} {q C dx : Addr} {fs : List (Str × V)} {u' : HO} (h : H q = some (.ins C dx fs)) : ∀ a xs, Rd H a (.tup xs) → Rd (upd H q u') a (.tup xs) := fun a xs r => by
  by_cases z : a = q
  · subst z
    rcases r with r | ⟨o, r⟩ <;> (rw [h] at r; cases r)
  · rcases r with r | ⟨o, r⟩
    · exact .inl ((upd_ne z).trans r)
    · exact .inr ⟨o, (upd_ne z).trans r⟩
theorem rD.ins {K : PySem.W.Frag} {α : Type} [Enc α] {a : α} {v : V} {H : Hp} {q C dx : Addr} {fs : List (Str × V)} {u' : HO} (h : rD K a H v) (e : H q = some (.ins C dx fs)) : rD K a (upd H q u') v := Im.upQ (rd_ins e) _ _ h
theorem rP.ins {K : PySem.W.Frag} {α : Type} [Enc α] {as : List α} {v : V} {H : Hp} {q C dx : Addr} {fs : List (Str × V)} {u' : HO} (h : rP K as H v) (e : H q = some (.ins C dx fs)) : rP K as (upd H q u') v := by
  obtain ⟨p, o, xs, e1, h1, h2, h3⟩ := h
  refine ⟨p, o, xs, e1, ?_, h2, Ims.upQ (rd_ins e) _ _ h3⟩
  have z : p ≠ q := fun z => by rw [z, e] at h1; cases h1
  exact (upd_ne z).trans h1
/-- new: an object -/
def CO (K : PySem.W.Frag) (C : Addr) {κ : Type} [Enc κ] (sz : List Int) (kvs : List (κ × Rat)) (q : Addr) (H : Hp) : Prop := ∃ dx v1 v2, H q = some (.ins C dx (objF v1 v2)) ∧ rD K sz H v1 ∧ rP K kvs H v2
theorem CO.ro {K : PySem.W.Frag} {C : Addr} {κ : Type} [Enc κ] {sz : List Int} {kvs : List (κ × Rat)} {q : Addr} {H : Hp} (h : CO K C sz kvs q H) : rO K C sz kvs H (.ref q) := by
  obtain ⟨dx, v1, v2, h1, h2, h3⟩ := h
  exact ⟨q, dx, v1, v2, rfl, h1, h2, h3⟩
section
variable [Tbs] {X : Cx} {S : SA} [Stab S] {e a b c em es : Expr} {x y z : Str} {R Ra Rb Rc : Rel} {p p1 p2 p3 p4 p5 p6 p7 p8 p9 p10 p11 pos pos' : Pos} {κ κ' : Type} [Enc κ] [Enc κ'] {sz sz' : List Int} {kvs : List (κ × Rat)} {kvs' : List (κ' × Rat)} {C fi fe : Addr} {j k : Nat} {D : Ends} {B : Bs} {Γ : Gam}
theorem hn_makeR [m1 : Mon Ra] [m2 : Mon Rb] {P : List Rel → Prop} {Rs : List Rel} (T : ClsK X.K X.mg x C fi fe) (F : KnownM X.prog X.w X.K X.mg X.base k fi (spI C P)) (hr : Room j X.A) (ha : HE X S a Ra) (hb : HE X S b Rb) (hP : P Rs) (hab : ∀ H v u, Ra H v → Rb H u → RsOk Rs H [v, u]) (hg : Gl X x := by rfl) (hk : k + 1 ≤ j := by decide) (hdb : (x == ("__debug__" : Str)) = false := by decide)
    (he : starEach [a, b] X.env = (false, eval a X.env) :: starEach [b] X.env := by rfl) (he2 : starEach [b] X.env = (false, eval b X.env) :: starEach [] X.env := by rfl) (hpl : (backTo pos (starEach [b] X.env)).any (·.1) = false := by rfl) : HN X S (.Call (.Name x p) [a, b] [] pos) (fun q H => ∃ dx v1 v2, H q = some (.ins C dx (objF v1 v2)) ∧ Ra H v1 ∧ Rb H v2) := by
  obtain ⟨fd, ps, F1, F2⟩ := F
  refine hn_of (pe_make T.mkr F1 (hr.mono hk) hg T.glo F2 .nil pass0 pa_w hdb he hpl) fun σ H s => ?_
  refine (ha_cons ha (ha_cons hb ha_nil he2) he σ H s).mono fun vs H1 ⟨e1, r⟩ q dx hq hdx ne => ?_
  obtain ⟨v1, v2, rfl, r1, r2⟩ := rs2 r
  have n2 : upd H1 dx (.own q) q = none := by rw [upd_ne (Ne.symm ne)]; exact hq
  have eA : Ex H1 (upd (upd H1 dx (.own q)) q (.ins C dx [])) := (Ex.new hdx).trans (Ex.new n2)
  rw [List.append_nil]
  exact ⟨_, q, dx, v1, v2, hP, rfl, upd_same, hab _ _ _ (Mon.up eA r1) (Mon.up eA r2), (e1.trans eA).tb (Stab.tb s), fun H3 e3 h3 => ⟨rfl, e1.trans ((eA.trans e3).mut hq h3 pl_ins), q, rfl, e1.dom q hq, dx, v1, v2, upd_same, Mon.up ((eA.trans e3).mut hq h3 pl_ins) r1, Mon.up ((eA.trans e3).mut hq h3 pl_ins) r2⟩⟩
theorem hn_make {P : List Rel → Prop} (T : ClsK X.K X.mg x C fi fe) (F : KnownM X.prog X.w X.K X.mg X.base k fi (spI C P)) (hr : Room j X.A) (ha : HE X S a (rD X.K sz)) (hb : HE X S b (rP X.K kvs)) (hP : P [rD X.K sz, rD X.K kvs]) (hg : Gl X x := by rfl) (hk : k + 1 ≤ j := by decide) (hdb : (x == ("__debug__" : Str)) = false := by decide)
    (he : starEach [a, b] X.env = (false, eval a X.env) :: starEach [b] X.env := by rfl) (he2 : starEach [b] X.env = (false, eval b X.env) :: starEach [] X.env := by rfl) (hpl : (backTo pos (starEach [b] X.env)).any (·.1) = false := by rfl) : HN X S (.Call (.Name x p) [a, b] [] pos) (CO X.K C sz kvs) :=
  hn_makeR T F hr ha hb hP (fun H v u h1 h2 => ⟨v, _, rfl, h1, u, _, rfl, Pt.is h2, rfl⟩) hg hk hdb he he2 hpl
theorem hn_make0 {P : List Rel → Prop} (T : ClsK X.K X.mg x C fi fe) (F : KnownM X.prog X.w X.K X.mg X.base k fi (spI C P)) (hr : Room j X.A) (ha : HE X S a (rD X.K sz)) (hb : HE X S b (rD X.K kvs)) (hP : P [rD X.K sz, rD X.K kvs]) (hg : Gl X x := by rfl) (hk : k + 1 ≤ j := by decide) (hdb : (x == ("__debug__" : Str)) = false := by decide)
    (he : starEach [a, b] X.env = (false, eval a X.env) :: starEach [b] X.env := by rfl) (he2 : starEach [b] X.env = (false, eval b X.env) :: starEach [] X.env := by rfl) (hpl : (backTo pos (starEach [b] X.env)).any (·.1) = false := by rfl) : HN X S (.Call (.Name x p) [a, b] [] pos) (fun q H => ∃ dx v1 v2, H q = some (.ins C dx (objF v1 v2))) :=
  (hn_makeR T F hr ha hb hP (fun H v u h1 h2 => ⟨v, _, rfl, h1, u, _, rfl, h2, rfl⟩) hg hk hdb he he2 hpl).imp fun q H ⟨dx, v1, v2, h, _⟩ => ⟨dx, v1, v2, h⟩
/-- told whatever the heap -/
def HpFree (Γ : Gam) : Prop := ∀ (i : Nat) (R : Rel), Γ[i]? = some (some R) → ∀ H H' v, R H v → R H' v
theorem hpFree_nil : HpFree [] := fun i R h => by cases i <;> cases h
theorem hpFree_none {Γ : Gam} (h : HpFree Γ) : HpFree (none :: Γ) := fun i R e => match i, e with
  | 0, e => by cases e
  | i + 1, e => h i R e
theorem hpFree_cst {Γ : Gam} {H : Hp} {R : Rel} (h : HpFree Γ) : HpFree (some (cst H R) :: Γ) := fun i R' e => match i, e with
  | 0, e => by cases e; exact fun _ _ _ h => h
  | i + 1, e => h i R' e
theorem hpFree_eq {Γ : Gam} {v : V} (h : HpFree Γ) : HpFree (some (rEq v) :: Γ) := fun i R' e => match i, e with
  | 0, e => by cases e; exact fun _ _ _ h => h
  | i + 1, e => h i R' e
/-- an own object is written over -/
theorem SS.over {σ : L2.St} {H : Hp} (s : SS B Γ [] σ H) (hf : HpFree Γ) {q C dx : Addr} {fs fs' : List (Str × V)} (f1 : B.s q = none) (f2 : B.f q = none) (h : H q = some (.ins C dx fs)) : SS ⟨B.s, B.f, upd H q (.ins C dx fs')⟩ Γ [] σ (upd H q (.ins C dx fs')) :=
  ⟨s.le.put f1, s.ex.mut f2 h pl_ins, Lt.refl _, s.len, fun i R e => by
    obtain ⟨v, h1, m, h2⟩ := s.env i R e
    exact ⟨v, h1, m, hf i R e _ _ v h2⟩, fun _ z => (nomatch z), fun _ z => (nomatch z), List.nodup_nil, tabs_put s.tb h pl_ins⟩
/-- what the object at q holds -/
def SO (B : Bs) (Γ : Gam) (K : PySem.W.Frag) (C q : Addr) (P : Hp → V → V → Prop) : SA := fun σ H => (∃ t, SS ⟨B.s, B.f, t⟩ Γ [] σ H) ∧ B.s q = none ∧ B.f q = none ∧ ∃ dx v1 v2, H q = some (.ins C dx (objF v1 v2)) ∧ P H v1 v2
/-- x = C(..); x.sizes = a; x.shares = e; return x -/
theorem hb_raw (i n1 : Nat) (hC : Cls X.K C) (hA : NoAttr X.K C "sizes") (hA2 : NoAttr X.K C "shares") (hm : HN X (SS B Γ []) em (fun q H => ∃ dx v1 v2, H q = some (.ins C dx (objF v1 v2)))) (hf : ∀ q, HpFree (Γ.set i (some (rEq (.ref q))))) (h1 : ∀ q, (Γ.set i (some (rEq (.ref q))))[n1]? = some (some (cst B.s (rD X.K sz)))) (hi' : ∀ q, (Γ.set i (some (rEq (.ref q))))[i]? = some (some (rEq (.ref q))))
    (hs : ∀ q t, HE X (SS ⟨B.s, B.f, t⟩ (Γ.set i (some (rEq (.ref q)))) []) es (rP X.K kvs)) (hD : ∀ q H', Ex B.f H' → B.f q = none → CO X.K C sz kvs q H' → D.rt (.ref q) H') (hN : X.N.Nodup) (hi : X.N[i]? = some x := by rfl) (hx : Loc X.env.scope x := by first | exact Or.inl rfl | exact Or.inr rfl)
    (hsw : swapsWith em (some (.Name x p1)) p2.line X.env = pure false := by rfl) (hfx : X.fn x = true ∨ X.env.scope.names.lookup x = some .local := by first | exact .inl rfl | exact .inr rfl) (hvx : Vis X.env.scope x := by first | exact Or.inl rfl | exact Or.inr (Or.inl rfl) | exact Or.inr (Or.inr rfl)) (d0 : (x == ("__debug__" : Str)) = false := by decide) (c0 : (x == ("__classdict__" : Str)) = false := by decide)
    (g1 : X.N[n1]? = some y := by rfl) (w1 : Vis X.env.scope y := by first | exact Or.inl rfl | exact Or.inr (Or.inl rfl) | exact Or.inr (Or.inr rfl)) (d1 : (y == ("__debug__" : Str)) = false := by decide) (c1 : (y == ("__classdict__" : Str)) = false := by decide)
    (s1 : swapsWith (.Name y p5) (some (.Attribute (.Name x p3) "sizes" p4)) p6.line X.env = pure false := by rfl) (s2 : swapsWith es (some (.Attribute (.Name x p7) "shares" p8)) p9.line X.env = pure false := by rfl) :
    HB X (SS B Γ []) [.Assign [.Name x p1] em p2, .Assign [.Attribute (.Name x p3) "sizes" p4] (.Name y p5) p6, .Assign [.Attribute (.Name x p7) "shares" p8] es p9, .Return (some (.Name x p10)) p11] D :=
  hb_of (ps_set hN hi hx pe_w hsw hfx) fun σ H s => (hm σ H s).mono fun v H1 ⟨e1, q, ev, hq, dx, v1, v2, hins⟩ => by
    subst ev
    have hnm : X.N[i]? = some x := hi
    have sA : SS B (Γ.set i (some (rEq (.ref q)))) [] (σ.set i (some (.ref q))) H1 := (Stab.up s e1).set rfl
    have f1 : B.s q = none := s.le.dom _ hq
    have f2 : B.f q = none := by
      cases z : B.f q with
      | none => rfl
      | some u =>
        have := s.ex.dom _ hq
        rw [z] at this
        cases this
    intro pins sh I
    refine (pss_cons (ps_fld (pe_var hnm hvx d0 c0) (pe_var g1 w1 d1 c1) s1) pb_w).run pins sh _ H1 D I ?_
    obtain ⟨u1, a1, b1⟩ := sA.get (h1 q)
    have b1 : rD X.K sz B.s u1 := b1
    obtain ⟨u0, a0, b0⟩ := sA.get (hi' q)
    have b0 : u0 = .ref q := b0
    subst b0
    refine ⟨u1, a1, _, a0, q, C, dx, _, rfl, hins, hC, hA, by show 2 < 1000; decide, ?_⟩
    have sB := sA.over (hf q) f1 f2 hins (fs' := objF u1 v2)
    intro pins sh I
    refine (pss_cons (ps_fld (pe_var hnm hvx d0 c0) pe_w s2) pb_w).run pins sh _ _ D I ?_
    refine (hs q _ _ _ sB).mono fun w H2 ⟨e2, rw2⟩ => ?_
    have sC := Stab.up sB e2
    have hi2 : H2 q = some (.ins C dx (objF u1 v2)) := e2.at_ upd_same (pl_ins (p := q)).1
    refine ⟨_, a0, q, C, dx, _, rfl, hi2, hC, hA2, by show 2 < 1000; decide, ?_⟩
    have sD := sC.over (hf q) f1 f2 hi2 (fs' := objF u1 w)
    intro pins sh I
    refine (pss_one (ps_ret (pe_var hnm hvx d0 c0))).run pins sh _ _ D I ?_
    exact ⟨_, a0, hD q _ sD.ex f2 ⟨dx, u1, w, upd_same, Im.up sD.le.le _ _ b1, rw2.ins hi2⟩⟩
end
end CB
end
section
set_option Elab.async false
set_option linter.all false
set_option maxRecDepth 100000
set_option maxHeartbeats 2000000
set_option exponentiation.threshold 100
namespace CB
open PySem PySem.Spec PyProof.Rows L2 Enc
section
variable {P : Program} {w : World} {K : PySem.W.Frag} {mg : Str → Option Value} {base : Heap}
abbrev pBad [Tbs] (P : Program) (w : World) (K : PySem.W.Frag) (mg : Str → Option Value) (base : Heap) (κ : Type) [Enc κ] [TupE κ] : PR := fun Rs R => ∃ (sz : List Int) (kvs : List (κ × Rat)) (params : Arguments) (body : Expr) (scope : Scope) (y p : Str) (Ry : Rel), Rs = [rD K sz, rD K kvs, rLam params body scope y Ry] ∧
  (sz ∈ allSz ∧ (Sta Ry ∧ LamF params body scope y p ∧ (∀ a ∈ kvs, LamAns P w K mg base 5 body scope y p Ry (rD K a.1)) ∧ Asc kvs) ∧ (∀ i a, (kvs.map (·.2))[i]? = some a → Ok2 (rsum ((kvs.map (·.2)).take i)) a) ∧ rsum (kvs.map (·.2)) = 1) ∧ R = fun _ => rN
theorem k_first_bad [Tbs] (κ : Type) [Enc κ] [TupE κ] (T : Has K mg 39 "first_bad") (Bm : Bi mg) (G : Glo K mg) (k1 : Known P w K mg base 3 "is_sizes" (spF (pSizes K))) (k2 : Known P w K mg base 7 "first_wrong" (spF (pWrong P w K mg base κ))) (k3 : Known P w K mg base 4 "add_all" (spF (pSum K))) : Known P w K mg base 8 "first_bad" (spF (pBad P w K mg base κ)) := by
  have S : FnScope ["sizes", "shares", "is_key", "wrong", "key", "share"] ["sizes", "shares", "is_key"] (defScope (top 39)) := ⟨rfl, rfl, rfl, by decide +kernel, rfl, by decide +kernel, by decide +kernel⟩
  refine known_of T S (fun _ _ _ _ _ _ us hl => match us, hl with | [_, _, _], _ => rfl) (fun Rs R ⟨_, _, _, _, _, _, _, _, h, _⟩ => by rw [h] <;> rfl) fun f cdv A outer s H E hr Rs R hp => ?_
  obtain ⟨sz, kvs, params, body, scope, y, p, Ry, rfl, ⟨hz, ⟨sy, lf, la, asc⟩, hs, h1⟩, rfl⟩ := hp
  refine hb_if (ht_not (ht_val (he_call k1 hr (ha_cons (he_par (R := rD K sz) 0 rfl) ha_nil) ⟨sz, rfl, hz, rfl⟩))) (fun h => nomatch h) fun _ => hb_nil ?_
  refine hb_if (ht_not (ht_val (he_isiTup Bm (he_par (R := rD K kvs) 1 rfl)))) (fun h => nomatch h) fun _ => hb_nil ?_
  refine hb_set (R := rN) 3 (he_call k2 hr (ha_cons (he_par (R := rD K kvs) 1 rfl) (ha_cons (he_parX (R := rLam params body scope y Ry) 2 rfl) ha_nil)) ⟨kvs, params, body, scope, y, p, Ry, rfl, ⟨sy, lf, la, asc⟩, rfl⟩) ?_ S.nd
  refine hb_if (ht_c (hc_notN true (he_var (R := rN) 3 rfl) (fun H v h => by rw [show v = .non from h] <;> rfl))) (fun h => nomatch h) fun _ => hb_nil ?_
  refine hb_rt (he_if (ht_c (hc_eqE (u := rsum (kvs.map (·.2))) (v := 1) (hu0 hr) (by decide) (he_call k3 hr (ha_cons (HN.ls (hn_map (as := kvs) (·.2) (fun u Γ => (Γ.set 4 (some (rD K u.1))).set 5 (some (rD K u.2))) [("key", 4), ("share", 5)] rfl S.nd (HIt.ex (hi_tup (he_par (R := rD K kvs) 1 rfl))) (by have := asc.len; omega) (fun s H0 C cl fp u => hg_pair 4 5 rfl S.nd) (fun s H0 C cl fp u hu => he_var 5 rfl) (by kernel_rfl))) ha_nil) ⟨_, rfl, hs, rfl⟩) (he_gR G.one))) (fun _ => he_non) (fun h => absurd h1 (of_decide_eq_false h))) fun v H' e r => ⟨e, r⟩
/-! ### __init__ -/
def rAE (v : V) (R : Rel) : Rel := fun H u => u = v ∧ R H u
instance {v : V} {R : Rel} [Sta R] : Sta (rAE v R) := ⟨fun e h => ⟨h.1, Sta.up e h.2⟩⟩
theorem rAE.of [Tbs] {X : Cx} {S : SA} [Stab S] {e : Expr} {v : V} {R : Rel} (h : HE X S e (rAE v R)) : HE X S e R := h.imp fun _ _ h => h.2
/-- a method whose code object is c -/
def HasM (K : PySem.W.Frag) (f : Addr) (st : Stmt) (m q : Str) (c : Addr) : Prop := ∃ (oc : Value) (od : Option Addr) (kV doc pm : Value) (an : Option Addr) (ct : Value) (osl : Array (Option Value)),
  K.lookup f = some ⟨oc, od, .func (PySem.W.fnOf m q (defArgs st) (defBody st) (defScope st) .none kV doc pm an (.ref c) ct), osl⟩ ∧ PySem.W.codeIn K (.ref c) q = true
theorem known_init [Tbs] {f C c : Addr} {st : Stmt} {q : Str} {k : Nat} {N : List Str} {p : List Rel → Prop} (T : HasM K f st "__init__" q c) (sc : FnScope N ["self", "sizes", "shares"] (defScope st))
    (hb : ∀ (kV doc pm : Value) (an : Option Addr) (cdv ct : Value) (us : List Value), us.length = 3 → bindArgs (PySem.W.fnOf "__init__" q (defArgs st) (defBody st) (defScope st) .none kV doc pm an cdv ct) ⟨us, []⟩ = pure ((["self", "sizes", "shares"] : List Str).zip us))
    (hp : ∀ Rs, p Rs → ∃ (α : Type) (_ : Enc α) (sz : List Int) (kvs : List α), Rs = [rD K sz, rD K kvs])
    (body : ∀ (A : Around) (outer : List Env) (s : Shared) (H : Hp) (E : XK), Room k (A.deeper (envOfC q (defScope st) s.heap.objs.size f (.ref c))) → ∀ R1 R2, p [R1, R2] → ∀ (o dx : Addr) (v1 v2 : V) (D : Ends), H o = some (.ins C dx []) → (∀ σ H1, Ex H H1 → H1 o = some (.ins C dx []) → D.nx σ (upd H1 o (.ins C dx (objF v1 v2)))) →
      HB (cxOf CX0 P w K mg base N q (defScope st) f (.ref c) A outer s H E).nox (SS ⟨H, H, H⟩ (G0 H N [rEq (.ref o), rAE v1 R1, rAE v2 R2]) []) (defBody st) D) : KnownM P w K mg base (k + 1) f (spI C p) := by
  obtain ⟨oc, od, kV, doc, pm, an, ct, osl, lk, hcd⟩ := T
  refine ⟨_, ["self", "sizes", "shares"], fn_of lk hcd sc (fun vs H Q E h => ?_) (fun A outer s H vs Q E hr h => ?_), Binds.all (hb kV doc pm an (.ref c) ct)⟩
  · obtain ⟨Rs, o, dx, v1, v2, _, rfl, _⟩ := h
    rfl
  · obtain ⟨Rs, o, dx, v1, v2, h1, rfl, h2, h3, htb, h4⟩ := h
    obtain ⟨α, iα, sz, kvs, rfl⟩ := hp Rs h1
    obtain ⟨w1, r1, e1, a1, w2, r2, e2, a2, e3⟩ := h3
    cases e1
    cases e2
    have hl : 3 ≤ N.length := by
      have := congrArg List.length sc.pre
      rw [List.length_take] at this
      simp at this
      omega
    refine ⟨_, PSs.nox (pb_w (X := (cxOf CX0 P w K mg base N q (defScope st) f (.ref c) A outer s H E).nox) (b := defBody st)), fun pins sh I => ?_⟩
    refine body A outer s H E hr _ _ h1 o dx v1 v2 { nx := fun _ H' => Q .non H', rt := Q } h2 (fun σ H1 e q => h4 H1 e q) _ H (SS.start (Rs := [rEq (.ref o), rAE v1 (rD K sz), rAE v2 (rD K kvs)]) ⟨.ref o, _, rfl, rfl, v1, _, rfl, ⟨rfl, a1⟩, v2, _, rfl, ⟨rfl, a2⟩, rfl⟩ hl htb) pins sh I
/-- what a table of views must be -/
structure SeenOk (sz : List Int) (kvs : List (List Int × Rat)) : Prop where
  hz : sz ∈ allSz
  asc : Asc kvs
  key : ∀ a ∈ kvs, a.1.length = sz.length ∧ (a.1.zip sz).all (fun p => decide (-1 ≤ p.1) && decide (p.1 ≤ p.2 - 1)) = true
  sums : ∀ i a, (kvs.map (·.2))[i]? = some a → Ok2 (rsum ((kvs.map (·.2)).take i)) a
  one : rsum (kvs.map (·.2)) = 1
abbrev pSeen (K : PySem.W.Frag) : List Rel → Prop := fun Rs => ∃ (sz : List Int) (kvs : List (List Int × Rat)), Rs = [rD K sz, rD K kvs] ∧ SeenOk sz kvs
theorem k_Seen [Tbs] {fi C lc lp : Addr} (T : HasM K fi (inClass (top 40) 0) "__init__" "Seen.__init__" lc) (L : LamK base mg "Seen.__init__" lc lp) (hC : Cls K C) (hn : NoAttr K C "sizes") (hn2 : NoAttr K C "shares") (k1 : Known P w K mg base 8 "first_bad" (spF (pBad P w K mg base (List Int)))) (k2 : Known P w K mg base 3 "is_view" (spF (pView K))) : KnownM P w K mg base 9 fi (spI C (pSeen K)) := by
  have S : FnScope ["self", "sizes", "shares", "bad"] ["self", "sizes", "shares"] (defScope (inClass (top 40) 0)) := ⟨rfl, rfl, rfl, by decide +kernel, rfl, by decide +kernel, by decide +kernel⟩
  refine known_init T S (fun _ _ _ _ _ _ us hl => match us, hl with | [_, _, _], _ => rfl) (fun Rs ⟨sz, kvs, h, _⟩ => ⟨_, inferInstance, sz, kvs, h⟩) fun A outer s H E hr R1 R2 hp o dx v1 v2 D ho hD => ?_
  obtain ⟨sz, kvs, e, hk⟩ := hp
  injection e with e1 e2
  injection e2 with e2 _
  subst e1 e2
  refine hb_cur (R := rAE v1 (rD K sz)) 1 rfl ?_
  refine hb_set (R := rN) 3 (he_callMk (Ry := rAE v1 (rD K sz)) (y := "sizes") 1 k1 ⟨L.tab, rfl, L.mem, L.uniq⟩ hr (rAE.of (he_var 1 rfl)) (rAE.of (he_par (R := rAE v2 (rD K kvs)) 2 rfl)) rfl
    ⟨sz, kvs, _, _, _, "sizes", "thing", rAE v1 (rD K sz), rfl, ⟨hk.hz, ⟨inferInstance, ⟨rfl, rfl, rfl, rfl, rfl, by decide +kernel, by decide +kernel, by decide, fun _ _ _ _ _ _ => rfl⟩, fun a ha => ?_, hk.asc⟩, hk.sums, hk.one⟩, rfl⟩ rfl rfl (fun c hc => ?_) (by decide +kernel) rfl rfl) ?_ S.nd
  · intro X hP hw hK hm hb q f c' c s H hr
    subst hP hw hK hm hb
    have ho := hk.key a ha
    refine HE.imp (R := rB ((a.1.zip sz).all (fun p => decide (-1 ≤ p.1) && decide (p.1 ≤ p.2 - 1)))) ?_ fun H v h => by rw [← ho.2]; exact h
    exact he_call k2 (hr.mono (by decide : 3 ≤ 5)) (ha_cons (rAE.of (he_par (R := rAE v1 (rD X.K sz)) 1 rfl)) (ha_cons (he_par (R := rD X.K a.1) 0 rfl) ha_nil)) ⟨sz, a.1, rfl, ⟨ho.1, by have := (sz_len sz hk.hz).2; omega⟩, rfl⟩
  · exact (show _ = [(("sizes" : Str), (List.lookup ("sizes" : Str) _).getD 0)] from rfl).trans (by rw [hc] <;> rfl)
  · refine hb_if (ht_c (hc_notN true (he_var (R := rN) 3 rfl) (fun H v h => by rw [show v = .non from h] <;> rfl))) (fun h => nomatch h) fun _ => hb_nil ?_
    exact hb_fields hC hn hn2 (n0 := 0) (n1 := 1) (n2 := 2) rfl rfl rfl (fun H u h => h) (fun H u h => h.1) (fun H u h => h.1) ho hD
end
end CB
end
section
set_option Elab.async false
set_option linter.all false
set_option maxRecDepth 100000
set_option maxHeartbeats 2000000
set_option exponentiation.threshold 100
namespace CB
open PySem PySem.Spec PyProof.Rows L2 Enc
section
variable {P : Program} {w : World} {K : PySem.W.Frag} {mg : Str → Option Value} {base : Heap}
/-! ### Whole.__init__ -/
def counts {κ : Type} (kvs : List ((κ × List Int) × Rat)) : List (List Int × Int) := kvs.foldl (fun m a => put m a.1.2 ((look m a.1.2).getD 0 + 1)) []
theorem counts_snoc {κ : Type} (kvs : List ((κ × List Int) × Rat)) (a : (κ × List Int) × Rat) : counts (kvs ++ [a]) = put (counts kvs) a.1.2 ((look (counts kvs) a.1.2).getD 0 + 1) := by unfold counts; rw [List.foldl_append]; rfl
theorem counts_len {κ : Type} : ∀ (n : Nat) (kvs : List ((κ × List Int) × Rat)), (counts (kvs.take n)).length ≤ n
  | 0, kvs => by rw [List.take_zero] <;> exact Nat.le_refl 0
  | n + 1, kvs => by
    cases h : kvs[n]? with
    | none =>
      have := List.getElem?_eq_none_iff.mp h
      have h2 := counts_len n kvs
      rw [List.take_of_length_le (by omega)]
      rw [List.take_of_length_le (by omega)] at h2
      omega
    | some a =>
      rw [take_snoc h, counts_snoc]
      have h1 := length_put (counts (kvs.take n)) a.1.2 ((look (counts (kvs.take n)) a.1.2).getD 0 + 1)
      have h2 := counts_len n kvs
      omega
theorem contents_few : ∀ sz ∈ allSz, (contents sz).length ≤ 16 := by decide +kernel
def EvenOk (sz : List Int) (kvs : List ((List Int × List Int) × Rat)) : Prop := kvs.length < 9000 ∧ ∀ l ∈ (counts kvs).map (·.1), ∀ n, look (counts kvs) l = some n → ((contents sz).length : Int) ≤ n
abbrev pUneven (K : PySem.W.Frag) : PR := fun Rs R => ∃ (sz : List Int) (kvs : List ((List Int × List Int) × Rat)), Rs = [rD K sz, rD K kvs] ∧ (sz ∈ allSz ∧ EvenOk sz kvs) ∧ R = fun _ => rN
theorem esort_mem {α : Type} [Enc α] {as : List α} {a : α} (h : a ∈ esort as) : a ∈ as := (List.mergeSort_perm _ _).mem_iff.mp h
theorem k_uneven_pattern [Tbs] (T : Has K mg 42 "uneven_pattern") (Bm : Bi mg) (k1 : Known P w K mg base 2 "contents_of" (spF (pConts K))) : Known P w K mg base 4 "uneven_pattern" (spF (pUneven K)) := by
  have S : FnScope ["sizes", "shares", "many", "pattern", "place", "share"] ["sizes", "shares"] (defScope (top 42)) := ⟨rfl, rfl, rfl, by decide +kernel, rfl, by decide +kernel, by decide +kernel⟩
  refine known_of T S (fun _ _ _ _ _ _ us hl => match us, hl with | [_, _], _ => rfl) (fun Rs R ⟨_, _, h, _⟩ => by rw [h] <;> rfl) fun f cdv A outer s H E hr Rs R hp => ?_
  obtain ⟨sz, kvs, rfl, ⟨hz, hl, he⟩, rfl⟩ := hp
  have g0 : ∀ qm i, Subg ([some (cst H (rD K sz)), some (cst H (rD K kvs)), some (rEq (.ref qm)), none, none, none] : Gam) ([some (cst H (rD K sz)), some (cst H (rD K kvs)), some (rEq (.ref qm)), none, i, none] : Gam) := fun qm i => ⟨rfl, rfl, rfl, trivial⟩
  refine hb_setD (P := P) (w := w) (K := K) (kvs := counts (kvs.take 0)) 2 (hn_xnew (List Int) Int) (fun qm => ?_) S.nd
  refine hb_for (as := kvs) (fun _ => [some (cst H (rD K sz)), some (cst H (rD K kvs)), some (rEq (.ref qm)), none, none, none]) (fun i => [oD P w K qm (counts (kvs.take i))]) (fun u Γ => (Γ.set 4 (some (rD K u.1))).set 5 (some (rD K u.2))) rfl nox (hi_tup (he_par (R := rD K kvs) 1 rfl)) (Subg.refl _) (List.Sublist.refl _) (fun u => hg_pair 4 5 rfl S.nd) (fun t i u hu => ?_) ?_
  · have hi : i < kvs.length := (List.getElem?_eq_some_iff.mp hu).1
    have hc := counts_len i kvs
    refine hb_put (κ := List Int) (β := Int) (kvs := counts (kvs.take i)) (u := u.1.2) (v := (look (counts (kvs.take i)) u.1.2).getD 0 + 1) 2 0 rfl rfl (hu0 hr) (by decide) (by omega) (he_add (he_get2 (κ := List Int) (β := Int) (kvs := counts (kvs.take i)) (u := u.1.2) (v := (0 : Int)) (hu0 hr) (by decide) (he_ownD 2 0 rfl rfl) (he_snd (he_var 4 rfl)) he_int ⟨rfl, rfl, rfl, rfl⟩) he_int) (he_snd (he_var 4 rfl)) (hb_nil fun σ H' s => ?_)
    rw [take_snoc hu, counts_snoc]
    exact s.sub ⟨rfl, rfl, rfl, trivial⟩
  · rw [List.take_length]
    refine hb_forN (as := esort ((counts kvs).map (·.1))) (fun _ => [some (cst H (rD K sz)), some (cst H (rD K kvs)), some (rEq (.ref qm)), none, none, none]) (fun _ => [oD P w K qm (counts kvs)]) (fun u Γ => Γ.set 3 (some (rD K u))) rfl nox (he_sortD rfl Bm (hu0 hr) (by decide) (he_ownD 2 0 rfl rfl)) (Subg.refl _) (List.Sublist.refl _) (fun u => hg_name 3 S.nd) (fun t qs i u hu => ?_) ?_
    · have hm := esort_mem (List.mem_of_getElem? hu)
      obtain ⟨n, hn⟩ := look_some hm
      refine hb_if (ht_c (hc_lt (he_xget (kvs := counts kvs) (u := u) (v := n) (hu0 hr) (by decide) (he_ownD 2 1 rfl rfl) (he_var 3 rfl) (fun _ _ => rfl) hn) (he_lenL Bm (HN.ls (hn_call k1 hr (ha_cons (he_par (R := rD K sz) 0 rfl) ha_nil) ⟨sz, rfl, hz, rfl⟩))))) (fun h => ?_) fun _ => hb_nil (hb_nil fun σ H' s => s.sub ⟨rfl, rfl, rfl, trivial⟩)
      exfalso
      have h1 := he u hm n hn
      have h2 := of_decide_eq_true h
      simp at h2
      omega
    · exact hb_rt he_non fun v H' e r => ⟨e, r⟩
structure WholeOk (sz : List Int) (kvs : List ((List Int × List Int) × Rat)) : Prop where
  hz : sz ∈ allSz
  asc : Asc kvs
  key : ∀ a ∈ kvs, CtOk sz a.1.1 ∧ LotOk a.1.2 (sz.length : Int)
  sums : ∀ i a, (kvs.map (·.2))[i]? = some a → Ok2 (rsum ((kvs.map (·.2)).take i)) a
  one : rsum (kvs.map (·.2)) = 1
  even : EvenOk sz kvs
abbrev pWhole (K : PySem.W.Frag) : List Rel → Prop := fun Rs => ∃ (sz : List Int) (kvs : List ((List Int × List Int) × Rat)), Rs = [rD K sz, rD K kvs] ∧ WholeOk sz kvs
theorem k_Whole [Tbs] {fi C lc lp : Addr} (T : HasM K fi (inClass (top 43) 0) "__init__" "Whole.__init__" lc) (L : LamK base mg "Whole.__init__" lc lp) (hC : Cls K C) (hn : NoAttr K C "sizes") (hn2 : NoAttr K C "shares") (k1 : Known P w K mg base 8 "first_bad" (spF (pBad P w K mg base (List Int × List Int)))) (k2 : Known P w K mg base 4 "is_place" (spF (pPlace K))) (k3 : Known P w K mg base 4 "uneven_pattern" (spF (pUneven K))) : KnownM P w K mg base 9 fi (spI C (pWhole K)) := by
  have S : FnScope ["self", "sizes", "shares", "bad"] ["self", "sizes", "shares"] (defScope (inClass (top 43) 0)) := ⟨rfl, rfl, rfl, by decide +kernel, rfl, by decide +kernel, by decide +kernel⟩
  refine known_init T S (fun _ _ _ _ _ _ us hl => match us, hl with | [_, _, _], _ => rfl) (fun Rs ⟨sz, kvs, h, _⟩ => ⟨_, inferInstance, sz, kvs, h⟩) fun A outer s H E hr R1 R2 hp o dx v1 v2 D ho hD => ?_
  obtain ⟨sz, kvs, e, hk⟩ := hp
  injection e with e1 e2
  injection e2 with e2 _
  subst e1 e2
  refine hb_cur (R := rAE v1 (rD K sz)) 1 rfl ?_
  refine hb_set (R := rN) 3 (he_callMk (Ry := rAE v1 (rD K sz)) (y := "sizes") 1 k1 ⟨L.tab, rfl, L.mem, L.uniq⟩ hr (rAE.of (he_var 1 rfl)) (rAE.of (he_par (R := rAE v2 (rD K kvs)) 2 rfl)) rfl
    ⟨sz, kvs, _, _, _, "sizes", "thing", rAE v1 (rD K sz), rfl, ⟨hk.hz, ⟨inferInstance, ⟨rfl, rfl, rfl, rfl, rfl, by decide +kernel, by decide +kernel, by decide, fun _ _ _ _ _ _ => rfl⟩, fun a ha => ?_, hk.asc⟩, hk.sums, hk.one⟩, rfl⟩ rfl rfl (fun c hc => ?_) (by decide +kernel) rfl rfl) ?_ S.nd
  · intro X hP hw hK hm hb q f c' c s H hr
    subst hP hw hK hm hb
    have ho := hk.key a ha
    exact he_call k2 (hr.mono (by decide : 4 ≤ 5)) (ha_cons (rAE.of (he_par (R := rAE v1 (rD X.K sz)) 1 rfl)) (ha_cons (he_par (R := rD X.K a.1) 0 rfl) ha_nil)) ⟨sz, a.1.1, a.1.2, rfl, ⟨hk.hz, ho.1, ho.2⟩, rfl⟩
  · exact (show _ = [(("sizes" : Str), (List.lookup ("sizes" : Str) _).getD 0)] from rfl).trans (by rw [hc] <;> rfl)
  · refine hb_if (ht_c (hc_isN true (he_var (R := rN) 3 rfl) (fun H v h => by rw [show v = .non from h] <;> rfl))) (fun _ => ?_) (fun h => nomatch h)
    refine hb_set (R := rN) 3 (he_call k3 (hr.mono (by decide : 4 ≤ 8)) (ha_cons (rAE.of (he_var 1 rfl)) (ha_cons (rAE.of (he_par (R := rAE v2 (rD K kvs)) 2 rfl)) ha_nil)) ⟨sz, kvs, rfl, ⟨hk.hz, hk.even⟩, rfl⟩) (hb_nil ?_) S.nd
    refine hb_if (ht_c (hc_notN true (he_var (R := rN) 3 rfl) (fun H v h => by rw [show v = .non from h] <;> rfl))) (fun h => nomatch h) fun _ => hb_nil ?_
    exact hb_fields hC hn hn2 (n0 := 0) (n1 := 1) (n2 := 2) rfl rfl rfl (fun H u h => h) (fun H u h => h.1) (fun H u h => h.1) ho hD
end
end CB
end
section
set_option Elab.async false
set_option linter.all false
set_option maxRecDepth 100000
set_option maxHeartbeats 2000000
/-! V. the order of keys; what is sorted is told by its members. -/
namespace CB
open PySem PySem.Spec PyProof.Rows L2 Enc

theorem elt_self {α : Type} [Enc α] (a : α) : elt a a = false := PyProof.Rows.lex_irrefl _
theorem elt_trans {α : Type} [Enc α] {a b c : α} (h : elt a b = true) (h2 : elt b c = true) : elt a c = true := PyProof.Rows.lex_trans _ _ _ h h2
theorem elt_asymm {α : Type} [Enc α] {a b : α} (h : elt a b = true) : elt b a = false := by
  cases z : elt b a with
  | false => rfl
  | true => have := elt_trans h z; rw [elt_self] at this; cases this
class TotE (α : Type) [Enc α] : Prop where
  tot : ∀ {a b : α}, elt a b = false → elt b a = false → a = b
theorem elt_ints (a b : List Int) : elt a b = decide (a < b) := by
  have e : ∀ l : List Int, dat l = .tuple (l.map PyData.int) := fun l => by
    unfold dat
    show NestedKey.data (.tup (l.map enc)) = _
    rw [NestedKey.data, datas_map]
    rfl
  unfold elt
  rw [e, e, PySem.W.dataLt_tuple]
  exact PySem.W.dataLt_ints a b
theorem elt_pair {α β : Type} [Enc α] [Enc β] [DecidableEq α] [DecidableEq β] (p q : α × β) : elt p q = if p.1 = q.1 then (if p.2 = q.2 then false else elt p.2 q.2) else elt p.1 q.1 := by
  have e : ∀ r : α × β, dat r = .tuple [dat r.1, dat r.2] := fun r => rfl
  unfold elt
  rw [e, e, PySem.W.dataLt_pair (show PySem.W.alike (dat p.1) (dat q.1) = true from alk _ _) (show PySem.W.alike (dat p.2) (dat q.2) = true from alk _ _), eqv_dat, eqv_dat]
  simp only [decide_eq_true_eq]
instance : TotE (List Int) := ⟨fun {a b} h h2 => by
  rw [elt_ints] at h h2
  exact List.le_antisymm (List.not_lt.mp (of_decide_eq_false h2)) (List.not_lt.mp (of_decide_eq_false h))⟩
instance {α β : Type} [Enc α] [Enc β] [DecidableEq α] [DecidableEq β] [TotE α] [TotE β] : TotE (α × β) := ⟨fun {a b} h h2 => by
  rw [elt_pair] at h h2
  by_cases e : a.1 = b.1
  · rw [if_pos e] at h
    rw [if_pos e.symm] at h2
    by_cases f : a.2 = b.2
    · exact Prod.ext e f
    · rw [if_neg f] at h
      rw [if_neg (Ne.symm f)] at h2
      exact absurd (TotE.tot h h2) f
  · rw [if_neg e] at h
    rw [if_neg (Ne.symm e)] at h2
    exact absurd (TotE.tot h h2) e⟩
section
variable {α : Type} [Enc α] [TotE α]
theorem esort_perm (as : List α) : (esort as).Perm as := List.mergeSort_perm _ _
theorem esort_le (as : List α) : (esort as).Pairwise fun a b => elt b a = false := by
  have h := List.pairwise_mergeSort (le := PySem.W.dataLe false (dat (α := α))) (fun a b c h1 h2 => ?_) (fun a b => ?_) as
  · refine h.imp fun {a b} h => ?_
    have : (!elt b a) = true := h
    simpa using this
  · have h1 : (!elt b a) = true := h1
    have h2 : (!elt c b) = true := h2
    show (!elt c a) = true
    simp only [Bool.not_eq_true'] at h1 h2 ⊢
    cases z : elt c a with
    | false => rfl
    | true =>
      cases y : elt a b with
      | true => have := elt_trans z y; rw [h2] at this; cases this
      | false => have := TotE.tot y h1; subst this; rw [h2] at z; cases z
  · show (!elt b a || !elt a b) = true
    cases z : elt b a with
    | false => rfl
    | true => rw [elt_asymm z] <;> rfl
theorem esort_lt {as : List α} (h : as.Nodup) : (esort as).Pairwise fun a b => elt a b = true := by
  have n : (esort as).Nodup := (esort_perm as).symm.nodup h
  refine List.Pairwise.imp₂ (fun a b h1 h2 => ?_) (esort_le as) n
  cases z : elt a b with
  | true => rfl
  | false => exact absurd (TotE.tot z h1) h2
theorem eq_of_sorted {as bs : List α} (h1 : as.Pairwise fun a b => elt a b = true) (h2 : bs.Pairwise fun a b => elt a b = true) (hp : as.Perm bs) : as = bs :=
  List.Perm.eq_of_pairwise (le := fun a b => elt a b = true) (fun a b _ _ h h' => by rw [elt_asymm h] at h'; cases h') h1 h2 hp
theorem esort_eq {as bs : List α} (h : as.Nodup) (hb : bs.Pairwise fun a b => elt a b = true) (hp : as.Perm bs) : esort as = bs := eq_of_sorted (esort_lt h) hb ((esort_perm as).trans hp)
theorem nodup_of_lt {as : List α} (h : as.Pairwise fun a b => elt a b = true) : as.Nodup := h.imp fun {a b} h e => by rw [e, elt_self] at h; cases h
end
end CB
end
section
set_option Elab.async false
set_option linter.all false
set_option maxRecDepth 100000
set_option maxHeartbeats 2000000
set_option exponentiation.threshold 100
namespace CB
open PySem PySem.Spec PyProof.Rows L2 Enc
section
variable {P : Program} {w : World} {K : PySem.W.Frag} {mg : Str → Option Value} {base : Heap}
/-! ### sorted_shares -/
def srt {κ : Type} [Enc κ] [DecidableEq κ] (kvs : List (κ × Rat)) : List (κ × Rat) := ((esort (kvs.map (·.1))).filter fun k => decide (0 < ((look kvs k).getD 0).num)).map fun k => (k, (look kvs k).getD 0)
abbrev pSorted (P : Program) (w : World) (K : PySem.W.Frag) (κ : Type) [Enc κ] [DecidableEq κ] : PR := fun Rs R => ∃ kvs : List (κ × Rat), Rs = [rDs P w K kvs] ∧ kvs.length ≤ 9000 ∧ R = fun _ => rP K (srt kvs)
theorem look_getD {κ : Type} [Enc κ] [DecidableEq κ] {kvs : List (κ × Rat)} {u : κ} (h : u ∈ esort (kvs.map (·.1))) : look kvs u = some ((look kvs u).getD 0) := by
  obtain ⟨v, e⟩ := look_some (esort_mem h)
  rw [e] <;> rfl
theorem k_sorted_shares [Tbs] (κ : Type) [Enc κ] [TupE κ] [DecidableEq κ] (hd : dp κ ≤ 8) (T : Has K mg 44 "sorted_shares") (Bm : Bi mg) : Known P w K mg base 1 "sorted_shares" (spF (pSorted P w K κ)) := by
  have S : FnScope ["shares", "key"] ["shares"] (defScope (top 44)) := ⟨rfl, rfl, rfl, by decide +kernel, rfl, by decide +kernel, by decide +kernel⟩
  refine known_of T S (fun _ _ _ _ _ _ us hl => match us, hl with | [_], _ => rfl) (fun Rs R ⟨_, h, _⟩ => by rw [h] <;> rfl) fun f cdv A outer s H E hr Rs R hp => ?_
  obtain ⟨kvs, rfl, hl, rfl⟩ := hp
  refine hb_rt (R := rP K (srt kvs)) (he_tupL Bm (HN.ls (hn_lc (as := esort (kvs.map (·.1))) (fun k => decide (0 < ((look kvs k).getD 0).num)) (fun k => (k, (look kvs k).getD 0)) (fun u Γ => Γ.set 1 (some (rD K u))) [("key", 1)] rfl S.nd (hi_list (HN.ls (he_sortD rfl Bm (hu0 hr) hd (he_par (R := rDs P w K kvs) 0 rfl)))) (by rw [esort_len, List.length_map]; omega) (fun s H0 C cl fp u => hg_name 1 S.nd)
    (fun s H0 C cl fp u hu => hts_one (ht_c (hc_gt (he_num (he_xget (kvs := kvs) (u := u) (hu0 hr) hd (he_par (R := rDs P w K kvs) 0 rfl) (he_var 1 rfl) (fun _ _ => rfl) (look_getD hu))) he_int)))
    (fun s H0 C cl fp u hu _ => he_pair (he_var 1 rfl) (he_xget (kvs := kvs) (u := u) (hu0 hr) hd (he_par (R := rDs P w K kvs) 0 rfl) (he_var 1 rfl) (fun _ _ => rfl) (look_getD hu))) (by kernel_rfl)))) fun v H' e r => ⟨e, r⟩
/-! ### objects whose fields are told anew -/
abbrev pRaw (P : Program) (w : World) (K : PySem.W.Frag) (C : Addr) (κ : Type) [Enc κ] [DecidableEq κ] : PR := fun Rs R => ∃ (sz : List Int) (kvs : List (κ × Rat)), Rs = [rD K sz, rDs P w K kvs] ∧ kvs.length ≤ 9000 ∧ R = rNew (CO K C sz (srt kvs))
theorem seen0 : SeenOk [2] [([0], (1 : Rat))] where
  hz := by decide
  asc := { up := fun i a b h1 h2 => (by cases i <;> cases h2), pos := fun a h => (by rw [List.mem_singleton.mp h]; decide), len := by decide }
  key := fun a h => by rw [List.mem_singleton.mp h]; decide
  sums := fun i a h => by
    match i, h with
    | 0, h => cases h; exact ⟨1, 1, ⟨by decide, by decide⟩, ⟨by decide, by decide⟩, by decide⟩
    | i + 1, h => cases h
  one := by decide +kernel
def half : Rat := ⟨1, 2, by decide, by decide⟩
theorem whole0 : WholeOk [2] [(([0], [0]), half), (([1], [0]), half)] where
  hz := by decide
  asc := {
    up := fun i a b h1 h2 => by
      match i, h1, h2 with
      | 0, h1, h2 => cases h1; cases h2; rw [elt_pair, elt_ints]; decide
      | i + 1, h1, h2 => cases i <;> cases h2
    pos := fun a h => by
      rcases List.mem_cons.mp h with h | h
      · rw [h]; decide
      · rw [List.mem_singleton.mp h]; decide
    len := by decide }
  key := fun a h => by
    have hl : LotOk [0] (([2] : List Int).length : Int) := fun i a h => by
      match i, h with
      | 0, h => cases h; decide
      | i + 1, h => cases h
    rcases List.mem_cons.mp h with h | h
    · rw [h]; exact ⟨⟨rfl, by decide⟩, hl⟩
    · rw [List.mem_singleton.mp h]; exact ⟨⟨rfl, by decide⟩, hl⟩
  sums := fun i a h => by
    match i, h with
    | 0, h => cases h; exact ⟨1, 2, ⟨by decide, by decide⟩, ⟨by decide, by decide⟩, by decide⟩
    | 1, h => cases h; exact ⟨2, 2, ⟨by decide +kernel, by decide +kernel⟩, ⟨by decide, by decide⟩, by decide⟩
    | i + 2, h => cases h
  one := by decide +kernel
  even := ⟨by decide, fun l hl n h => by
    have e : counts [((([0] : List Int), ([0] : List Int)), half), (([1], [0]), half)] = [(([0] : List Int), (2 : Int))] := by decide +kernel
    have c : (contents [2]).length = 2 := by decide +kernel
    rw [e] at hl h
    have el : l = [0] := List.mem_singleton.mp hl
    subst el
    cases h
    rw [c]
    decide⟩
theorem hpf3 [Tbs] {H : Hp} {R1 R2 : Rel} (v : V) : HpFree [some (cst H R1), some (cst H R2), some (rEq v)] := hpFree_cst (hpFree_cst (hpFree_eq hpFree_nil))
theorem k_raw_seen [Tbs] {C fi fe : Addr} (T : Has K mg 45 "raw_seen") (Bm : Bi mg) (G : Glo K mg) (CK : ClsK K mg "Seen" C fi fe) (k1 : KnownM P w K mg base 9 fi (spI C (pSeen K))) (k2 : Known P w K mg base 1 "sorted_shares" (spF (pSorted P w K (List Int)))) : Known P w K mg base 11 "raw_seen" (spF (pRaw P w K C (List Int))) := by
  have S : FnScope ["sizes", "shares", "found"] ["sizes", "shares"] (defScope (top 45)) := ⟨rfl, rfl, rfl, by decide +kernel, rfl, by decide +kernel, by decide +kernel⟩
  refine known_of T S (fun _ _ _ _ _ _ us hl => match us, hl with | [_, _], _ => rfl) (fun Rs R ⟨_, _, h, _⟩ => by rw [h] <;> rfl) fun f cdv A outer s H E hr Rs R hp => ?_
  obtain ⟨sz, kvs, rfl, hl, rfl⟩ := hp
  exact hb_raw 2 0 CK.cls CK.sz CK.sh (hn_make0 (x := "Seen") CK k1 hr (he_one he_int) (he_one (he_pair (α := List Int) (β := Rat) (u := [0]) (v := 1) (he_one he_int) (he_gR G.one))) ⟨_, _, rfl, seen0⟩) (fun q => hpf3 _) (fun q => rfl) (fun q => rfl) (fun q t => he_call k2 hr (ha_cons (he_par (R := rDs P w K kvs) 1 rfl) ha_nil) ⟨kvs, rfl, hl, rfl⟩) (fun q H' e n c => ⟨e, q, rfl, n, c⟩) S.nd
theorem k_raw_whole [Tbs] {C fi fe : Addr} (T : Has K mg 46 "raw_whole") (Bm : Bi mg) (G : Glo K mg) (CK : ClsK K mg "Whole" C fi fe) (k1 : KnownM P w K mg base 9 fi (spI C (pWhole K))) (k2 : Known P w K mg base 1 "sorted_shares" (spF (pSorted P w K (List Int × List Int)))) : Known P w K mg base 11 "raw_whole" (spF (pRaw P w K C (List Int × List Int))) := by
  have S : FnScope ["sizes", "shares", "found"] ["sizes", "shares"] (defScope (top 46)) := ⟨rfl, rfl, rfl, by decide +kernel, rfl, by decide +kernel, by decide +kernel⟩
  refine known_of T S (fun _ _ _ _ _ _ us hl => match us, hl with | [_, _], _ => rfl) (fun Rs R ⟨_, _, h, _⟩ => by rw [h] <;> rfl) fun f cdv A outer s H E hr Rs R hp => ?_
  obtain ⟨sz, kvs, rfl, hl, rfl⟩ := hp
  exact hb_raw 2 0 CK.cls CK.sz CK.sh (hn_make0 (x := "Whole") CK k1 hr (he_one he_int) (he_two (he_pair (α := List Int × List Int) (β := Rat) (u := ([0], [0])) (v := half) (he_pair (he_one he_int) (he_one he_int)) (HE.eq (he_pair (K := K) (u := (1 : Int)) (v := (2 : Int)) he_int he_int) rfl)) (he_pair (α := List Int × List Int) (β := Rat) (u := ([1], [0])) (v := half) (he_pair (he_one he_int) (he_one he_int)) (HE.eq (he_pair (K := K) (u := (1 : Int)) (v := (2 : Int)) he_int he_int) rfl))) ⟨_, _, rfl, whole0⟩) (fun q => hpf3 _) (fun q => rfl) (fun q => rfl) (fun q t => he_call k2 hr (ha_cons (he_par (R := rDs P w K kvs) 1 rfl) ha_nil) ⟨kvs, rfl, hl, rfl⟩) (fun q H' e n c => ⟨e, q, rfl, n, c⟩) S.nd
end
end CB
end
section
set_option Elab.async false
set_option linter.all false
set_option maxRecDepth 100000
set_option maxHeartbeats 2000000
set_option exponentiation.threshold 100
namespace CB
open PySem PySem.Spec PyProof.Rows L2 Enc
section
variable {P : Program} {w : World} {K : PySem.W.Frag} {mg : Str → Option Value} {base : Heap}
/-! ### gathered -/
def gval (o : Option Rat) (a : Rat) : Rat := match o with | some b => b + a | none => a
def gath {κ : Type} [DecidableEq κ] (kvs : List (κ × Rat)) : List (κ × Rat) := kvs.foldl (fun m a => put m a.1 (gval (look m a.1) a.2)) []
theorem gath_snoc {κ : Type} [DecidableEq κ] (kvs : List (κ × Rat)) (a : κ × Rat) : gath (kvs ++ [a]) = put (gath kvs) a.1 (gval (look (gath kvs) a.1) a.2) := by unfold gath; rw [List.foldl_append]; rfl
theorem gath_len {κ : Type} [DecidableEq κ] : ∀ (n : Nat) (kvs : List (κ × Rat)), (gath (kvs.take n)).length ≤ n
  | 0, kvs => by rw [List.take_zero] <;> exact Nat.le_refl 0
  | n + 1, kvs => by
    cases h : kvs[n]? with
    | none =>
      have := List.getElem?_eq_none_iff.mp h
      have h2 := gath_len n kvs
      rw [List.take_of_length_le (by omega)]
      rw [List.take_of_length_le (by omega)] at h2
      omega
    | some a =>
      rw [take_snoc h, gath_snoc]
      have h1 := length_put (gath (kvs.take n)) a.1 (gval (look (gath (kvs.take n)) a.1) a.2)
      have h2 := gath_len n kvs
      omega
def GathOk {κ : Type} [DecidableEq κ] (kvs : List (κ × Rat)) : Prop := kvs.length ≤ 9000 ∧ ∀ i a, kvs[i]? = some a → ∀ b, look (gath (kvs.take i)) a.1 = some b → Ok2 b a.2
abbrev pGath (P : Program) (w : World) (K : PySem.W.Frag) (κ : Type) [Enc κ] [DecidableEq κ] : PR := fun Rs R => ∃ kvs : List (κ × Rat), Rs = [rLs K kvs] ∧ GathOk kvs ∧ R = rNew (CD P w K (gath kvs))
theorem k_gathered [Tbs] (κ : Type) [Enc κ] [TupE κ] [DecidableEq κ] (hd : dp κ ≤ 8) (T : Has K mg 23 "gathered") (Bm : Bi mg) (k1 : Known P w K mg base 3 "plus" (spF (pPlus K))) : Known P w K mg base 4 "gathered" (spF (pGath P w K κ)) := by
  have S : FnScope ["pairs", "found", "key", "share"] ["pairs"] (defScope (top 23)) := ⟨rfl, rfl, rfl, by decide +kernel, rfl, by decide +kernel, by decide +kernel⟩
  refine known_of T S (fun _ _ _ _ _ _ us hl => match us, hl with | [_], _ => rfl) (fun Rs R ⟨_, h, _⟩ => by rw [h] <;> rfl) fun f cdv A outer s H E hr Rs R hp => ?_
  obtain ⟨kvs, rfl, ⟨hl, hs⟩, rfl⟩ := hp
  refine hb_setD (P := P) (w := w) (K := K) (kvs := gath (kvs.take 0)) 1 (hn_xnew κ Rat) (fun qm => ?_) S.nd
  refine hb_forP (as := kvs) 0 (fun _ => [some (cst H (rLs K kvs)), some (rEq (.ref qm)), none, none]) (fun i => [oD P w K qm (gath (kvs.take i))]) (fun u Γ => (Γ.set 2 (some (rD K u.1))).set 3 (some (rD K u.2))) rfl nox rfl (Subg.refl _) (List.Sublist.refl _) (fun u => hg_pair 2 3 rfl S.nd) (fun t i u hu => ?_) ?_
  · have hi : i < kvs.length := (List.getElem?_eq_some_iff.mp hu).1
    have hc := gath_len i kvs
    refine hb_put (κ := κ) (β := Rat) (kvs := gath (kvs.take i)) (u := u.1) (v := gval (look (gath (kvs.take i)) u.1) u.2) 1 0 rfl rfl (hu0 hr) hd (by omega) (he_if (ht_c (hc_xin (kvs := gath (kvs.take i)) (u := u.1) (hu0 hr) hd (he_var 2 rfl) (he_ownD 1 0 rfl rfl))) (fun h => ?_) (fun h => ?_)) (he_var 2 rfl) (hb_nil fun σ H' s => ?_)
    · obtain ⟨b, hb⟩ := Option.isSome_iff_exists.mp h
      rw [hb]
      exact he_call k1 hr (ha_cons (he_xget (kvs := gath (kvs.take i)) (u := u.1) (hu0 hr) hd (he_ownD 1 0 rfl rfl) (he_var 2 rfl) (fun _ _ => rfl) hb) (ha_cons (he_var 3 rfl) ha_nil)) ⟨b, u.2, rfl, hs i u hu b hb, rfl⟩
    · have hb : look (gath (kvs.take i)) u.1 = none := by
        cases z : look (gath (kvs.take i)) u.1 with
        | none => rfl
        | some b => rw [z] at h; cases h
      rw [hb]
      exact he_var 3 rfl
    · rw [take_snoc hu, gath_snoc]
      exact s.sub ⟨rfl, rfl, trivial⟩
  · rw [List.take_length]
    exact hb_rtO 1 0 rfl rfl rfl fun H' e n c => ⟨e, qm, rfl, n, c⟩
/-! ### reading a table -/
abbrev pShOf (P : Program) (w : World) (K : PySem.W.Frag) (C : Addr) : PR := fun Rs R => ∃ (sz : List Int) (kvs : List (List Int × Rat)), Rs = [rO K C sz kvs] ∧ (kvs.map (·.1)).Nodup ∧ R = rNew (CD P w K kvs)
theorem k_shares_of [Tbs] {C fi fe : Addr} (T : Has K mg 47 "shares_of") (Bm : Bi mg) (CK : ClsK K mg "Seen" C fi fe) : Known P w K mg base 1 "shares_of" (spF (pShOf P w K C)) := by
  have S : FnScope ["table"] ["table"] (defScope (top 47)) := ⟨rfl, rfl, rfl, by decide +kernel, rfl, by decide +kernel, by decide +kernel⟩
  refine known_of T S (fun _ _ _ _ _ _ us hl => match us, hl with | [_], _ => rfl) (fun Rs R ⟨_, _, h, _⟩ => by rw [h] <;> rfl) fun f cdv A outer s H E hr Rs R hp => ?_
  obtain ⟨sz, kvs, rfl, hn, rfl⟩ := hp
  exact hb_rtN (hn_dict (κ := List Int) (β := Rat) (kvs := kvs) rfl Bm (hu0 hr) (by decide) (he_shares (sz := sz) CK (he_par (R := rO K C sz kvs) 0 rfl)) (fun H v h => .inr h) hn) fun q H' e n c => ⟨e, q, rfl, n, c⟩
theorem k_pattern_at [Tbs]  (T : Has K mg 48 "pattern_at") (Bm : Bi mg) (k1 : Known P w K mg base 1 "is_pair" (spF (pPair K))) (k2 : Known P w K mg base 1 "pattern_of" (spF (pPat K))) : Known P w K mg base 2 "pattern_at" (spF (pPat K)) := by
  have S : FnScope ["key"] ["key"] (defScope (top 48)) := ⟨rfl, rfl, rfl, by decide +kernel, rfl, by decide +kernel, by decide +kernel⟩
  refine known_of T S (fun _ _ _ _ _ _ us hl => match us, hl with | [_], _ => rfl) (fun Rs R ⟨_, h, _⟩ => by rw [h] <;> rfl) fun f cdv A outer s H E hr Rs R hp => ?_
  obtain ⟨v, rfl, hv, rfl⟩ := hp
  refine hb_rt (R := rD K (pat v)) (he_if (k := (decide ((v.map (enc (α := Int))).length = 2) && false)) (ht_w (hw_and (ht_val (he_call k1 hr (ha_cons (he_par (R := rD K v) 0 rfl) ha_nil) ⟨v.map enc, rfl, rfl⟩)) fun h => hw_and1 (ht_val ?_))) (fun h => absurd h (by simp)) fun _ => he_call k2 hr (ha_cons (he_par (R := rD K v) 0 rfl) ha_nil) ⟨v, rfl, hv, rfl⟩) fun v H' e r => ⟨e, r⟩
  have hl : v.length = 2 := by
    have := of_decide_eq_true h
    rwa [List.length_map] at this
  obtain ⟨z, hz⟩ : ∃ z, v[1]? = some z := ⟨_, List.getElem?_eq_getElem (by omega)⟩
  exact he_isiTupI (i := z) Bm (he_at (as := v) (i := ((1 : Nat) : Int)) (he_par (R := rD K v) 0 rfl) he_int (fun _ _ => rfl) (atI_nat hz))
/-! ### family -/
theorem hu1 {k : Nat} {A : Around} (h : Room k A) : A.units + 64 < cLine := by have := h.un; omega
section
variable [Tbs] {X : Cx} {S : SA} [Stab S] {a : Expr} {p p2 pos pos2 : Pos}
def rSet (P : Program) (w : World) (K : PySem.W.Frag) (as : List (List Int)) : Rel := fun H v => ∃ a L, v = .ref a ∧ H a = some (SetTO P w a L) ∧ (∀ p ∈ L, SqT K H p.1 (p.2.map V.int)) ∧ (∀ p ∈ L, p.2 ∈ as) ∧ ∀ x ∈ as, x ∈ L.map (·.2)
instance {P : Program} {w : World} {K : PySem.W.Frag} {as : List (List Int)} : Mon (rSet P w K as) := ⟨fun e h => by
  obtain ⟨a, L, e1, h1, h2, h3⟩ := h
  exact ⟨a, L, e1, e.at_ h1 (fun ps z => by unfold SetTO at z; cases z), fun p hp => (Lt.of e).sqT (h2 p hp), h3⟩⟩
theorem he_setL {as : List (List Int)} (hc : X.calm = true) (Bm : Bi X.mg) (hu : X.A.units + 64 < cLine) (ha : HE X S a (rLs X.K as)) (h64 : as.length < 64) (hg : Gl X "set" := by rfl) (he : starEach [a] X.env = (false, eval a X.env) :: starEach [] X.env := by rfl) (hpl : (backTo pos (starEach [] X.env)).any (·.1) = false := by rfl) :
    HE X S (.Call (.Name "set" p) [a] [] pos) (rSet X.prog X.w X.K as) := fun σ H s => ty_w (cr_setL as hc hu) Bm.set PyProof.Rows.boot_set (ha_cons ha ha_nil he) s (fun vs H1 e1 r => by
    obtain ⟨v, rfl, h⟩ := rs1 r
    exact ⟨v, rfl, rLs.ls h, h64, fun q L hq h1 h2 h3 => ⟨e1.trans (Ex.new hq), q, L, rfl, upd_same, fun p hp => (Lt.of (Ex.new hq)).sqT (h1 p hp), h2, h3⟩⟩) hg (by decide) (by decide) he hpl
theorem hn_sortS {as F : List (List Int)} (hc : X.calm = true) (Bm : Bi X.mg) (hu : X.A.units + 40 < cLine) (ha : HE X S a (rSet X.prog X.w X.K as)) (hF : F.Pairwise fun a b => elt a b = true) (hm : ∀ x, x ∈ F ↔ x ∈ as) (hg : Gl X "sorted" := by rfl) (he : starEach [a] X.env = (false, eval a X.env) :: starEach [] X.env := by rfl) (hpl : (backTo pos (starEach [] X.env)).any (·.1) = false := by rfl) :
    HN X S (.Call (.Name "sorted" p) [a] [] pos) (CL X.K F) := fun σ H s => bi_w (cr_sortS hc hu) Bm.sorted boot_sorted (ha_cons ha ha_nil he) s (fun vs H1 e1 r => by
    obtain ⟨v, rfl, q, L, rfl, h1, h2, h3, h4⟩ := rs1 r
    refine ⟨q, L, rfl, h1, h2, fun bs hp hn => ?_⟩
    have e : esort bs = F := esort_eq hn hF ((List.perm_ext_iff_of_nodup hn (nodup_of_lt hF)).mpr fun x => (hp.mem_iff.trans ⟨fun hx => by
      obtain ⟨z, hz, rfl⟩ := List.mem_map.mp hx
      exact h3 z hz, h4 x⟩).trans (hm x).symm)
    rw [e]
    exact fun q xs hq hi => ⟨e1.trans (Ex.new hq), q, rfl, none_of_ex e1 hq, xs, upd_same, Ims.up (le_of (Ex.new hq)) _ _ hi⟩) hg (by decide) (by decide) he hpl
end
/-- F is the family of a table -/
structure FamOk (F : List (List Int)) (kvs : List (List Int × Rat)) : Prop where
  lt : F.Pairwise fun a b => elt a b = true
  mem : ∀ x, x ∈ F ↔ x ∈ kvs.map fun a => pat a.1
  few : kvs.length < 64
  short : ∀ a ∈ kvs, a.1.length ≤ 1000
abbrev pFam (K : PySem.W.Frag) (C : Addr) : PR := fun Rs R => ∃ (sz : List Int) (kvs : List (List Int × Rat)) (F : List (List Int)), Rs = [rO K C sz kvs] ∧ FamOk F kvs ∧ R = rNew (CL K F)
theorem k_family [Tbs] {C fi fe : Addr} (T : Has K mg 49 "family") (Bm : Bi mg) (CK : ClsK K mg "Seen" C fi fe) (k1 : Known P w K mg base 2 "pattern_at" (spF (pPat K))) : Known P w K mg base 3 "family" (spF (pFam K C)) := by
  have S : FnScope ["table", "key", "share"] ["table"] (defScope (top 49)) := ⟨rfl, rfl, rfl, by decide +kernel, rfl, by decide +kernel, by decide +kernel⟩
  refine known_of T S (fun _ _ _ _ _ _ us hl => match us, hl with | [_], _ => rfl) (fun Rs R ⟨_, _, _, h, _⟩ => by rw [h] <;> rfl) fun f cdv A outer s H E hr Rs R hp => ?_
  obtain ⟨sz, kvs, F, rfl, hF, rfl⟩ := hp
  have few := hF.few
  exact hb_rtN (hn_sortS rfl Bm (hu0 hr) (he_setL (as := kvs.map fun a => pat a.1) rfl Bm (hu1 hr) (HN.ls (hn_map (as := kvs) (fun a => pat a.1) (fun u Γ => (Γ.set 1 (some (rD K u.1))).set 2 (some (rD K u.2))) [("key", 1), ("share", 2)] rfl S.nd (HIt.ex (hi_tup (rP.d (he_shares (sz := sz) CK (he_par (R := rO K C sz kvs) 0 rfl))))) (by omega) (fun s H0 C cl fp u => hg_pair 1 2 rfl S.nd)
    (fun s H0 C cl fp u hu => he_call k1 hr (ha_cons (he_var 1 rfl) ha_nil) ⟨u.1, rfl, hF.short u hu, rfl⟩) (by kernel_rfl))) (by rw [List.length_map]; omega)) hF.lt hF.mem) fun q H' e n c => ⟨e, q, rfl, n, c⟩
end
end CB
end
section
set_option Elab.async false
set_option linter.all false
set_option maxRecDepth 100000
set_option maxHeartbeats 2000000
set_option exponentiation.threshold 100
namespace CB
open PySem PySem.Spec PyProof.Rows L2 Enc
section
variable {P : Program} {w : World} {K : PySem.W.Frag} {mg : Str → Option Value} {base : Heap}
/-! ### what a whole hides -/
def hidOf (kvs : List ((List Int × List Int) × Rat)) : List (List Int × Rat) := gath (kvs.map fun a => (view a.1.1 a.1.2, a.2))
structure HidOk (kvs : List ((List Int × List Int) × Rat)) : Prop where
  ok : GathOk (kvs.map fun a => (view a.1.1 a.1.2, a.2))
  short : ∀ a ∈ kvs, a.1.1.length ≤ 1000
theorem hid_len {kvs : List ((List Int × List Int) × Rat)} (h : HidOk kvs) : (hidOf kvs).length ≤ 9000 := by
  have h1 := gath_len kvs.length (kvs.map fun a => (view a.1.1 a.1.2, a.2))
  have h2 := h.ok.1
  rw [List.length_map] at h2
  rw [List.take_of_length_le (by rw [List.length_map]; exact Nat.le_refl _)] at h1
  exact Nat.le_trans h1 h2
abbrev pHidOf (P : Program) (w : World) (K : PySem.W.Frag) (C : Addr) : PR := fun Rs R => ∃ (sz : List Int) (kvs : List ((List Int × List Int) × Rat)), Rs = [rO K C sz kvs] ∧ HidOk kvs ∧ R = rNew (CD P w K (hidOf kvs))
theorem k_hidden_of [Tbs] {C fi fe : Addr} (T : Has K mg 50 "hidden_of") (Bm : Bi mg) (CK : ClsK K mg "Whole" C fi fe) (k1 : Known P w K mg base 1 "view_of" (spF (pView2 K))) (k2 : Known P w K mg base 4 "gathered" (spF (pGath P w K (List Int)))) : Known P w K mg base 5 "hidden_of" (spF (pHidOf P w K C)) := by
  have S : FnScope ["whole", "place", "part"] ["whole"] (defScope (top 50)) := ⟨rfl, rfl, rfl, by decide +kernel, rfl, by decide +kernel, by decide +kernel⟩
  refine known_of T S (fun _ _ _ _ _ _ us hl => match us, hl with | [_], _ => rfl) (fun Rs R ⟨_, _, h, _⟩ => by rw [h] <;> rfl) fun f cdv A outer s H E hr Rs R hp => ?_
  obtain ⟨sz, kvs, rfl, hk, rfl⟩ := hp
  have few := hk.ok.1
  rw [List.length_map] at few
  exact hb_rtN (hn_call k2 hr (ha_cons (HN.ls (hn_map (as := kvs) (fun a => (view a.1.1 a.1.2, a.2)) (fun u Γ => (Γ.set 1 (some (rD K u.1))).set 2 (some (rD K u.2))) [("place", 1), ("part", 2)] rfl S.nd (HIt.ex (hi_tup (rP.d (he_shares (sz := sz) CK (he_par (R := rO K C sz kvs) 0 rfl))))) (by omega) (fun s H0 C cl fp u => hg_pair 1 2 rfl S.nd)
    (fun s H0 C cl fp u hu => he_pair (he_call k1 hr (ha_cons (he_fst (he_var (R := rD K u.1) 1 rfl)) (ha_cons (he_snd (he_var (R := rD K u.1) 1 rfl)) ha_nil)) ⟨u.1.1, u.1.2, rfl, hk.short u hu, rfl⟩) (he_var 2 rfl)) (by kernel_rfl))) ha_nil) ⟨_, rfl, hk.ok, rfl⟩) fun q H' e n c => ⟨e, q, rfl, n, c⟩
abbrev pHid (P : Program) (w : World) (K : PySem.W.Frag) (C C2 : Addr) : PR := fun Rs R => ∃ (sz : List Int) (kvs : List ((List Int × List Int) × Rat)), Rs = [rO K C sz kvs] ∧ HidOk kvs ∧ R = rNew (CO K C2 sz (srt (hidOf kvs)))
theorem k_hidden [Tbs] {C C2 fi fe : Addr} (T : Has K mg 51 "hidden") (Bm : Bi mg) (CK : ClsK K mg "Whole" C fi fe) (k1 : Known P w K mg base 5 "hidden_of" (spF (pHidOf P w K C))) (k2 : Known P w K mg base 11 "raw_seen" (spF (pRaw P w K C2 (List Int)))) : Known P w K mg base 12 "hidden" (spF (pHid P w K C C2)) := by
  have S : FnScope ["whole"] ["whole"] (defScope (top 51)) := ⟨rfl, rfl, rfl, by decide +kernel, rfl, by decide +kernel, by decide +kernel⟩
  refine known_of T S (fun _ _ _ _ _ _ us hl => match us, hl with | [_], _ => rfl) (fun Rs R ⟨_, _, h, _⟩ => by rw [h] <;> rfl) fun f cdv A outer s H E hr Rs R hp => ?_
  obtain ⟨sz, kvs, rfl, hk, rfl⟩ := hp
  exact hb_rtN (hn_call k2 hr (ha_cons (he_sizes (kvs := kvs) CK (he_par (R := rO K C sz kvs) 0 rfl)) (ha_cons (HN.ds (hn_call k1 hr (ha_cons (he_par (R := rO K C sz kvs) 0 rfl) ha_nil) ⟨sz, kvs, rfl, hk, rfl⟩)) ha_nil)) ⟨sz, hidOf kvs, rfl, hid_len hk, rfl⟩) fun q H' e n c => ⟨e, q, rfl, n, c⟩
/-! ### a told table is full and closed -/
theorem views_len {sz p : List Int} (h : sz ∈ allSz) : (views sz p).length ≤ 256 := by
  have := (rows_ok (vw_rows (P := p) h) ((enumL sz).map (vrow p)).length).1
  rwa [List.take_length] at this
structure ToldOk (sz : List Int) (kvs : List (List Int × Rat)) (F : List (List Int)) : Prop where
  hz : sz ∈ allSz
  fam : FamOk F kvs
  nd : (kvs.map (·.1)).Nodup
  full : ∀ p ∈ F, ∀ v ∈ views sz p, v ∈ kvs.map (·.1)
  up : ∀ p ∈ esort (ksort false (lotsR sz.length)), p ∈ F ∨ ∀ o ∈ F, more p o = false
  short : ∀ p ∈ F, p.length ≤ 1000
abbrev pLack (K : PySem.W.Frag) (C : Addr) : PR := fun Rs R => ∃ (sz : List Int) (kvs : List (List Int × Rat)) (F : List (List Int)), Rs = [rO K C sz kvs] ∧ ToldOk sz kvs F ∧ R = rNew (CL K ([] : List (List Int)))
theorem esort_nil {α : Type} [Enc α] : esort ([] : List α) = [] := List.eq_nil_of_length_eq_zero (by rw [esort_len] <;> rfl)
theorem look_isSome {κ β : Type} [DecidableEq κ] {kvs : List (κ × β)} {k : κ} (h : k ∈ kvs.map (·.1)) : (look kvs k).isSome = true := by
  obtain ⟨v, e⟩ := look_some h
  rw [e] <;> rfl
theorem k_lacking [Tbs] {C fi fe : Addr} (T : Has K mg 52 "lacking") (Bm : Bi mg) (CK : ClsK K mg "Seen" C fi fe) (k1 : Known P w K mg base 1 "shares_of" (spF (pShOf P w K C))) (k2 : Known P w K mg base 3 "family" (spF (pFam K C))) (k3 : Known P w K mg base 2 "views_of" (spF (pViews K))) : Known P w K mg base 4 "lacking" (spF (pLack K C)) := by
  have S : FnScope ["seen", "known", "found", "pattern", "one"] ["seen"] (defScope (top 52)) := ⟨rfl, rfl, rfl, by decide +kernel, rfl, by decide +kernel, by decide +kernel⟩
  refine known_of T S (fun _ _ _ _ _ _ us hl => match us, hl with | [_], _ => rfl) (fun Rs R ⟨_, _, _, h, _⟩ => by rw [h] <;> rfl) fun f cdv A outer s H E hr Rs R hp => ?_
  obtain ⟨sz, kvs, F, rfl, hk, rfl⟩ := hp
  refine hb_setD (P := P) (w := w) (K := K) (kvs := kvs) 1 (hn_call k1 hr (ha_cons (he_par (R := rO K C sz kvs) 0 rfl) ha_nil) ⟨sz, kvs, rfl, hk.nd, rfl⟩) (fun qk => ?_) S.nd
  refine hb_setL (as := ([] : List (List Int))) (K := K) 2 hn_lst0 (fun qf => ?_) S.nd
  refine hb_forN (as := F) (fun _ => [some (cst H (rO K C sz kvs)), some (rEq (.ref qk)), some (rEq (.ref qf)), none, none]) (fun i => [oL K qf ([] : List (List Int)), oD P w K qk kvs]) (fun u Γ => Γ.set 3 (some (rD K u))) rfl nox (hn_call k2 hr (ha_cons (he_par (R := rO K C sz kvs) 0 rfl) ha_nil) ⟨sz, kvs, F, rfl, hk.fam, rfl⟩) (Subg.refl _) (List.Sublist.refl _) (fun u => hg_name 3 S.nd) (fun t qs i u hu => ?_) ?_
  · have hm := List.mem_of_getElem? hu
    have hv := views_len (p := u) hk.hz
    have e0 : ((views sz u).filter fun v => !(look kvs v).isSome).map (fun v : List Int => v) = [] := by
      rw [List.map_id', List.filter_eq_nil_iff]
      intro v hv
      rw [look_isSome (hk.full u hm v hv)]
      decide
    refine hb_extend (as := ([] : List (List Int))) (bs := []) 2 1 rfl rfl (by decide) (HN.imp (hn_lc (as := views sz u) (fun v => !(look kvs v).isSome) (fun v => v) (fun u Γ => Γ.set 4 (some (rD K u))) [("one", 4)] rfl S.nd (hi_list (HN.ls (hn_call k3 hr (ha_cons (he_sizes (kvs := kvs) CK (he_par (R := rO K C sz kvs) 0 rfl)) (ha_cons (he_var 3 rfl) ha_nil)) ⟨sz, u, rfl, hk.hz, rfl⟩))) (by omega) (fun s H0 C cl fp u => hg_name 4 S.nd)
      (fun s H0 C cl fp v hv => hts_one (ht_c (hc_xnotin (kvs := kvs) (u := v) (hu0 hr) (by decide) (he_var 4 rfl) (he_ownD 1 2 rfl rfl)))) (fun s H0 C cl fp v hv _ => he_var 4 rfl) (by kernel_rfl)) fun q H c => by rw [e0] at c; exact c) (hb_nil fun σ H' s => s.sub ⟨rfl, rfl, rfl, trivial⟩)
  · exact hb_rtN (HN.imp (he_sortL Bm (hu0 hr) (by decide) (he_own (as := ([] : List (List Int))) 2 0 rfl rfl)) fun q H c => by rw [esort_nil] at c; exact c) fun q H' e n c => ⟨e, q, rfl, n, c⟩
abbrev pLackOf (K : PySem.W.Frag) : PR := fun Rs R => ∃ (n : Nat) (F : List (List Int)), Rs = [rD K (n : Int), rLs K F] ∧ (n ≤ 4 ∧ F.length ≤ 100 ∧ (∀ p ∈ F, p.length ≤ 1000) ∧ ∀ p ∈ esort (ksort false (lotsR n)), p ∈ F ∨ ∀ o ∈ F, more p o = false) ∧ R = rNew (CL K ([] : List (List Int)))
theorem k_lacking_of [Tbs]  (T : Has K mg 55 "lacking_of") (Bm : Bi mg) (k1 : Known P w K mg base 3 "patterns_of" (spF (pLotsC K))) (k2 : Known P w K mg base 1 "shows_more" (spF (pMore K))) : Known P w K mg base 4 "lacking_of" (spF (pLackOf K)) := by
  have S : FnScope ["many", "patterns", "found", "pattern", "other"] ["many", "patterns"] (defScope (top 55)) := ⟨rfl, rfl, rfl, by decide +kernel, rfl, by decide +kernel, by decide +kernel⟩
  refine known_of T S (fun _ _ _ _ _ _ us hl => match us, hl with | [_, _], _ => rfl) (fun Rs R ⟨_, _, h, _⟩ => by rw [h] <;> rfl) fun f cdv A outer s H E hr Rs R hp => ?_
  obtain ⟨n, F, rfl, ⟨hn, hl, hs, hu0s⟩, rfl⟩ := hp
  refine hb_setL (as := ([] : List (List Int))) (K := K) 2 hn_lst0 (fun qf => ?_) S.nd
  refine hb_forN (as := esort (ksort false (lotsR n))) (fun _ => [some (cst H (rD K (n : Int))), some (cst H (rLs K F)), some (rEq (.ref qf)), none, none]) (fun i => [oL K qf ([] : List (List Int))]) (fun u Γ => Γ.set 3 (some (rD K u))) rfl nox (hn_call k1 hr (ha_cons (he_par (R := rD K (n : Int)) 0 rfl) ha_nil) ⟨n, rfl, hn, rfl⟩) (Subg.refl _) (List.Sublist.refl _) (fun u => hg_name 3 S.nd) (fun t qs i u hu => ?_) ?_
  · have hm := List.mem_of_getElem? hu
    refine hb_if (ht_w (hw_and (ht_c (hc_notInL (hu0 hr) (by decide) (he_var 3 rfl) (he_par (R := rLs K F) 1 rfl))) fun _ => hw_and1 (ht_val (he_any rfl Bm (he_lcB (as := F) (fun o => more u o) (fun o Γ => Γ.set 4 (some (rD K o))) [("other", 4)] rfl S.nd (hi_list (he_par (R := rLs K F) 1 rfl)) (by omega) (fun s H0 C cl fp u => hg_name 4 S.nd)
      (fun s H0 C cl fp o ho => he_call k2 hr (ha_cons (he_var 3 rfl) (ha_cons (he_var 4 rfl) ha_nil)) ⟨u, o, rfl, hs o ho, rfl⟩) (by kernel_rfl)))))) (fun h => ?_) fun _ => hb_nil (hb_nil fun σ H' s => s.sub ⟨rfl, rfl, rfl, trivial⟩)
    exfalso
    rw [Bool.and_eq_true] at h
    rcases hu0s u hm with z | z
    · have h1 := h.1
      rw [Bool.not_eq_true', decide_eq_false_iff_not] at h1
      exact h1 z
    · obtain ⟨b, hb, eb⟩ := List.any_eq_true.mp h.2
      obtain ⟨o, ho, e⟩ := List.mem_map.mp hb
      rw [z o ho] at e
      rw [← e] at eb
      cases eb
  · exact hb_rtO 2 0 rfl rfl rfl fun H' e n c => ⟨e, qf, rfl, n, c⟩
abbrev pTold (K : PySem.W.Frag) (C : Addr) : PR := fun Rs R => ∃ (sz : List Int) (kvs : List (List Int × Rat)) (F : List (List Int)), Rs = [rO K C sz kvs] ∧ (ToldOk sz kvs F ∧ F.length ≤ 100) ∧ R = fun _ => rN
theorem k_check_told [Tbs] {C fi fe : Addr} (T : Has K mg 56 "check_told") (Bm : Bi mg) (CK : ClsK K mg "Seen" C fi fe) (k1 : Known P w K mg base 4 "lacking" (spF (pLack K C))) (k2 : Known P w K mg base 3 "family" (spF (pFam K C))) (k3 : Known P w K mg base 4 "lacking_of" (spF (pLackOf K))) : Known P w K mg base 5 "check_told" (spF (pTold K C)) := by
  have S : FnScope ["seen", "views", "patterns"] ["seen"] (defScope (top 56)) := ⟨rfl, rfl, rfl, by decide +kernel, rfl, by decide +kernel, by decide +kernel⟩
  refine known_of T S (fun _ _ _ _ _ _ us hl => match us, hl with | [_], _ => rfl) (fun Rs R ⟨_, _, _, h, _⟩ => by rw [h] <;> rfl) fun f cdv A outer s H E hr Rs R hp => ?_
  obtain ⟨sz, kvs, F, rfl, ⟨hk, hF⟩, rfl⟩ := hp
  refine hb_setL (as := ([] : List (List Int))) (K := K) 1 (hn_call k1 hr (ha_cons (he_par (R := rO K C sz kvs) 0 rfl) ha_nil) ⟨sz, kvs, F, rfl, hk, rfl⟩) (fun qv => ?_) S.nd
  refine hb_if (ht_c (hc_gt (he_lenL (K := K) Bm (he_own (as := ([] : List (List Int))) 1 0 rfl rfl)) he_int)) (fun h => nomatch h) fun _ => hb_nil ?_
  refine hb_setL (as := ([] : List (List Int))) (K := K) 2 (hn_call k3 hr (ha_cons (he_lenT Bm (he_sizes (kvs := kvs) CK (he_par (R := rO K C sz kvs) 0 rfl))) (ha_cons (HN.ls (hn_call k2 hr (ha_cons (he_par (R := rO K C sz kvs) 0 rfl) ha_nil) ⟨sz, kvs, F, rfl, hk.fam, rfl⟩)) ha_nil)) ⟨sz.length, F, rfl, ⟨by have := (sz_len sz hk.hz).2; omega, hF, hk.short, hk.up⟩, rfl⟩) (fun qp => ?_) S.nd
  refine hb_if (ht_c (hc_gt (he_lenL (K := K) Bm (he_own (as := ([] : List (List Int))) 2 0 rfl rfl)) he_int)) (fun h => nomatch h) fun _ => hb_nil (hb_nil fun σ H' s => ⟨s.ex, rfl⟩)
end
end CB
end
section
set_option Elab.async false
set_option linter.all false
set_option maxRecDepth 100000
set_option maxHeartbeats 2000000
/-! W. a comprehension bound to a name on its own line. -/
namespace CB
open PySem PySem.Spec PyProof.Rows L2 Enc
section
variable [Tbs] {X : Cx} {S : SA} [Stab S] {e a b c elt tg it : Expr} {es ifs : List Expr} {R Ra Rb : Rel} {Rs : List Rel} {pos pos' p : Pos} {x : Str} {D : Ends} {st : Stmt} {rest A A2 : List Stmt} {k : Bool} {sc : Scope} {B : Bs} {Γ Γ' : Gam} {Δ Δ' : List Own} {α β : Type} [Enc α] [Enc β] {as : List α}
/-- a comprehension's reading, then on -/
theorem lc_tQ {Q : VK} (pb : α → Bool) (Re : α → Addr → Rel) [∀ u, Keep (Re u)] (f : α → Gam → Gam) {own : List (Str × Nat)} {wi : TI} {σ : L2.St} {H : Hp} (s : SS B Γ Δ σ H)
    (hi : ∀ Rr : It → Hp → Prop, (∀ J H1 (G : Hp → Prop), Ex H H1 → Walk J as.length G (YT X.K as) → G H1 → (∀ Ha Hb, G Ha → Ex Ha Hb → G Hb) → Rr J H1) → wi σ H Rr) (hl : as.length ≤ 10000) (hfr : freeAt Γ (own.map (·.2)) = true)
    (hg : ∀ s H0 C cl fp u, HG (Bk X sc s H0 C cl fp) tg (rD X.K u) (f u) (own.map (·.2))) (ht : ∀ s H0 C cl fp u, u ∈ as → HTs (Bk X sc s H0 C cl fp) (SS B (f u Γ) Δ) ifs (pb u))
    (he : ∀ s H0 C cl fp u q, u ∈ as → pb u = true → ∀ σ H, SS B (f u Γ) Δ σ H → (∃ acc, H q = some (.lst acc)) → wE (Bk X sc s H0 C cl fp) elt σ H fun v H' => Ex H H' ∧ Re u q H' v)
    (hQ : ∀ q H', Ex H H' → H q = none → CRs ((as.filter pb).map Re) q H' → Q (.ref q) H') : tLc wi (uG X sc tg) (uTs X sc ifs) (uE X sc elt) (own.map (·.2)) σ H Q :=
  hi _ fun J H1 G e1 w g0 gk q hq => by
    have s1 := Stab.up s e1
    have hqH : H q = none := none_of_ex e1 hq
    refine lc_it w (fun i H' => Ex H1 H' ∧ ∃ acc, H' q = some (.lst acc) ∧ acc.length ≤ i ∧ RsOk ((((as.take i).filter pb).map Re).map (· q)) H' acc) ⟨Ex.new hq, [], upd_same, Nat.le_refl _, rfl⟩ (fun i H' _ h => gk H1 H' g0 h.1) (fun i x Ha Hb hi hP y => ?_) (fun H' ⟨ex, acc, h1, _, h2⟩ => hQ q H' (e1.trans ex) hqH ⟨acc, h1, ?_⟩)
    · obtain ⟨ea, acc, h1, h2, h3⟩ := hP
      obtain ⟨e2, u, hu, ru⟩ := y
      have hm : u ∈ as := List.mem_of_getElem? hu
      have sb : SS B Γ Δ (wipe σ (own.map (·.2))) Hb := (Stab.up s1 (ea.trans e2)).wiped hfr
      have tk := take_snoc hu
      intro ss H0 C cl fp pins sh uu I rv
      refine thn (hg ss H0 C cl fp u B Γ Δ _ Hb x sb ru pins sh uu I rv) fun _ s3 ⟨σ2, H2, I2, r1, r2, r3, r4⟩ => ⟨σ2, H2, I2, ?_⟩
      subst r1
      refine ⟨(wipe_ext r3 r4).trans wipe_wipe, fun ss H0 C cl fp => ?_⟩
      refine (ht ss H0 C cl fp u hm σ2 H2 r2).mono fun k H3 ⟨e3, ek⟩ => ?_
      subst ek
      have up : RsOk ((((as.take i).filter pb).map Re).map (· q)) H3 acc := RsOk.up (fun R hR => by
        obtain ⟨R', hR', rfl⟩ := List.mem_map.mp hR
        obtain ⟨u', _, rfl⟩ := List.mem_map.mp hR'
        exact Keep.mon q) (e2.trans e3) h3
      have hq3 : H3 q = some (.lst acc) := (e2.trans e3).at_ h1 (fun _ z => (nomatch z))
      cases z : pb u with
      | false =>
        refine iteF ⟨ea.trans (e2.trans e3), acc, hq3, Nat.le_succ_of_le h2, ?_⟩
        rw [tk, List.filter_append, List.filter_cons_of_neg (by rw [z]; exact Bool.false_ne_true), List.filter_nil, List.append_nil]
        exact up
      | true =>
        refine iteT fun ss H0 C cl fp => (he ss H0 C cl fp u q hm z σ2 H3 (Stab.up r2 e3) ⟨acc, hq3⟩).mono fun y H4 ⟨e4, ry⟩ => ⟨acc, e4.at_ hq3 (fun _ z => (nomatch z)), ?_, ?_, acc ++ [y], upd_same, ?_, ?_⟩
        · rw [sizeLine_eq]; omega
        · exact Ex.mut (ea.trans (e2.trans (e3.trans e4))) hq (e4.at_ hq3 (fun _ z => (nomatch z))) pl_lst
        · rw [List.length_append, List.length_singleton]; omega
        · rw [tk, List.filter_append, List.filter_cons_of_pos z, List.filter_nil, List.map_append, List.map_append, List.map_cons, List.map_nil, List.map_cons, List.map_nil]
          refine RsOk.snoc (RsOk.putD (fun R hR => ?_) (e4.at_ hq3 (fun _ z => (nomatch z))) (RsOk.up (fun R hR => ?_) e4 up)) ?_
          · obtain ⟨u', _, rfl⟩ := List.mem_map.mp hR
            infer_instance
          · obtain ⟨R', hR', rfl⟩ := List.mem_map.mp hR
            obtain ⟨u', _, rfl⟩ := List.mem_map.mp hR'
            exact Keep.mon q
          · exact Keep.put ry (e4.at_ hq3 (fun _ z => (nomatch z)))
    · rw [List.take_length] at h2
      exact h2
theorem hb_setLcR (i : Nat) (o : Addr → Own) (pb : α → Bool) (Re : α → Addr → Rel) [∀ u, Keep (Re u)] (f : α → Gam → Gam) (own : List (Str × Nat)) (hc : X.calm = true) (hN : X.N.Nodup) (hi : HIt Ex X (SS B Γ Δ) tg it as) (hl : as.length ≤ 10000)
    (hg : ∀ s H0 C cl fp u, HG (Bk X sc s H0 C cl fp) tg (rD X.K u) (f u) (own.map (·.2))) (ht : ∀ s H0 C cl fp u, u ∈ as → HTs (Bk X sc s H0 C cl fp) (SS B (f u Γ) Δ) ifs (pb u))
    (he : ∀ s H0 C cl fp u q, u ∈ as → pb u = true → ∀ σ H, SS B (f u Γ) Δ σ H → (∃ acc, H q = some (.lst acc)) → wE (Bk X sc s H0 C cl fp) elt σ H fun v H' => Ex H H' ∧ Re u q H' v)
    (ok : blkC X.N X.env.scope sc own = true) (ho : ∀ q, (o q).p = q ∧ ∀ H, CRs ((as.filter pb).map Re) q H → (o q).C H) (h : ∀ q, HB X (SS B (Γ.set i (some (rEq (.ref q)))) (o q :: Δ)) rest D)
    (hy : X.N[i]? = some x := by rfl) (hyl : X.env.scope.names.lookup x = some .local := by rfl) (hsw : swapsWith (.ListComp elt [⟨tg, it, ifs, 0⟩] sc pos) (some (.Name x p)) pos'.line X.env = pure true := by exact sw_true rfl rfl (by rfl) (by rfl))
    (hfr : freeAt Γ (own.map (·.2)) = true := by rfl) (hs : ∀ z, foldedSetIterable it X.env z = pure z := by intro _; rfl) :
    HB X (SS B Γ Δ) (.Assign [.Name x p] (.ListComp elt [⟨tg, it, ifs, 0⟩] sc pos) pos' :: rest) D :=
  hb_of (ps_setLc (wi := wI X tg it) (g := uG X sc tg) (tt := uTs X sc ifs) (te := uE X sc elt) (own := own) hc hN hy hyl hsw pi_w (blkOk_by ok) (fun s H C cl fp => ⟨fun pins sh σ H' v u Q I r h => h s H C cl fp pins sh u I r⟩) (fun s H C cl fp => ⟨fun pins sh σ H' Q I h => h s H C cl fp pins sh I⟩)
    (fun s H C cl fp => ⟨fun pins sh σ H' Q I h => h s H C cl fp pins sh I⟩) hs) fun σ H s => lc_tQ pb Re f s (fun Rr h => hi σ H s Rr h) hl hfr hg ht he fun q H' e1 hq hc => by
    obtain ⟨o1, o2⟩ := ho q
    exact h q _ H' (SS.set (SS.add s e1 (o := o q) (by rw [o1]; exact hq) (o2 _ hc)) rfl)
theorem hb_setLc (i : Nat) (pb : α → Bool) (g : α → β) (f : α → Gam → Gam) (own : List (Str × Nat)) (hc : X.calm = true) (hN : X.N.Nodup) (hi : HIt Ex X (SS B Γ Δ) tg it as) (hl : as.length ≤ 10000)
    (hg : ∀ s H0 C cl fp u, HG (Bk X sc s H0 C cl fp) tg (rD X.K u) (f u) (own.map (·.2))) (ht : ∀ s H0 C cl fp u, u ∈ as → HTs (Bk X sc s H0 C cl fp) (SS B (f u Γ) Δ) ifs (pb u))
    (he : ∀ s H0 C cl fp u, u ∈ as → pb u = true → HE (Bk X sc s H0 C cl fp) (SS B (f u Γ) Δ) elt (rD X.K (g u)))
    (ok : blkC X.N X.env.scope sc own = true) (h : ∀ q, HB X (SS B (Γ.set i (some (rEq (.ref q)))) (oL X.K q ((as.filter pb).map g) :: Δ)) rest D)
    (hy : X.N[i]? = some x := by rfl) (hyl : X.env.scope.names.lookup x = some .local := by rfl) (hsw : swapsWith (.ListComp elt [⟨tg, it, ifs, 0⟩] sc pos) (some (.Name x p)) pos'.line X.env = pure true := by exact sw_true rfl rfl (by rfl) (by rfl))
    (hfr : freeAt Γ (own.map (·.2)) = true := by rfl) (hs : ∀ z, foldedSetIterable it X.env z = pure z := by intro _; rfl) :
    HB X (SS B Γ Δ) (.Assign [.Name x p] (.ListComp elt [⟨tg, it, ifs, 0⟩] sc pos) pos' :: rest) D :=
  hb_setLcR i (fun q => oL X.K q ((as.filter pb).map g)) pb (fun u _ => rD X.K (g u)) f own hc hN hi hl hg ht (fun s H0 C cl fp u q hm hp σ H st _ => he s H0 C cl fp u hm hp σ H st) ok (fun q => ⟨rfl, fun H c => cl_of_crs (by rw [List.map_map]; exact c)⟩) h hy hyl hsw hfr hs
end
end CB
end
section
set_option Elab.async false
set_option linter.all false
set_option maxRecDepth 100000
set_option maxHeartbeats 2000000
set_option exponentiation.threshold 100
namespace CB
open PySem PySem.Spec PyProof.Rows L2 Enc
section
variable {P : Program} {w : World} {K : PySem.W.Frag} {mg : Str → Option Value} {base : Heap}
/-! ### weights -/
def above (F : List (List Int)) (p : List Int) : List (List Int) := F.filter fun o => more o p
def lk (fnd : List (List Int × Rat)) (v : List Int) : Rat := (look fnd v).getD 0
/-- the product over os -/
def wgt (fnd : List (List Int × Rat)) (os : List (List Int)) (c : List Int) : Rat := os.foldl (fun w o => w * lk fnd (view c o)) 1
theorem wgt_snoc (fnd : List (List Int × Rat)) (os : List (List Int)) (o c : List Int) : wgt fnd (os ++ [o]) c = wgt fnd os c * lk fnd (view c o) := by unfold wgt; rw [List.foldl_append]; rfl
def wgts (sz : List Int) (fnd : List (List Int × Rat)) (F : List (List Int)) (p : List Int) : List (List Int × Rat) := (contents sz).map fun c => (c, wgt fnd (above F p) c)
theorem contents_ok : ∀ sz ∈ allSz, (contents sz).Nodup ∧ ∀ c ∈ contents sz, c.length = sz.length ∧ (c.zip sz).all (fun p => decide (0 ≤ p.1) && decide (p.1 ≤ p.2 - 1)) = true := by decide +kernel
structure WtOk (sz : List Int) (fnd : List (List Int × Rat)) (F : List (List Int)) (p : List Int) : Prop where
  hz : sz ∈ allSz
  few : F.length ≤ 100
  short : p.length ≤ 1000
  there : ∀ c ∈ contents sz, ∀ o ∈ above F p, view c o ∈ fnd.map (·.1)
  ok : ∀ c ∈ contents sz, ∀ i o, (above F p)[i]? = some o → Ok2 (wgt fnd ((above F p).take i) c) (lk fnd (view c o))
abbrev pWts (P : Program) (w : World) (K : PySem.W.Frag) : PR := fun Rs R => ∃ (sz : List Int) (F : List (List Int)) (fnd : List (List Int × Rat)) (p : List Int), Rs = [rD K sz, rLs K F, rDs P w K fnd, rD K p, rD K (evens sz)] ∧ WtOk sz fnd F p ∧ R = rNew (CD P w K (wgts sz fnd F p))
theorem put_map {κ : Type} [DecidableEq κ] {g : κ → Rat} {l : List κ} {i : Nat} {c : κ} (hn : l.Nodup) (h : l[i]? = some c) : put ((l.take i).map fun c => (c, g c)) c (g c) = (l.take (i + 1)).map fun c => (c, g c) := by
  rw [take_snoc h, List.map_append, put_new (look_none ?_)]
  · rfl
  · rw [List.map_map]
    have e : (l.take i).map ((·.1) ∘ fun c => (c, g c)) = l.take i := List.map_id'' (fun _ => rfl) _
    rw [e]
    intro hm
    obtain ⟨j, hj, ej⟩ := List.getElem_of_mem hm
    rw [List.length_take] at hj
    rw [List.getElem_take] at ej
    obtain ⟨hi, ei⟩ := List.getElem?_eq_some_iff.mp h
    have := (List.getElem_inj hn).mp (ej.trans ei.symm)
    omega
theorem k_weights_at [Tbs]  (T : Has K mg 60 "weights_at") (Bm : Bi mg) (G : Glo K mg) (k1 : Known P w K mg base 1 "shows_more" (spF (pMore K))) (k2 : Known P w K mg base 2 "contents_of" (spF (pConts K))) (k3 : Known P w K mg base 4 "tilt_at" (spF (pTilt K))) (k4 : Known P w K mg base 1 "view_of" (spF (pView2 K))) (k5 : Known P w K mg base 3 "times" (spF (pTimes K))) : Known P w K mg base 5 "weights_at" (spF (pWts P w K)) := by
  have S : FnScope ["sizes", "patterns", "found", "pattern", "tilts", "above", "weights", "content", "weight", "other"] ["sizes", "patterns", "found", "pattern", "tilts"] (defScope (top 60)) := ⟨rfl, rfl, rfl, by decide +kernel, rfl, by decide +kernel, by decide +kernel⟩
  refine known_of T S (fun _ _ _ _ _ _ us hl => match us, hl with | [_, _, _, _, _], _ => rfl) (fun Rs R ⟨_, _, _, _, h, _⟩ => by rw [h] <;> rfl) fun f cdv A outer s H E hr Rs R hp => ?_
  obtain ⟨sz, F, fnd, p, rfl, hk, rfl⟩ := hp
  obtain ⟨cn, cc⟩ := contents_ok sz hk.hz
  have c16 := contents_few sz hk.hz
  refine hb_setLc (as := F) 5 (fun o => more o p) (fun o => o) (fun u Γ => Γ.set 9 (some (rD K u))) [("other", 9)] rfl S.nd (hi_list (he_par (R := rLs K F) 1 rfl)) (by have := hk.few; omega) (fun s H0 C cl fp u => hg_name 9 S.nd)
    (fun s H0 C cl fp o ho => hts_one (ht_val (he_call k1 hr (ha_cons (he_var 9 rfl) (ha_cons (he_par (R := rD K p) 3 rfl) ha_nil)) ⟨o, p, rfl, hk.short, rfl⟩))) (fun s H0 C cl fp o ho _ => he_var 9 rfl) (by kernel_rfl) (fun qa => ?_)
  rw [show (F.filter fun o => more o p).map (fun o => o) = above F p from List.map_id' _]
  refine hb_setD (P := P) (w := w) (K := K) (kvs := ((contents sz).take 0).map fun c => (c, wgt fnd (above F p) c)) 6 (hn_xnew (List Int) Rat) (fun qw => ?_) S.nd
  refine hb_forN (as := contents sz) (fun _ => [some (cst H (rD K sz)), some (cst H (rLs K F)), some (cst H (rDs P w K fnd)), some (cst H (rD K p)), some (cst H (rD K (evens sz))), some (rEq (.ref qa)), some (rEq (.ref qw)), none, none, none]) (fun i => [oD P w K qw (((contents sz).take i).map fun c => (c, wgt fnd (above F p) c)), oL K qa (above F p)]) (fun u Γ => Γ.set 7 (some (rD K u))) rfl nox (hn_call k2 hr (ha_cons (he_par (R := rD K sz) 0 rfl) ha_nil) ⟨sz, rfl, hk.hz, rfl⟩) (Subg.refl _) (List.Sublist.refl _) (fun u => hg_name 7 S.nd) (fun t qs i c hc => ?_) ?_
  · have hm := List.mem_of_getElem? hc
    have hi : i < (contents sz).length := (List.getElem?_eq_some_iff.mp hc).1
    refine hb_set (R := rD K (wgt fnd ((above F p).take 0) c)) 8 (he_call k3 hr (ha_cons (he_par (R := rD K (evens sz)) 4 rfl) (ha_cons (he_var 7 rfl) (ha_cons (he_par (R := rD K p) 3 rfl) ha_nil))) ⟨sz, c, p, rfl, ⟨hk.hz, cc c hm⟩, rfl⟩) ?_ S.nd
    refine hb_forOX (ι := Unit) (as := above F p) 5 2 (q := qa) (fun _ j => [some (cst H (rD K sz)), some (cst H (rLs K F)), some (cst H (rDs P w K fnd)), some (cst H (rD K p)), some (cst H (rD K (evens sz))), some (rEq (.ref qa)), some (rEq (.ref qw)), some (rD K c), some (rD K (wgt fnd ((above F p).take j) c)), none]) (fun _ _ => [oL K qs (contents sz), oD P w K qw (((contents sz).take i).map fun c => (c, wgt fnd (above F p) c)), oL K qa (above F p)]) () (fun u Γ => Γ.set 9 (some (rD K u))) rfl nox rfl rfl (Subg.refl _) (List.Sublist.refl _) (fun _ _ => List.mem_cons_of_mem _ (List.mem_cons_of_mem _ (List.mem_cons_self ..))) (fun u => hg_name 9 S.nd) (fun t _ j o ho => ?_) (fun _ => ?_)
    · have hom := List.mem_of_getElem? ho
      obtain ⟨v, hv⟩ := look_some (hk.there c hm o hom)
      have ev : lk fnd (view c o) = v := by unfold lk; rw [hv] <;> rfl
      refine hb_set (R := rD K (wgt fnd ((above F p).take (j + 1)) c)) 8 (HE.eq (he_call k5 hr (ha_cons (he_var 8 rfl) (ha_cons (he_xget (kvs := fnd) (u := view c o) (v := v) (hu0 hr) (by decide) (he_par (R := rDs P w K fnd) 2 rfl) (he_call k4 hr (ha_cons (he_var 7 rfl) (ha_cons (he_var 9 rfl) ha_nil)) ⟨c, o, rfl, by have := (cc c hm).1; have := (sz_len sz hk.hz).2; omega, rfl⟩) (fun _ _ => rfl) hv) ha_nil)) ⟨wgt fnd ((above F p).take j) c, v, rfl, by have := hk.ok c hm j o ho; rw [ev] at this; exact this, rfl⟩) (by rw [take_snoc ho, wgt_snoc, ev])) (hb_nil fun σ H' s => ⟨(), s.sub ⟨rfl, rfl, rfl, rfl, rfl, rfl, rfl, rfl, rfl, trivial⟩⟩) S.nd
    · rw [List.take_length]
      refine hb_put (κ := List Int) (β := Rat) (kvs := ((contents sz).take i).map fun c => (c, wgt fnd (above F p) c)) (u := c) (v := wgt fnd (above F p) c) 6 1 rfl rfl (hu0 hr) (by decide) (by rw [List.length_map, List.length_take]; omega) (he_var 8 rfl) (he_var 7 rfl) (hb_nil fun σ H' s => ?_)
      rw [put_map cn hc] at s
      exact s.sub ⟨rfl, rfl, rfl, rfl, rfl, rfl, rfl, trivial⟩
  · rw [List.take_length]
    exact hb_rtO 6 0 rfl rfl rfl fun H' e n c => ⟨e, qw, rfl, n, c⟩
end
end CB
end
section
set_option Elab.async false
set_option linter.all false
set_option maxRecDepth 100000
set_option maxHeartbeats 2000000
/-! X. two new things at once; groups: a dict of own lists. -/
namespace CB
open PySem PySem.Spec PyProof.Rows L2 Enc
section
variable [Tbs] {B : Bs} {Γ : Gam} {Δ Δ' : List Own} {σ : L2.St} {H : Hp}
theorem SS.perm (s : SS B Γ Δ σ H) (h : Δ'.Perm Δ) : SS B Γ Δ' σ H := ⟨s.le, s.ex, s.lt, s.len, s.env, fun o ho => s.own o (h.subset ho), fun o ho => s.fr o (h.subset ho), (h.map (·.p)).symm.nodup s.ap, s.tb⟩
end
section
variable [Tbs] {X : Cx} {S : SA} [Stab S] {e a b c it tg elt : Expr} {ifs : List Expr} {pos p pos' apos apos2 cpos cpos2 lpos : Pos} {x y : Str} {D : Ends} {rest body : List Stmt} {B : Bs} {Γ : Gam} {Δ Δ' : List Own} {κ β γ α ι : Type} [Enc κ] [Enc γ] [Enc α] {q : Addr} {n : Nat} {sc : Scope}
theorem hb_perm (h : HB X (SS B Γ Δ') body D) (hp : Δ'.Perm Δ) : HB X (SS B Γ Δ) body D := fun σ H s => h σ H (s.perm hp)
/-- x, y = new, new -/
theorem hb_parNN (i j : Nat) {px py pt pt2 : Pos} {kt k2 : Nat} {C1 C2 : Addr → Hp → Prop} (o1 o2 : Addr → Own) (hc : X.calm = true) (ha : HN X (SS B Γ Δ) a C1) (hb : HN X (SS B Γ Δ) b C2) (ho1 : ∀ q, (o1 q).p = q ∧ (o1 q).C = C1 q) (ho2 : ∀ q, (o2 q).p = q ∧ (o2 q).C = C2 q)
    (h : ∀ q1 q2, HB X (SS B ((Γ.set i (some (rEq (.ref q1)))).set j (some (rEq (.ref q2)))) (o2 q2 :: o1 q1 :: Δ)) rest D) (hN : X.N.Nodup) (hij : i ≠ j) (hi : X.N[i]? = some x := by rfl) (hj : X.N[j]? = some y := by rfl)
    (hx : X.env.scope.names.lookup x = some .local := by rfl) (hy : X.env.scope.names.lookup y = some .local := by rfl) (hs1 : starEach [a, b] X.env = (false, eval a X.env) :: starEach [b] X.env := by rfl) (hs2 : starEach [b] X.env = (false, eval b X.env) :: starEach [] X.env := by rfl)
    (hw : swappedStores [.Tuple [.Name x px, .Name y py] kt pt] (.Tuple [a, b] k2 pt2) X.env = pure (some [x, y]) := by rfl)
    (hs : swapsWithSole [.Tuple [.Name x px, .Name y py] kt pt] (.Tuple [a, b] k2 pt2) pos.line X.env = pure false := by rfl) : HB X (SS B Γ Δ) (.Assign [.Tuple [.Name x px, .Name y py] kt pt] (.Tuple [a, b] k2 pt2) pos :: rest) D :=
  hb_of (ps_par hc hN hi hj hij hx hy (pa_cons pe_w (pa_cons pe_w pa_nil hs2) hs1) hw hs) fun σ H s => (ha σ H s).mono fun v1 H1 ⟨e1, q1, r1, f1, c1⟩ => by
    obtain ⟨p1, d1⟩ := ho1 q1
    have s1 : SS B Γ (o1 q1 :: Δ) σ H1 := s.add e1 (o := o1 q1) (by rw [p1]; exact f1) (by rw [d1]; exact c1)
    refine (hb σ H1 (Stab.up s e1)).mono fun v2 H2 ⟨e2, q2, r2, f2, c2⟩ => ?_
    obtain ⟨p2, d2⟩ := ho2 q2
    have s2 : SS B Γ (o2 q2 :: o1 q1 :: Δ) σ H2 := s1.add e2 (o := o2 q2) (by rw [p2]; exact f2) (by rw [d2]; exact c2)
    subst r1 r2
    exact ⟨_, _, rfl, h q1 q2 _ H2 ((s2.set rfl).set rfl)⟩
/-! ### groups -/
/-- the dict and the lists -/
def gD (P : Program) (w : World) (K : PySem.W.Frag) (q : Addr) (gs : List (κ × Addr × List α)) : List Own := oDR P w K (β := Addr) (fun _ v a => v = V.ref a) q (gs.map fun g => (g.1, g.2.1)) :: gs.map fun g => oL K g.2.1 g.2.2
variable [DecidableEq κ] [TupE κ] {gs : List (κ × Addr × List α)} {u : κ} {v : α}
theorem look_gs {j : Nat} {a : Addr} {l : List α} (hn : (gs.map (·.1)).Nodup) (h : gs[j]? = some (u, a, l)) : look (gs.map fun g => (g.1, g.2.1)) u = some a := by
  refine look_of_mem ?_ (List.mem_of_getElem? (i := j) (by rw [List.getElem?_map, h]; rfl))
  rw [List.map_map]
  exact hn
theorem look_gs_none (h : u ∉ gs.map (·.1)) : look (gs.map fun g => (g.1, g.2.1)) u = none := look_none (by rw [List.map_map]; exact h)
/-- groups.setdefault(key, []).append(item) -/
theorem hb_group (i : Nat) (hΓ : Γ[i]? = some (some (rEq (.ref q)))) (hn : (gs.map (·.1)).Nodup) (hu : X.A.units + 40 < cLine) (hd : dp κ ≤ 8) (hl : gs.length < 9000) (hl2 : ∀ g ∈ gs, g.2.2.length < 9000) (hk : HE X (SS B Γ []) b (rD X.K u)) (hv : HE X (SS B Γ []) e (rD X.K v))
    (h1 : ∀ j a l, gs[j]? = some (u, a, l) → HB X (SS B Γ (gD X.prog X.w X.K q (gs.set j (u, a, l ++ [v])) ++ Δ')) rest D)
    (h2 : u ∉ gs.map (·.1) → ∀ a, HB X (SS B Γ (gD X.prog X.w X.K q (gs ++ [(u, a, [v])]) ++ Δ')) rest D)
    (m : M2 X (.Name x p) "setdefault" apos b (.List [] lpos) cpos) (hN : X.N[i]? = some x := by rfl) (hvs : Vis X.env.scope x := by first | exact Or.inl rfl | exact Or.inr (Or.inl rfl) | exact Or.inr (Or.inr rfl)) (hdb : (x == ("__debug__" : Str)) = false := by decide) (hcd : (x == ("__classdict__" : Str)) = false := by decide)
    (hbase : attributeBase (.Call (.Attribute (.Name x p) "setdefault" apos) [b, .List [] lpos] [] cpos) "append" X.env (eval (.Call (.Attribute (.Name x p) "setdefault" apos) [b, .List [] lpos] [] cpos) X.env) = eval (.Call (.Attribute (.Name x p) "setdefault" apos) [b, .List [] lpos] [] cpos) X.env := by rfl)
    (hfew : ((backTo cpos2 (starEach [e] X.env)).all (fun x => !x.1) && (backToKw cpos2 (keywordEach [] X.env)).all (fun x => x.1.isSome) && decide (([e] : List Expr).length + ([] : List Keyword).length + (if ([] : List Keyword).isEmpty then 0 else 1) < 30)) = true := by rfl)
    (hline : (apos2.endLine == cpos2.line) = true := by rfl) (hs : starEach [e] X.env = (false, eval e X.env) :: starEach [] X.env := by rfl) (hplain : (backTo cpos2 (starEach [] X.env)).any (·.1) = false := by rfl)
    (hsw : swapsWith (.Call (.Attribute (.Call (.Attribute (.Name x p) "setdefault" apos) [b, .List [] lpos] [] cpos) "append" apos2) [e] [] cpos2) none pos.line X.env = pure false := by rfl) :
    HB X (SS B Γ (gD X.prog X.w X.K q gs ++ Δ')) (.Expr (.Call (.Attribute (.Call (.Attribute (.Name x p) "setdefault" apos) [b, .List [] lpos] [] cpos) "append" apos2) [e] [] cpos2) pos :: rest) D := by
  refine hb_of (ps_expr (pe_bm PySem.F.plainAttrs_list F.slot_list_append F.type_list_append mt_append (pe_xsetd (by omega) (pe_var hN hvs hdb hcd) pe_w pe_w m) pa_w hbase hfew hline hs hplain) hsw) fun σ H s => ?_
  obtain ⟨z, z1, z2⟩ := s.get hΓ
  have ez : z = .ref q := z2
  subst ez
  obtain ⟨t0, g0, _⟩ := s.own _ (List.mem_cons_self ..)
  refine ⟨_, z1, q, rfl, ⟨t0, .inl g0⟩, (hk σ H (s.drop (List.nil_sublist _))).mono fun y H1 ⟨e1, r1⟩ => ?_⟩
  have s1 := Stab.up s e1
  refine (hn_lst0 (α := α) (X := X) (S := SS B Γ []) σ H1 (s1.drop (List.nil_sublist _))).mono fun w0 H2 ⟨e2, q0, ew, f0, c0⟩ => ?_
  subst ew
  have s2 : SS B Γ (oL X.K q0 ([] : List α) :: (gD X.prog X.w X.K q gs ++ Δ')) σ H2 := s1.add e2 (o := oL X.K q0 ([] : List α)) f0 c0
  obtain ⟨t, g1, g2⟩ := s2.own _ (List.mem_cons_of_mem _ (List.mem_cons_self ..))
  obtain ⟨bq, rfl⟩ := key_ref r1
  have r2 : rD X.K u H2 (.ref bq) := Mon.up e2 r1
  have lt : t.length = gs.length := by rw [g2.length, List.length_map]
  refine ⟨bq, t, enc u, rfl, g1, g2.keys hd, r2, Nat.le_trans (Enc.le u) hd, by rw [sizeLine_eq]; omega, fun yv hy => ?_, fun hno => ?_⟩
  · -- there
    have hmem : u ∈ gs.map (·.1) := by
      refine Decidable.byContradiction fun hno => ?_
      rw [g2.none_ (look_gs_none hno)] at hy
      cases hy
    obtain ⟨g, hg, rfl⟩ := List.mem_map.mp hmem
    obtain ⟨j, hj⟩ := List.getElem?_of_mem hg
    obtain ⟨k0, a, l⟩ := g
    obtain ⟨v', gv, ev⟩ := g2.get (look_gs hn hj)
    have ev : v' = V.ref a := ev
    subst ev
    rw [gv] at hy
    cases hy
    have hx : (oL X.K q0 ([] : List α) :: (gD X.prog X.w X.K q gs ++ Δ'))[j + 2]? = some (oL X.K a l) := by
      show (gD X.prog X.w X.K q gs ++ Δ')[j + 1]? = _
      have hlt : j < gs.length := (List.getElem?_eq_some_iff.mp hj).1
      rw [List.getElem?_append_left (by show j + 1 < (_ :: gs.map _).length; rw [List.length_cons, List.length_map]; omega)]
      show (gs.map fun g => oL X.K g.2.1 g.2.2)[j]? = _
      rw [List.getElem?_map, hj]
      rfl
    obtain ⟨xs, x1, x2⟩ := s2.own _ (List.mem_of_getElem? hx)
    refine ⟨Or.inl ⟨rfl, xs, .of x1⟩, ?_⟩
    refine (ha_cons hv ha_nil hs σ H2 (s2.drop (List.nil_sublist _))).mono fun vs H3 ⟨e3, r⟩ => ?_
    obtain ⟨y, rfl, r3⟩ := rs1 r
    have s3 := Stab.up s2 e3
    obtain ⟨ys, y1, y2⟩ := s3.own _ (List.mem_of_getElem? hx)
    have lt : Lt H3 (upd H3 a (.lst (ys ++ [y]))) := Lt.put y1 loose_lst
    have ll := y2.length
    rw [List.length_map] at ll
    have := hl2 _ hg
    refine ⟨a, ys, y, rfl, rfl, y1, by rw [sizeLine_eq]; simp at this; omega, ?_⟩
    refine h1 j a l hj σ _ (SS.drop (SS.mut s3 hx (o' := oL X.K a (l ++ [v])) rfl ⟨_, upd_same, ?_⟩) ?_)
    · rw [List.map_append]
      exact Ims.upT lt _ _ (y2.append ⟨y, [], rfl, r3, rfl⟩)
    · show List.Sublist _ (_ :: (gD X.prog X.w X.K q gs ++ Δ').set (j + 1) _)
      refine List.Sublist.cons _ ?_
      have hlt : j < gs.length := (List.getElem?_eq_some_iff.mp hj).1
      rw [List.set_append_left _ _ (by show j + 1 < (_ :: gs.map _).length; rw [List.length_cons, List.length_map]; omega)]
      refine List.Sublist.append ?_ (List.Sublist.refl _)
      show List.Sublist (_ :: _) (_ :: (gs.map fun g => oL X.K g.2.1 g.2.2).set j _)
      rw [List.map_set, List.map_set]
      have e : ((gs.map fun g => (g.1, g.2.1)).set j (k0, a)) = gs.map fun g => (g.1, g.2.1) := by
        refine List.ext_getElem? fun i => ?_
        rw [List.getElem?_set]
        split
        · rename_i h
          subst h
          rw [List.length_map, if_pos hlt, List.getElem?_map, hj]
          rfl
        · rfl
      show List.Sublist (oDR X.prog X.w X.K (fun (_ : Hp) v (a : Addr) => v = V.ref a) q ((gs.map fun g => (g.1, g.2.1)).set j (k0, a)) :: _) _
      rw [e]
      exact List.Sublist.refl _
  · have hno : u ∉ gs.map (·.1) := fun hm => by
      obtain ⟨g, hg, rfl⟩ := List.mem_map.mp hm
      obtain ⟨j, hj⟩ := List.getElem?_of_mem hg
      obtain ⟨v', gv, _⟩ := g2.get (look_gs hn hj)
      rw [hno] at gv
      cases gv
    have s3 := s2.mut (n := 1) (o := oDR X.prog X.w X.K (fun (_ : Hp) v (a : Addr) => v = V.ref a) q (gs.map fun g => (g.1, g.2.1))) (o' := oDR X.prog X.w X.K (fun (_ : Hp) v (a : Addr) => v = V.ref a) q ((gs ++ [(u, q0, [v])]).map fun g => (g.1, g.2.1))) rfl rfl (u' := DO X.prog X.w q (rput t (enc u) bq (.ref q0))) ⟨_, upd_same, by
      have hp := (g2.put (b := q0) r2 rfl).upR (H' := upd H2 q (DO X.prog X.w q (rput t (enc u) bq (.ref q0)))) (Lt.put g1 loose_ext)
      rw [put_new (look_gs_none hno)] at hp
      rw [List.map_append]
      exact hp⟩
    obtain ⟨xs, x1, x2⟩ := s3.own _ (List.mem_cons_self ..)
    refine ⟨Or.inl ⟨rfl, xs, .of x1⟩, ?_⟩
    refine (ha_cons hv ha_nil hs σ _ (s3.drop (List.nil_sublist _))).mono fun vs H3 ⟨e3, r⟩ => ?_
    obtain ⟨y, rfl, r3⟩ := rs1 r
    have s4 := Stab.up s3 e3
    obtain ⟨ys, y1, y2⟩ := s4.own _ (List.mem_cons_self ..)
    have lt : Lt H3 (upd H3 q0 (.lst (ys ++ [y]))) := Lt.put y1 loose_lst
    have ll : ys.length = 0 := y2.length
    refine ⟨q0, ys, y, rfl, rfl, y1, by rw [sizeLine_eq]; omega, ?_⟩
    have s5 := SS.mut s4 (n := 0) (o := oL X.K q0 ([] : List α)) (o' := oL X.K q0 [v]) rfl rfl (u' := .lst (ys ++ [y])) ⟨_, upd_same, Ims.upT lt _ _ (y2.append ⟨y, [], rfl, r3, rfl⟩)⟩
    refine h2 hno q0 σ _ (s5.perm ?_)
    have e : (gs ++ [(u, q0, [v])]).map (fun g => oL X.K g.2.1 g.2.2) = (gs.map fun g => oL X.K g.2.1 g.2.2) ++ [oL X.K q0 [v]] := by rw [List.map_append] <;> rfl
    show List.Perm (oDR _ _ _ _ _ _ :: ((gs ++ [(u, q0, [v])]).map (fun g => oL X.K g.2.1 g.2.2) ++ Δ')) (oL X.K q0 [v] :: oDR _ _ _ _ _ _ :: ((gs.map fun g => oL X.K g.2.1 g.2.2) ++ Δ'))
    rw [e, List.append_assoc]
    refine List.Perm.trans (List.Perm.cons _ ?_) (List.Perm.swap _ _ _)
    exact List.perm_middle
end
end CB
end
section
set_option Elab.async false
set_option linter.all false
set_option maxRecDepth 100000
set_option maxHeartbeats 2000000
/-! Y. reading groups; pairs of new things. -/
namespace CB
open PySem PySem.Spec PyProof.Rows L2 Enc
section
variable [Tbs] {X : Cx} {S : SA} [Stab S] {e a b c it tg elt : Expr} {es : List Expr} {Rs : List Rel} {pos p pos' apos apos2 cpos cpos2 lpos px py pt : Pos} {x y : Str} {D : Ends} {rest body : List Stmt} {B : Bs} {Γ : Gam} {Δ Δ' : List Own} {κ β γ α ι : Type} [Enc κ] [Enc γ] [Enc α] {q : Addr} {n : Nat} {sc : Scope}
/-- groups[key] -/
theorem he_grp [DecidableEq κ] [TupE κ] {kvs : List (κ × Addr)} {od : Obj} {t : Raw} {u : κ} {ad : Addr} (i m : Nat) (hΓ : Γ[i]? = some (some (rEq (.ref q)))) (hm : Δ[m]? = some (oDF X.prog X.w X.K (β := Addr) (fun _ v a => v = V.ref a) q od t kvs)) (hu : X.A.units + 40 < cLine) (hd : dp κ ≤ 8) (hb : HE X (SS B Γ Δ) b (rD X.K u)) (hs : NoSl b) (h : look kvs u = some ad)
    (hN : X.N[i]? = some x := by rfl) (hv : Vis X.env.scope x := by first | exact Or.inl rfl | exact Or.inr (Or.inl rfl) | exact Or.inr (Or.inr rfl)) (hdb : (x == ("__debug__" : Str)) = false := by decide) (hcd : (x == ("__classdict__" : Str)) = false := by decide) : HE X (SS B Γ Δ) (.Subscript (.Name x p) b pos) (rEq (.ref ad)) :=
  he_of (pe_xget (by omega) pe_w pe_w hs) fun σ H s => he_seq2 (Q := fun _ _ => True) (he_var i hΓ hN hv hdb hcd) hb s fun x y H' e1 s' r1 r2 => by
    have ex : x = .ref q := r1
    subst ex
    obtain ⟨h1, h2⟩ := s'.own _ (List.mem_of_getElem? hm)
    obtain ⟨bq, rfl⟩ := key_ref r2
    obtain ⟨z, g, hz⟩ := h2.get h
    have hz : z = .ref ad := hz
    subst hz
    exact ⟨q, bq, t, enc u, _, rfl, rfl, .inr ⟨od, h1⟩, h2.keys hd, r2, Nat.le_trans (Enc.le u) hd, g, e1, rfl⟩
theorem he_ownE {l : List α} {K : PySem.W.Frag} {ad : Addr} (h : HE X (SS B Γ Δ) e (rEq (.ref ad))) (hm : oL K ad l ∈ Δ) : HE X (SS B Γ Δ) e (rLs K l) := fun σ H s => (h σ H s).mono fun v H1 ⟨e1, r⟩ => by
  have ev : v = .ref ad := r
  subst ev
  obtain ⟨xs, h1, h2⟩ := (Stab.up s e1).own _ hm
  exact ⟨e1, rLs.of ⟨ad, xs, rfl, .of h1, h2⟩⟩
/-- over an own list that e tells -/
theorem hb_forOE {as : List α} {ad : Addr} (Γi : ι → Nat → Gam) (Δi : ι → Nat → List Own) (g0 : ι) (f : α → Gam → Gam) {vs : List Nat} (hc : X.calm = true) (hp : PassesOwn (model X.prog X.w) X.A X.env X.xe) (he : HE X (SS B Γ Δ) it (rEq (.ref ad))) (hm : oL X.K ad as ∈ Δ) (h0 : Subg (Γi g0 0) Γ) (hΔ : List.Sublist (Δi g0 0) Δ) (hO : ∀ g i, oL X.K ad as ∈ Δi g i) (hg : ∀ u, HG X tg (rD X.K u) (f u) vs)
    (hb : ∀ t g i u, as[i]? = some u → HB X (SS ⟨B.s, B.f, t⟩ (f u (Γi g i)) (Δi g i)) body (LX X rest D B t Γi Δi (i + 1)))
    (hd : ∀ g, HB X (SS B (Γi g as.length) (Δi g as.length)) rest D) (hs : ∀ z, foldedSetIterable it X.env z = pure z := by intro _; rfl) : HB X (SS B Γ Δ) (.For tg it body [] pos :: rest) D :=
  hb_of (ps_for hp hc (pi_list pe_w) pg_w pb_w hs) fun σ H s => (he σ H s).mono fun v H1 ⟨e1, r⟩ => by
    have ev : v = .ref ad := r
    subst ev
    have s1 := Stab.up s e1
    obtain ⟨xs, g1, g2⟩ := s1.own _ hm
    refine ⟨ad, rfl, ⟨xs, .of g1⟩, for_coreX (Ra := rD X.K) walk_listT Γi Δi g0 f s1 ((s1.now.sub h0).drop hΔ) (fun g i σ H s => ?_) hg hb hd⟩
    obtain ⟨xs, h1, h2⟩ := s.own _ (hO g i)
    exact ⟨ad, xs, rfl, .of h1, h2⟩
/-! ### a pair of new things -/
def rNew2 (K : PySem.W.Frag) (C1 C2 : Addr → Hp → Prop) : Hp → Rel := fun H H' v => ∃ z q1 q2, v = .ref z ∧ SqT K H' z [.ref q1, .ref q2] ∧ H q1 = none ∧ H q2 = none ∧ q1 ≠ q2 ∧ C1 q1 H' ∧ C2 q2 H'
/-- return (x, y), both own -/
theorem hb_rt2 {q1 q2 : Addr} {o1 o2 : Own} {kk : Nat} (i j m n : Nat) (hΓ1 : Γ[i]? = some (some (rEq (.ref q1)))) (hΓ2 : Γ[j]? = some (some (rEq (.ref q2)))) (hΔ1 : Δ[m]? = some o1) (hΔ2 : Δ[n]? = some o2) (h1 : o1.p = q1) (h2 : o2.p = q2) (hmn : m ≠ n) {C1 C2 : Addr → Hp → Prop} (hc1 : o1.C = C1 q1) (hc2 : o2.C = C2 q2)
    (h : ∀ v H', Ex B.f H' → rNew2 X.K C1 C2 B.f H' v → D.rt v H') (hN : X.N[i]? = some x := by rfl) (hN2 : X.N[j]? = some y := by rfl) (hv : Vis X.env.scope x := by first | exact Or.inl rfl | exact Or.inr (Or.inl rfl) | exact Or.inr (Or.inr rfl)) (hv2 : Vis X.env.scope y := by first | exact Or.inl rfl | exact Or.inr (Or.inl rfl) | exact Or.inr (Or.inr rfl))
    (hd : (x == ("__debug__" : Str)) = false := by decide) (hcd : (x == ("__classdict__" : Str)) = false := by decide) (hd2 : (y == ("__debug__" : Str)) = false := by decide) (hcd2 : (y == ("__classdict__" : Str)) = false := by decide)
    (hs : starEach [.Name x px, .Name y py] X.env = (false, eval (.Name x px) X.env) :: starEach [.Name y py] X.env := by rfl) (hs2 : starEach [.Name y py] X.env = (false, eval (.Name y py) X.env) :: starEach [] X.env := by rfl) :
    HB X (SS B Γ Δ) (.Return (some (.Tuple [.Name x px, .Name y py] kk pt)) pos :: rest) D :=
  hb_of (ps_ret (pe_tup (pa_cons (pe_var hN hv hd hcd) (pa_cons (pe_var hN2 hv2 hd2 hcd2) pa_nil hs2) hs))) fun σ H s => by
    obtain ⟨v1, a1, b1⟩ := s.get hΓ1
    obtain ⟨v2, a2, b2⟩ := s.get hΓ2
    have b1 : v1 = .ref q1 := b1
    have b2 : v2 = .ref q2 := b2
    subst b1 b2
    have m1 := List.mem_of_getElem? hΔ1
    have m2 := List.mem_of_getElem? hΔ2
    have ne : q1 ≠ q2 := fun e => by
      have c1 : (Δ.map (·.p))[m]? = some q1 := by rw [List.getElem?_map, hΔ1, ← h1]; rfl
      have c2 : (Δ.map (·.p))[n]? = some q2 := by rw [List.getElem?_map, hΔ2, ← h2]; rfl
      obtain ⟨d1, f1⟩ := List.getElem?_eq_some_iff.mp c1
      obtain ⟨d2, f2⟩ := List.getElem?_eq_some_iff.mp c2
      exact hmn ((List.getElem_inj s.ap).mp (f1.trans (e.trans f2.symm)))
    refine ⟨_, a1, _, a2, by rw [sizeLine_eq]; exact (by decide : 2 ≤ 16777216), fun z hz => h _ _ (s.ex.trans (Ex.new hz)) ⟨z, q1, q2, rfl, .of upd_same, ?_, ?_, ne, by rw [← hc1]; exact o1.ex (s.own o1 m1) (Ex.new hz), by rw [← hc2]; exact o2.ex (s.own o2 m2) (Ex.new hz)⟩⟩
    · rw [← h1]; exact (s.fr o1 m1).2
    · rw [← h2]; exact (s.fr o2 m2).2
variable {P : PR} {j k : Nat} {g : Str} {C1 C2 : Addr → Hp → Prop}
/-- f(..)[1], the second of the two new things -/
theorem hn_call_snd {j1 : Nat} {pos2 pos3 : Pos} (o2 : Addr → Own) (F : Known X.prog X.w X.K X.mg X.base k g (spF P)) (hr : Room j X.A) (ha : HA X S (e :: es) Rs) (hP : P Rs (rNew2 X.K C1 C2)) (ho2 : ∀ q, (o2 q).C = C2 q) (hg : Gl X g := by rfl) (hk : k ≤ j := by decide) (hdb : (g == ("__debug__" : Str)) = false := by decide)
    (he : starEach (e :: es) X.env = (false, eval e X.env) :: starEach es X.env := by rfl) (hpl : (backTo pos (starEach es X.env)).any (·.1) = false := by rfl) : HN X S (.Subscript (.Call (.Name g p) (e :: es) [] pos) (.Constant (.int 1) j1 pos2) pos3) C2 :=
  hn_of (pe_ix ix_tup pe_w pe_w plainIx_int) fun σ H s => call_w F hr hk hg ha hP hdb he hpl s fun v H1 H' e1 e2 ⟨z, q1, q2, ev, h1, f1, f2, ne, c1, c2⟩ => by
    have s' := Stab.up s (e1.trans e2)
    refine (he_int (K := X.K) (i := 1) (X := X) (S := S) σ H' s').mono fun y H2 ⟨e3, r⟩ => ?_
    have ey : y = .int 1 := r
    subst ev ey
    exact ⟨z, _, 1, .ref q2, rfl, rfl, (Lt.of e3).sqT h1, atI_nat (j := 1) rfl, (e1.trans e2).trans e3, q2, rfl, none_of_ex e1 f2, by rw [← ho2] at c2 ⊢; exact (o2 q2).ex c2 e3⟩
/-- x, y = f(..), two new things -/
theorem hb_call2 (i i2 : Nat) {kk : Nat} {p2 pos2 : Pos} (o1 o2 : Addr → Own) (hcalm : X.calm = true) (F : Known X.prog X.w X.K X.mg X.base k g (spF P)) (hr : Room j X.A) (ha : HA X (SS B Γ Δ) (e :: es) Rs) (hP : P Rs (rNew2 X.K C1 C2)) (ho1 : ∀ q, (o1 q).p = q ∧ (o1 q).C = C1 q) (ho2 : ∀ q, (o2 q).p = q ∧ (o2 q).C = C2 q)
    (h : ∀ q1 q2, HB X (SS B ((Γ.set i (some (rEq (.ref q1)))).set i2 (some (rEq (.ref q2)))) (o2 q2 :: o1 q1 :: Δ)) rest D) (hN : X.N.Nodup) (hij : i ≠ i2) (hi : X.N[i]? = some x := by rfl) (hx : Loc X.env.scope x := by first | exact Or.inl rfl | exact Or.inr rfl) (hf : X.fn x = true ∨ X.env.scope.names.lookup x = some .local := by first | exact .inl rfl | exact .inr rfl)
    (hi2 : X.N[i2]? = some y := by rfl) (hx2 : Loc X.env.scope y := by first | exact Or.inl rfl | exact Or.inr rfl) (hf2 : X.fn y = true ∨ X.env.scope.names.lookup y = some .local := by first | exact .inl rfl | exact .inr rfl)
    (hs : (assignEach [.Name x px, .Name y py] X.env).map (·.2) = assign (.Name x px) X.env :: (assignEach [.Name y py] X.env).map (·.2) := by rfl) (hs2 : (assignEach [.Name y py] X.env).map (·.2) = assign (.Name y py) X.env :: (assignEach [] X.env).map (·.2) := by rfl)
    (hn : (assignEach [.Name x px, .Name y py] X.env).length = 2 := by rfl) (hst : (assignEach [.Name x px, .Name y py] X.env).findIdx? (·.1) = none := by rfl) (hg : Gl X g := by rfl) (hk : k ≤ j := by decide) (hdb : (g == ("__debug__" : Str)) = false := by decide)
    (he : starEach (e :: es) X.env = (false, eval e X.env) :: starEach es X.env := by rfl) (hpl : (backTo pos (starEach es X.env)).any (·.1) = false := by rfl)
    (hs3 : swapsWithSole [.Tuple [.Name x px, .Name y py] kk pt] (.Call (.Name g p) (e :: es) [] pos) pos2.line X.env = pure false := by rfl) (hw : swappedStores [.Tuple [.Name x px, .Name y py] kk pt] (.Call (.Name g p) (e :: es) [] pos) X.env = pure none := by rfl)
    (h1s : (assignEach [.Tuple [.Name x px, .Name y py] kk pt] X.env).map (·.2) = [assign (.Tuple [.Name x px, .Name y py] kk pt) X.env] := by rfl) : HB X (SS B Γ Δ) (.Assign [.Tuple [.Name x px, .Name y py] kk pt] (.Call (.Name g p) (e :: es) [] pos) pos2 :: rest) D :=
  hb_of (ps_asg pe_w (pg_tup (pos := pt) (k := kk) hcalm (pgs_cons (pg_name hN hi hx hf) (pgs_cons (pg_name hN hi2 hx2 hf2) pgs_nil hs2) hs) hn hst) hs3 hw h1s) fun σ H s => call_w F hr hk hg ha hP hdb he hpl s fun v H1 H' e1 e2 ⟨z, q1, q2, ev, h1, f1, f2, ne, c1, c2⟩ => by
    obtain ⟨p1, d1⟩ := ho1 q1
    obtain ⟨p2, d2⟩ := ho2 q2
    have s1 : SS B Γ (o1 q1 :: Δ) σ H' := s.add (e1.trans e2) (o := o1 q1) (by rw [p1]; exact none_of_ex e1 f1) (by rw [d1]; exact c1)
    have s' := Stab.up s (e1.trans e2)
    have fB : ∀ {q : Addr}, H1 q = none → B.s q = none ∧ B.f q = none := fun {q} f => by
      have f := none_of_ex e1 f
      refine ⟨s.le.dom _ f, ?_⟩
      cases z : B.f q with
      | none => rfl
      | some u =>
        have := s.ex.dom _ f
        rw [z] at this
        cases this
    have s2 : SS B Γ (o2 q2 :: o1 q1 :: Δ) σ H' := by
      refine ⟨s1.le, s1.ex, s1.lt, s1.len, s1.env, fun o ho => ?_, fun o ho => ?_, ?_, s1.tb⟩
      · rcases List.mem_cons.mp ho with r | r
        · rw [r, d2]; exact c2
        · exact s1.own o r
      · rcases List.mem_cons.mp ho with r | r
        · rw [r, p2]; exact fB f2
        · exact s1.fr o r
      · rw [List.map_cons]
        refine List.nodup_cons.mpr ⟨fun hm => ?_, s1.ap⟩
        obtain ⟨o', ho, e'⟩ := List.mem_map.mp hm
        rcases List.mem_cons.mp ho with r | r
        · rw [r, p1, p2] at e'; exact ne e'
        · obtain ⟨u, hu, _⟩ := o'.at_ (s.own o' r)
          rw [e', p2, none_of_ex e1 f2] at hu
          cases hu
    subst ev
    exact ⟨z, _, rfl, h1, rfl, _, _, rfl, _, _, rfl, rfl, h q1 q2 _ _ ((s2.set rfl).set rfl)⟩
end
end CB
end
section
set_option Elab.async false
set_option linter.all false
set_option maxRecDepth 100000
set_option maxHeartbeats 2000000
set_option exponentiation.threshold 100
namespace CB
open PySem PySem.Spec PyProof.Rows L2 Enc
section
variable {P : Program} {w : World} {K : PySem.W.Frag} {mg : Str → Option Value} {base : Heap}
/-! ### the quotients, as the package computes them -/
abbrev GR := List (List Int × List (List Int))
def grp (p : List Int) (g : GR) (c : List Int) : GR := put g (view c p) ((look g (view c p)).getD [] ++ [c])
def groupsOf (p : List Int) (cs : List (List Int)) : GR := cs.foldl (grp p) []
theorem groupsOf_snoc (p : List Int) (cs : List (List Int)) (c : List Int) : groupsOf p (cs ++ [c]) = grp p (groupsOf p cs) c := by unfold groupsOf; rw [List.foldl_append]; rfl
theorem put_keys {κ β : Type} [DecidableEq κ] (kvs : List (κ × β)) (k : κ) (v : β) : (put kvs k v).map (·.1) = if (look kvs k).isSome then kvs.map (·.1) else kvs.map (·.1) ++ [k] := by
  unfold put
  split
  · rw [List.map_map]
    refine List.map_congr_left fun p _ => ?_
    show (if p.1 = k then (p.1, v) else p).1 = p.1
    split <;> rfl
  · rw [List.map_append]
    rfl
theorem put_nodup {κ β : Type} [DecidableEq κ] {kvs : List (κ × β)} {k : κ} {v : β} (h : (kvs.map (·.1)).Nodup) : ((put kvs k v).map (·.1)).Nodup := by
  rw [put_keys]
  split
  · exact h
  · rename_i hn
    rw [List.nodup_append]
    refine ⟨h, by simp, fun a ha b hb => ?_⟩
    rw [List.mem_singleton.mp hb]
    intro e
    rw [e] at ha
    exact hn (look_isSome ha)
theorem groups_small (p : List Int) : ∀ (n : Nat) (cs : List (List Int)), (groupsOf p (cs.take n)).length ≤ n ∧ ((groupsOf p (cs.take n)).map (·.1)).Nodup ∧ ∀ g ∈ groupsOf p (cs.take n), g.2.length ≤ n
  | 0, cs => by rw [List.take_zero]; exact ⟨Nat.le_refl 0, List.nodup_nil, fun g h => nomatch h⟩
  | n + 1, cs => by
    obtain ⟨h1, h2, h3⟩ := groups_small p n cs
    cases h : cs[n]? with
    | none =>
      have := List.getElem?_eq_none_iff.mp h
      rw [List.take_of_length_le (by omega)]
      rw [List.take_of_length_le (by omega)] at h1 h2 h3
      exact ⟨by omega, h2, fun g hg => by have := h3 g hg; omega⟩
    | some c =>
      rw [take_snoc h, groupsOf_snoc]
      unfold grp
      have l1 := length_put (groupsOf p (cs.take n)) (view c p) ((look (groupsOf p (cs.take n)) (view c p)).getD [] ++ [c])
      have hl : ((look (groupsOf p (cs.take n)) (view c p)).getD []).length ≤ n := by
        cases z : look (groupsOf p (cs.take n)) (view c p) with
        | none => exact Nat.zero_le _
        | some l => exact h3 _ (look_mem z)
      refine ⟨by omega, put_nodup h2, fun g hg => ?_⟩
      unfold put at hg
      split at hg
      · obtain ⟨x, hx, e⟩ := List.mem_map.mp hg
        subst e
        split
        · show (_ ++ [c]).length ≤ n + 1
          rw [List.length_append, List.length_singleton]
          omega
        · have := h3 x hx; omega
      · rcases List.mem_append.mp hg with hg | hg
        · have := h3 g hg; omega
        · rw [List.mem_singleton.mp hg]
          show (_ ++ [c]).length ≤ n + 1
          rw [List.length_append, List.length_singleton]
          omega
abbrev FS := List (List Int × Rat) × List ((List Int × List Int) × Rat)
/-- a group's quotient -/
def qv (kvs wts : List (List Int × Rat)) (g : List Int × List (List Int)) : Rat := lk kvs g.1 / rsum (g.2.map (lk wts))
def shrs (p : List Int) (fv : Rat) (wts : List (List Int × Rat)) (cs : List (List Int)) (s : List ((List Int × List Int) × Rat)) : List ((List Int × List Int) × Rat) := cs.foldl (fun s c => put s (c, p) (fv * lk wts c)) s
def grStep (kvs : List (List Int × Rat)) (p : List Int) (wts : List (List Int × Rat)) (z : FS) (g : List Int × List (List Int)) : FS := (put z.1 g.1 (qv kvs wts g), shrs p (qv kvs wts g) wts g.2 z.2)
def qStep (kvs : List (List Int × Rat)) (sz : List Int) (F : List (List Int)) (z : FS) (p : List Int) : FS := (groupsOf p (contents sz)).foldl (grStep kvs p (wgts sz z.1 F p)) z
def qAll (kvs : List (List Int × Rat)) (sz : List Int) (F ps : List (List Int)) : FS := ps.foldl (qStep kvs sz F) ([], [])
theorem shrs_snoc (p : List Int) (fv : Rat) (wts : List (List Int × Rat)) (cs : List (List Int)) (c : List Int) (s : List ((List Int × List Int) × Rat)) : shrs p fv wts (cs ++ [c]) s = put (shrs p fv wts cs s) (c, p) (fv * lk wts c) := by unfold shrs; rw [List.foldl_append]; rfl
theorem gr_snoc (kvs : List (List Int × Rat)) (p : List Int) (wts : List (List Int × Rat)) (z : FS) (l : GR) (g : List Int × List (List Int)) : (l ++ [g]).foldl (grStep kvs p wts) z = grStep kvs p wts (l.foldl (grStep kvs p wts) z) g := by rw [List.foldl_append] <;> rfl
theorem qAll_snoc (kvs : List (List Int × Rat)) (sz : List Int) (F ps : List (List Int)) (p : List Int) : qAll kvs sz F (ps ++ [p]) = qStep kvs sz F (qAll kvs sz F ps) p := by unfold qAll; rw [List.foldl_append]; rfl
theorem shrs_len (p : List Int) (fv : Rat) (wts : List (List Int × Rat)) (s : List ((List Int × List Int) × Rat)) : ∀ (n : Nat) (cs : List (List Int)), (shrs p fv wts (cs.take n) s).length ≤ s.length + n
  | 0, cs => by rw [List.take_zero] <;> exact Nat.le_refl _
  | n + 1, cs => by
    have h2 := shrs_len p fv wts s n cs
    cases h : cs[n]? with
    | none =>
      have := List.getElem?_eq_none_iff.mp h
      rw [List.take_of_length_le (by omega)]
      rw [List.take_of_length_le (by omega)] at h2
      omega
    | some c =>
      rw [take_snoc h, shrs_snoc]
      have := length_put (shrs p fv wts (cs.take n) s) (c, p) (fv * lk wts c)
      omega
theorem gr_len (kvs : List (List Int × Rat)) (p : List Int) (wts : List (List Int × Rat)) (z : FS) (l : GR) (hl : ∀ g ∈ l, g.2.length ≤ 16) : ∀ n : Nat, ((l.take n).foldl (grStep kvs p wts) z).1.length ≤ z.1.length + n ∧ ((l.take n).foldl (grStep kvs p wts) z).2.length ≤ z.2.length + 16 * n
  | 0 => by rw [List.take_zero] <;> exact ⟨Nat.le_refl _, Nat.le_refl _⟩
  | n + 1 => by
    obtain ⟨h1, h2⟩ := gr_len kvs p wts z l hl n
    cases h : l[n]? with
    | none =>
      have := List.getElem?_eq_none_iff.mp h
      rw [List.take_of_length_le (by omega)]
      rw [List.take_of_length_le (by omega)] at h1 h2
      omega
    | some g =>
      rw [take_snoc h, gr_snoc]
      unfold grStep
      have a1 := length_put ((l.take n).foldl (grStep kvs p wts) z).1 g.1 (qv kvs wts g)
      have a2 := shrs_len p (qv kvs wts g) wts ((l.take n).foldl (grStep kvs p wts) z).2 g.2.length g.2
      rw [List.take_of_length_le (Nat.le_refl _)] at a2
      have a3 := hl g (List.mem_of_getElem? h)
      exact ⟨by show (put _ _ _).length ≤ _; unfold grStep at h1 a1; omega, by show (shrs _ _ _ _ _).length ≤ _; unfold grStep at h2 a2; omega⟩
theorem groups_16 {sz : List Int} (hz : sz ∈ allSz) (p : List Int) : (groupsOf p (contents sz)).length ≤ 16 ∧ ((groupsOf p (contents sz)).map (·.1)).Nodup ∧ ∀ g ∈ groupsOf p (contents sz), g.2.length ≤ 16 := by
  have h := groups_small p 16 (contents sz)
  rw [List.take_of_length_le (contents_few sz hz)] at h
  exact h
theorem q_len {sz : List Int} (hz : sz ∈ allSz) (kvs : List (List Int × Rat)) (F ps : List (List Int)) : ∀ n : Nat, (qAll kvs sz F (ps.take n)).1.length ≤ 16 * n ∧ (qAll kvs sz F (ps.take n)).2.length ≤ 256 * n
  | 0 => by rw [List.take_zero] <;> exact ⟨Nat.le_refl 0, Nat.le_refl 0⟩
  | n + 1 => by
    obtain ⟨h1, h2⟩ := q_len hz kvs F ps n
    cases h : ps[n]? with
    | none =>
      have := List.getElem?_eq_none_iff.mp h
      rw [List.take_of_length_le (by omega)]
      rw [List.take_of_length_le (by omega)] at h1 h2
      omega
    | some p =>
      rw [take_snoc h, qAll_snoc]
      obtain ⟨g1, _, g3⟩ := groups_16 hz p
      have := gr_len kvs p (wgts sz (qAll kvs sz F (ps.take n)).1 F p) (qAll kvs sz F (ps.take n)) (groupsOf p (contents sz)) g3 (groupsOf p (contents sz)).length
      rw [List.take_of_length_le (Nat.le_refl _)] at this
      unfold qStep
      omega
/-- one pattern's step runs -/
structure StepOk (sz : List Int) (kvs : List (List Int × Rat)) (F : List (List Int)) (fnd : List (List Int × Rat)) (p : List Int) : Prop where
  wt : WtOk sz fnd F p
  key : ∀ g ∈ groupsOf p (contents sz), g.1 ∈ kvs.map (·.1)
  sums : ∀ g ∈ groupsOf p (contents sz), ∀ i a, (g.2.map (lk (wgts sz fnd F p)))[i]? = some a → Ok2 (rsum ((g.2.map (lk (wgts sz fnd F p))).take i)) a
  ovr : ∀ g ∈ groupsOf p (contents sz), Ok2 (lk kvs g.1) (rsum (g.2.map (lk (wgts sz fnd F p)))) ∧ 0 < (rsum (g.2.map (lk (wgts sz fnd F p)))).num
  tms : ∀ g ∈ groupsOf p (contents sz), ∀ c ∈ g.2, c ∈ contents sz ∧ Ok2 (qv kvs (wgts sz fnd F p) g) (lk (wgts sz fnd F p) c)
structure QOk (sz : List Int) (kvs : List (List Int × Rat)) (F : List (List Int)) : Prop where
  hz : sz ∈ allSz
  fam : FamOk F kvs
  nd : (kvs.map (·.1)).Nodup
  few : F.length ≤ 20
  short : ∀ p ∈ F, p.length ≤ 100
  step : ∀ i p, (ksort true F)[i]? = some p → StepOk sz kvs F (qAll kvs sz F ((ksort true F).take i)).1 p
theorem wgts_keys (sz : List Int) (fnd : List (List Int × Rat)) (F : List (List Int)) (p : List Int) : (wgts sz fnd F p).map (·.1) = contents sz := by
  unfold wgts
  rw [List.map_map]
  exact List.map_id'' (fun _ => rfl) _
theorem lk_some {kvs : List (List Int × Rat)} {v : List Int} (h : v ∈ kvs.map (·.1)) : look kvs v = some (lk kvs v) := by
  obtain ⟨r, e⟩ := look_some h
  unfold lk
  rw [e] <;> rfl
def gz (a : Nat → Addr) (g : GR) : List (List Int × Addr × List (List Int)) := g.mapIdx fun j x => (x.1, a j, x.2)
theorem gz_get (a : Nat → Addr) (g : GR) (j : Nat) : (gz a g)[j]? = (g[j]?).map fun x => (x.1, a j, x.2) := List.getElem?_mapIdx
theorem gz_keys (a : Nat → Addr) (g : GR) : (gz a g).map (·.1) = g.map (·.1) := List.ext_getElem? fun j => by
  rw [List.getElem?_map, gz_get, List.getElem?_map, Option.map_map]
  rfl
theorem gz_set {a : Nat → Addr} {g : GR} {u : List Int} {l : List (List Int)} {v : List (List Int)} {j : Nat} {ad : Addr} (hn : (g.map (·.1)).Nodup) (h : (gz a g)[j]? = some (u, ad, l)) : (gz a g).set j (u, ad, v) = gz a (put g u v) ∧ look g u = some l := by
  rw [gz_get] at h
  obtain ⟨x, hx, e⟩ := Option.map_eq_some_iff.mp h
  obtain ⟨k0, l0⟩ := x
  cases e
  have hl : look g k0 = some l0 := look_of_mem hn (List.mem_of_getElem? hx)
  refine ⟨List.ext_getElem? fun i => ?_, hl⟩
  unfold put
  rw [hl, if_pos (show (some l0).isSome = true from rfl), gz_get, List.getElem?_map, List.getElem?_set]
  split
  · rename_i e
    subst e
    rw [hx]
    have : j < (gz a g).length := by
      unfold gz
      rw [List.length_mapIdx]
      exact (List.getElem?_eq_some_iff.mp hx).1
    rw [if_pos this]
    simp
  · rename_i ne
    rw [gz_get]
    cases hi : g[i]? with
    | none => rfl
    | some y =>
      have hk : y.1 ≠ k0 := fun e => by
        have a1 : (g.map (·.1))[i]? = some k0 := by rw [List.getElem?_map, hi, ← e]; rfl
        have a2 : (g.map (·.1))[j]? = some k0 := by rw [List.getElem?_map, hx]; rfl
        obtain ⟨b1, c1⟩ := List.getElem?_eq_some_iff.mp a1
        obtain ⟨b2, c2⟩ := List.getElem?_eq_some_iff.mp a2
        exact ne ((List.getElem_inj hn).mp (c2.trans c1.symm))
      simp [hk]
theorem gz_new {a : Nat → Addr} {g : GR} {u : List Int} {v : List (List Int)} {ad : Addr} (h : u ∉ g.map (·.1)) : gz a g ++ [(u, ad, v)] = gz (fun j => if j = g.length then ad else a j) (put g u v) ∧ look g u = none := by
  refine ⟨?_, look_none h⟩
  rw [put_new (look_none h)]
  unfold gz
  rw [List.mapIdx_append, List.mapIdx_cons, List.mapIdx_nil]
  congr 1
  · refine List.ext_getElem? fun j => ?_
    rw [List.getElem?_mapIdx, List.getElem?_mapIdx]
    cases hj : g[j]? with
    | none => rfl
    | some x =>
      have : j < g.length := (List.getElem?_eq_some_iff.mp hj).1
      simp [Nat.ne_of_lt this]
  · simp
end
end CB
end
section
set_option Elab.async false
set_option linter.all false
set_option maxRecDepth 100000
set_option maxHeartbeats 2000000
set_option exponentiation.threshold 100
namespace CB
open PySem PySem.Spec PyProof.Rows L2 Enc
section
variable {P : Program} {w : World} {K : PySem.W.Frag} {mg : Str → Option Value} {base : Heap}
abbrev pQby (P : Program) (w : World) (K : PySem.W.Frag) (C : Addr) : PR := fun Rs R => ∃ (sz : List Int) (kvs : List (List Int × Rat)) (F : List (List Int)), Rs = [rO K C sz kvs, rD K (evens sz)] ∧ QOk sz kvs F ∧ R = rNew2 K (CD P w K (qAll kvs sz F (ksort true F)).1) (CD P w K (qAll kvs sz F (ksort true F)).2)
theorem hn_xnewR [Tbs] {X : Cx} {S : SA} [Stab S] {pos : Pos} (κ : Type) [Enc κ] : HN X S (.Dict [] [] pos) (CDR X.prog X.w X.K (fun (_ : Hp) v (a : Addr) => v = V.ref a) ([] : List (κ × Addr))) := hn_of pe_xnew fun σ H s q hq => ⟨Ex.new hq, q, rfl, hq, [], upd_same, .nil⟩
theorem look_put_same {κ β : Type} [DecidableEq κ] {kvs : List (κ × β)} {k : κ} {v : β} : look (put kvs k v) k = some v := by
  unfold put
  split
  · rename_i h
    obtain ⟨b, hb⟩ := Option.isSome_iff_exists.mp h
    clear h
    induction kvs with
    | nil => cases hb
    | cons x r ih =>
      by_cases e : x.1 = k
      · rw [List.map_cons, look_pos (by rw [if_pos e] <;> exact e), if_pos e]
      · rw [look_neg e] at hb
        rw [List.map_cons, look_neg (by rw [if_neg e] <;> exact e)]
        exact ih hb
  · rename_i h
    rw [look_append]
    have : look kvs k = none := by
      cases z : look kvs k with
      | none => rfl
      | some b => rw [z] at h; exact absurd rfl h
    rw [this, look_pos rfl]
    rfl
theorem ksort_perm (neg : Bool) (as : List (List Int)) : (ksort neg as).Perm as := List.mergeSort_perm _ _
abbrev gl (K : PySem.W.Frag) (a : Nat → Addr) (g : GR) : List Own := (gz a g).map fun g => oL K g.2.1 g.2.2
abbrev dR (P : Program) (w : World) (K : PySem.W.Frag) (q : Addr) (a : Nat → Addr) (g : GR) : Own := oDR P w K (β := Addr) (fun _ v a => v = V.ref a) q ((gz a g).map fun g => (g.1, g.2.1))
theorem k_quotients_by [Tbs] {C fi fe : Addr} (T : Has K mg 61 "quotients_by") (Bm : Bi mg) (CK : ClsK K mg "Seen" C fi fe) (k1 : Known P w K mg base 1 "shares_of" (spF (pShOf P w K C))) (k2 : Known P w K mg base 3 "family" (spF (pFam K C))) (k3 : Known P w K mg base 2 "down" (spF (pDown K))) (k4 : Known P w K mg base 5 "weights_at" (spF (pWts P w K))) (k5 : Known P w K mg base 1 "view_of" (spF (pView2 K))) (k6 : Known P w K mg base 3 "over" (spF (pOver K))) (k7 : Known P w K mg base 4 "add_all" (spF (pSum K))) (k8 : Known P w K mg base 3 "times" (spF (pTimes K))) : Known P w K mg base 6 "quotients_by" (spF (pQby P w K C)) := by
  have S : FnScope ["seen", "tilts", "pattern", "known", "patterns", "found", "shares", "weights", "groups", "content", "view"] ["seen", "tilts"] (defScope (top 61)) := ⟨rfl, rfl, rfl, by decide +kernel, rfl, by decide +kernel, by decide +kernel⟩
  refine known_of T S (fun _ _ _ _ _ _ us hl => match us, hl with | [_, _], _ => rfl) (fun Rs R ⟨_, _, _, h, _⟩ => by rw [h] <;> rfl) fun f cdv A outer s H E hr Rs R hp => ?_
  obtain ⟨sz, kvs, F, rfl, hk, rfl⟩ := hp
  obtain ⟨cn, cc⟩ := contents_ok sz hk.hz
  have c16 := contents_few sz hk.hz
  have szl := (sz_len sz hk.hz).2
  have kperm := ksort_perm true F
  refine hb_parNN 3 4 (fun q => oD P w K q kvs) (fun q => oL K q F) rfl (hn_call k1 hr (ha_cons (he_par (R := rO K C sz kvs) 0 rfl) ha_nil) ⟨sz, kvs, rfl, hk.nd, rfl⟩) (hn_call k2 hr (ha_cons (he_par (R := rO K C sz kvs) 0 rfl) ha_nil) ⟨sz, kvs, F, rfl, hk.fam, rfl⟩) (fun q => ⟨rfl, rfl⟩) (fun q => ⟨rfl, rfl⟩) (fun qk qp => ?_) S.nd (by decide)
  refine hb_parNN 5 6 (fun q => oD P w K q (qAll kvs sz F ((ksort true F).take 0)).1) (fun q => oD P w K q (qAll kvs sz F ((ksort true F).take 0)).2) rfl (hn_xnew (List Int) Rat) (hn_xnew (List Int × List Int) Rat) (fun q => ⟨rfl, rfl⟩) (fun q => ⟨rfl, rfl⟩) (fun qf qs => ?_) S.nd (by decide)
  refine hb_forN (as := ksort true F) (fun _ => [some (cst H (rO K C sz kvs)), some (cst H (rD K (evens sz))), none, some (rEq (.ref qk)), some (rEq (.ref qp)), some (rEq (.ref qf)), some (rEq (.ref qs)), none, none, none, none]) (fun i => [oD P w K qs (qAll kvs sz F ((ksort true F).take i)).2, oD P w K qf (qAll kvs sz F ((ksort true F).take i)).1, oL K qp F, oD P w K qk kvs]) (fun u Γ => Γ.set 2 (some (rD K u))) rfl nox (hn_call k3 hr (ha_cons (he_own (as := F) 4 2 rfl rfl) ha_nil) ⟨F, rfl, ⟨by have := hk.few; omega, hk.short⟩, rfl⟩) (Subg.refl _) (List.Sublist.refl _) (fun u => hg_name 2 S.nd) (fun t qd i p hp => ?_) ?_
  · have hip : i < 20 := by
      have h1 := (List.getElem?_eq_some_iff.mp hp).1
      rw [kperm.length_eq] at h1
      have := hk.few
      omega
    have hso := hk.step i p hp
    have hql := q_len hk.hz kvs F (ksort true F) i
    have pshort : p.length ≤ 100 := hk.short p (kperm.mem_iff.mp (List.mem_of_getElem? hp))
    generalize hz0 : qAll kvs sz F ((ksort true F).take i) = z0 at hso hql ⊢
    have hz1 : qAll kvs sz F ((ksort true F).take (i + 1)) = qStep kvs sz F z0 p := by rw [take_snoc hp, qAll_snoc, hz0]
    rw [hz1]
    generalize hw : wgts sz z0.1 F p = wts at hso
    have wk : wts.map (·.1) = contents sz := by rw [← hw]; exact wgts_keys _ _ _ _
    have wl : wts.length = (contents sz).length := by rw [← wk, List.length_map]
    refine hb_setD (P := P) (w := w) (K := K) (kvs := wts) 7 (by rw [← hw]; exact hn_call k4 hr (ha_cons (he_sizes (kvs := kvs) CK (he_par (R := rO K C sz kvs) 0 rfl)) (ha_cons (he_own (as := F) 4 3 rfl rfl) (ha_cons (he_ownD (kvs := z0.1) 5 2 rfl rfl) (ha_cons (he_var 2 rfl) (ha_cons (he_par (R := rD K (evens sz)) 1 rfl) ha_nil))))) ⟨sz, F, z0.1, p, rfl, hso.wt, rfl⟩) (fun qw => ?_) S.nd
    refine hb_setN 8 (o := fun q => dR P w K q (fun _ => 0) (groupsOf p ((contents sz).take 0))) (hn_xnewR (List Int)) (fun q => ⟨rfl, rfl⟩) (fun qg => ?_) S.nd
    refine hb_forK (ι := Nat → Addr) (fun H v (b : Rat) => Is K H v b) 7 1 (q := qw) (kvs := wts) (fun _ _ => [some (cst H (rO K C sz kvs)), some (cst H (rD K (evens sz))), some (rD K p), some (rEq (.ref qk)), some (rEq (.ref qp)), some (rEq (.ref qf)), some (rEq (.ref qs)), some (rEq (.ref qw)), some (rEq (.ref qg)), none, none]) (fun a j => gD P w K qg (gz a (groupsOf p ((contents sz).take j))) ++ [oL K qd (ksort true F), oD P w K qs z0.2, oD P w K qf z0.1, oL K qp F, oD P w K qk kvs]) (fun _ => 0) (fun u Γ => Γ.set 9 (some (rD K u))) rfl nox rfl rfl (Subg.refl _) (List.Sublist.refl _) (fun u => hg_name 9 S.nd) (fun tt od tb a j c hc => ?_) (fun a => ?_)
    · rw [wk] at hc
      have hcm := List.mem_of_getElem? hc
      obtain ⟨s1, s2, s3⟩ := groups_small p j (contents sz)
      have hj : j < 16 := by have := (List.getElem?_eq_some_iff.mp hc).1; omega
      have gl1 : (gz a (groupsOf p ((contents sz).take j))).length = (groupsOf p ((contents sz).take j)).length := by unfold gz; exact List.length_mapIdx
      have sn : groupsOf p ((contents sz).take (j + 1)) = put (groupsOf p ((contents sz).take j)) (view c p) ((look (groupsOf p ((contents sz).take j)) (view c p)).getD [] ++ [c]) := by rw [take_snoc hc, groupsOf_snoc]; rfl
      refine hb_perm (Δ' := gD P w K qg (gz a (groupsOf p ((contents sz).take j))) ++ (oDF P w K (fun H v (b : Rat) => Is K H v b) qw od tb wts :: [oL K qd (ksort true F), oD P w K qs z0.2, oD P w K qf z0.1, oL K qp F, oD P w K qk kvs])) ?_ List.perm_middle
      refine hb_group (u := view c p) (v := c) 8 rfl (by rw [gz_keys]; exact s2) (hu0 hr) (by decide) (by omega) (fun g hg => ?_) (he_call k5 hr (ha_cons (he_var 9 rfl) (ha_cons (he_var 2 rfl) ha_nil)) ⟨c, p, rfl, by have := (cc c hcm).1; omega, rfl⟩) (he_var 9 rfl) (fun jj ad l hg => ?_) (fun hno ad => ?_) ⟨rfl, rfl, rfl, rfl⟩
      · obtain ⟨jj, hjj⟩ := List.getElem?_of_mem hg
        rw [gz_get] at hjj
        obtain ⟨x, hx, e⟩ := Option.map_eq_some_iff.mp hjj
        have := s3 x (List.mem_of_getElem? hx)
        rw [← e]
        show x.2.length < 9000
        omega
      · obtain ⟨e1, e2⟩ := gz_set (v := l ++ [c]) s2 hg
        rw [e1]
        refine hb_nil fun σ H' s => ⟨a, ?_⟩
        rw [sn, e2]
        exact (s.perm List.perm_middle.symm).sub ⟨rfl, rfl, rfl, rfl, rfl, rfl, rfl, rfl, rfl, trivial⟩
      · rw [gz_keys] at hno
        obtain ⟨e1, e2⟩ := gz_new (a := a) (v := [c]) (ad := ad) hno
        rw [e1]
        refine hb_nil fun σ H' s => ⟨fun jj => if jj = (groupsOf p ((contents sz).take j)).length then ad else a jj, ?_⟩
        rw [sn, e2]
        exact (s.perm List.perm_middle.symm).sub ⟨rfl, rfl, rfl, rfl, rfl, rfl, rfl, rfl, rfl, trivial⟩
    · have wl2 : wts.length ≤ 16 := by omega
      rw [List.take_of_length_le (by omega)]
      obtain ⟨g1, g2, g3⟩ := groups_16 hk.hz p
      have key := hso.key
      have sums := hso.sums
      have ovr := hso.ovr
      have tms := hso.tms
      rw [hw] at sums ovr tms
      unfold qStep
      rw [hw]
      generalize groupsOf p (contents sz) = gr at g1 g2 g3 key sums ovr tms
      have hgl := gr_len kvs p wts z0 gr g3
      have lget : ∀ {j : Nat} {v : List Int} {cs : List (List Int)}, gr[j]? = some (v, cs) → oL K (a j) cs ∈ gl K a gr := fun {j v cs} h => List.mem_map.mpr ⟨(v, a j, cs), List.mem_of_getElem? (i := j) (by rw [gz_get, h] <;> rfl), rfl⟩
      refine hb_perm (Δ' := dR P w K qg a gr :: (oDR P w K (fun H v (b : Rat) => Is K H v b) qw wts :: [oL K qd (ksort true F), oD P w K qs z0.2, oD P w K qf z0.1, oL K qp F, oD P w K qk kvs] ++ gl K a gr)) ?_ ((List.Perm.swap _ _ _).trans (List.Perm.cons _ (List.Perm.cons _ List.perm_append_comm)))
      refine hb_forK (ι := Unit) (fun (_ : Hp) v (b : Addr) => v = V.ref b) 8 0 (q := qg) (kvs := (gz a gr).map fun g => (g.1, g.2.1)) (fun _ _ => [some (cst H (rO K C sz kvs)), some (cst H (rD K (evens sz))), some (rD K p), some (rEq (.ref qk)), some (rEq (.ref qp)), some (rEq (.ref qf)), some (rEq (.ref qs)), some (rEq (.ref qw)), some (rEq (.ref qg)), none, none]) (fun _ j => oD P w K qw wts :: [oL K qd (ksort true F), oD P w K qs ((gr.take j).foldl (grStep kvs p wts) z0).2, oD P w K qf ((gr.take j).foldl (grStep kvs p wts) z0).1, oL K qp F, oD P w K qk kvs] ++ gl K a gr) () (fun u Γ => Γ.set 10 (some (rD K u))) rfl nox rfl rfl (Subg.refl _) (List.Sublist.refl _) (fun u => hg_name 10 S.nd) (fun tt od tb _ j v hv => ?_) (fun _ => ?_)
      · have hv2 : (gr.map (·.1))[j]? = some v := by
          rw [List.map_map] at hv
          exact (gz_keys a gr) ▸ hv
        rw [List.getElem?_map] at hv2
        obtain ⟨g, hg, eg⟩ := Option.map_eq_some_iff.mp hv2
        obtain ⟨v0, cs⟩ := g
        subst eg
        have hgm := List.mem_of_getElem? hg
        have hj : j < 16 := by have := (List.getElem?_eq_some_iff.mp hg).1; omega
        obtain ⟨l1, l2⟩ := hgl j
        have c3 : cs.length ≤ 16 := g3 _ hgm
        have hlook : look ((gz a gr).map fun g => (g.1, g.2.1)) v0 = some (a j) := look_gs (u := v0) (j := j) (l := cs) (by rw [gz_keys]; exact g2) (by rw [gz_get, hg] <;> rfl)
        rw [take_snoc hg, gr_snoc]
        generalize (gr.take j).foldl (grStep kvs p wts) z0 = z1 at l1 l2 ⊢
        have lm : ∀ l1 : List Own, oL K (a j) cs ∈ l1 ++ gl K a gr := fun l1 => List.mem_append_right _ (lget hg)
        have wsome : ∀ c ∈ cs, look wts c = some (lk wts c) := fun c hc => lk_some (by rw [wk]; exact (tms _ hgm c hc).1)
        refine hb_put (κ := List Int) (β := Rat) (kvs := z1.1) (u := v0) (v := qv kvs wts (v0, cs)) 5 4 rfl rfl (hu0 hr) (by decide) (by omega)
          (he_call k6 hr (ha_cons (he_xget (kvs := kvs) (u := v0) (v := lk kvs v0) (hu0 hr) (by decide) (he_ownD 3 6 rfl rfl) (he_var 10 rfl) (fun _ _ => rfl) (lk_some (key _ hgm)))
            (ha_cons (he_call k7 hr (ha_cons (HN.ls (hn_map (as := cs) (lk wts) (fun u Γ => Γ.set 9 (some (rD K u))) [("content", 9)] rfl S.nd (hi_list (he_ownE (he_grp 8 0 rfl rfl (hu0 hr) (by decide) (he_var 10 rfl) (fun _ _ => rfl) hlook) (List.mem_cons_of_mem _ (List.mem_append_right _ (lget hg))))) (by omega) (fun s H0 C cl fp u => hg_name 9 S.nd)
              (fun s H0 C cl fp u hu => he_xget (kvs := wts) (u := u) (hu0 hr) (by decide) (he_ownD 7 1 rfl rfl) (he_var 9 rfl) (fun _ _ => rfl) (wsome u hu)) (by kernel_rfl))) ha_nil) ⟨_, rfl, sums _ hgm, rfl⟩) ha_nil)) ⟨_, _, rfl, ovr _ hgm, rfl⟩) (he_var 10 rfl) ?_
        refine hb_forOE (ι := Unit) (as := cs) (ad := a j) (fun _ _ => [some (cst H (rO K C sz kvs)), some (cst H (rD K (evens sz))), some (rD K p), some (rEq (.ref qk)), some (rEq (.ref qp)), some (rEq (.ref qf)), some (rEq (.ref qs)), some (rEq (.ref qw)), some (rEq (.ref qg)), none, some (rD K v0)]) (fun _ m => oDF P w K (fun (_ : Hp) v (b : Addr) => v = V.ref b) qg od tb ((gz a gr).map fun g => (g.1, g.2.1)) :: oD P w K qw wts :: [oL K qd (ksort true F), oD P w K qs (shrs p (qv kvs wts (v0, cs)) wts (cs.take m) z1.2), oD P w K qf (put z1.1 v0 (qv kvs wts (v0, cs))), oL K qp F, oD P w K qk kvs] ++ gl K a gr) () (fun u Γ => Γ.set 9 (some (rD K u))) rfl nox (he_grp 8 0 rfl rfl (hu0 hr) (by decide) (he_var 10 rfl) (fun _ _ => rfl) hlook) (lm [oDF P w K (fun (_ : Hp) v (b : Addr) => v = V.ref b) qg od tb ((gz a gr).map fun (g : List Int × Addr × List (List Int)) => ((g.1, g.2.1) : List Int × Addr)), oD P w K qw wts, oL K qd (ksort true F), oD P w K qs z1.2, oD P w K qf (put z1.1 v0 (qv kvs wts (v0, cs))), oL K qp F, oD P w K qk kvs]) (Subg.refl _) (List.Sublist.refl _) (fun _ _ => List.mem_cons_of_mem _ (List.mem_append_right _ (lget hg))) (fun u => hg_name 9 S.nd) (fun t3 _ m c hc => ?_) (fun _ => ?_)
        · have hcm := List.mem_of_getElem? hc
          have hm : m < 16 := by have := (List.getElem?_eq_some_iff.mp hc).1; show m < 16; omega
          have sl := shrs_len p (qv kvs wts (v0, cs)) wts z1.2 m cs
          have lkp : look (put z1.1 v0 (qv kvs wts (v0, cs))) v0 = some (qv kvs wts (v0, cs)) := look_put_same
          refine hb_put (κ := List Int × List Int) (β := Rat) (kvs := shrs p (qv kvs wts (v0, cs)) wts (cs.take m) z1.2) (u := (c, p)) (v := qv kvs wts (v0, cs) * lk wts c) 6 3 rfl rfl (hu0 hr) (by decide) (by omega)
            (he_call k8 hr (ha_cons (he_xget (kvs := put z1.1 v0 (qv kvs wts (v0, cs))) (u := v0) (hu0 hr) (by decide) (he_ownD 5 4 rfl rfl) (he_var 10 rfl) (fun _ _ => rfl) lkp) (ha_cons (he_xget (kvs := wts) (u := c) (hu0 hr) (by decide) (he_ownD 7 1 rfl rfl) (he_var 9 rfl) (fun _ _ => rfl) (wsome c hcm)) ha_nil)) ⟨_, _, rfl, (tms _ hgm c hcm).2, rfl⟩) (he_pair (he_var 9 rfl) (he_var 2 rfl)) (hb_nil fun σ H' s => ⟨(), ?_⟩)
          dsimp only
          rw [take_snoc hc, shrs_snoc]
          exact s.sub ⟨rfl, rfl, rfl, rfl, rfl, rfl, rfl, rfl, rfl, rfl, trivial⟩
        · rw [List.take_length]
          exact hb_nil fun σ H' s => ⟨(), s.sub ⟨rfl, rfl, rfl, rfl, rfl, rfl, rfl, rfl, rfl, trivial⟩⟩
      · have gzl : ((gz a gr).map fun g => (g.1, g.2.1)).length = gr.length := by rw [List.length_map]; unfold gz; exact List.length_mapIdx
        rw [gzl, List.take_length]
        refine hb_nil fun σ H' s => ?_
        refine s.subd ⟨rfl, rfl, rfl, rfl, rfl, rfl, trivial⟩ ?_
        refine List.Sublist.cons _ (List.Sublist.cons _ ?_)
        exact (List.sublist_append_left _ (gl K a gr))
  · rw [List.take_length]
    exact hb_rt2 (o1 := oD P w K qf (qAll kvs sz F (ksort true F)).1) (o2 := oD P w K qs (qAll kvs sz F (ksort true F)).2) 5 6 1 0 rfl rfl rfl rfl rfl rfl (by decide) (C1 := CD P w K (qAll kvs sz F (ksort true F)).1) (C2 := CD P w K (qAll kvs sz F (ksort true F)).2) rfl rfl fun v H' e r => ⟨e, r⟩
end
end CB
end
section
set_option Elab.async false
set_option linter.all false
set_option maxRecDepth 100000
set_option maxHeartbeats 2000000
set_option exponentiation.threshold 100
namespace CB
open PySem PySem.Spec PyProof.Rows L2 Enc
section
variable {P : Program} {w : World} {K : PySem.W.Frag} {mg : Str → Option Value} {base : Heap}
theorem hb_expr [Tbs] {X : Cx} {B : Bs} {Γ : Gam} {Δ : List Own} {e : Expr} {R : Rel} {pos : Pos} {rest : List Stmt} {D : Ends} (he : HE X (SS B Γ Δ) e R) (h : HB X (SS B Γ Δ) rest D) (hs : swapsWith e none pos.line X.env = pure false := by rfl) : HB X (SS B Γ Δ) (.Expr e pos :: rest) D :=
  hb_of (ps_expr pe_w hs) fun σ H s => (he σ H s).mono fun v H1 ⟨e1, _⟩ => h σ H1 (Stab.up s e1)
theorem q_few {sz : List Int} {kvs : List (List Int × Rat)} {F : List (List Int)} (hk : QOk sz kvs F) : (qAll kvs sz F (ksort true F)).1.length ≤ 320 ∧ (qAll kvs sz F (ksort true F)).2.length ≤ 5120 := by
  have h := q_len hk.hz kvs F (ksort true F) (ksort true F).length
  rw [List.take_length, (ksort_perm true F).length_eq] at h
  have := hk.few
  omega
abbrev pCalm (K : PySem.W.Frag) (C C2 : Addr) : PR := fun Rs R => ∃ (sz : List Int) (kvs : List (List Int × Rat)) (F : List (List Int)), Rs = [rO K C sz kvs] ∧ QOk sz kvs F ∧ R = rNew (CO K C2 sz (srt (qAll kvs sz F (ksort true F)).2))
theorem k_calm_of [Tbs] {C C2 fi fe : Addr} (T : Has K mg 62 "calm_of") (CK : ClsK K mg "Seen" C fi fe) (k1 : Known P w K mg base 1 "even_tilts" (spF (pEven K))) (k2 : Known P w K mg base 6 "quotients_by" (spF (pQby P w K C))) (k3 : Known P w K mg base 11 "raw_whole" (spF (pRaw P w K C2 (List Int × List Int)))) : Known P w K mg base 12 "calm_of" (spF (pCalm K C C2)) := by
  have S : FnScope ["seen"] ["seen"] (defScope (top 62)) := ⟨rfl, rfl, rfl, by decide +kernel, rfl, by decide +kernel, by decide +kernel⟩
  refine known_of T S (fun _ _ _ _ _ _ us hl => match us, hl with | [_], _ => rfl) (fun Rs R ⟨_, _, _, h, _⟩ => by rw [h] <;> rfl) fun f cdv A outer s H E hr Rs R hp => ?_
  obtain ⟨sz, kvs, F, rfl, hk, rfl⟩ := hp
  exact hb_rtN (hn_call k3 hr (ha_cons (he_sizes (kvs := kvs) CK (he_par (R := rO K C sz kvs) 0 rfl)) (ha_cons (HN.ds (hn_call_snd (fun q => oD P w K q (qAll kvs sz F (ksort true F)).2) k2 hr (ha_cons (he_par (R := rO K C sz kvs) 0 rfl) (ha_cons (he_call k1 hr (ha_cons (he_sizes (kvs := kvs) CK (he_par (R := rO K C sz kvs) 0 rfl)) ha_nil) ⟨sz, rfl, hk.hz, rfl⟩) ha_nil)) ⟨sz, kvs, F, rfl, hk, rfl⟩ (fun q => rfl))) ha_nil)) ⟨sz, _, rfl, by have := (q_few hk).2; omega, rfl⟩) fun q H' e n c => ⟨e, q, rfl, n, c⟩
structure CalmOk (sz : List Int) (kvs : List (List Int × Rat)) (F : List (List Int)) : Prop where
  q : QOk sz kvs F
  told : ToldOk sz kvs F
abbrev pCalmW (K : PySem.W.Frag) (C C2 : Addr) : PR := fun Rs R => ∃ (sz : List Int) (kvs : List (List Int × Rat)) (F : List (List Int)), Rs = [rO K C sz kvs] ∧ CalmOk sz kvs F ∧ R = rNew (CO K C2 sz (srt (qAll kvs sz F (ksort true F)).2))
theorem k_calm_whole [Tbs] {C C2 : Addr} (T : Has K mg 63 "calm_whole") (k1 : Known P w K mg base 5 "check_told" (spF (pTold K C))) (k2 : Known P w K mg base 12 "calm_of" (spF (pCalm K C C2))) : Known P w K mg base 13 "calm_whole" (spF (pCalmW K C C2)) := by
  have S : FnScope ["seen"] ["seen"] (defScope (top 63)) := ⟨rfl, rfl, rfl, by decide +kernel, rfl, by decide +kernel, by decide +kernel⟩
  refine known_of T S (fun _ _ _ _ _ _ us hl => match us, hl with | [_], _ => rfl) (fun Rs R ⟨_, _, _, h, _⟩ => by rw [h] <;> rfl) fun f cdv A outer s H E hr Rs R hp => ?_
  obtain ⟨sz, kvs, F, rfl, hk, rfl⟩ := hp
  refine hb_expr (he_call (R := rN) k1 hr (ha_cons (he_par (R := rO K C sz kvs) 0 rfl) ha_nil) ⟨sz, kvs, F, rfl, ⟨hk.told, by have := hk.q.few; omega⟩, rfl⟩) ?_
  exact hb_rtN (hn_call k2 hr (ha_cons (he_par (R := rO K C sz kvs) 0 rfl) ha_nil) ⟨sz, kvs, F, rfl, hk.q, rfl⟩) fun q H' e n c => ⟨e, q, rfl, n, c⟩
abbrev pPart (K : PySem.W.Frag) (C C2 : Addr) : PR := fun Rs R => ∃ (sz : List Int) (kvs : List ((List Int × List Int) × Rat)) (F : List (List Int)), Rs = [rO K C2 sz kvs] ∧ (HidOk kvs ∧ CalmOk sz (srt (hidOf kvs)) F) ∧ R = rNew (CO K C2 sz (srt (qAll (srt (hidOf kvs)) sz F (ksort true F)).2))
theorem k_calm_part [Tbs] {C C2 : Addr} (T : Has K mg 67 "calm_part") (k1 : Known P w K mg base 12 "hidden" (spF (pHid P w K C2 C))) (k2 : Known P w K mg base 13 "calm_whole" (spF (pCalmW K C C2))) : Known P w K mg base 14 "calm_part" (spF (pPart K C C2)) := by
  have S : FnScope ["whole"] ["whole"] (defScope (top 67)) := ⟨rfl, rfl, rfl, by decide +kernel, rfl, by decide +kernel, by decide +kernel⟩
  refine known_of T S (fun _ _ _ _ _ _ us hl => match us, hl with | [_], _ => rfl) (fun Rs R ⟨_, _, _, h, _⟩ => by rw [h] <;> rfl) fun f cdv A outer s H E hr Rs R hp => ?_
  obtain ⟨sz, kvs, F, rfl, ⟨hh, hk⟩, rfl⟩ := hp
  exact hb_rtN (hn_call k2 hr (ha_cons (HN.he (R := rO K C sz (srt (hidOf kvs))) (hn_call k1 hr (ha_cons (he_par (R := rO K C2 sz kvs) 0 rfl) ha_nil) ⟨sz, kvs, rfl, hh, rfl⟩) fun p H h => h.ro) ha_nil) ⟨sz, _, F, rfl, hk, rfl⟩) fun q H' e n c => ⟨e, q, rfl, n, c⟩
end
end CB
end
section
set_option Elab.async false
set_option linter.all false
set_option maxRecDepth 100000
set_option maxHeartbeats 2000000
/-! Z. dict comprehensions whose keys are nested tuples. -/
namespace CB
open PySem PySem.Spec PyProof.Rows L2 Enc
theorem nroom0 {P : Program} {w : World} {A : Around} (hu : A.units + 16 < cLine) : (nestedKind P w).room A := by
  show A.units + 8 < cLine
  omega
theorem dx_dictSet {X : Cx} {pins : List (Addr × Obj)} {σ : L2.St} {H : Hp} {s : Shared} {d b : Addr} {t : Raw} {k : NestedKey} {v : V} {r : Value} {E : Value → Shared → Prop} {Q : Unit → Shared → Prop} (hu : X.A.units + 16 < cLine) (I : Inv X pins σ H s) (h : H d = some (DO X.prog X.w d t)) (ks : KeysOk X.K H t) (hk : Im X.K H k (.ref b)) (hd : k.depth ≤ 8) (hl : t.length < sizeLine) (rv : RelV v r)
    (q : ∀ s', Inv X pins σ (upd H d (DO X.prog X.w d (rput t k b v))) s' → Q () s') : wpAny (model X.prog X.w) X.A (dictSet d (.ref b) r) Q E s := by
  obtain ⟨z, hs, xs, rel, dd⟩ := CB.Inv.dict I (.inl h) ks
  have few : xs.length ≤ sizeLine := by rw [← Paired.length rel]; exact z
  have few2 : (rput t k b v).length ≤ sizeLine := by have := length_rput t k b v; omega
  refine wpAny_dictSet_heap (hsz := few) (nroom0 hu) (nested_is I hk hd) dd fun h' dd' hsb => q _ ?_
  obtain ⟨o, es, ep, ho, h2, h3, h4, _, h5⟩ := dd'
  exact d_write I (by rw [h]; exact True.intro) hsb ⟨o, ho⟩ (dphi_ok ⟨few2, hs, _, rel.put k rv, o, es, ep, ho, h2, h3, h4, h5⟩)
/-- {k: v for tg in it}: D the new dict -/
def tDcX (P : Program) (w : World) (K : PySem.W.Frag) (wi : TI) (g : TG) (tk tv : TE) (vs : List Nat) : TE := fun σ H Q => wi σ H fun J H1 => ∀ D, H1 D = none → ∃ W : Nat → Nat → Hp → Prop, (∃ m, W 0 m (upd H1 D (DO P w D []))) ∧ ∀ i m H, W i m H →
  (J.stop i H ∧ Q (.ref D) H) ∨ (J.go i H ∧ ∃ Nx : Hp → Prop, (∀ H', Nx H' → ∃ m', m' < m ∧ W (i + 1) m' H') ∧ ∀ x H', J.yld i H x H' → g x (wipe σ vs) H' fun σ2 H2 => wipe σ2 vs = wipe σ vs ∧
    tk σ2 H2 fun y H4 => tv σ2 H4 fun z H5 => ∃ t b k, y = .ref b ∧ H5 D = some (DO P w D t) ∧ KeysOk K H5 t ∧ Im K H5 k (.ref b) ∧ k.depth ≤ 8 ∧ t.length < sizeLine ∧ Nx (upd H5 D (DO P w D (rput t k b z))))
variable {X : Cx}
theorem pe_dcX {kx vx tg it : Expr} {sc : Scope} {own : List (Str × Nat)} {pos : Pos} {wi : TI} {g : TG} {tk tv : TE} (hc : X.calm = true) (hu : X.A.units + 40 < cLine) (hN : X.N.Nodup) (hi : PI X tg it wi) (ok : BlkOk X.N X.env.scope sc own)
    (hg : ∀ s H C cl fp, PG (Bk X sc s H C cl fp) tg g) (hk : ∀ s H C cl fp, PE (Bk X sc s H C cl fp) kx tk) (he : ∀ s H C cl fp, PE (Bk X sc s H C cl fp) vx tv) (hs : ∀ x, foldedSetIterable it X.env x = pure x := by intro _; rfl) :
    PE X (.DictComp kx vx [⟨tg, it, [], 0⟩] sc pos) (tDcX X.prog X.w X.K wi g tk tv (own.map (·.2))) := ⟨fun pins s σ H Q I hq => by
  have free : ∀ y ∈ sc.names, y.2 = .free → ∃ c, X.env.cells.lookup y.1 = some c := fun y hy e => (ok.free y hy e).elim (fun z => I.ok.has _ (.inl z)) fun z => I.ok.has _ (.inr z)
  rw [arm_eval_DictComp]
  refine wpAny_comprehension_free (use := none) rfl hs (closure_ok free) ok.kind (fun y hy e => by rw [ok.uniq y hy, e]) (thn (hi.run pins s σ H _ I hq) fun _ s1 hx => thn hx fun _ s2 ⟨itr, fp, tn, J, H2, eit, I2, T, st2, f2, hD⟩ => ?_)
  subst eit
  refine wpAny_newObj_type (newEnv_comp ?_)
  have D0 : H2 s2.heap.objs.size = none := I2.hok.fresh (Nat.le_refl _)
  obtain ⟨W, ⟨m0, w0⟩, turn⟩ := hD _ D0
  have I3 : Inv X pins σ (upd H2 s2.heap.objs.size (DO X.prog X.w s2.heap.objs.size [])) { s2 with heap := s2.heap.push { cls := .type "dict", data := .dict #[] } } :=
    I2.laid (t' := s2.toks) (fun _ _ q => Heap.get?_push_of_some _ q) (Nat.le_refl _) (dphi_ok ⟨Nat.zero_le _, beq_eq_false_iff_ne.mpr (Ne.symm (Nat.ne_of_lt I2.big)), [], .nil, _, #[], 0, Heap.get?_push_size _ rfl, ⟨rfl, rfl, rfl⟩, rfl, rfl, List.nodup_nil⟩)
  have below : ∀ b ∈ fp, b < s2.heap.objs.size := fun b hb => (T.obj _ _ st2 b hb).elim fun _ z => Heap.lt_size z.1
  have keep3 : ∀ b ∈ fp, FpOk X pins (upd H2 s2.heap.objs.size (DO X.prog X.w s2.heap.objs.size [])) b ∧ b < (s2.heap.push { cls := .type "dict", data := .dict #[] }).objs.size := fun b hb => by
    refine ⟨⟨?_, (f2 b hb).2⟩, ?_⟩
    · rw [upd_ne (Nat.ne_of_lt (below b hb))]
      exact (f2 b hb).1
    · rw [Heap.size_push]
      exact Nat.lt_succ_of_lt (below b hb)
  have st3 := T.keep _ _ _ st2 fun b _ o e => (Heap.get?_push_of_some { cls := .type "dict", data := .dict #[] } e)
  generalize hDD : s2.heap.objs.size = D at D0 w0 turn I3 keep3 ⊢
  generalize hs3 : ({ s2 with heap := s2.heap.push { cls := .type "dict", data := .dict #[] } } : Shared) = s3 at I3 ⊢
  have hp3 : s3.heap = s2.heap.push { cls := .type "dict", data := .dict #[] } := by rw [← hs3]
  rw [← hp3] at keep3 st3
  generalize hH3 : upd H2 D (DO X.prog X.w D []) = H3 at I3 keep3 w0
  have I4 := block_start I3 ok hN keep3
  have pg := hg s3 H3 s3.heap.objs.size (cellsFrom (s3.heap.objs.size + 1) sc.names (cloFrom X.env.cells sc.names [])) fp
  have pk := hk s3 H3 s3.heap.objs.size (cellsFrom (s3.heap.objs.size + 1) sc.names (cloFrom X.env.cells sc.names [])) fp
  have pv := he s3 H3 s3.heap.objs.size (cellsFrom (s3.heap.objs.size + 1) sc.names (cloFrom X.env.cells sc.names [])) fp
  show codeAny _ _ (.compStart (.DictComp kx vx [⟨tg, it, [], 0⟩] sc pos) 0 (.ref itr) (.ref D) (compEnvC sc (cellsFrom (s3.heap.objs.size + 1) sc.names (cloFrom X.env.cells sc.names [])) s3.heap.objs.size X.env)) _ { s3 with heap := pushCells (s3.heap.push { cls := .type "dict", data := .dict #[] }) sc.names }
  generalize hs4 : ({ s3 with heap := pushCells (s3.heap.push { cls := .type "dict", data := .dict #[] }) sc.names } : Shared) = s4 at I4 ⊢
  have st4 : tn 0 s4.heap := T.keep _ _ _ st3 fun b _ o e => by rw [← hs4]; exact pushCells_keeps _ _ _ _ (Heap.get?_push_of_some _ e)
  have nofp : ∀ b ∈ fp, H3 b = none := fun b hb => (keep3 b hb).1.1
  have fpk : ∀ {σ' : L2.St} {H' : Hp} {s' : Shared}, Inv (Bk X sc s3 H3 s3.heap.objs.size (cellsFrom (s3.heap.objs.size + 1) sc.names (cloFrom X.env.cells sc.names [])) fp) [] σ' H' s' → (∀ b ∈ fp, H' b = none) → ∀ b ∈ fp, FpOk (Bk X sc s3 H3 s3.heap.objs.size (cellsFrom (s3.heap.objs.size + 1) sc.names (cloFrom X.env.cells sc.names [])) fp) [] H' b := fun J' n b hb =>
    ⟨n b hb, (J'.ok.exf b hb).1, J'.ok.exfs b hb, .inl hb, fun x c e => (J'.ok.exf b hb).2 x c e, fun p hp => (nomatch (show p ∈ ([] : List (Addr × Obj)) from hp))⟩
  refine codeAny_compStart_dict ?_ (T.self X.A 0 _ _ _ st4 ?_) <;> refine compLoop_anyD (fun n s' => ∃ i H', Inv (Bk X sc s3 H3 s3.heap.objs.size (cellsFrom (s3.heap.objs.size + 1) sc.names (cloFrom X.env.cells sc.names [])) fp) [] (wipe σ (own.map (·.2))) H' s' ∧ tn i s'.heap ∧ (∀ b ∈ fp, H' b = none) ∧ W i n H') ?_ m0 ⟨0, H3, I4, st4, nofp, w0⟩
  all_goals
    rintro n s5 ⟨i, H5, I5, st5, n5, w5⟩
    rcases turn i n H5 w5 with ⟨stop, fin⟩ | ⟨go, Nx, less, step⟩
    · refine thnF (T.done (Bk X sc s3 H3 s3.heap.objs.size (cellsFrom (s3.heap.objs.size + 1) sc.names (cloFrom X.env.cells sc.names [])) fp) rfl rfl rfl hc i [] s5 _ H5 (fun _ _ => False) I5 (fpk I5 n5) st5 stop) fun r s6 ⟨hr, I6⟩ => ?_
      subst hr
      have I7 : Inv X pins σ H5 s6 := I3.call' (ch := fp) I6.os I6.base I6.hok I6.bare fun b hb => ⟨(keep3 b hb).1.2.2.2.1, (keep3 b hb).1.2.1, (keep3 b hb).1.2.2.2.2.1, (keep3 b hb).1.2.2.2.2.2⟩
      have nC : H5 s3.heap.objs.size = none := I6.free
      obtain ⟨m, hn, _⟩ := I6.loc
      have hn : s6.heap.Ns s3.heap.objs.size m := hn
      refine ⟨m, hn, fun h'' sb => ?_⟩
      obtain ⟨f0, f1, f2, f3, f4, f5⟩ := I3.fpOk (Nat.le_refl _) nC
      exact ⟨.ref D, H5, I7.turned (t' := s6.toks) (fun b o hb e => (sb.2 b hb).trans e) f0 f1 f3 f4 f5, rfl, fin⟩
    · refine thnF (T.item (Bk X sc s3 H3 s3.heap.objs.size (cellsFrom (s3.heap.objs.size + 1) sc.names (cloFrom X.env.cells sc.names [])) fp) rfl rfl rfl hc i [] s5 _ H5 (fun _ _ => False) I5 (fpk I5 n5) st5 go) fun r s6 ⟨u, hr, h6⟩ => ?_
      subst hr
      refine thnF h6 fun _ s7 ⟨x, H7, I7, r7, y7, st7, n7⟩ => ?_
      refine thnF (pg.run _ s7 _ H7 x u _ (I7.pinned (fpk I7 n7) (T.obj _ _ st7)) r7 (step x H7 y7)) fun _ s8 ⟨σ8, H8, I8, hw8, q8⟩ => ?_
      refine thnF ((pts_nil (X := (Bk X sc s3 H3 s3.heap.objs.size (cellsFrom (s3.heap.objs.size + 1) sc.names (cloFrom X.env.cells sc.names [])) fp))).run _ s8 σ8 H8 (fun b H' => b = true ∧ H' = H8) I8 ⟨rfl, rfl⟩) fun b s9 ⟨H9, I9, eb, eh⟩ => ?_
      subst eb eh
      rw [if_pos rfl]
      refine thnF (pk.run _ s9 σ8 _ _ I9 q8) fun zk s10 ⟨yk, H10, I10, r10, q10⟩ => ?_
      refine thnF (pv.run _ s10 σ8 H10 _ I10 q10) fun zv s11 ⟨yv, H11, I11, r11, t, b, k, ek, hDt, ks, hkb, hkd, htl, nx⟩ => ?_
      subst ek
      obtain rfl : zk = Value.ref b := r10
      refine dx_dictSet (X := Bk X sc s3 H3 s3.heap.objs.size (cellsFrom (s3.heap.objs.size + 1) sc.names (cloFrom X.env.cells sc.names [])) fp) (show X.A.units + 16 < cLine by omega) I11 hDt ks hkb hkd htl r11 fun s12 I12 => ?_
      obtain ⟨m', hm, w'⟩ := less _ nx
      have same : ∀ y ∈ fp, ∀ o, s7.heap.get? y = some o → s12.heap.get? y = some o ∧ upd H11 D (DO X.prog X.w D (rput t k b yv)) y = none := fun y hy o e =>
        let z := I12.pin (y, o) (List.mem_append_right _ (List.mem_append_right _ (mem_pinsAt hy e)))
        ⟨z.1, z.2.1⟩
      have ll : (wipe σ (own.map (·.2))).length = σ8.length := by rw [← hw8, wipe_length]
      exact ⟨m', hm, i + 1, _, (I12.unpinned (pins := [])).weak ll (fun j v e => by rw [← hw8] at e; exact (wipe_some e).1), T.keep _ _ _ st7 fun y hy o e => (same y hy o e).1, fun y hy => (T.obj _ _ st7 y hy).elim fun o z => (same y hy o z.1).2, w'⟩⟩
/-- what the comprehension puts -/
def dcf {α κ β : Type} [DecidableEq κ] (kf : α → κ) (vf : α → β) (as : List α) : List (κ × β) := as.foldl (fun m u => put m (kf u) (vf u)) []
theorem dcf_snoc {α κ β : Type} [DecidableEq κ] (kf : α → κ) (vf : α → β) (as : List α) (u : α) : dcf kf vf (as ++ [u]) = put (dcf kf vf as) (kf u) (vf u) := by unfold dcf; rw [List.foldl_append]; rfl
theorem dcf_len {α κ β : Type} [DecidableEq κ] (kf : α → κ) (vf : α → β) : ∀ (n : Nat) (as : List α), (dcf kf vf (as.take n)).length ≤ n
  | 0, as => by rw [List.take_zero] <;> exact Nat.le_refl 0
  | n + 1, as => by
    have h2 := dcf_len kf vf n as
    cases h : as[n]? with
    | none =>
      have := List.getElem?_eq_none_iff.mp h
      rw [List.take_of_length_le (by omega)]
      rw [List.take_of_length_le (by omega)] at h2
      omega
    | some a =>
      rw [take_snoc h, dcf_snoc]
      have h1 := length_put (dcf kf vf (as.take n)) (kf a) (vf a)
      omega
theorem hn_dc [Tbs] {α κ β : Type} [Enc α] [Enc κ] [Enc β] [DecidableEq κ] [TupE κ] {as : List α} {kx vx tg it : Expr} {sc : Scope} {pos : Pos} {B : Bs} {Γ : Gam} {Δ : List Own} (kf : α → κ) (vf : α → β) (f : α → Gam → Gam) (own : List (Str × Nat)) (hc : X.calm = true) (hu : X.A.units + 40 < cLine) (hN : X.N.Nodup) (hd : dp κ ≤ 8)
    (hi : HIt Ex X (SS B Γ Δ) tg it as) (hl : as.length ≤ 9000) (hg : ∀ s H0 C cl fp u, HG (Bk X sc s H0 C cl fp) tg (rD X.K u) (f u) (own.map (·.2)))
    (hk : ∀ s H0 C cl fp u, u ∈ as → HE (Bk X sc s H0 C cl fp) (SS B (f u Γ) Δ) kx (rD X.K (kf u))) (hv : ∀ s H0 C cl fp u, u ∈ as → HE (Bk X sc s H0 C cl fp) (SS B (f u Γ) Δ) vx (rD X.K (vf u)))
    (ok : blkC X.N X.env.scope sc own = true) (hfr : freeAt Γ (own.map (·.2)) = true := by rfl) (hs : ∀ z, foldedSetIterable it X.env z = pure z := by intro _; rfl) :
    HN X (SS B Γ Δ) (.DictComp kx vx [⟨tg, it, [], 0⟩] sc pos) (CD X.prog X.w X.K (dcf kf vf as)) :=
  hn_of (pe_dcX (wi := wI X tg it) (g := uG X sc tg) (tk := uE X sc kx) (tv := uE X sc vx) (own := own) hc hu hN pi_w (blkOk_by ok) (fun s H C cl fp => ⟨fun pins sh σ H' v u Q I r h => h s H C cl fp pins sh u I r⟩)
    (fun s H C cl fp => ⟨fun pins sh σ H' Q I h => h s H C cl fp pins sh I⟩) (fun s H C cl fp => ⟨fun pins sh σ H' Q I h => h s H C cl fp pins sh I⟩) hs) fun σ H s => hi σ H s _ fun J H1 G e1 w g0 gk D hD => by
    have s1 := Stab.up s e1
    refine ⟨fun i m H' => m = as.length - i ∧ i ≤ as.length ∧ Ex H1 H' ∧ CD X.prog X.w X.K (dcf kf vf (as.take i)) D H', ⟨as.length, by omega, Nat.zero_le _, Ex.new hD, [], upd_same, .nil⟩, ?_⟩
    rintro i m H' ⟨rfl, hle, ex, t, h1, h2⟩
    have gH := gk H1 H' g0 ex
    by_cases hlt : i < as.length
    · refine .inr ⟨w.goes i H' hlt gH, fun H'' => Ex H1 H'' ∧ CD X.prog X.w X.K (dcf kf vf (as.take (i + 1))) D H'', fun H'' p => ⟨as.length - (i + 1), by omega, rfl, hlt, p⟩, fun x Hb y => ?_⟩
      obtain ⟨e2, u, hu2, ru⟩ := w.yields i H' x Hb hlt gH y
      have hm : u ∈ as := List.mem_of_getElem? hu2
      have sb : SS B Γ Δ (wipe σ (own.map (·.2))) Hb := (Stab.up s1 (ex.trans e2)).wiped hfr
      intro ss H0 C cl fp pins sh uu I rv
      refine thn (hg ss H0 C cl fp u B Γ Δ _ Hb x sb ru pins sh uu I rv) fun _ s3 ⟨σ2, H2, I2, r1, r2, r3, r4⟩ => ⟨σ2, H2, I2, ?_⟩
      subst r1
      refine ⟨(wipe_ext r3 r4).trans wipe_wipe, fun ss H0 C cl fp => (hk ss H0 C cl fp u hm σ2 H2 r2).mono fun yk H3 ⟨e3, ry⟩ => fun ss H0 C cl fp => (hv ss H0 C cl fp u hm σ2 H3 (Stab.up r2 e3)).mono fun z H4 ⟨e4, rz⟩ => ?_⟩
      obtain ⟨b, rfl⟩ := key_ref ry
      have e5 := e2.trans (e3.trans e4)
      have hD4 : H4 D = some (DO X.prog X.w D t) := e5.at_ h1 (pl_DO (p := D)).1
      have d4 := h2.upT (Lt.of e5)
      have lt : Lt H4 (upd H4 D (DO X.prog X.w D (rput t (enc (kf u)) b z))) := Lt.put hD4 loose_ext
      have ky : rD X.K (kf u) H4 (.ref b) := Mon.up e4 ry
      have few := dcf_len kf vf i as
      refine ⟨t, b, enc (kf u), rfl, hD4, d4.keys hd, ky, Nat.le_trans (Enc.le (kf u)) hd, by rw [d4.length, sizeLine_eq]; omega, (ex.trans e5).mut hD hD4 pl_DO, _, upd_same, ?_⟩
      rw [take_snoc hu2, dcf_snoc]
      exact DR.upT (d4.put (b := vf u) ky rz) lt
    · have e : i = as.length := by omega
      subst e
      rw [List.take_length] at h2
      exact .inl ⟨w.stops H' gH, e1.trans ex, D, rfl, none_of_ex e1 hD, t, h1, h2⟩
end CB
end
section
set_option Elab.async false
set_option linter.all false
set_option maxRecDepth 100000
set_option maxHeartbeats 2000000
set_option exponentiation.threshold 100
namespace CB
open PySem PySem.Spec PyProof.Rows L2 Enc
section
variable {P : Program} {w : World} {K : PySem.W.Frag} {mg : Str → Option Value} {base : Heap}
/-- the quotients told -/
def qof (sz : List Int) (kvs : List (List Int × Rat)) (F : List (List Int)) : List (List Int × Rat) := dcf (fun v => v) (fun v => if pat v = rgL 0 (sz.length : Int) then lk kvs v else lk (qAll kvs sz F (ksort true F)).1 v) ((qAll kvs sz F (ksort true F)).1.map (·.1))
structure QfOk (sz : List Int) (kvs : List (List Int × Rat)) (F : List (List Int)) : Prop where
  q : QOk sz kvs F
  key : ∀ v ∈ (qAll kvs sz F (ksort true F)).1.map (·.1), v.length ≤ 1000 ∧ v ∈ kvs.map (·.1)
abbrev pQof (P : Program) (w : World) (K : PySem.W.Frag) (C : Addr) : PR := fun Rs R => ∃ (sz : List Int) (kvs : List (List Int × Rat)) (F : List (List Int)), Rs = [rO K C sz kvs] ∧ QfOk sz kvs F ∧ R = rNew (CD P w K (qof sz kvs F))
theorem k_quotients_of [Tbs] {C fi fe : Addr} (T : Has K mg 64 "quotients_of") (Bm : Bi mg) (CK : ClsK K mg "Seen" C fi fe) (k1 : Known P w K mg base 1 "even_tilts" (spF (pEven K))) (k2 : Known P w K mg base 6 "quotients_by" (spF (pQby P w K C))) (k3 : Known P w K mg base 1 "shares_of" (spF (pShOf P w K C))) (k4 : Known P w K mg base 1 "pattern_of" (spF (pPat K))) : Known P w K mg base 7 "quotients_of" (spF (pQof P w K C)) := by
  have S : FnScope ["seen", "full", "known", "found", "shares", "view"] ["seen"] (defScope (top 64)) := ⟨rfl, rfl, rfl, by decide +kernel, rfl, by decide +kernel, by decide +kernel⟩
  refine known_of T S (fun _ _ _ _ _ _ us hl => match us, hl with | [_], _ => rfl) (fun Rs R ⟨_, _, _, h, _⟩ => by rw [h] <;> rfl) fun f cdv A outer s H E hr Rs R hp => ?_
  obtain ⟨sz, kvs, F, rfl, hk, rfl⟩ := hp
  have szl := (sz_len sz hk.q.hz).2
  have few := (q_few hk.q).1
  have hkey := hk.key
  unfold qof
  generalize hz : qAll kvs sz F (ksort true F) = z at few hkey ⊢
  refine hb_call2 (p2 := ⟨0, 0, 0, 0⟩) 3 4 (fun q => oD P w K q z.1) (fun q => oD P w K q z.2) rfl k2 hr (ha_cons (he_par (R := rO K C sz kvs) 0 rfl) (ha_cons (he_call k1 hr (ha_cons (he_sizes (kvs := kvs) CK (he_par (R := rO K C sz kvs) 0 rfl)) ha_nil) ⟨sz, rfl, hk.q.hz, rfl⟩) ha_nil)) ⟨sz, kvs, F, rfl, hk.q, by rw [hz] <;> rfl⟩ (fun q => ⟨rfl, rfl⟩) (fun q => ⟨rfl, rfl⟩) (fun qf qs => ?_) S.nd (by decide)
  refine hb_set (R := rD K (rgL 0 (sz.length : Int))) 1 (he_tupRg rfl Bm (he_lenT (K := K) Bm (he_sizes (kvs := kvs) CK (he_par (R := rO K C sz kvs) 0 rfl))) (by omega) (by omega)) ?_ S.nd
  refine hb_setD (P := P) (w := w) (K := K) (kvs := kvs) 2 (hn_call k3 hr (ha_cons (he_par (R := rO K C sz kvs) 0 rfl) ha_nil) ⟨sz, kvs, rfl, hk.q.nd, rfl⟩) (fun qk => ?_) S.nd
  refine hb_rtN (hn_lockD (q := qf) (kvs := z.1) (fun q => oD P w K q (dcf (fun v : List Int => v) (fun v => if pat v = rgL 0 (sz.length : Int) then lk kvs v else lk z.1 v) (z.1.map (fun x : List Int × Rat => x.1)))) (fun q => rfl) (fun H v (b : Rat) => Is K H v b) 2 rfl fun od t => hn_dc (fun v => v) (fun v => if pat v = rgL 0 (sz.length : Int) then lk kvs v else lk z.1 v) (fun u Γ => Γ.set 5 (some (rD K u))) [("view", 5)] rfl (hu0 hr) S.nd (by decide) (hi_keys (q := qf) (od := od) (t := t) (kvs := z.1) (fun H v (b : Rat) => Is K H v b) 2 rfl (he_var 3 rfl)) (by rw [List.length_map]; omega) (fun s H0 C cl fp u => hg_name 5 S.nd)
    (fun s H0 C cl fp u hu => he_var 5 rfl) (fun s H0 C cl fp u hu => ?_) (by kernel_rfl)) fun q H' e n c => ⟨e, q, rfl, n, c⟩
  obtain ⟨v1, v2⟩ := hkey u hu
  refine he_if (ht_c (hc_eqE (u := pat u) (v := rgL 0 (sz.length : Int)) (hu0 hr) (by decide) (he_call k4 hr (ha_cons (he_var 5 rfl) ha_nil) ⟨u, rfl, v1, rfl⟩) (he_var 1 rfl))) (fun h => ?_) (fun h => ?_)
  · rw [if_pos (of_decide_eq_true h)]
    exact he_xget (kvs := kvs) (u := u) (hu0 hr) (by decide) (he_ownD 2 0 rfl rfl) (he_var 5 rfl) (fun _ _ => rfl) (lk_some v2)
  · rw [if_neg (of_decide_eq_false h)]
    exact he_xget (kvs := z.1) (u := u) (hu0 hr) (by decide) (he_ownF (R := fun H v (b : Rat) => Is K H v b) (od := od) (t := t) (kvs := z.1) 3 2 rfl rfl fun H h1 h2 => rds_of_f h1 h2) (he_var 5 rfl) (fun _ _ => rfl) (lk_some hu)
def rowsOf (kvs : List (List Int × Rat)) : List (List Int × Rat) := (esort (kvs.map (·.1))).map fun v => (v, lk kvs v)
abbrev pQuos (K : PySem.W.Frag) (C : Addr) : PR := fun Rs R => ∃ (sz : List Int) (kvs : List (List Int × Rat)) (F : List (List Int)), Rs = [rO K C sz kvs] ∧ (QfOk sz kvs F ∧ ToldOk sz kvs F) ∧ R = fun _ => rD K (rowsOf (qof sz kvs F))
theorem qof_few {sz : List Int} {kvs : List (List Int × Rat)} {F : List (List Int)} (hk : QfOk sz kvs F) : (qof sz kvs F).length ≤ 320 := by
  have h := dcf_len (fun v : List Int => v) (fun v => if pat v = rgL 0 (sz.length : Int) then lk kvs v else lk (qAll kvs sz F (ksort true F)).1 v) ((qAll kvs sz F (ksort true F)).1.map (·.1)).length ((qAll kvs sz F (ksort true F)).1.map (·.1))
  rw [List.take_length, List.length_map] at h
  have := (q_few hk.q).1
  unfold qof
  omega
theorem k_quotients [Tbs] {C : Addr} (T : Has K mg 65 "quotients") (Bm : Bi mg) (k1 : Known P w K mg base 5 "check_told" (spF (pTold K C))) (k2 : Known P w K mg base 7 "quotients_of" (spF (pQof P w K C))) : Known P w K mg base 8 "quotients" (spF (pQuos K C)) := by
  have S : FnScope ["seen", "found", "view"] ["seen"] (defScope (top 65)) := ⟨rfl, rfl, rfl, by decide +kernel, rfl, by decide +kernel, by decide +kernel⟩
  refine known_of T S (fun _ _ _ _ _ _ us hl => match us, hl with | [_], _ => rfl) (fun Rs R ⟨_, _, _, h, _⟩ => by rw [h] <;> rfl) fun f cdv A outer s H E hr Rs R hp => ?_
  obtain ⟨sz, kvs, F, rfl, ⟨hk, ht⟩, rfl⟩ := hp
  have few := qof_few hk
  have fF := hk.q.few
  refine hb_expr (he_call (R := rN) k1 hr (ha_cons (he_par (R := rO K C sz kvs) 0 rfl) ha_nil) ⟨sz, kvs, F, rfl, ⟨ht, by omega⟩, rfl⟩) ?_
  refine hb_setD (P := P) (w := w) (K := K) (kvs := qof sz kvs F) 1 (hn_call k2 hr (ha_cons (he_par (R := rO K C sz kvs) 0 rfl) ha_nil) ⟨sz, kvs, F, rfl, hk, rfl⟩) (fun qf => ?_) S.nd
  exact hb_rt (R := rD K (rowsOf (qof sz kvs F))) (he_tupT Bm (HN.ls (hn_map (as := esort ((qof sz kvs F).map (·.1))) (fun v => (v, lk (qof sz kvs F) v)) (fun u Γ => Γ.set 2 (some (rD K u))) [("view", 2)] rfl S.nd (hi_list (HN.ls (he_sortD rfl Bm (hu0 hr) (by decide) (he_ownD (kvs := qof sz kvs F) 1 0 rfl rfl)))) (by rw [esort_len, List.length_map]; omega) (fun s H0 C cl fp u => hg_name 2 S.nd)
    (fun s H0 C cl fp u hu => he_pair (he_var 2 rfl) (he_xget (kvs := qof sz kvs F) (u := u) (hu0 hr) (by decide) (he_ownD 1 0 rfl rfl) (he_var 2 rfl) (fun _ _ => rfl) (lk_some (esort_mem hu)))) (by kernel_rfl)))) fun v H' e r => ⟨e, r⟩
abbrev pQuo (K : PySem.W.Frag) (C : Addr) : PR := fun Rs R => ∃ (sz : List Int) (kvs : List (List Int × Rat)) (F : List (List Int)) (v : List Int), Rs = [rO K C sz kvs, rD K v] ∧ ((QfOk sz kvs F ∧ ToldOk sz kvs F) ∧ v ∈ (qof sz kvs F).map (·.1) ∧ (v.length = sz.length ∧ (v.zip sz).all (fun p => decide (-1 ≤ p.1) && decide (p.1 ≤ p.2 - 1)) = true) ∧ pat v ∈ F) ∧ R = fun _ => rD K (lk (qof sz kvs F) v)
theorem k_quotient [Tbs] {C fi fe : Addr} (T : Has K mg 66 "quotient") (Bm : Bi mg) (CK : ClsK K mg "Seen" C fi fe) (k1 : Known P w K mg base 5 "check_told" (spF (pTold K C))) (k2 : Known P w K mg base 3 "is_view" (spF (pView K))) (k3 : Known P w K mg base 1 "pattern_of" (spF (pPat K))) (k4 : Known P w K mg base 3 "family" (spF (pFam K C))) (k5 : Known P w K mg base 7 "quotients_of" (spF (pQof P w K C))) : Known P w K mg base 8 "quotient" (spF (pQuo K C)) := by
  have S : FnScope ["seen", "view"] ["seen", "view"] (defScope (top 66)) := ⟨rfl, rfl, rfl, by decide +kernel, rfl, by decide +kernel, by decide +kernel⟩
  refine known_of T S (fun _ _ _ _ _ _ us hl => match us, hl with | [_, _], _ => rfl) (fun Rs R ⟨_, _, _, _, h, _⟩ => by rw [h] <;> rfl) fun f cdv A outer s H E hr Rs R hp => ?_
  obtain ⟨sz, kvs, F, v, rfl, ⟨⟨hk, ht⟩, hv, ⟨hl, hw⟩, hp⟩, rfl⟩ := hp
  have szl := (sz_len sz hk.q.hz).2
  have fF := hk.q.few
  refine hb_expr (he_call (R := rN) k1 hr (ha_cons (he_par (R := rO K C sz kvs) 0 rfl) ha_nil) ⟨sz, kvs, F, rfl, ⟨ht, by omega⟩, rfl⟩) ?_
  refine hb_if (ht_w (hw_or (ht_not (ht_val (he_call k2 hr (ha_cons (he_sizes (kvs := kvs) CK (he_par (R := rO K C sz kvs) 0 rfl)) (ha_cons (he_par (R := rD K v) 1 rfl) ha_nil)) ⟨sz, v, rfl, ⟨hl, by omega⟩, rfl⟩))) fun _ => hw_or1 (ht_c (hc_notInL (u := pat v) (as := F) (hu0 hr) (by decide) (he_call k3 hr (ha_cons (he_par (R := rD K v) 1 rfl) ha_nil) ⟨v, rfl, by omega, rfl⟩) (HN.ls (hn_call k4 hr (ha_cons (he_par (R := rO K C sz kvs) 0 rfl) ha_nil) ⟨sz, kvs, F, rfl, hk.q.fam, rfl⟩)))))) (fun h => ?_) fun _ => hb_nil ?_
  · exfalso
    rw [hw] at h
    rw [Bool.or_eq_true] at h
    rcases h with h | h
    · cases h
    · rw [Bool.not_eq_true', decide_eq_false_iff_not] at h
      exact h hp
  · exact hb_rt (he_xget (kvs := qof sz kvs F) (u := v) (hu0 hr) (by decide) (HN.ds (hn_call k5 hr (ha_cons (he_par (R := rO K C sz kvs) 0 rfl) ha_nil) ⟨sz, kvs, F, rfl, hk, rfl⟩)) (he_par (R := rD K v) 1 rfl) (fun _ _ => rfl) (lk_some hv)) fun v H' e r => ⟨e, r⟩
end
end CB
end
section
set_option Elab.async false
set_option linter.all false
set_option maxRecDepth 100000
set_option maxHeartbeats 2000000
set_option exponentiation.threshold 100
namespace CB
open PySem PySem.Spec PyProof.Rows L2 Enc
section
variable {P : Program} {w : World} {K : PySem.W.Frag} {mg : Str → Option Value} {base : Heap}
/-! ### the classes' own == -/
theorem known_ofM [Tbs] {f c : Addr} {st : Stmt} {m q : Str} {k : Nat} {N ps : List Str} {p : PR} (T : HasM K f st m q c) (sc : FnScope N ps (defScope st))
    (hb : ∀ (kV doc pm : Value) (an : Option Addr) (cdv ct : Value) (us : List Value), us.length = ps.length → bindArgs (PySem.W.fnOf m q (defArgs st) (defBody st) (defScope st) .none kV doc pm an cdv ct) ⟨us, []⟩ = pure (ps.zip us))
    (hp : ∀ Rs R, p Rs R → Rs.length = ps.length)
    (body : ∀ (A : Around) (outer : List Env) (s : Shared) (H : Hp) (E : XK), Room k (A.deeper (envOfC q (defScope st) s.heap.objs.size f (.ref c))) → ∀ Rs R, p Rs R →
      HB (cxOf CX0 P w K mg base N q (defScope st) f (.ref c) A outer s H E).nox (SS ⟨H, H, H⟩ (G0 H N Rs) []) (defBody st) (D0 H R)) : KnownM P w K mg base (k + 1) f (spF p) := by
  obtain ⟨oc, od, kV, doc, pm, an, ct, osl, lk, hcd⟩ := T
  refine ⟨_, ps, fn_of lk hcd sc (fun vs H Q E h => ?_) (fun A outer s H vs Q E hr h => ?_), Binds.all (hb kV doc pm an (.ref c) ct)⟩
  · obtain ⟨Rs, R, h1, h2, _⟩ := h
    rw [h2.len]
    exact hp Rs R h1
  · obtain ⟨Rs, R, h1, h2, htb, h3⟩ := h
    have hl : Rs.length ≤ N.length := by
      have := congrArg List.length sc.pre
      rw [List.length_take] at this
      have := hp Rs R h1
      omega
    refine ⟨_, PSs.nox (pb_w (X := (cxOf CX0 P w K mg base N q (defScope st) f (.ref c) A outer s H E).nox) (b := defBody st)), fun pins sh I => ?_⟩
    refine thn (body A outer s H E hr Rs R h1 _ H (SS.start h2 hl htb) pins sh I) fun fl s' q => ?_
    cases fl with
    | next => obtain ⟨σ', H', I', e1, q⟩ := q; exact ⟨σ', H', I', h3 _ _ e1 q⟩
    | ret u => obtain ⟨v, σ', H', I', r, e1, q⟩ := q; exact ⟨v, σ', H', I', r, h3 _ _ e1 q⟩
    | brk => obtain ⟨_, _, _, q⟩ := q; exact q.elim
    | cont => obtain ⟨_, _, _, q⟩ := q; exact q.elim
theorem k_Seen_eq [Tbs] {fi fe C lc : Addr} (T : HasM K fe (inClass (top 40) 1) "__eq__" "Seen.__eq__" lc) (Bm : Bi mg) (CK : ClsK K mg "Seen" C fi fe) : KnownM P w K mg base 1 fe (spF (pEqO K C (List Int))) := by
  have S : FnScope ["self", "other"] ["self", "other"] (defScope (inClass (top 40) 1)) := ⟨rfl, rfl, rfl, by decide +kernel, rfl, by decide +kernel, by decide +kernel⟩
  refine known_ofM T S (fun _ _ _ _ _ _ us hl => match us, hl with | [_, _], _ => rfl) (fun Rs R ⟨_, _, h, _⟩ => by rw [h] <;> rfl) fun A outer s H E hr Rs R hp => ?_
  obtain ⟨sz, kvs, rfl, rfl⟩ := hp
  refine hb_rt (he_and (he_isiO (sz := sz) (kvs := kvs) Bm CK (he_par (R := rO K C sz kvs) 1 rfl) rfl) fun _ => he_b1 (he_c (hc_eqE (u := (sz, kvs)) (v := (sz, kvs)) (hu0 hr) (by decide) (he_pair (he_sizes (kvs := kvs) CK (he_par (R := rO K C sz kvs) 0 rfl)) (rP.d (he_shares (sz := sz) CK (he_par (R := rO K C sz kvs) 0 rfl)))) (he_pair (he_sizes (kvs := kvs) CK (he_par (R := rO K C sz kvs) 1 rfl)) (rP.d (he_shares (sz := sz) CK (he_par (R := rO K C sz kvs) 1 rfl))))))) fun v H' e r => ⟨e, ?_⟩
  rw [decide_eq_true rfl] at r
  exact r
theorem k_Whole_eq [Tbs] {fi fe C lc : Addr} (T : HasM K fe (inClass (top 43) 1) "__eq__" "Whole.__eq__" lc) (Bm : Bi mg) (CK : ClsK K mg "Whole" C fi fe) : KnownM P w K mg base 1 fe (spF (pEqO K C (List Int × List Int))) := by
  have S : FnScope ["self", "other"] ["self", "other"] (defScope (inClass (top 43) 1)) := ⟨rfl, rfl, rfl, by decide +kernel, rfl, by decide +kernel, by decide +kernel⟩
  refine known_ofM T S (fun _ _ _ _ _ _ us hl => match us, hl with | [_, _], _ => rfl) (fun Rs R ⟨_, _, h, _⟩ => by rw [h] <;> rfl) fun A outer s H E hr Rs R hp => ?_
  obtain ⟨sz, kvs, rfl, rfl⟩ := hp
  refine hb_rt (he_and (he_isiO (sz := sz) (kvs := kvs) Bm CK (he_par (R := rO K C sz kvs) 1 rfl) rfl) fun _ => he_b1 (he_c (hc_eqE (u := (sz, kvs)) (v := (sz, kvs)) (hu0 hr) (by decide) (he_pair (he_sizes (kvs := kvs) CK (he_par (R := rO K C sz kvs) 0 rfl)) (rP.d (he_shares (sz := sz) CK (he_par (R := rO K C sz kvs) 0 rfl)))) (he_pair (he_sizes (kvs := kvs) CK (he_par (R := rO K C sz kvs) 1 rfl)) (rP.d (he_shares (sz := sz) CK (he_par (R := rO K C sz kvs) 1 rfl))))))) fun v H' e r => ⟨e, ?_⟩
  rw [decide_eq_true rfl] at r
  exact r
end
end CB
end
section
set_option Elab.async false
set_option linter.all false
set_option maxRecDepth 100000
set_option maxHeartbeats 2000000
set_option exponentiation.threshold 100
namespace CB
open PySem PySem.Spec PyProof.Rows L2 Enc
section
variable {P : Program} {w : World} {K : PySem.W.Frag} {mg : Str → Option Value} {base : Heap}
/-! ### the law's own defs -/
def lkG {κ : Type} [DecidableEq κ] (kvs : List (κ × Rat)) (k : κ) : Rat := (look kvs k).getD 0
def rowsG {κ : Type} [Enc κ] [DecidableEq κ] (kvs : List (κ × Rat)) : List (κ × Rat) := (esort (kvs.map (·.1))).map fun k => (k, lkG kvs k)
abbrev pRows (P : Program) (w : World) (K : PySem.W.Frag) (κ : Type) [Enc κ] [DecidableEq κ] : PR := fun Rs R => ∃ kvs : List (κ × Rat), Rs = [rDs P w K kvs] ∧ kvs.length ≤ 9000 ∧ R = fun _ => rP K (rowsG kvs)
theorem k__law_rows [Tbs] (κ : Type) [Enc κ] [TupE κ] [DecidableEq κ] (hd : dp κ ≤ 8) (T : Has K mg 87 "_law_rows") (Bm : Bi mg) : Known P w K mg base 1 "_law_rows" (spF (pRows P w K κ)) := by
  have S : FnScope ["_law_shares_here", "_law_key"] ["_law_shares_here"] (defScope (top 87)) := ⟨rfl, rfl, rfl, by decide +kernel, rfl, by decide +kernel, by decide +kernel⟩
  refine known_of T S (fun _ _ _ _ _ _ us hl => match us, hl with | [_], _ => rfl) (fun Rs R ⟨_, h, _⟩ => by rw [h] <;> rfl) fun f cdv A outer s H E hr Rs R hp => ?_
  obtain ⟨kvs, rfl, hl, rfl⟩ := hp
  exact hb_rt (R := rP K (rowsG kvs)) (he_tupL Bm (HN.ls (hn_map (as := esort (kvs.map (fun x : κ × Rat => x.1))) (fun k => (k, lkG kvs k)) (fun u Γ => Γ.set 1 (some (rD K u))) [("_law_key", 1)] rfl S.nd (hi_list (HN.ls (he_sortD (kvs := kvs) rfl Bm (hu0 hr) hd (he_par (R := rDs P w K kvs) 0 rfl)))) (by rw [esort_len, List.length_map]; omega) (fun s H0 C cl fp u => hg_name 1 S.nd)
    (fun s H0 C cl fp u hu => he_pair (he_var 1 rfl) (he_xget (kvs := kvs) (u := u) (hu0 hr) hd (he_par (R := rDs P w K kvs) 0 rfl) (he_var 1 rfl) (fun _ _ => rfl) (look_getD hu))) (by kernel_rfl)))) fun v H' e r => ⟨e, r⟩
/-- the patterns at p and above -/
def atUp (F : List (List Int)) (p : List Int) : List (List Int) := F.filter fun o => decide (o = p) || more o p
def dueC (parts : List (List Int × Rat)) (F : List (List Int)) (c : List Int) (m : List ((List Int × List Int) × Rat)) (ps : List (List Int)) : List ((List Int × List Int) × Rat) := ps.foldl (fun m p => put m (c, p) (rprod ((atUp F p).map fun o => lk parts (view c o)))) m
def dueL (parts : List (List Int × Rat)) (F cs : List (List Int)) : List ((List Int × List Int) × Rat) := cs.foldl (fun m c => dueC parts F c m F) []
theorem dueC_snoc (parts : List (List Int × Rat)) (F : List (List Int)) (c : List Int) (m : List ((List Int × List Int) × Rat)) (ps : List (List Int)) (p : List Int) : dueC parts F c m (ps ++ [p]) = put (dueC parts F c m ps) (c, p) (rprod ((atUp F p).map fun o => lk parts (view c o))) := by unfold dueC; rw [List.foldl_append]; rfl
theorem dueL_snoc (parts : List (List Int × Rat)) (F cs : List (List Int)) (c : List Int) : dueL parts F (cs ++ [c]) = dueC parts F c (dueL parts F cs) F := by unfold dueL; rw [List.foldl_append]; rfl
theorem dueC_len (parts : List (List Int × Rat)) (F : List (List Int)) (c : List Int) (m : List ((List Int × List Int) × Rat)) : ∀ (n : Nat) (ps : List (List Int)), (dueC parts F c m (ps.take n)).length ≤ m.length + n
  | 0, ps => by rw [List.take_zero] <;> exact Nat.le_refl _
  | n + 1, ps => by
    have h2 := dueC_len parts F c m n ps
    cases h : ps[n]? with
    | none =>
      have := List.getElem?_eq_none_iff.mp h
      rw [List.take_of_length_le (by omega)]
      rw [List.take_of_length_le (by omega)] at h2
      omega
    | some p =>
      rw [take_snoc h, dueC_snoc]
      have := length_put (dueC parts F c m (ps.take n)) (c, p) (rprod ((atUp F p).map fun o => lk parts (view c o)))
      omega
theorem dueL_len (parts : List (List Int × Rat)) (F : List (List Int)) (hF : F.length ≤ 20) : ∀ (n : Nat) (cs : List (List Int)), (dueL parts F (cs.take n)).length ≤ 20 * n
  | 0, cs => by rw [List.take_zero] <;> exact Nat.le_refl _
  | n + 1, cs => by
    have h2 := dueL_len parts F hF n cs
    cases h : cs[n]? with
    | none =>
      have := List.getElem?_eq_none_iff.mp h
      rw [List.take_of_length_le (by omega)]
      rw [List.take_of_length_le (by omega)] at h2
      omega
    | some c =>
      rw [take_snoc h, dueL_snoc]
      have := dueC_len parts F c (dueL parts F (cs.take n)) F.length F
      rw [List.take_length] at this
      omega
structure DueOk (sz : List Int) (F : List (List Int)) (parts : List (List Int × Rat)) : Prop where
  hz : sz ∈ allSz
  few : F.length ≤ 20
  short : ∀ p ∈ F, p.length ≤ 100
  there : ∀ c ∈ contents sz, ∀ o ∈ F, view c o ∈ parts.map (·.1)
  ok : ∀ c ∈ contents sz, ∀ p ∈ F, ∀ i a, ((atUp F p).map fun o => lk parts (view c o))[i]? = some a → Ok2 (rprod (((atUp F p).map fun o => lk parts (view c o)).take i)) a
abbrev pDue (P : Program) (w : World) (K : PySem.W.Frag) : PR := fun Rs R => ∃ (sz : List Int) (F : List (List Int)) (parts : List (List Int × Rat)), Rs = [rD K sz, rLs K F, rDs P w K parts] ∧ DueOk sz F parts ∧ R = rNew (CD P w K (dueL parts F (contents sz)))
theorem k__law_calm [Tbs]  (T : Has K mg 90 "_law_calm") (Bm : Bi mg) (k1 : Known P w K mg base 2 "_law_contents" (spF (pConts K))) (k2 : Known P w K mg base 1 "_law_shows_more" (spF (pMore K))) (k3 : Known P w K mg base 1 "_law_view" (spF (pView2 K))) (k4 : Known P w K mg base 3 "_law_all_times" (spF (pProd K))) : Known P w K mg base 4 "_law_calm" (spF (pDue P w K)) := by
  have S : FnScope ["_law_sizes_here", "_law_family_here", "_law_parts", "_law_found", "_law_content", "_law_pattern", "_law_some", "_law_one"] ["_law_sizes_here", "_law_family_here", "_law_parts"] (defScope (top 90)) := ⟨rfl, rfl, rfl, by decide +kernel, rfl, by decide +kernel, by decide +kernel⟩
  refine known_of T S (fun _ _ _ _ _ _ us hl => match us, hl with | [_, _, _], _ => rfl) (fun Rs R ⟨_, _, _, h, _⟩ => by rw [h] <;> rfl) fun f cdv A outer s H E hr Rs R hp => ?_
  obtain ⟨sz, F, parts, rfl, hk, rfl⟩ := hp
  obtain ⟨cn, cc⟩ := contents_ok sz hk.hz
  have c16 := contents_few sz hk.hz
  have szl := (sz_len sz hk.hz).2
  have fF := hk.few
  refine hb_setD (P := P) (w := w) (K := K) (kvs := dueL parts F ((contents sz).take 0)) 3 (hn_xnew (List Int × List Int) Rat) (fun qf => ?_) S.nd
  refine hb_forN (as := contents sz) (fun _ => [some (cst H (rD K sz)), some (cst H (rLs K F)), some (cst H (rDs P w K parts)), some (rEq (.ref qf)), none, none, none, none]) (fun i => [oD P w K qf (dueL parts F ((contents sz).take i))]) (fun u Γ => Γ.set 4 (some (rD K u))) rfl nox (hn_call k1 hr (ha_cons (he_par (R := rD K sz) 0 rfl) ha_nil) ⟨sz, rfl, hk.hz, rfl⟩) (Subg.refl _) (List.Sublist.refl _) (fun u => hg_name 4 S.nd) (fun t qc i c hc => ?_) ?_
  · have hcm := List.mem_of_getElem? hc
    have hi : i < 16 := by have := (List.getElem?_eq_some_iff.mp hc).1; omega
    have dl := dueL_len parts F fF i (contents sz)
    rw [take_snoc hc, dueL_snoc]
    generalize dueL parts F ((contents sz).take i) = m0 at dl ⊢
    refine hb_forPX (ι := Unit) (as := F) 1 (fun _ _ => [some (cst H (rD K sz)), some (cst H (rLs K F)), some (cst H (rDs P w K parts)), some (rEq (.ref qf)), some (rD K c), none, none, none]) (fun _ j => [oL K qc (contents sz), oD P w K qf (dueC parts F c m0 (F.take j))]) () (fun u Γ => Γ.set 5 (some (rD K u))) rfl nox rfl (Subg.refl _) (List.Sublist.refl _) (fun u => hg_name 5 S.nd) (fun t2 _ j p hp => ?_) (fun _ => ?_)
    · have hpm := List.mem_of_getElem? hp
      have hj : j < 20 := by have := (List.getElem?_eq_some_iff.mp hp).1; omega
      have cl := dueC_len parts F c m0 j F
      refine hb_setLc (as := F) 6 (fun o => decide (o = p) || more o p) (fun o => o) (fun u Γ => Γ.set 7 (some (rD K u))) [("_law_one", 7)] rfl S.nd (hi_list (he_par (R := rLs K F) 1 rfl)) (by omega) (fun s H0 C cl fp u => hg_name 7 S.nd)
        (fun s H0 C cl fp o ho => hts_one (ht_w (hw_or (ht_c (hc_eqE (u := o) (v := p) (hu0 hr) (by decide) (he_var 7 rfl) (he_var 5 rfl))) fun _ => hw_or1 (ht_val (he_call k2 hr (ha_cons (he_var 7 rfl) (ha_cons (he_var 5 rfl) ha_nil)) ⟨o, p, rfl, by have := hk.short p hpm; omega, rfl⟩))))) (fun s H0 C cl fp o ho _ => he_var 7 rfl) (by kernel_rfl) (fun qa => ?_)
      rw [show (F.filter fun o => decide (o = p) || more o p).map (fun o => o) = atUp F p from List.map_id' _]
      have al : (atUp F p).length ≤ F.length := List.length_filter_le _ _
      refine hb_put (κ := List Int × List Int) (β := Rat) (kvs := dueC parts F c m0 (F.take j)) (u := (c, p)) (v := rprod ((atUp F p).map fun o => lk parts (view c o))) 3 2 rfl rfl (hu0 hr) (by decide) (by omega) (he_call k4 hr (ha_cons (HN.ls (hn_map (as := atUp F p) (fun o => lk parts (view c o)) (fun u Γ => Γ.set 7 (some (rD K u))) [("_law_one", 7)] rfl S.nd (hi_list (he_own (as := atUp F p) 6 0 rfl rfl)) (by omega) (fun s H0 C cl fp u => hg_name 7 S.nd)
        (fun s H0 C cl fp o ho => he_xget (kvs := parts) (u := view c o) (hu0 hr) (by decide) (he_par (R := rDs P w K parts) 2 rfl) (he_call k3 hr (ha_cons (he_var 4 rfl) (ha_cons (he_var 7 rfl) ha_nil)) ⟨c, o, rfl, by have := (cc c hcm).1; omega, rfl⟩) (fun _ _ => rfl) (lk_some (hk.there c hcm o (List.mem_filter.mp ho).1))) (by kernel_rfl))) ha_nil) ⟨_, rfl, hk.ok c hcm p hpm, rfl⟩) (he_pair (he_var 4 rfl) (he_var 5 rfl)) (hb_nil fun σ H' s => ⟨(), ?_⟩)
      dsimp only
      rw [take_snoc hp, dueC_snoc]
      exact s.subd ⟨rfl, rfl, rfl, rfl, rfl, trivial⟩ (List.sublist_cons_self ..)
    · rw [List.take_length]
      exact hb_nil fun σ H' s => s.sub ⟨rfl, rfl, rfl, rfl, trivial⟩
  · rw [List.take_length]
    exact hb_rtO 3 0 rfl rfl rfl fun H' e n c => ⟨e, qf, rfl, n, c⟩
end
end CB
end
section
set_option Elab.async false
set_option linter.all false
set_option maxRecDepth 100000
set_option maxHeartbeats 2000000
/-! AA. x, y = new, new where a comprehension captures x or y: the pair is made, then taken apart. -/
namespace CB
open PySem PySem.Spec PyProof.Rows L2 Enc
section
variable [Tbs] {X : Cx} {a b : Expr} {pos px py pt pt2 : Pos} {x y : Str} {D : Ends} {rest : List Stmt} {B : Bs} {Γ : Gam} {Δ : List Own} {C1 C2 : Addr → Hp → Prop}
theorem hb_asgNN (i j : Nat) {kt k2 : Nat} (o1 o2 : Addr → Own) (hc : X.calm = true) (ha : HN X (SS B Γ Δ) a C1) (hb : HN X (SS B Γ Δ) b C2) (ho1 : ∀ q, (o1 q).p = q ∧ (o1 q).C = C1 q) (ho2 : ∀ q, (o2 q).p = q ∧ (o2 q).C = C2 q)
    (h : ∀ q1 q2, HB X (SS B ((Γ.set i (some (rEq (.ref q1)))).set j (some (rEq (.ref q2)))) (o2 q2 :: o1 q1 :: Δ)) rest D) (hN : X.N.Nodup) (hi : X.N[i]? = some x := by rfl) (hx : Loc X.env.scope x := by first | exact Or.inl rfl | exact Or.inr rfl) (hf : X.fn x = true ∨ X.env.scope.names.lookup x = some .local := by first | exact .inl rfl | exact .inr rfl)
    (hi2 : X.N[j]? = some y := by rfl) (hx2 : Loc X.env.scope y := by first | exact Or.inl rfl | exact Or.inr rfl) (hf2 : X.fn y = true ∨ X.env.scope.names.lookup y = some .local := by first | exact .inl rfl | exact .inr rfl)
    (hs : (assignEach [.Name x px, .Name y py] X.env).map (·.2) = assign (.Name x px) X.env :: (assignEach [.Name y py] X.env).map (·.2) := by rfl) (hs2 : (assignEach [.Name y py] X.env).map (·.2) = assign (.Name y py) X.env :: (assignEach [] X.env).map (·.2) := by rfl)
    (hn : (assignEach [.Name x px, .Name y py] X.env).length = 2 := by rfl) (hst : (assignEach [.Name x px, .Name y py] X.env).findIdx? (·.1) = none := by rfl) (hs1 : starEach [a, b] X.env = (false, eval a X.env) :: starEach [b] X.env := by rfl) (hs3 : starEach [b] X.env = (false, eval b X.env) :: starEach [] X.env := by rfl)
    (hs4 : swapsWithSole [.Tuple [.Name x px, .Name y py] kt pt] (.Tuple [a, b] k2 pt2) pos.line X.env = pure false := by rfl) (hw : swappedStores [.Tuple [.Name x px, .Name y py] kt pt] (.Tuple [a, b] k2 pt2) X.env = pure none := by rfl)
    (h1s : (assignEach [.Tuple [.Name x px, .Name y py] kt pt] X.env).map (·.2) = [assign (.Tuple [.Name x px, .Name y py] kt pt) X.env] := by rfl) : HB X (SS B Γ Δ) (.Assign [.Tuple [.Name x px, .Name y py] kt pt] (.Tuple [a, b] k2 pt2) pos :: rest) D :=
  hb_of (ps_asg (pe_tup (pa_cons pe_w (pa_cons pe_w pa_nil hs3) hs1)) (pg_tup (pos := pt) (k := kt) hc (pgs_cons (pg_name hN hi hx hf) (pgs_cons (pg_name hN hi2 hx2 hf2) pgs_nil hs2) hs) hn hst) hs4 hw h1s) fun σ H s => (ha σ H s).mono fun v1 H1 ⟨e1, q1, r1, f1, c1⟩ => by
    obtain ⟨p1, d1⟩ := ho1 q1
    have s1 : SS B Γ (o1 q1 :: Δ) σ H1 := s.add e1 (o := o1 q1) (by rw [p1]; exact f1) (by rw [d1]; exact c1)
    refine (hb σ H1 (Stab.up s e1)).mono fun v2 H2 ⟨e2, q2, r2, f2, c2⟩ => ?_
    obtain ⟨p2, d2⟩ := ho2 q2
    have s2 : SS B Γ (o2 q2 :: o1 q1 :: Δ) σ H2 := s1.add e2 (o := o2 q2) (by rw [p2]; exact f2) (by rw [d2]; exact c2)
    subst r1 r2
    refine ⟨by rw [sizeLine_eq]; exact (by decide : 2 ≤ 16777216), fun z hz => ?_⟩
    have s3 := Stab.up s2 (Ex.new (o := .tup [.ref q1, .ref q2]) hz)
    exact ⟨z, _, rfl, .of upd_same, rfl, _, _, rfl, _, _, rfl, rfl, h q1 q2 _ _ ((s3.set rfl).set rfl)⟩
end
end CB
end
section
set_option Elab.async false
set_option linter.all false
set_option maxRecDepth 100000
set_option maxHeartbeats 2000000
set_option exponentiation.threshold 100
namespace CB
open PySem PySem.Spec PyProof.Rows L2 Enc
section
variable {P : Program} {w : World} {K : PySem.W.Frag} {mg : Str → Option Value} {base : Heap}
/-! ### the law's quotients: a dict of sums, then its quotients -/
/-- the contents' parts summed by view -/
def below (p : List Int) (wt : List Int → Rat) (cs : List (List Int)) : List (List Int × Rat) := cs.foldl (fun m c => put m (view c p) ((look m (view c p)).getD 0 + wt c)) []
theorem below_snoc (p : List Int) (wt : List Int → Rat) (cs : List (List Int)) (c : List Int) : below p wt (cs ++ [c]) = put (below p wt cs) (view c p) ((look (below p wt cs) (view c p)).getD 0 + wt c) := by unfold below; rw [List.foldl_append]; rfl
theorem below_len (p : List Int) (wt : List Int → Rat) : ∀ (n : Nat) (cs : List (List Int)), (below p wt (cs.take n)).length ≤ n
  | 0, cs => by rw [List.take_zero] <;> exact Nat.le_refl 0
  | n + 1, cs => by
    have h2 := below_len p wt n cs
    cases h : cs[n]? with
    | none =>
      have := List.getElem?_eq_none_iff.mp h
      rw [List.take_of_length_le (by omega)]
      rw [List.take_of_length_le (by omega)] at h2
      omega
    | some c =>
      rw [take_snoc h, below_snoc]
      have h1 := length_put (below p wt (cs.take n)) (view c p) ((look (below p wt (cs.take n)) (view c p)).getD 0 + wt c)
      omega
def pw (fnd : List (List Int × Rat)) (F : List (List Int)) (p c : List Int) : Rat := rprod ((above F p).map fun o => lk fnd (view c o))
def lqF (kvs fnd bw : List (List Int × Rat)) : List (List Int × Rat) := bw.foldl (fun m x => put m x.1 (lk kvs x.1 / x.2)) fnd
theorem lqF_snoc (kvs fnd bw : List (List Int × Rat)) (x : List Int × Rat) : lqF kvs fnd (bw ++ [x]) = put (lqF kvs fnd bw) x.1 (lk kvs x.1 / x.2) := by unfold lqF; rw [List.foldl_append]; rfl
theorem lq_len1 (kvs fnd bw : List (List Int × Rat)) : ∀ n : Nat, (lqF kvs fnd (bw.take n)).length ≤ fnd.length + n
  | 0 => by rw [List.take_zero] <;> exact Nat.le_refl _
  | n + 1 => by
    have h2 := lq_len1 kvs fnd bw n
    cases h : bw[n]? with
    | none =>
      have := List.getElem?_eq_none_iff.mp h
      rw [List.take_of_length_le (by omega)]
      rw [List.take_of_length_le (by omega)] at h2
      omega
    | some x =>
      rw [take_snoc h, lqF_snoc]
      have h1 := length_put (lqF kvs fnd (bw.take n)) x.1 (lk kvs x.1 / x.2)
      omega
def lqStep (kvs : List (List Int × Rat)) (sz : List Int) (F : List (List Int)) (fnd : List (List Int × Rat)) (p : List Int) : List (List Int × Rat) := lqF kvs fnd (below p (pw fnd F p) (contents sz))
def lqAll (kvs : List (List Int × Rat)) (sz : List Int) (F ps : List (List Int)) : List (List Int × Rat) := ps.foldl (lqStep kvs sz F) []
theorem lqAll_snoc (kvs : List (List Int × Rat)) (sz : List Int) (F ps : List (List Int)) (p : List Int) : lqAll kvs sz F (ps ++ [p]) = lqStep kvs sz F (lqAll kvs sz F ps) p := by unfold lqAll; rw [List.foldl_append]; rfl
theorem lq_len {sz : List Int} (hz : sz ∈ allSz) (kvs : List (List Int × Rat)) (F ps : List (List Int)) : ∀ n : Nat, (lqAll kvs sz F (ps.take n)).length ≤ 16 * n
  | 0 => by rw [List.take_zero] <;> exact Nat.le_refl 0
  | n + 1 => by
    have h1 := lq_len hz kvs F ps n
    cases h : ps[n]? with
    | none =>
      have := List.getElem?_eq_none_iff.mp h
      rw [List.take_of_length_le (by omega)]
      rw [List.take_of_length_le (by omega)] at h1
      omega
    | some p =>
      rw [take_snoc h, lqAll_snoc]
      have := lq_len1 kvs (lqAll kvs sz F (ps.take n)) (below p (pw (lqAll kvs sz F (ps.take n)) F p) (contents sz)) (below p (pw (lqAll kvs sz F (ps.take n)) F p) (contents sz)).length
      rw [List.take_length] at this
      have b := below_len p (pw (lqAll kvs sz F (ps.take n)) F p) (contents sz).length (contents sz)
      rw [List.take_length] at b
      have := contents_few sz hz
      unfold lqStep
      unfold lqF at *
      omega
structure LStepOk (sz : List Int) (kvs : List (List Int × Rat)) (F : List (List Int)) (fnd : List (List Int × Rat)) (p : List Int) : Prop where
  there : ∀ c ∈ contents sz, ∀ o ∈ above F p, view c o ∈ fnd.map (·.1)
  prods : ∀ c ∈ contents sz, ∀ i a, ((above F p).map fun o => lk fnd (view c o))[i]? = some a → Ok2 (rprod (((above F p).map fun o => lk fnd (view c o)).take i)) a
  sums : ∀ i c, (contents sz)[i]? = some c → Ok2 ((look (below p (pw fnd F p) ((contents sz).take i)) (view c p)).getD 0) (pw fnd F p c)
  key : ∀ x ∈ below p (pw fnd F p) (contents sz), x.1 ∈ kvs.map (·.1)
  ovr : ∀ x ∈ below p (pw fnd F p) (contents sz), look (below p (pw fnd F p) (contents sz)) x.1 = some x.2 ∧ Ok2 (lk kvs x.1) x.2 ∧ 0 < x.2.num
structure LqOk (sz : List Int) (kvs : List (List Int × Rat)) (F : List (List Int)) : Prop where
  hz : sz ∈ allSz
  few : F.length ≤ 20
  short : ∀ p ∈ F, p.length ≤ 100
  step : ∀ i p, (ksort true F)[i]? = some p → LStepOk sz kvs F (lqAll kvs sz F ((ksort true F).take i)) p
abbrev pLq (P : Program) (w : World) (K : PySem.W.Frag) : PR := fun Rs R => ∃ (sz : List Int) (F : List (List Int)) (kvs : List (List Int × Rat)), Rs = [rD K sz, rLs K F, rDs P w K kvs] ∧ LqOk sz kvs F ∧ R = rNew (CD P w K (lqAll kvs sz F (ksort true F)))
theorem k__law_quotients [Tbs] {lc lp : Addr} (T : HasC K mg 89 "_law_quotients" lc) (L : LamK base mg "_law_quotients" lc lp) (Bm : Bi mg) (k1 : Known P w K mg base 2 "_law_contents" (spF (pConts K))) (k2 : Known P w K mg base 1 "_law_shows_more" (spF (pMore K))) (k3 : Known P w K mg base 1 "_law_view" (spF (pView2 K))) (k4 : Known P w K mg base 3 "_law_all_times" (spF (pProd K))) (k5 : Known P w K mg base 2 "_law_plus" (spF (pPlus K))) (k6 : Known P w K mg base 2 "_law_over" (spF (pOver K))) : Known P w K mg base 4 "_law_quotients" (spF (pLq P w K)) := by
  have S : FnScope ["_law_sizes_here", "_law_family_here", "_law_shares_here", "_law_pattern", "_law_found", "_law_contents_here", "_law_more", "_law_below", "_law_content", "_law_view_here", "_law_part", "_law_one"] ["_law_sizes_here", "_law_family_here", "_law_shares_here"] (defScope (top 89)) := ⟨rfl, rfl, rfl, by decide +kernel, rfl, by decide +kernel, by decide +kernel⟩
  refine known_ofC T S (fun _ _ _ _ _ _ us hl => match us, hl with | [_, _, _], _ => rfl) (fun Rs R ⟨_, _, _, h, _⟩ => by rw [h] <;> rfl) fun f A outer s H E hr Rs R hp => ?_
  obtain ⟨sz, F, kvs, rfl, hk, rfl⟩ := hp
  obtain ⟨cn, cc⟩ := contents_ok sz hk.hz
  have c16 := contents_few sz hk.hz
  have szl := (sz_len sz hk.hz).2
  have fF := hk.few
  have kperm := ksort_perm true F
  refine hb_asgNN 4 5 (fun q => oD P w K q (lqAll kvs sz F ((ksort true F).take 0))) (fun q => oL K q (contents sz)) rfl (hn_xnew (List Int) Rat) (hn_call k1 hr (ha_cons (he_par (R := rD K sz) 0 rfl) ha_nil) ⟨sz, rfl, hk.hz, rfl⟩) (fun q => ⟨rfl, rfl⟩) (fun q => ⟨rfl, rfl⟩) (fun qf qc => ?_) S.nd
  refine hb_forN (as := ksort true F) (fun _ => [some (cst H (rD K sz)), some (cst H (rLs K F)), some (cst H (rDs P w K kvs)), none, some (rEq (.ref qf)), some (rEq (.ref qc)), none, none, none, none, none, none]) (fun i => [oL K qc (contents sz), oD P w K qf (lqAll kvs sz F ((ksort true F).take i))]) (fun u Γ => Γ.set 3 (some (rD K u))) rfl nox (hn_sortK (x := "_law_lot") true ⟨L.tab, rfl, L.mem, L.uniq⟩ Bm hr (he_par (R := rLs K F) 1 rfl) (by omega) (fun l hl => by have := hk.short l hl; omega) rfl rfl (fun _ _ _ _ => rfl) rfl rfl rfl rfl (by decide) (by decide)) (Subg.refl _) (List.Sublist.refl _) (fun u => hg_name 3 S.nd) (fun t qd i p hp => ?_) ?_
  · have hi : i < 20 := by have := (List.getElem?_eq_some_iff.mp hp).1; have := kperm.length_eq; omega
    have hso := hk.step i p hp
    have hll := lq_len hk.hz kvs F (ksort true F) i
    have hpm : p ∈ F := kperm.mem_iff.mp (List.mem_of_getElem? hp)
    rw [take_snoc hp, lqAll_snoc]
    generalize lqAll kvs sz F ((ksort true F).take i) = fnd at hso hll ⊢
    have al : (above F p).length ≤ F.length := List.length_filter_le _ _
    refine hb_setLc (as := F) 6 (fun o => more o p) (fun o => o) (fun u Γ => Γ.set 11 (some (rD K u))) [("_law_one", 11)] rfl S.nd (hi_list (he_par (R := rLs K F) 1 rfl)) (by omega) (fun s H0 C cl fp u => hg_name 11 S.nd)
      (fun s H0 C cl fp o ho => hts_one (ht_val (he_call k2 hr (ha_cons (he_var 11 rfl) (ha_cons (he_var 3 rfl) ha_nil)) ⟨o, p, rfl, by have := hk.short p hpm; omega, rfl⟩))) (fun s H0 C cl fp o ho _ => he_var 11 rfl) (by kernel_rfl) (fun qm => ?_)
    rw [show (F.filter fun o => more o p).map (fun o => o) = above F p from List.map_id' _]
    refine hb_setD (P := P) (w := w) (K := K) (kvs := below p (pw fnd F p) ((contents sz).take 0)) 7 (hn_xnew (List Int) Rat) (fun qb => ?_) S.nd
    refine hb_forOX (ι := Unit) (as := contents sz) 5 3 (q := qc) (fun _ _ => [some (cst H (rD K sz)), some (cst H (rLs K F)), some (cst H (rDs P w K kvs)), some (rD K p), some (rEq (.ref qf)), some (rEq (.ref qc)), some (rEq (.ref qm)), some (rEq (.ref qb)), none, none, none, none]) (fun _ j => [oD P w K qb (below p (pw fnd F p) ((contents sz).take j)), oL K qm (above F p), oL K qd (ksort true F), oL K qc (contents sz), oD P w K qf fnd]) () (fun u Γ => Γ.set 8 (some (rD K u))) rfl nox rfl rfl (Subg.refl _) (List.Sublist.refl _) (fun _ _ => List.mem_cons_of_mem _ (List.mem_cons_of_mem _ (List.mem_cons_of_mem _ (List.mem_cons_self ..)))) (fun u => hg_name 8 S.nd) (fun t2 _ j c hc => ?_) (fun _ => ?_)
    · have hcm := List.mem_of_getElem? hc
      have hj : j < 16 := by have := (List.getElem?_eq_some_iff.mp hc).1; omega
      have bl := below_len p (pw fnd F p) j (contents sz)
      refine hb_set (R := rD K (view c p)) 9 (he_call k3 hr (ha_cons (he_var 8 rfl) (ha_cons (he_var 3 rfl) ha_nil)) ⟨c, p, rfl, by have := (cc c hcm).1; omega, rfl⟩) ?_ S.nd
      refine hb_set (R := rD K (pw fnd F p c)) 10 (he_call k4 hr (ha_cons (HN.ls (hn_map (as := above F p) (fun o => lk fnd (view c o)) (fun u Γ => Γ.set 11 (some (rD K u))) [("_law_one", 11)] rfl S.nd (hi_list (he_own (as := above F p) 6 1 rfl rfl)) (by omega) (fun s H0 C cl fp u => hg_name 11 S.nd)
        (fun s H0 C cl fp o ho => he_xget (kvs := fnd) (u := view c o) (hu0 hr) (by decide) (he_ownD 4 4 rfl rfl) (he_call k3 hr (ha_cons (he_var 8 rfl) (ha_cons (he_var 11 rfl) ha_nil)) ⟨c, o, rfl, by have := (cc c hcm).1; omega, rfl⟩) (fun _ _ => rfl) (lk_some (hso.there c hcm o ho))) (by kernel_rfl))) ha_nil) ⟨_, rfl, hso.prods c hcm, rfl⟩) ?_ S.nd
      refine hb_put (κ := List Int) (β := Rat) (kvs := below p (pw fnd F p) ((contents sz).take j)) (u := view c p) (v := (look (below p (pw fnd F p) ((contents sz).take j)) (view c p)).getD 0 + pw fnd F p c) 7 0 rfl rfl (hu0 hr) (by decide) (by omega) (he_call k5 hr (ha_cons (he_get2 (κ := List Int) (β := Rat) (kvs := below p (pw fnd F p) ((contents sz).take j)) (u := view c p) (v := (0 : Rat)) (hu0 hr) (by decide) (he_ownD 7 0 rfl rfl) (he_var 9 rfl) (HE.eq (he_pair (K := K) (u := (0 : Int)) (v := (1 : Int)) he_int he_int) rfl) ⟨rfl, rfl, rfl, rfl⟩) (ha_cons (he_var 10 rfl) ha_nil)) ⟨_, _, rfl, hso.sums j c hc, rfl⟩) (he_var 9 rfl) (hb_nil fun σ H' s => ⟨(), ?_⟩)
      dsimp only
      rw [take_snoc hc, below_snoc]
      exact s.sub ⟨rfl, rfl, rfl, rfl, rfl, rfl, rfl, rfl, trivial⟩
    · rw [List.take_length]
      have key := hso.key
      have ovr := hso.ovr
      have bl := below_len p (pw fnd F p) (contents sz).length (contents sz)
      rw [List.take_length] at bl
      unfold lqStep
      generalize below p (pw fnd F p) (contents sz) = bw at key ovr bl ⊢
      refine hb_forK (ι := Unit) (fun H v (b : Rat) => Is K H v b) 7 0 (q := qb) (kvs := bw) (fun _ _ => [some (cst H (rD K sz)), some (cst H (rLs K F)), some (cst H (rDs P w K kvs)), some (rD K p), some (rEq (.ref qf)), some (rEq (.ref qc)), some (rEq (.ref qm)), some (rEq (.ref qb)), none, none, none, none]) (fun _ j => [oL K qm (above F p), oL K qd (ksort true F), oL K qc (contents sz), oD P w K qf (lqF kvs fnd (bw.take j))]) () (fun u Γ => Γ.set 9 (some (rD K u))) rfl nox rfl rfl (Subg.refl _) (List.Sublist.refl _) (fun u => hg_name 9 S.nd) (fun tt od tb _ j v hv => ?_) (fun _ => ?_)
      · rw [List.getElem?_map] at hv
        obtain ⟨x, hx, ex⟩ := Option.map_eq_some_iff.mp hv
        subst ex
        have hxm := List.mem_of_getElem? hx
        have hj : j < 16 := by have := (List.getElem?_eq_some_iff.mp hx).1; omega
        have ll := lq_len1 kvs fnd bw j
        obtain ⟨o1, o2, o3⟩ := ovr x hxm
        refine hb_put (κ := List Int) (β := Rat) (kvs := lqF kvs fnd (bw.take j)) (u := x.1) (v := lk kvs x.1 / x.2) 4 4 rfl rfl (hu0 hr) (by decide) (by omega) (he_call k6 hr (ha_cons (he_xget (kvs := kvs) (u := x.1) (hu0 hr) (by decide) (he_par (R := rDs P w K kvs) 2 rfl) (he_var 9 rfl) (fun _ _ => rfl) (lk_some (key x hxm))) (ha_cons (he_xget (kvs := bw) (u := x.1) (hu0 hr) (by decide) (he_ownF (R := fun H v (b : Rat) => Is K H v b) (od := od) (t := tb) (kvs := bw) 7 0 rfl rfl fun H h1 h2 => rds_of_f h1 h2) (he_var 9 rfl) (fun _ _ => rfl) o1) ha_nil)) ⟨_, _, rfl, ⟨o2, o3⟩, rfl⟩) (he_var 9 rfl) (hb_nil fun σ H' s => ⟨(), ?_⟩)
        dsimp only
        rw [take_snoc hx, lqF_snoc]
        exact s.sub ⟨rfl, rfl, rfl, rfl, rfl, rfl, rfl, rfl, trivial⟩
      · rw [List.take_length]
        exact hb_nil fun σ H' s => s.subd ⟨rfl, rfl, rfl, rfl, rfl, trivial⟩ (List.Sublist.cons _ (List.Sublist.cons _ (List.Sublist.refl _)))
  · rw [List.take_length]
    exact hb_rtO 4 1 rfl rfl rfl fun H' e n c => ⟨e, qf, rfl, n, c⟩
end
end CB
end
section
set_option Elab.async false
set_option linter.all false
set_option maxRecDepth 100000
set_option maxHeartbeats 2000000
/-! BB. a parameter's dict walked under its lock. -/
namespace CB
open PySem PySem.Spec PyProof.Rows L2 Enc
section
variable [Tbs]
/-- both heaps locked at d -/
theorem Ex.lock2 {H0 H : Hp} {d : Addr} {u : HO} {od : Obj} (e : Ex H0 H) (h : H0 d = some u) (n : ∀ ps, u ≠ .tbl ps) (pl : Pl d u) (t : LamX.Tabs Tbs.T H) : Ex (upd H0 d (.frz od u)) (upd H d (.frz od u)) := by
  refine ⟨fun {a x} ha hx => ?_, fun _ => tabs_put t (e.at_ h n) pl, fun a q => ?_⟩
  · by_cases z : a = d
    · rw [z, upd_same] at ha ⊢; exact ha
    · rw [upd_ne z] at ha ⊢; exact e.at_ ha hx
  · by_cases z : a = d
    · rw [z, upd_same] at q; cases q
    · rw [upd_ne z] at q ⊢; exact e.dom a q
/-- slots told from H0 on are told from H1 on -/
def Rebase (Γf : Hp → Gam) : Prop := ∀ H0 H1, Lk H0 H1 → (Γf H1).length = (Γf H0).length ∧ ∀ (i : Nat) (R' : Rel), (Γf H1)[i]? = some (some R') → ∃ R, (Γf H0)[i]? = some (some R) ∧ Sta R' ∧ ∀ H v, R H v → R' H v
theorem rebase_nil : Rebase fun _ => [] := fun _ _ _ => ⟨rfl, fun i R h => by cases i <;> cases h⟩
theorem rebase_none {Γf : Hp → Gam} (h : Rebase Γf) : Rebase fun H => none :: Γf H := fun H0 H1 e => ⟨by rw [List.length_cons, List.length_cons, (h H0 H1 e).1], fun i R' q => match i, q with
  | 0, q => by cases q
  | i + 1, q => (h H0 H1 e).2 i R' q⟩
theorem rebase_cst {Γf : Hp → Gam} {R : Rel} [m : MonK R] (h : Rebase Γf) : Rebase fun H => some (cst H R) :: Γf H := fun H0 H1 e => ⟨by rw [List.length_cons, List.length_cons, (h H0 H1 e).1], fun i R' q => match i, q with
  | 0, q => by cases q; exact ⟨_, rfl, inferInstance, fun _ _ z => m.up e z⟩
  | i + 1, q => (h H0 H1 e).2 i R' q⟩
theorem rebase_sta {Γf : Hp → Gam} {R : Rel} [m : Sta R] (h : Rebase Γf) : Rebase fun H => some R :: Γf H := fun H0 H1 e => ⟨by rw [List.length_cons, List.length_cons, (h H0 H1 e).1], fun i R' q => match i, q with
  | 0, q => by cases q; exact ⟨_, rfl, m, fun _ _ z => z⟩
  | i + 1, q => (h H0 H1 e).2 i R' q⟩
variable {Γf : Hp → Gam} {Γ : Gam} {Δ : List Own} {σ : L2.St} {H H0 tt : Hp} {P : Program} {w : World} {d : Addr} {t : Raw} {od : Obj}
theorem SS.lockP (s : SS ⟨H0, H0, tt⟩ (Γf H0) Δ σ H) (rb : Rebase Γf) (h : H0 d = some (DO P w d t)) : SS ⟨upd H0 d (.frz od (DO P w d t)), upd H0 d (.frz od (DO P w d t)), upd H d (.frz od (DO P w d t))⟩ (Γf (upd H0 d (.frz od (DO P w d t)))) Δ σ (upd H d (.frz od (DO P w d t))) := by
  have hH : H d = some (DO P w d t) := s.ex.at_ h (pl_DO (p := d)).1
  have ex := s.ex.lock2 (od := od) h (pl_DO (p := d)).1 (pl_DO (p := d)) s.tb
  have lt : Lt H (upd H d (.frz od (DO P w d t))) := Lt.put hH loose_ext
  have lk : Lk H0 (upd H0 d (.frz od (DO P w d t))) := Lk.lock h (fun _ _ z => (nomatch z)) fun _ _ _ z => (nomatch z)
  have ne : ∀ o ∈ Δ, o.p ≠ d := fun o ho e => by
    have := (s.fr o ho).1
    rw [e] at this
    rw [show (⟨H0, H0, tt⟩ : Bs).s = H0 from rfl, h] at this
    cases this
  obtain ⟨r1, r2⟩ := rb H0 _ lk
  refine ⟨Lk.of ex, ex, Lt.refl _, s.len.trans r1.symm, fun i R' e => ?_, fun o ho => o.sta (s.own o ho) (upd_ne (ne o ho)) lt, fun o ho => ⟨(upd_ne (ne o ho)).trans (s.fr o ho).1, (upd_ne (ne o ho)).trans (s.fr o ho).2⟩, s.ap, tabs_put s.tb hH pl_DO⟩
  obtain ⟨R, e1, m, c⟩ := r2 i R' e
  obtain ⟨v, h1, _, h2⟩ := s.env i R e1
  exact ⟨v, h1, m, Sta.up lt (c H v h2)⟩
theorem SS.unlockP (s : SS ⟨upd H0 d (.frz od (DO P w d t)), upd H0 d (.frz od (DO P w d t)), tt⟩ Γ Δ σ H) (h : H0 d = some (DO P w d t)) : H d = some (.frz od (DO P w d t)) ∧ SS ⟨H0, H0, upd H d (DO P w d t)⟩ Γ Δ σ (upd H d (DO P w d t)) := by
  have hH : H d = some (.frz od (DO P w d t)) := s.ex.at_ upd_same (pl_fD (q := d)).1
  have ex := Ex.unlock h (pl_DO (p := d)) s.ex
  have lt : Lt H (upd H d (DO P w d t)) := Lt.put hH loose_fD
  have ne : ∀ o ∈ Δ, o.p ≠ d := fun o ho e => by
    have := (s.fr o ho).1
    rw [e] at this
    rw [show (⟨upd H0 d (.frz od (DO P w d t)), upd H0 d (.frz od (DO P w d t)), tt⟩ : Bs).s = upd H0 d (.frz od (DO P w d t)) from rfl, upd_same] at this
    cases this
  refine ⟨hH, Lk.of ex, ex, Lt.refl _, s.len, fun i R e => ?_, fun o ho => o.sta (s.own o ho) (upd_ne (ne o ho)) lt, fun o ho => ?_, s.ap, tabs_put s.tb hH pl_fD⟩
  · obtain ⟨v, h1, m, h2⟩ := s.env i R e
    exact ⟨v, h1, m, Sta.up lt h2⟩
  · have q := s.fr o ho
    have a1 : upd H0 d (.frz od (DO P w d t)) o.p = none := q.1
    rw [upd_ne (ne o ho)] at a1
    exact ⟨a1, a1⟩
theorem SS.eqAt {B : Bs} {n : Nat} {v : V} (s : SS B Γ Δ σ H) (h : σ[n]? = some (some v)) : SS B (Γ.set n (some (rEq v))) Δ σ H := by
  refine ⟨s.le, s.ex, s.lt, by rw [List.length_set]; exact s.len, fun i R e => ?_, s.own, s.fr, s.ap, s.tb⟩
  rw [List.getElem?_set] at e
  split at e
  · rename_i q
    subst q
    split at e
    · cases e
      exact ⟨v, h, inferInstance, rfl⟩
    · cases e
  · exact s.env i R e
end
section
variable [Tbs] {X : Cx} {S : SA} [Stab S] {e a b c it tg elt : Expr} {pos p : Pos} {x y : Str} {D : Ends} {rest body : List Stmt} {Γf : Hp → Gam} {Γ : Gam} {Δ : List Own} {κ β ι : Type} [Enc κ] [Enc β] {kvs : List (κ × β)} {H0 H1 tt : Hp} {q : Addr} {od : Obj} {t : Raw}
theorem he_parF (he : HE X (SS ⟨H1, H1, tt⟩ Γ Δ) e (rEq (.ref q))) (h1 : H1 q = some (.frz od (DO X.prog X.w q t))) (h2 : DR X.K (fun H v b => Is X.K H v b) H1 t kvs) : HE X (SS ⟨H1, H1, tt⟩ Γ Δ) e (rDs X.prog X.w X.K kvs) := fun σ H s => (he σ H s).mono fun v H2 ⟨e1, r⟩ => by
  have ev : v = .ref q := r
  subst ev
  have e2 : Ex H1 H2 := s.ex.trans e1
  exact ⟨e1, q, t, rfl, .inr ⟨od, e2.at_ h1 (pl_fD (q := q)).1⟩, DR.upT h2 (Lt.of e2)⟩
theorem hi_parK (he : HE X (SS ⟨H1, H1, tt⟩ Γ Δ) it (rEq (.ref q))) (h1 : H1 q = some (.frz od (DO X.prog X.w q t))) (h2 : DR X.K (fun H v b => Is X.K H v b) H1 t kvs) : HIt Ex X (SS ⟨H1, H1, tt⟩ Γ Δ) tg it (kvs.map (·.1)) :=
  hi_keysF (R := fun H v (b : β) => Is X.K H v b) rfl he fun σ H s => ⟨s.ex.at_ h1 (pl_fD (q := q)).1, DR.upT h2 (Lt.of s.ex)⟩
/-- e, with the parameter's dict locked -/
theorem hn_lockP (o : Addr → Own) (ho : ∀ p, (o p).p = p) (n : Nat) (rb : Rebase Γf) (hn : (Γf H0)[n]? = some (some (cst H0 (rDs X.prog X.w X.K kvs))))
    (h : ∀ H1 tt q od t, H1 q = some (.frz od (DO X.prog X.w q t)) → DR X.K (fun H v b => Is X.K H v b) H1 t kvs → HN X (SS ⟨H1, H1, tt⟩ ((Γf H1).set n (some (rEq (.ref q)))) Δ) e fun p => (o p).C) : HN X (SS ⟨H0, H0, tt⟩ (Γf H0) Δ) e fun p => (o p).C := fun σ H s => by
  obtain ⟨v, v1, v2⟩ := s.get hn
  have v2 : rDs X.prog X.w X.K kvs H0 v := v2
  obtain ⟨q, t, ev, hd, dr⟩ := v2
  subst ev
  rcases hd with hd | ⟨ob, hd⟩
  · intro pins sh I
    refine (pe_lock (pe_w (X := X) (e := e))).run pins sh σ H _ I ?_
    have hH : H q = some (DO X.prog X.w q t) := s.ex.at_ hd (pl_DO (p := q)).1
    refine ⟨q, _, hH, True.intro, fun od => ?_⟩
    have sL := s.lockP (od := od) rb hd
    refine (h _ _ q od t upd_same (DR.upT dr (Lt.put hd loose_ext)) σ _ (sL.eqAt v1)).mono fun v H' ⟨e1, p, ev, hp, hc⟩ => ⟨e1.at_ upd_same (pl_fD (q := q)).1, Ex.unlock hH pl_DO e1, p, ev, ?_, ?_⟩
    · by_cases z : p = q
      · rw [z, upd_same] at hp; cases hp
      · rw [upd_ne z] at hp; exact hp
    · have z : p ≠ q := fun z => by rw [z, upd_same] at hp; cases hp
      refine (o p).sta hc ?_ (Lt.put (e1.at_ upd_same (pl_fD (q := q)).1) loose_fD)
      rw [ho]
      exact upd_ne z
  · exact h H0 tt q ob t hd dr σ H (s.eqAt v1)
end
end CB
end
section
set_option Elab.async false
set_option linter.all false
set_option maxRecDepth 100000
set_option maxHeartbeats 2000000
set_option exponentiation.threshold 100
namespace CB
open PySem PySem.Spec PyProof.Rows L2 Enc
section
variable {P : Program} {w : World} {K : PySem.W.Frag} {mg : Str → Option Value} {base : Heap}
/-! ### the law's shares -/
def lkI (ws : List (List Int × Int)) (k : List Int) : Int := (look ws k).getD 0
def totW (ws : List (List Int × Int)) : Int := ((ws.map (·.1)).map (lkI ws)).sum
def shOf (ws : List (List Int × Int)) : List (List Int × Rat) := (ws.map (·.1)).map fun k => (k, mkRat (lkI ws k) (totW ws).toNat)
structure ShOk (ws : List (List Int × Int)) : Prop where
  nd : (ws.map (·.1)).Nodup
  few : ws.length ≤ 9000
  tot : 0 < totW ws ∧ (totW ws).toNat < 2 ^ 9000
abbrev pShs (P : Program) (w : World) (K : PySem.W.Frag) : PR := fun Rs R => ∃ ws : List (List Int × Int), Rs = [rDs P w K ws] ∧ ShOk ws ∧ R = rNew (CD P w K (shOf ws))
theorem lkI_some {ws : List (List Int × Int)} {v : List Int} (h : v ∈ ws.map (·.1)) : look ws v = some (lkI ws v) := by
  obtain ⟨r, e⟩ := look_some h
  unfold lkI
  rw [e] <;> rfl
theorem k__law_shares [Tbs]  (T : Has K mg 86 "_law_shares") (Bm : Bi mg) (k1 : Known P w K mg base 1 "_law_low" (spF (pLow K))) : Known P w K mg base 2 "_law_shares" (spF (pShs P w K)) := by
  have S : FnScope ["_law_weights_here", "_law_total", "_law_key"] ["_law_weights_here"] (defScope (top 86)) := ⟨rfl, rfl, rfl, by decide +kernel, rfl, by decide +kernel, by decide +kernel⟩
  refine known_of T S (fun _ _ _ _ _ _ us hl => match us, hl with | [_], _ => rfl) (fun Rs R ⟨_, h, _⟩ => by rw [h] <;> rfl) fun f cdv A outer s H E hr Rs R hp => ?_
  obtain ⟨ws, rfl, hk, rfl⟩ := hp
  have few := hk.few
  refine hb_set (R := rD K (totW ws)) 1 (he_sum rfl Bm (HN.ls (hn_lockP (Γf := fun H => [some (cst H (rDs P w K ws)), none, none]) (H0 := H) (fun q => oL K q ((ws.map (·.1)).map (lkI ws))) (fun _ => rfl) 0 (rebase_cst (rebase_none (rebase_none rebase_nil))) rfl fun H1 tt q od t h1 h2 =>
    hn_map (as := ws.map (·.1)) (lkI ws) (fun u Γ => Γ.set 2 (some (rD K u))) [("_law_key", 2)] rfl S.nd (hi_parK (he_var 0 rfl) h1 h2) (by rw [List.length_map]; omega) (fun s H0 C cl fp u => hg_name 2 S.nd)
      (fun s H0 C cl fp u hu => he_xget (kvs := ws) (u := u) (hu0 hr) (by decide) (he_parF (he_var 0 rfl) h1 h2) (he_var 2 rfl) (fun _ _ => rfl) (lkI_some hu)) (by kernel_rfl)))) ?_ S.nd
  have t0 := hk.tot
  refine hb_rtN (hn_dict (κ := List Int) (β := Rat) (kvs := shOf ws) rfl Bm (hu0 hr) (by decide) (HN.ls (hn_lockP (Γf := fun H => [some (cst H (rDs P w K ws)), some (rD K (totW ws)), none]) (H0 := H) (fun q => oL K q (shOf ws)) (fun _ => rfl) 0 (rebase_cst (rebase_sta (rebase_none rebase_nil))) rfl fun H1 tt q od t h1 h2 =>
    hn_map (as := ws.map (fun x : List Int × Int => x.1)) (fun k : List Int => (k, mkRat (lkI ws k) (totW ws).toNat)) (fun u Γ => Γ.set 2 (some (rD K u))) [("_law_key", 2)] rfl S.nd (hi_parK (he_var 0 rfl) h1 h2) (by rw [List.length_map]; omega) (fun s H0 C cl fp u => hg_name 2 S.nd)
      (fun s H0 C cl fp u hu => he_pair (he_var 2 rfl) (he_call k1 hr (ha_cons (he_xget (kvs := ws) (u := u) (hu0 hr) (by decide) (he_parF (he_var 0 rfl) h1 h2) (he_var 2 rfl) (fun _ _ => rfl) (lkI_some hu)) (ha_cons (he_var 1 rfl) ha_nil)) ⟨lkI ws u, (totW ws).toNat, by rw [Int.toNat_of_nonneg (by omega)] <;> rfl, ⟨by omega, t0.2⟩, rfl⟩)) (by kernel_rfl))) (fun H v h => .inl (rLs.ls h)) (by unfold shOf; rw [List.map_map]; rw [show ((·.1) ∘ fun k : List Int => (k, mkRat (lkI ws k) (totW ws).toNat)) = id from rfl, List.map_id]; exact hk.nd)) fun q H' e n c => ⟨e, q, rfl, n, c⟩
end
end CB
end
section
set_option Elab.async false
set_option linter.all false
set_option maxRecDepth 100000
set_option maxHeartbeats 2000000
/-! CC. for k in d, d a parameter. -/
namespace CB
open PySem PySem.Spec PyProof.Rows L2 Enc
section
variable [Tbs] {X : Cx} {tg : Expr} {pos p : Pos} {x : Str} {D : Ends} {rest body : List Stmt} {Γf : Hp → Gam} {Δ : List Own} {κ β ι : Type} [Enc κ] [Enc β] {kvs : List (κ × β)} {H0 tt : Hp}
theorem hb_forD (n : Nat) (rb : Rebase Γf) (hn : (Γf H0)[n]? = some (some (cst H0 (rDs X.prog X.w X.K kvs)))) (Γi : Hp → Addr → ι → Nat → Gam) (Δi : ι → Nat → List Own) (g0 : ι) (f : κ → Gam → Gam) {vs : List Nat} (hc : X.calm = true) (hp : PassesOwn (model X.prog X.w) X.A X.env X.xe)
    (h0 : ∀ H1 q, Subg (Γi H1 q g0 0) ((Γf H1).set n (some (rEq (.ref q))))) (hΔ : List.Sublist (Δi g0 0) Δ) (hg : ∀ u, HG X tg (rD X.K u) (f u) vs)
    (hb : ∀ H1 tt q od t g i u, H1 q = some (.frz od (DO X.prog X.w q t)) → DR X.K (fun H v b => Is X.K H v b) H1 t kvs → (kvs.map (·.1))[i]? = some u → HB X (SS ⟨H1, H1, tt⟩ (f u (Γi H1 q g i)) (Δi g i)) body (LK fun σ H => ∃ g, SS ⟨H1, H1, tt⟩ (Γi H1 q g (i + 1)) (Δi g (i + 1)) σ H))
    (hd : ∀ H1 q g tt, HB X (SS ⟨H0, H0, tt⟩ (Γi H1 q g kvs.length) (Δi g kvs.length)) rest D)
    (hN : X.N[n]? = some x := by rfl) (hvs : Vis X.env.scope x := by first | exact Or.inl rfl | exact Or.inr (Or.inl rfl) | exact Or.inr (Or.inr rfl)) (hdb : (x == ("__debug__" : Str)) = false := by decide)
    (hcd : (x == ("__classdict__" : Str)) = false := by decide) (hs : ∀ z, foldedSetIterable (.Name x p) X.env z = pure z := by intro _; rfl) : HB X (SS ⟨H0, H0, tt⟩ (Γf H0) Δ) (.For tg (.Name x p) body [] pos :: rest) D := fun σ H s pins sh I => by
  have l1 : (kvs.map (·.1)).length = kvs.length := List.length_map _
  obtain ⟨v, v1, v2⟩ := s.get hn
  have v2 : rDs X.prog X.w X.K kvs H0 v := v2
  obtain ⟨q, t, ev, hq, dr⟩ := v2
  subst ev
  -- the loop at a locked dict
  have go : ∀ (H1 : Hp) (od : Obj) (D' : Ends), H1 q = some (.frz od (DO X.prog X.w q t)) → DR X.K (fun H v (b : β) => Is X.K H v b) H1 t kvs → ∀ σ H, SS ⟨H1, H1, H⟩ ((Γf H1).set n (some (rEq (.ref q)))) Δ σ H → (∀ g σ' H', SS ⟨H1, H1, H⟩ (Γi H1 q g kvs.length) (Δi g kvs.length) σ' H' → D'.nx σ' H') →
      ∃ W : Nat → Nat → L2.St → Hp → Prop, (∃ m, W 0 m σ H) ∧ ∀ i m σ H, W i m σ H → ((Itx X.prog X.w q od t).stop i H ∧ D'.nx σ H) ∨ ((Itx X.prog X.w q od t).go i H ∧ ∃ N : L2.St → Hp → Prop, (∀ σ' H', N σ' H' → ∃ m', m' < m ∧ W (i + 1) m' σ' H') ∧ ∀ y H', (Itx X.prog X.w q od t).yld i H y H' → wG X tg y σ H' fun σ2 H2 => wB X body { D' with nx := N, ct := N, bk := D'.nx } σ2 H2) := fun H1 od D' e1 e2 σ H s1 fin => by
    refine for_it (walk_keysT (R := fun H v (b : β) => Is X.K H v b) (kvs := kvs)) (fun i σ' H' => ∃ g, SS ⟨H1, H1, H⟩ (Γi H1 q g i) (Δi g i) σ' H') ⟨g0, (s1.sub (h0 H1 q)).drop hΔ⟩ (fun i σ' H' _ ⟨g, s'⟩ => ⟨s'.ex.at_ e1 (pl_fD (q := q)).1, DR.upT e2 (Lt.of s'.ex)⟩) (fun i y σ' Ha Hb hi ⟨g, s'⟩ yy => ?_) (fun σ' H' ⟨g, s'⟩ => by rw [l1] at s'; exact fin g σ' H' s')
    obtain ⟨e3, u, hu, ru⟩ := yy
    intro pins sh uu I rv
    refine thn (hg u _ _ _ σ' Hb y (Stab.up s' e3) ru pins sh uu I rv) fun _ s3 ⟨σ2, H2, I2, r1, r2, _⟩ => ⟨σ2, H2, I2, ?_⟩
    subst r1
    intro pins2 sh2 I3
    refine wpAny_mono (hb H1 H q od t g i u e1 e2 hu σ2 H2 r2 pins2 sh2 I3) (fun fl s4 z => ?_) fun _ _ z => z
    cases fl with
    | next => exact z
    | cont => exact z
    | brk => obtain ⟨_, _, _, z⟩ := z; exact z.elim
    | ret v => obtain ⟨_, _, _, _, _, z⟩ := z; exact z.elim
  rcases hq with hq | ⟨ob, hq⟩
  · refine (pss_cons (ps_lock (ps_for hp hc (pi_xkeys (pe_var hN hvs hdb hcd)) pg_w pb_w hs)) pb_w).run pins sh σ H D I ?_
    have hH : H q = some (DO X.prog X.w q t) := s.ex.at_ hq (pl_DO (p := q)).1
    refine ⟨q, _, hH, True.intro, fun od => ⟨_, v1, q, od, t, rfl, upd_same, ?_⟩⟩
    refine go _ od _ upd_same (DR.upT dr (Lt.put hq loose_ext)) σ _ ((s.lockP (od := od) rb hq).eqAt v1) fun g σ' H' s' => ?_
    obtain ⟨h2, s2⟩ := s'.unlockP hq
    exact ⟨h2, hd _ q g _ σ' _ s2⟩
  · refine (pss_cons (ps_for hp hc (pi_xkeys (pe_var hN hvs hdb hcd)) pg_w pb_w hs) pb_w).run pins sh σ H D I ?_
    exact ⟨_, v1, q, ob, t, rfl, s.ex.at_ hq (pl_fD (q := q)).1, go H0 ob _ hq dr σ H (s.now.eqAt v1) fun g σ' H' s' => hd H0 q g _ σ' H' s'⟩
end
end CB
end
section
set_option Elab.async false
set_option linter.all false
set_option maxRecDepth 100000
set_option maxHeartbeats 2000000
set_option exponentiation.threshold 100
namespace CB
open PySem PySem.Spec PyProof.Rows L2 Enc
section
variable {P : Program} {w : World} {K : PySem.W.Frag} {mg : Str → Option Value} {base : Heap}
/-! ### what the law's whole hides -/
abbrev PK := List Int × List Int
def hidL (kvs : List (PK × Rat)) (ks : List PK) : List (List Int × Rat) := ks.foldl (fun m k => put m (view k.1 k.2) ((look m (view k.1 k.2)).getD 0 + lkG kvs k)) []
theorem hidL_snoc (kvs : List (PK × Rat)) (ks : List PK) (k : PK) : hidL kvs (ks ++ [k]) = put (hidL kvs ks) (view k.1 k.2) ((look (hidL kvs ks) (view k.1 k.2)).getD 0 + lkG kvs k) := by unfold hidL; rw [List.foldl_append]; rfl
theorem hidL_len (kvs : List (PK × Rat)) : ∀ (n : Nat) (ks : List PK), (hidL kvs (ks.take n)).length ≤ n
  | 0, ks => by rw [List.take_zero] <;> exact Nat.le_refl 0
  | n + 1, ks => by
    have h2 := hidL_len kvs n ks
    cases h : ks[n]? with
    | none =>
      have := List.getElem?_eq_none_iff.mp h
      rw [List.take_of_length_le (by omega)]
      rw [List.take_of_length_le (by omega)] at h2
      omega
    | some c =>
      rw [take_snoc h, hidL_snoc]
      have h1 := length_put (hidL kvs (ks.take n)) (view c.1 c.2) ((look (hidL kvs (ks.take n)) (view c.1 c.2)).getD 0 + lkG kvs c)
      omega
theorem lkG_some {κ : Type} [DecidableEq κ] {kvs : List (κ × Rat)} {v : κ} (h : v ∈ kvs.map (·.1)) : look kvs v = some (lkG kvs v) := by
  obtain ⟨r, e⟩ := look_some h
  unfold lkG
  rw [e] <;> rfl
structure HlOk (kvs : List (PK × Rat)) : Prop where
  few : kvs.length ≤ 9000
  short : ∀ k ∈ kvs.map (·.1), k.1.length ≤ 1000
  sums : ∀ i k, (kvs.map (·.1))[i]? = some k → Ok2 ((look (hidL kvs ((kvs.map (·.1)).take i)) (view k.1 k.2)).getD 0) (lkG kvs k)
abbrev pHl (P : Program) (w : World) (K : PySem.W.Frag) : PR := fun Rs R => ∃ kvs : List (PK × Rat), Rs = [rDs P w K kvs] ∧ HlOk kvs ∧ R = rNew (CD P w K (hidL kvs (kvs.map (·.1))))
theorem k__law_hidden [Tbs]  (T : Has K mg 88 "_law_hidden") (Bm : Bi mg) (k1 : Known P w K mg base 1 "_law_view" (spF (pView2 K))) (k2 : Known P w K mg base 2 "_law_plus" (spF (pPlus K))) : Known P w K mg base 3 "_law_hidden" (spF (pHl P w K)) := by
  have S : FnScope ["_law_whole", "_law_found", "_law_content", "_law_pattern", "_law_view_here"] ["_law_whole"] (defScope (top 88)) := ⟨rfl, rfl, rfl, by decide +kernel, rfl, by decide +kernel, by decide +kernel⟩
  refine known_of T S (fun _ _ _ _ _ _ us hl => match us, hl with | [_], _ => rfl) (fun Rs R ⟨_, h, _⟩ => by rw [h] <;> rfl) fun f cdv A outer s H E hr Rs R hp => ?_
  obtain ⟨kvs, rfl, hk, rfl⟩ := hp
  have few := hk.few
  refine hb_setD (P := P) (w := w) (K := K) (kvs := hidL kvs ((kvs.map (·.1)).take 0)) 1 (hn_xnew (List Int) Rat) (fun qf => ?_) S.nd
  refine hb_forD (ι := Unit) (kvs := kvs) (Γf := fun H => [some (cst H (rDs P w K kvs)), some (rEq (.ref qf)), none, none, none]) (H0 := H) 0 (rebase_cst (rebase_sta (rebase_none (rebase_none (rebase_none rebase_nil))))) rfl (fun H1 q _ _ => [some (rEq (.ref q)), some (rEq (.ref qf)), none, none, none]) (fun _ i => [oD P w K qf (hidL kvs ((kvs.map (·.1)).take i))]) () (fun u Γ => (Γ.set 2 (some (rD K u.1))).set 3 (some (rD K u.2))) rfl nox (fun H1 q => Subg.refl _) (List.Sublist.refl _) (fun u => hg_pair 2 3 rfl S.nd) (fun H1 tt q od t _ i u h1 h2 hu => ?_) (fun H1 q _ tt => ?_)
  · have hm := List.mem_of_getElem? hu
    have hi : i < kvs.length := by have := (List.getElem?_eq_some_iff.mp hu).1; rwa [List.length_map] at this
    have hl := hidL_len kvs i (kvs.map (·.1))
    refine hb_set (R := rD K (view u.1 u.2)) 4 (he_call k1 hr (ha_cons (he_var 2 rfl) (ha_cons (he_var 3 rfl) ha_nil)) ⟨u.1, u.2, rfl, hk.short u hm, rfl⟩) ?_ S.nd
    refine hb_put (κ := List Int) (β := Rat) (kvs := hidL kvs ((kvs.map (·.1)).take i)) (u := view u.1 u.2) (v := (look (hidL kvs ((kvs.map (·.1)).take i)) (view u.1 u.2)).getD 0 + lkG kvs u) 1 0 rfl rfl (hu0 hr) (by decide) (by omega)
      (he_call k2 hr (ha_cons (he_get2 (κ := List Int) (β := Rat) (kvs := hidL kvs ((kvs.map (·.1)).take i)) (u := view u.1 u.2) (v := (0 : Rat)) (hu0 hr) (by decide) (he_ownD 1 0 rfl rfl) (he_var 4 rfl) (HE.eq (he_pair (K := K) (u := (0 : Int)) (v := (1 : Int)) he_int he_int) rfl) ⟨rfl, rfl, rfl, rfl⟩) (ha_cons (he_xget (kvs := kvs) (u := u) (hu0 hr) (by decide) (he_parF (he_var 0 rfl) h1 h2) (he_pair (he_var 2 rfl) (he_var 3 rfl)) (fun _ _ => rfl) (lkG_some hm)) ha_nil)) ⟨_, _, rfl, hk.sums i u hu, rfl⟩) (he_var 4 rfl) (hb_nil fun σ H' s => ⟨(), ?_⟩)
    rw [take_snoc hu, hidL_snoc]
    exact s.sub ⟨rfl, rfl, trivial⟩
  · rw [List.take_of_length_le (by rw [List.length_map]; exact Nat.le_refl _)]
    exact hb_rtO 1 0 rfl rfl rfl fun H' e n c => ⟨e, qf, rfl, n, c⟩
end
end CB
end
section
set_option Elab.async false
set_option linter.all false
set_option maxRecDepth 100000
set_option maxHeartbeats 2000000
/-! DD. the tape: a parameter's list that is written; it is hidden from the base heap. -/
namespace CB
open PySem PySem.Spec PyProof.Rows L2 Enc
theorem lt_hidL {H : Hp} {a : Addr} {u : HO} (h : H a = some u) (l : Loose u) : Lt H (hid H a) := by
  obtain ⟨l1, l2, l3⟩ := l
  refine ⟨fun b xs r => ?_, fun b o xs r => ?_, fun b C dx fs r => ?_⟩
  · have z : b ≠ a := fun z => by
      subst z
      rcases r with r | ⟨o, r⟩
      · rw [h] at r; cases r; exact l1 xs rfl
      · rw [h] at r; cases r; exact l3 o xs rfl
    rcases r with r | ⟨o, r⟩
    · exact .inl ((hid_ne z).trans r)
    · exact .inr ⟨o, (hid_ne z).trans r⟩
  · have z : b ≠ a := fun z => by subst z; rw [h] at r; cases r; exact l3 o xs rfl
    exact (hid_ne z).trans r
  · have z : b ≠ a := fun z => by subst z; rw [h] at r; cases r; exact l2 C dx fs rfl
    exact (hid_ne z).trans r
theorem tabs_hidL {T : List (Addr × Str)} {H : Hp} {a : Addr} {u : HO} (t : LamX.Tabs T H) (h : H a = some u) (n : Pl a u) : LamX.Tabs T (hid H a) := fun x hx => by
  obtain ⟨ps, a1, a2, a3⟩ := t x hx
  have n1 : x.1 ≠ a := fun e => by
    rw [e, h] at a1
    cases a1
    exact n.1 ps rfl
  refine ⟨ps, (hid_ne n1).trans a1, a2, fun pos cv hc => ?_⟩
  obtain ⟨c, e1, e2⟩ := a3 pos cv hc
  refine ⟨c, e1, (hid_ne fun e => ?_).trans e2⟩
  rw [e, h] at e2
  exact n.2 _ (Option.some.inj e2)
theorem Ex.unhid [Tbs] {H : Hp} {a : Addr} : Ex (hid H a) H := by
  have e : ∀ b u, hid H a b = some u → H b = some u := fun b u q => by
    by_cases z : b = a
    · rw [z, hid_same] at q; cases q
    · rwa [hid_ne z] at q
  exact ⟨fun {b u} q _ => e b u q, fun t => t.ext e, fun b q => hid_none q⟩
theorem Ex.tohid [Tbs] {H0 H : Hp} {a : Addr} {u : HO} (e : Ex H0 H) (h0 : H0 a = none) (h : H a = some u) (n : Pl a u) : Ex H0 (hid H a) := by
  refine ⟨fun {b w} hb m => ?_, fun t => tabs_hidL (e.tb t) h n, fun b q => ?_⟩
  · have z := ne_of_none hb h0
    rw [hid_ne z]
    exact e.at_ hb m
  · by_cases z : b = a
    · rw [z]; exact h0
    · rw [hid_ne z] at q; exact e.dom b q
theorem Lk.tohid {H0 H : Hp} {a : Addr} (e : Lk H0 H) (h0 : H0 a = none) : Lk H0 (hid H a) := by
  have ne : ∀ {b o}, H0 b = some o → b ≠ a := fun {b o} z q => by rw [q, h0] at z; cases z
  refine ⟨⟨fun b u n r => ?_, fun b o xs r => (hid_ne (ne r)).trans (e.le.fz b o xs r)⟩, fun b C dx fs r => (hid_ne (ne r)).trans (e.ins b C dx fs r), fun b r => ?_⟩
  · have nb : b ≠ a := by
      rcases r with r | ⟨o, r⟩
      · exact ne r
      · exact ne r
    rcases e.le.rd b u n r with q | ⟨o, q⟩
    · exact .inl ((hid_ne nb).trans q)
    · exact .inr ⟨o, (hid_ne nb).trans q⟩
  · by_cases q : b = a
    · rw [q]; exact h0
    · rw [hid_ne q] at r; exact e.dom b r
/-! ### the tape -/
abbrev tpV (l : Addr) (ts : List Int) : List V := .ref l :: ts.map V.int
/-- the tape at a: its list l, then four ints -/
def oTx (l : Addr) (ts : List Int) (a : Addr) : Own where
  p := a
  C := fun H => H a = some (.lst (tpV l ts))
  at_ := fun h => ⟨_, h, loose_lst, pl_lst⟩
  sta := fun h e _ => e.trans h
def TsOk (n : Nat) (ts : List Int) : Prop := ∃ i1 i2 i3 i4 : Int, ts = [i1, i2, i3, i4] ∧ 0 ≤ i1 ∧ (0 ≤ i3 ∧ i3 < 2 ^ 40) ∧ 0 ≤ i4 ∧ i4 ≤ n
def TapeC (l : Addr) (n : Nat) (a : Addr) (H : Hp) : Prop := ∃ ts, TsOk n ts ∧ H a = some (.lst (tpV l ts))
def oT (l : Addr) (n : Nat) (a : Addr) : Own where
  p := a
  C := TapeC l n a
  at_ := fun h => by
    obtain ⟨ts, _, h⟩ := h
    exact ⟨_, h, loose_lst, pl_lst⟩
  sta := fun h e _ => by
    obtain ⟨ts, h1, h⟩ := h
    exact ⟨ts, h1, e.trans h⟩
section
variable [Tbs] {B : Bs} {Γ : Gam} {Δ : List Own} {σ : L2.St} {H H' : Hp} {a l : Addr} {ts : List Int} {n n' m : Nat}
/-- the own thing at a is changed by another -/
theorem SS.tape {o o' : Own} (s : SS B Γ Δ σ H) (hm : Δ[m]? = some o) (e : Ex (hid H o.p) H') (hp : o'.p = o.p) (c : o'.C H') : SS B Γ (Δ.set m o') σ H' := by
  have ho := List.mem_of_getElem? hm
  obtain ⟨f1, f2⟩ := s.fr o ho
  obtain ⟨u, hu, lo, pl⟩ := o.at_ (s.own o ho)
  have lt : Lt H H' := (lt_hidL hu lo).trans (Lt.of e)
  have hlt : m < Δ.length := (List.getElem?_eq_some_iff.mp hm).1
  have ap' : (Δ.set m o').map (·.p) = Δ.map (·.p) := by
    refine List.ext_getElem? fun j => ?_
    rw [List.getElem?_map, List.getElem?_map]
    by_cases e : m = j
    · subst e
      rw [List.getElem?_set_self hlt, hm]
      exact congrArg some hp
    · rw [List.getElem?_set_ne e]
  refine ⟨(s.le.tohid f1).trans (Lk.of e), (s.ex.tohid f2 hu pl).trans e, s.lt.trans lt, s.len, fun i R h => ?_, fun o2 h2 => ?_, fun o2 h2 => ?_, by rw [ap']; exact s.ap, e.tb (tabs_hidL s.tb hu pl)⟩
  · obtain ⟨v, h1, mm, h2⟩ := s.env i R h
    exact ⟨v, h1, mm, Sta.up lt h2⟩
  · obtain ⟨j, hj, ej⟩ := List.getElem_of_mem h2
    have hj' : (Δ.set m o')[j]? = some o2 := by rw [List.getElem?_eq_getElem hj, ej]
    by_cases e1 : m = j
    · subst e1
      rw [List.getElem?_set_self hlt] at hj'
      cases hj'
      exact c
    · rw [List.getElem?_set_ne e1] at hj'
      have ne : o2.p ≠ o.p := by
        intro q
        have nd := s.ap
        have a1 : (Δ.map (·.p))[j]? = some o.p := by rw [List.getElem?_map, hj', ← q]; rfl
        have a2 : (Δ.map (·.p))[m]? = some o.p := by rw [List.getElem?_map, hm]; rfl
        obtain ⟨b1, c1⟩ := List.getElem?_eq_some_iff.mp a1
        obtain ⟨b2, c2⟩ := List.getElem?_eq_some_iff.mp a2
        exact e1 ((List.getElem_inj nd).mp (c2.trans c1.symm))
      have own2 := s.own o2 (List.mem_of_getElem? hj')
      obtain ⟨u2, hu2, _, pl2⟩ := o2.at_ own2
      exact o2.sta own2 ((e.at_ ((hid_ne ne).trans hu2) pl2.1).trans hu2.symm) lt
  · obtain ⟨j, hj, ej⟩ := List.getElem_of_mem h2
    have hj' : (Δ.set m o')[j]? = some o2 := by rw [List.getElem?_eq_getElem hj, ej]
    by_cases e : m = j
    · subst e
      rw [List.getElem?_set_self hlt] at hj'
      cases hj'
      rw [hp]
      exact ⟨f1, f2⟩
    · rw [List.getElem?_set_ne e] at hj'
      exact s.fr o2 (List.mem_of_getElem? hj')
/-- a new own thing, new to an earlier heap already -/
theorem SS.addN (s : SS B Γ Δ σ H) {o : Own} (h1 : B.s o.p = none) (h2 : B.f o.p = none) (hne : ∀ o' ∈ Δ, o'.p ≠ o.p) (hc : o.C H) : SS B Γ (o :: Δ) σ H := by
  refine ⟨s.le, s.ex, s.lt, s.len, s.env, fun o' ho => ?_, fun o' ho => ?_, ?_, s.tb⟩
  · rcases List.mem_cons.mp ho with q | q
    · rw [q]; exact hc
    · exact s.own o' q
  · rcases List.mem_cons.mp ho with q | q
    · rw [q]; exact ⟨h1, h2⟩
    · exact s.fr o' q
  · rw [List.map_cons]
    refine List.nodup_cons.mpr ⟨fun hm => ?_, s.ap⟩
    obtain ⟨o', ho, e'⟩ := List.mem_map.mp hm
    exact hne o' ho e'
theorem SS.fresh (s : SS B Γ Δ σ H) {p : Addr} (h : H p = none) : B.s p = none ∧ B.f p = none ∧ ∀ o' ∈ Δ, o'.p ≠ p := by
  refine ⟨s.le.dom _ h, ?_, fun o' ho e => ?_⟩
  · cases z : B.f p with
    | none => rfl
    | some u =>
      have := s.ex.dom _ h
      rw [z] at this
      cases this
  · obtain ⟨u, hu, _⟩ := o'.at_ (s.own o' ho)
    rw [e, h] at hu
    cases hu
end
/-! ### defs that write the tape -/
section
variable [Tbs]
abbrev PT := List Rel → Nat → (Hp → Rel) → Prop
def spT (K : PySem.W.Frag) (P : PT) : Sp := fun vs H Q _ => ∃ (a l : Addr) (n : Nat) (xs : List Int) (rest : List V) (Rs : List Rel) (j : Nat) (R : Hp → Rel), P Rs j R ∧ vs = .ref a :: rest ∧ n + j ≤ 5000 ∧ TapeC l n a H ∧ rLs K xs (hid H a) (.ref l) ∧ RsOk Rs (hid H a) rest ∧ LamX.Tabs Tbs.T H ∧
  ∀ v H', Ex (hid H a) H' → TapeC l (n + j) a H' → R H H' v → Q v H'
abbrev DT (a l : Addr) (m : Nat) (H : Hp) (R : Hp → Rel) : Ends := { nx := fun _ H' => Ex (hid H a) H' ∧ TapeC l m a H' ∧ R H H' .non, rt := fun v H' => Ex (hid H a) H' ∧ TapeC l m a H' ∧ R H H' v }
abbrev BT (H : Hp) (a : Addr) : Bs := ⟨hid H a, hid H a, hid H a⟩
theorem known_ofT {P : Program} {w : World} {K : PySem.W.Frag} {mg : Str → Option Value} {base : Heap} {x : Str} {i k : Nat} {N ps : List Str} {p : PT} (T : Has K mg i x) (sc : FnScope N ps (defScope (top i)))
    (hb : ∀ (kV doc pm : Value) (an : Option Addr) (cdv ct : Value) (us : List Value), us.length = ps.length → bindArgs (PySem.W.fnOf x x (defArgs (top i)) (defBody (top i)) (defScope (top i)) .none kV doc pm an cdv ct) ⟨us, []⟩ = pure (ps.zip us))
    (hp : ∀ Rs j R, p Rs j R → Rs.length + 1 = ps.length)
    (body : ∀ (f : Addr) (cdv : Value) (A : Around) (outer : List Env) (s : Shared) (H : Hp) (E : XK), Room k (A.deeper (envOfC x (defScope (top i)) s.heap.objs.size f cdv)) → ∀ Rs j R, p Rs j R → ∀ (a l : Addr) (n : Nat) (ts xs : List Int), n + j ≤ 5000 → TsOk n ts → rLs K xs (hid H a) (.ref l) →
      HB (cxOf CX0 P w K mg base N x (defScope (top i)) f cdv A outer s H E).nox (SS (BT H a) (G0 (hid H a) N (rEq (.ref a) :: Rs)) [oTx l ts a]) (defBody (top i)) (DT a l (n + j) H R)) : Known P w K mg base (k + 1) x (spT K p) := by
  obtain ⟨f, fd, hm, F⟩ := T
  refine ⟨f, fd, ps, F.ok sc (fun vs H Q E h => ?_) (fun cdv A outer s H vs Q E hr h => ?_), hm, F.kp, F.bindsN hb⟩
  · obtain ⟨a, l, n, xs, rest, Rs, j, R, h1, rfl, _, _, _, h2, _⟩ := h
    rw [List.length_cons, h2.len]
    exact hp Rs j R h1
  · obtain ⟨a, l, n, xs, rest, Rs, j, R, h1, rfl, hn, ht, hx, h2, htb, h3⟩ := h
    obtain ⟨ts, hts, ha⟩ := ht
    have hl : (rEq (.ref a) :: Rs).length ≤ N.length := by
      have := congrArg List.length sc.pre
      rw [List.length_take] at this
      have := hp Rs j R h1
      rw [List.length_cons]
      omega
    have s0 : SS (BT H a) (G0 (hid H a) N (rEq (.ref a) :: Rs)) [] (L2.start N (.ref a :: rest)) (hid H a) := SS.start ⟨_, _, rfl, rfl, h2⟩ hl (tabs_hidL htb ha pl_lst)
    have s1 : SS (BT H a) (G0 (hid H a) N (rEq (.ref a) :: Rs)) [oTx l ts a] (L2.start N (.ref a :: rest)) H := s0.add Ex.unhid (o := oTx l ts a) hid_same ha
    refine ⟨_, PSs.nox (pb_w (X := (cxOf CX0 P w K mg base N x (defScope (top i)) f cdv A outer s H E).nox) (b := defBody (top i))), fun pins sh I => ?_⟩
    refine thn (body f cdv A outer s H E hr Rs j R h1 a l n ts xs hn hts hx _ H s1 pins sh I) fun fl s' q => ?_
    cases fl with
    | next => obtain ⟨σ', H', I', e1, c, q⟩ := q; exact ⟨σ', H', I', h3 _ _ e1 c q⟩
    | ret u => obtain ⟨v, σ', H', I', r, e1, c, q⟩ := q; exact ⟨v, σ', H', I', r, h3 _ _ e1 c q⟩
    | brk => obtain ⟨_, _, _, q⟩ := q; exact q.elim
    | cont => obtain ⟨_, _, _, q⟩ := q; exact q.elim
end
section
variable [Tbs] {X : Cx} {S : SA} [Stab S] {e a b c : Expr} {es : List Expr} {R Ra Rb : Rel} {Rs Rs' : List Rel} {pos pos' p p2 : Pos} {x : Str} {j k : Nat} {P : PT} {B : Bs} {Γ : Gam} {Δ : List Own} {q l : Addr} {ts xs : List Int} {n m : Nat} {D : Ends} {rest : List Stmt}
/-- f(tape, ..) -/
theorem callT_w (F : Known X.prog X.w X.K X.mg X.base k x (spT X.K P)) (hr : Room j X.A) (hk : k ≤ j) (hg : Gl X x) {steps : Nat} {R' : Hp → Rel} (ha : HA X (SS B Γ Δ) (e :: es) (rEq (.ref q) :: Rs)) (hP : P Rs' steps R') (hm : Δ[m]? = some (oT l n q)) (hn : n + steps ≤ 5000)
    (hl : ∀ σ H, SS B Γ Δ σ H → rLs X.K xs (hid H q) (.ref l)) (hh : ∀ σ H vs, SS B Γ Δ σ H → RsOk Rs H vs → RsOk Rs' (hid H q) vs)
    (hdb : (x == ("__debug__" : Str)) = false) (he : starEach (e :: es) X.env = (false, eval e X.env) :: starEach es X.env) (hpl : (backTo pos (starEach es X.env)).any (·.1) = false)
    {σ : L2.St} {H : Hp} (s : SS B Γ Δ σ H) {Q : VK} (h : ∀ v H1 H', SS B Γ Δ σ H1 → Ex (hid H1 q) H' → SS B Γ (Δ.set m (oT l (n + steps) q)) σ H' → R' H1 H' v → Q v H') : wE X (.Call (.Name x p) (e :: es) [] pos) σ H Q := fun pins sh I => by
  obtain ⟨f, fd, ps, F1, F2, F3, F4⟩ := F
  refine (pe_call F1 (hr.mono hk) hg F2 F3 F4 .nil pass0 pa_w hdb he hpl).run pins sh σ H Q I ?_
  refine (ha σ H s).mono fun vs H1 ⟨e1, r1⟩ => ?_
  have s1 := Stab.up s e1
  obtain ⟨v, r, rfl, h1, h2⟩ := r1
  have ev : v = .ref q := h1
  subst ev
  have ht := s1.own _ (List.mem_of_getElem? hm)
  rw [List.append_nil]
  exact ⟨q, l, n, xs, r, Rs', steps, R', hP, rfl, hn, ht, hl _ _ s1, hh _ _ _ s1 h2, s1.tb, fun v H' e2 c r => h v H1 H' s1 e2 (s1.tape hm e2 rfl c) r⟩
/-- the tape by its name -/
def rTp (q l : Addr) (ts : List Int) : Rel := fun H v => v = .ref q ∧ H q = some (.lst (tpV l ts))
instance {q l : Addr} {ts : List Int} : Mon (rTp q l ts) := ⟨fun e h => ⟨h.1, e.at_ h.2 fun _ z => (nomatch z)⟩⟩
theorem he_tape (i m : Nat) (h : Γ[i]? = some (some (rEq (.ref q)))) (h2 : Δ[m]? = some (oTx l ts q)) (hN : X.N[i]? = some x := by rfl) (hv : Vis X.env.scope x := by first | exact Or.inl rfl | exact Or.inr (Or.inl rfl) | exact Or.inr (Or.inr rfl)) (hd : (x == ("__debug__" : Str)) = false := by decide)
    (hcd : (x == ("__classdict__" : Str)) = false := by decide) : HE X (SS B Γ Δ) (.Name x pos) (rTp q l ts) := he_of (pe_var hN hv hd hcd) fun σ H s => by
  obtain ⟨v, h1, h3⟩ := s.get h
  exact ⟨v, h1, Ex.refl H, h3, s.own _ (List.mem_of_getElem? h2)⟩
theorem atI_tp {k : Nat} {i : Int} (h : ts[k]? = some i) : atI (tpV l ts) ((k + 1 : Nat) : Int) = some (.int i) := atI_nat (j := k + 1) (by
  show (V.ref l :: ts.map V.int)[k + 1]? = _
  rw [List.getElem?_cons_succ, List.getElem?_map, h]
  rfl)
/-- tape[k], k > 0 -/
theorem he_tp {j : Nat} {i : Int} (k : Nat) (ha : HE X S a (rTp q l ts)) (hk : ts[k]? = some i := by rfl) : HE X S (.Subscript a (.Constant (.int ((k + 1 : Nat) : Int)) j pos') pos) (rD X.K i) :=
  he_ix ix_list ha (he_int (K := X.K)) plainIx_int fun x y H h1 h2 H0 e => by
    obtain ⟨rfl, h3⟩ := h1
    exact ⟨q, _, _, .int i, rfl, h2, .of h3, atI_tp hk, e, rfl⟩
theorem he_tp0 {j : Nat} (ha : HE X (SS B Γ Δ) a (rTp q l ts)) (hx : rLs X.K xs B.s (.ref l)) : HE X (SS B Γ Δ) (.Subscript a (.Constant (.int 0) j pos') pos) (rLs X.K xs) := fun σ H s =>
  ((he_ix (R := rEq (.ref l)) (pos := pos) ix_list ha (he_int (K := X.K)) plainIx_int fun x y H h1 h2 H0 e => by
    obtain ⟨rfl, h3⟩ := h1
    exact ⟨q, _, _, .ref l, rfl, h2, .of h3, atI_nat (j := 0) rfl, e, rfl⟩) σ H s).mono fun v H' ⟨e1, r⟩ => ⟨e1, by
      have ev : v = .ref l := r
      rw [ev]
      exact MonK.up (Stab.up s e1).le hx⟩
/-- tape[k] = i, k > 0 -/
theorem hb_tput {j : Nat} {i : Int} (i0 m k : Nat) {x : Str} (h : Γ[i0]? = some (some (rEq (.ref q)))) (h2 : Δ[m]? = some (oTx l ts q)) (hk : k < ts.length) (he : HE X (SS B Γ Δ) e (rD X.K i)) (hb : HB X (SS B Γ (Δ.set m (oTx l (ts.set k i) q))) rest D)
    (hN : X.N[i0]? = some x := by rfl) (hv : Vis X.env.scope x := by first | exact Or.inl rfl | exact Or.inr (Or.inl rfl) | exact Or.inr (Or.inr rfl)) (hd : (x == ("__debug__" : Str)) = false := by decide) (hcd : (x == ("__classdict__" : Str)) = false := by decide)
    (hsa : ∀ v, assign (.Subscript (.Name x p) (.Constant (.int ((k + 1 : Nat) : Int)) j p2) pos') X.env v = (do
      let ov ← holding [v] (eval (.Name x p) X.env)
      let iv ← holding [v, ov] (eval (.Constant (.int ((k + 1 : Nat) : Int)) j p2) X.env)
      standAt pos'
      holding [v, ov, iv] (setItem ov iv v)
      release [v, ov, iv] []) := by intro _; rfl)
    (hs : swapsWithSole [.Subscript (.Name x p) (.Constant (.int ((k + 1 : Nat) : Int)) j p2) pos'] e pos.line X.env = pure false := by rfl) (hw : swappedStores [.Subscript (.Name x p) (.Constant (.int ((k + 1 : Nat) : Int)) j p2) pos'] e X.env = pure none := by rfl)
    (h1 : (assignEach [.Subscript (.Name x p) (.Constant (.int ((k + 1 : Nat) : Int)) j p2) pos'] X.env).map (·.2) = [assign (.Subscript (.Name x p) (.Constant (.int ((k + 1 : Nat) : Int)) j p2) pos') X.env] := by rfl) :
    HB X (SS B Γ Δ) (.Assign [.Subscript (.Name x p) (.Constant (.int ((k + 1 : Nat) : Int)) j p2) pos'] e pos :: rest) D :=
  hb_of (ps_asg pe_w (pg_sub (pe_var hN hv hd hcd) pe_int set_list hsa) hs hw h1) fun σ H s => (he σ H s).mono fun v H1 ⟨e1, r1⟩ => by
    have s1 := Stab.up s e1
    obtain ⟨z, z1, z2⟩ := s1.get h
    have ez : z = .ref q := z2
    subst ez
    have hq := s1.own _ (List.mem_of_getElem? h2)
    have hq : H1 q = some (.lst (tpV l ts)) := hq
    have ev : v = .int i := r1
    subst ev
    refine ⟨_, z1, q, tpV l ts, _, k + 1, rfl, rfl, hq, ?_, hb _ _ (s1.mut h2 (o' := oTx l (ts.set k i) q) rfl ?_)⟩
    · unfold ixN
      rw [if_pos (by omega), if_pos (by simp; omega)]
      rfl
    · have e3 : (tpV l ts).set (k + 1) (.int i) = tpV l (ts.set k i) := by
        show (V.ref l :: ts.map V.int).set (k + 1) (.int i) = V.ref l :: (ts.set k i).map V.int
        rw [List.set_cons_succ, List.map_set]
      rw [e3]
      exact upd_same
/-- return e -/
theorem hb_rtT {a0 : Addr} {m' : Nat} (m : Nat) (h2 : Δ[m]? = some (oTx l ts a0)) (hn : TsOk m' ts) (he : HE X (SS B Γ Δ) e R) (h : ∀ v H', Ex B.f H' → TapeC l m' a0 H' → R H' v → D.rt v H') : HB X (SS B Γ Δ) (.Return (some e) pos :: rest) D :=
  hb_ret he fun σ H H' v s e1 r => h v H' (s.ex.trans e1) ⟨ts, hn, e1.at_ (s.own _ (List.mem_of_getElem? h2)) fun _ z => (nomatch z)⟩ r
theorem wB.mono {b : List Stmt} {D D' : Ends} {σ : L2.St} {H : Hp} (h : wB X b D σ H) (h1 : ∀ σ H, D.nx σ H → D'.nx σ H) (h2 : ∀ v H, D.rt v H → D'.rt v H) (h3 : ∀ σ H, D.bk σ H → D'.bk σ H) (h4 : ∀ σ H, D.ct σ H → D'.ct σ H) : wB X b D' σ H := fun pins s I =>
  thn (h pins s I) fun fl s' z => by
    cases fl with
    | next => obtain ⟨σ', H', I', z⟩ := z; exact ⟨σ', H', I', h1 _ _ z⟩
    | cont => obtain ⟨σ', H', I', z⟩ := z; exact ⟨σ', H', I', h4 _ _ z⟩
    | brk => obtain ⟨σ', H', I', z⟩ := z; exact ⟨σ', H', I', h3 _ _ z⟩
    | ret u => obtain ⟨v, σ', H', I', r, z⟩ := z; exact ⟨v, σ', H', I', r, h2 _ _ z⟩
/-- if, its ways joined by a ghost -/
theorem hb_ifJ {ι : Type} (St : ι → SA) {A A2 : List Stmt} {k : Bool} (hc : HT X S c k) (ha : k = true → HB X S A { D with nx := fun σ H => ∃ g, St g σ H }) (hb : k = false → HB X S A2 { D with nx := fun σ H => ∃ g, St g σ H }) (hr : ∀ g, HB X (St g) rest D) : HB X S (.If c A A2 pos :: rest) D :=
  hb_if hc (fun z σ H s => (ha z σ H s).mono (fun σ H ⟨g, s⟩ => hr g σ H s) (fun _ _ z => z) (fun _ _ z => z) fun _ _ z => z) (fun z σ H s => (hb z σ H s).mono (fun σ H ⟨g, s⟩ => hr g σ H s) (fun _ _ z => z) (fun _ _ z => z) fun _ _ z => z)
/-- list(xs) -/
theorem hn_listOf {α : Type} [Enc α] {as : List α} (Bm : Bi X.mg) (ha : HE X S a (rLs X.K as)) (hg : Gl X "list" := by rfl) (he : starEach [a] X.env = (false, eval a X.env) :: starEach [] X.env := by rfl) (hpl : (backTo pos (starEach [] X.env)).any (·.1) = false := by rfl) :
    HN X S (.Call (.Name "list" p) [a] [] pos) (CL X.K as) := fun σ H s => ty_w call_list_of Bm.list PyProof.Rows.boot_list (ha_cons ha ha_nil he) s (fun vs H1 e1 r => by
    obtain ⟨v, rfl, h⟩ := rs1 r
    obtain ⟨q, xs, rfl, h1, h2⟩ := rLs.ls h
    exact ⟨q, xs, rfl, .inl h1, fun q2 hq => ⟨e1.trans (Ex.new hq), q2, rfl, none_of_ex e1 hq, xs, upd_same, Ims.up (le_of (Ex.new hq)) _ _ h2⟩⟩) hg (by decide) (by decide) he hpl
end
end CB
end
section
set_option Elab.async false
set_option linter.all false
set_option maxRecDepth 100000
set_option maxHeartbeats 2000000
set_option exponentiation.threshold 100
namespace CB
open PySem PySem.Spec PyProof.Rows L2 Enc
section
variable {P : Program} {w : World} {K : PySem.W.Frag} {mg : Str → Option Value} {base : Heap}
/-! ### the tape -/
def rTape (K : PySem.W.Frag) (xs : List Int) : Hp → Rel := fun H H' v => ∃ a l, v = .ref a ∧ a ≠ l ∧ H a = none ∧ H l = none ∧ H' a = some (.lst (tpV l [0, 0, 1, 0])) ∧ CL K xs l H'
abbrev pTape (K : PySem.W.Frag) : PR := fun Rs R => ∃ xs : List Int, Rs = [rLs K xs] ∧ R = rTape K xs
theorem k__law_tape [Tbs] (T : Has K mg 69 "_law_tape") (Bm : Bi mg) : Known P w K mg base 1 "_law_tape" (spF (pTape K)) := by
  have S : FnScope ["_law_script"] ["_law_script"] (defScope (top 69)) := ⟨rfl, rfl, rfl, by decide +kernel, rfl, by decide +kernel, by decide +kernel⟩
  refine known_of T S (fun _ _ _ _ _ _ us hl => match us, hl with | [_], _ => rfl) (fun Rs R ⟨_, h, _⟩ => by rw [h] <;> rfl) fun f cdv A outer s H E hr Rs R hp => ?_
  obtain ⟨xs, rfl, rfl⟩ := hp
  refine hb_of (ps_ret (pe_lst (pa_cons pe_w pa_w (by rfl)))) fun σ H0 s => ((show HN _ _ _ (CL K xs) from hn_listOf Bm (he_par (R := rLs K xs) 0 rfl)) σ H0 s).mono fun v H1 ⟨e1, l, r1, r2, r3⟩ => ?_
  refine ((show HA _ _ _ [rD K (0 : Int), rD K (0 : Int), rD K (1 : Int), rD K (0 : Int)] from ha_cons he_int (ha_cons he_int (ha_cons he_int (ha_cons he_int ha_nil)))) σ H1 (Stab.up s e1)).mono fun vs H2 ⟨e2, r⟩ => ?_
  obtain ⟨v1, q1, rfl, h1, v2, q2, rfl, h2, v3, q3, rfl, h3, v4, q4, rfl, h4, h5⟩ := r
  rw [show q4 = [] from h5, r1, show v1 = .int 0 from h1, show v2 = .int 0 from h2, show v3 = .int 1 from h3, show v4 = .int 0 from h4]
  refine ⟨by rw [sizeLine_eq]; exact (by decide : 5 ≤ 16777216), fun a ha => ?_⟩
  have z : l ≠ a := fun z => by
    obtain ⟨ys, g1, _⟩ := r3
    rw [z] at g1
    rw [e2.at_ g1 fun _ q => nomatch q] at ha
    cases ha
  refine ⟨(s.ex.trans (e1.trans e2)).trans (Ex.new ha), a, l, rfl, Ne.symm z, none_of_ex (s.ex.trans (e1.trans e2)) ha, none_of_ex s.ex r2, upd_same, ?_⟩
  obtain ⟨ys, g1, g2⟩ := r3
  exact ⟨ys, (upd_ne z).trans (e2.at_ g1 fun _ q => nomatch q), Ims.up (le_of (e2.trans (Ex.new ha))) _ _ g2⟩
/-- a digit -/
abbrev pPick (K : PySem.W.Frag) : PT := fun Rs j R => ∃ m : Int, Rs = [rD K m] ∧ (0 < m ∧ m ≤ 2 ^ 40) ∧ j = 1 ∧ R = fun _ H v => ∃ d : Int, 0 ≤ d ∧ d < m ∧ rD K d H v
theorem cdiv_small {i m : Int} (h0 : 0 < m) (h : m ≤ 2 ^ 40) : CDivW i m := wide_div h0 (b := 64) (by omega) (by decide) (by decide)
theorem cmul_small {i j : Int} (h1 : 0 ≤ i ∧ i < 2 ^ 64) (h2 : 0 ≤ j ∧ j < 2 ^ 64) : CMulW i j := wide_mul (a := 64) (b := 64) (by omega) (by omega) (by decide) (by decide) (by decide)
theorem k__law_pick [Tbs] (T : Has K mg 70 "_law_pick") (Bm : Bi mg) : Known P w K mg base 1 "_law_pick" (spT K (pPick K)) := by
  have S : FnScope ["_law_tape_here", "_law_many", "_law_cell", "_law_mixed", "_law_digit"] ["_law_tape_here", "_law_many"] (defScope (top 70)) := ⟨rfl, rfl, rfl, by decide +kernel, rfl, by decide +kernel, by decide +kernel⟩
  refine known_ofT T S (fun _ _ _ _ _ _ us hl => match us, hl with | [_, _], _ => rfl) (fun Rs j R ⟨_, h, _⟩ => by rw [h] <;> rfl) fun f cdv A outer s H E hr Rs jj R hp a l n ts xs hn hts hxs => ?_
  obtain ⟨m, rfl, hm, rfl, rfl⟩ := hp
  obtain ⟨i1, i2, i3, i4, rfl, h1, h3, h40, h4n⟩ := hts
  refine hb_if (ht_c (hc_gt (he_tp (ts := [i1, i2, i3, i4]) 1 (he_tape 0 0 rfl rfl)) he_int)) (fun _ => ?_) (fun _ => hb_nil ?_)
  · refine hb_set (R := rD K (i2 % m)) 4 (he_mod (he_int1 Bm (he_tp (ts := [i1, i2, i3, i4]) 1 (he_tape 0 0 rfl rfl))) (he_par (R := rD K m) 1 rfl) hm.1) ?_ S.nd
    refine hb_tput (ts := [i1, i2, i3, i4]) (i := i2 / m) 0 0 1 rfl rfl (by simp) (he_fdiv (he_tp (ts := [i1, i2, i3, i4]) 1 (he_tape 0 0 rfl rfl)) (he_par (R := rD K m) 1 rfl) (cdiv_small hm.1 hm.2)) ?_
    exact hb_rtT (ts := [i1, i2 / m, i3, i4]) (m' := n + 1) 0 rfl ⟨i1, i2 / m, i3, i4, rfl, h1, h3, h40, by omega⟩ (he_var 4 rfl) fun v H' e c r => ⟨e, c, _, Int.emod_nonneg _ (by omega), Int.emod_lt_of_pos _ hm.1, r⟩
  refine hb_tput (ts := [i1, i2, i3, i4]) (i := i4 + 1) 0 0 3 rfl rfl (by simp) (he_add (he_tp (ts := [i1, i2, i3, i4]) 3 (he_tape 0 0 rfl rfl)) he_int) ?_
  refine hb_set (R := rD K (0 : Int)) 2 he_int ?_ S.nd
  refine hb_ifJ (ι := { g : Int × Int // 0 ≤ g.1 ∧ 0 ≤ g.2 }) (fun g => SS (BT H a) [some (cst (hid H a) (rEq (.ref a))), some (cst (hid H a) (rD K m)), some (rD K g.1.1), none, none] [oTx l [g.1.2, i2, i3, i4 + 1] a]) (ht_c (hc_lt (he_tp (ts := [i1, i2, i3, i4 + 1]) 0 (he_tape 0 0 rfl rfl)) (he_lenL (K := K) Bm (he_tp0 (ts := [i1, i2, i3, i4 + 1]) (he_tape 0 0 rfl rfl) hxs)))) (fun hk => ?_) (fun _ => hb_nil fun σ H' s => ⟨⟨(0, i1), Int.le_refl 0, h1⟩, s⟩) fun g => ?_
  · have hk := of_decide_eq_true hk
    rw [List.length_map] at hk
    have hx : atI xs i1 = some (xs[i1.toNat]'(by omega)) := by
      have e := atI_nat (xs := xs) (j := i1.toNat) (List.getElem?_eq_getElem (by omega))
      rw [Int.toNat_of_nonneg h1] at e
      exact e
    refine hb_set (R := rD K (((xs[i1.toNat]'(by omega)).natAbs : Nat) : Int)) 2 (he_abs Bm (he_int1 Bm (he_atL (he_tp0 (ts := [i1, i2, i3, i4 + 1]) (he_tape 0 0 rfl rfl) hxs) (he_tp (ts := [i1, i2, i3, i4 + 1]) 0 (he_tape 0 0 rfl rfl)) plainIx_sub hx))) ?_ S.nd
    refine hb_tput (ts := [i1, i2, i3, i4 + 1]) (i := i1 + 1) 0 0 0 rfl rfl (by simp) (he_add (he_tp (ts := [i1, i2, i3, i4 + 1]) 0 (he_tape 0 0 rfl rfl)) he_int) ?_
    exact hb_nil fun σ H' s => ⟨⟨(_, i1 + 1), Int.natCast_nonneg _, by omega⟩, s⟩
  obtain ⟨⟨c, i1'⟩, hc, h1'⟩ := g
  dsimp only at hc h1' ⊢
  refine hb_if (ht_c (hc_ge (he_var 2 rfl) (he_pow he_int he_int ⟨by decide, by decide, by decide⟩))) (fun _ => ?_) (fun _ => hb_nil ?_)
  · refine hb_tput (ts := [i1', i2, i3, i4 + 1]) (i := c / m) 0 0 1 rfl rfl (by simp) (he_fdiv (he_var 2 rfl) (he_par (R := rD K m) 1 rfl) (cdiv_small hm.1 hm.2)) ?_
    exact hb_rtT (ts := [i1', c / m, i3, i4 + 1]) (m' := n + 1) 0 rfl ⟨i1', c / m, i3, i4 + 1, rfl, h1', h3, by omega, by omega⟩ (he_mod (he_int1 Bm (he_var 2 rfl)) (he_par (R := rD K m) 1 rfl) hm.1) fun v H' e c r => ⟨e, c, _, Int.emod_nonneg _ (by omega), Int.emod_lt_of_pos _ hm.1, r⟩
  have p1 : (0 : Int) < 2147483647 := by decide
  have p2 : (0 : Int) < 2147483399 := by decide
  have p3 : (0 : Int) < 2147483629 := by decide
  refine hb_set (R := rD K ((i3 * 48271 + c % 2147483629 + (i4 + 1) * 69621) % 2147483647)) 3 (he_mod (he_int1 Bm (he_add (he_add (he_mul (he_tp (ts := [i1', i2, i3, i4 + 1]) 2 (he_tape 0 0 rfl rfl)) he_int (cmul_small (by omega) (by omega))) (he_mod (he_int1 Bm (he_var 2 rfl)) he_int p3)) (he_mul (he_tp (ts := [i1', i2, i3, i4 + 1]) 3 (he_tape 0 0 rfl rfl)) he_int (cmul_small (by omega) (by omega))))) he_int p1) ?_ S.nd
  generalize hx1 : (i3 * 48271 + c % 2147483629 + (i4 + 1) * 69621) % 2147483647 = x1
  have x10 : 0 ≤ x1 := by rw [← hx1]; exact Int.emod_nonneg _ (by decide)
  have x11 : x1 < 2147483647 := by rw [← hx1]; exact Int.emod_lt_of_pos _ p1
  have x12 : 0 ≤ x1 / 1009 := Int.ediv_nonneg x10 (by decide)
  have x13 : x1 / 1009 ≤ x1 := Int.ediv_le_self _ x10
  refine hb_set (R := rD K ((x1 * (x1 / 1009 + 40692)) % 2147483399)) 3 (he_mod (he_int1 Bm (he_mul (he_var 3 rfl) (he_add (he_fdiv (he_var 3 rfl) he_int (cdiv_small (by decide) (by decide))) he_int) (cmul_small (by omega) (by omega)))) he_int p2) ?_ S.nd
  generalize hx2 : (x1 * (x1 / 1009 + 40692)) % 2147483399 = x2
  have x20 : 0 ≤ x2 := by rw [← hx2]; exact Int.emod_nonneg _ (by decide)
  have x21 : x2 < 2147483399 := by rw [← hx2]; exact Int.emod_lt_of_pos _ p2
  refine hb_tput (ts := [i1', i2, i3, i4 + 1]) (i := x2) 0 0 2 rfl rfl (by simp) (he_var 3 rfl) ?_
  exact hb_rtT (ts := [i1', i2, x2, i4 + 1]) (m' := n + 1) 0 rfl ⟨i1', i2, x2, i4 + 1, rfl, h1', ⟨x20, by omega⟩, by omega, by omega⟩ (he_mod (he_int1 Bm (he_fdiv (he_var 3 rfl) he_int (cdiv_small (by decide) (by decide)))) (he_par (R := rD K m) 1 rfl) hm.1) fun v H' e c r => ⟨e, c, _, Int.emod_nonneg _ (by omega), Int.emod_lt_of_pos _ hm.1, r⟩
end
end CB
end
section
set_option Elab.async false
set_option linter.all false
set_option maxRecDepth 100000
set_option maxHeartbeats 2000000
/-! EE. calls that write the tape; slices of tuples. -/
namespace CB
open PySem PySem.Spec PyProof.Rows L2 Enc
section
variable [Tbs] {X : Cx} {S : SA} [Stab S] {e a b c : Expr} {es : List Expr} {R Ra Rb : Rel} {Rs Rs' : List Rel} {pos pos' p p2 p3 : Pos} {x y : Str} {j k : Nat} {P : PT} {B : Bs} {Γ : Gam} {Δ : List Own} {q l : Addr} {ts xs : List Int} {n m : Nat} {D : Ends} {rest : List Stmt} {σ : L2.St} {H : Hp}
theorem SS.reown {o o' : Own} (s : SS B Γ Δ σ H) (hm : Δ[m]? = some o) (hp : o'.p = o.p) (hc : ∀ H, o.C H → o'.C H) : SS B Γ (Δ.set m o') σ H := s.tape hm Ex.unhid hp (hc _ (s.own _ (List.mem_of_getElem? hm)))
theorem hb_tpW {bd : List Stmt} (m : Nat) (hm : Δ[m]? = some (oTx l ts q)) (hn : TsOk n ts) (h : HB X (SS B Γ (Δ.set m (oT l n q))) bd D) : HB X (SS B Γ Δ) bd D := fun σ H s => h σ H (s.reown hm rfl fun H c => ⟨ts, hn, c⟩)
theorem hl_of {K : PySem.W.Frag} (hx : rLs K xs B.s (.ref l)) (hm : Δ[m]? = some (oT l n q)) : ∀ σ H, SS B Γ Δ σ H → rLs K xs (hid H q) (.ref l) := fun σ H s => MonK.up (s.le.tohid (s.fr _ (List.mem_of_getElem? hm)).1) hx
class Stas (Rs : List Rel) : Prop where
  all : ∀ R ∈ Rs, Sta R
instance : Stas [] := ⟨fun _ h => nomatch h⟩
instance {R : Rel} {Rs : List Rel} [a : Sta R] [b : Stas Rs] : Stas (R :: Rs) := ⟨fun r h => (List.mem_cons.mp h).elim (fun e => by rw [e]; exact a) fun h => b.all r h⟩
theorem RsOk.upT : ∀ {Rs : List Rel} {H H' : Hp} {vs : List V}, (∀ R ∈ Rs, Sta R) → Lt H H' → RsOk Rs H vs → RsOk Rs H' vs
  | [], _, _, _, _, _, h => h
  | R :: Rs, _, _, _, m, e, h => by
    obtain ⟨v, r, e1, h1, h2⟩ := h
    exact ⟨v, r, e1, (m R (List.mem_cons_self ..)).up e h1, RsOk.upT (fun R hR => m R (List.mem_cons_of_mem _ hR)) e h2⟩
theorem hh_d [Stas Rs] (hm : Δ[m]? = some (oT l n q)) : ∀ σ H vs, SS B Γ Δ σ H → RsOk Rs H vs → RsOk Rs (hid H q) vs := fun σ H vs s r => by
  obtain ⟨u, hu, lo, _⟩ := (oT l n q).at_ (s.own _ (List.mem_of_getElem? hm))
  exact r.upT Stas.all (lt_hidL hu lo)
/-- an own list beside the tape -/
theorem hh_own {α : Type} [Enc α] {as : List α} {K : PySem.W.Frag} {q2 : Addr} {m2 : Nat} (hm : Δ[m]? = some (oT l n q)) (h2 : Δ[m2]? = some (oL K q2 as)) (hne : m ≠ m2) : ∀ σ H, SS B Γ Δ σ H → rLs K as (hid H q) (.ref q2) := fun σ H s => by
  have ne : q2 ≠ q := fun e => by
    have c1 : (Δ.map (·.p))[m]? = some q := by rw [List.getElem?_map, hm]; rfl
    have c2 : (Δ.map (·.p))[m2]? = some q := by rw [List.getElem?_map, h2, ← e]; rfl
    obtain ⟨d1, f1⟩ := List.getElem?_eq_some_iff.mp c1
    obtain ⟨d2, f2⟩ := List.getElem?_eq_some_iff.mp c2
    exact hne ((List.getElem_inj s.ap).mp (f1.trans f2.symm))
  obtain ⟨xs, h1, h3⟩ := s.own _ (List.mem_of_getElem? h2)
  obtain ⟨u, hu, lo, _⟩ := (oT l n q).at_ (s.own _ (List.mem_of_getElem? hm))
  exact rLs.of ⟨q2, xs, rfl, .of ((hid_ne ne).trans h1), Ims.upT (lt_hidL hu lo) _ _ h3⟩
/-- x = f(tape, ..) -/
theorem hb_setT {steps : Nat} {R' : Hp → Rel} {ι : Type} (i m : Nat) (Ri : ι → Rel) [∀ g, Sta (Ri g)] (F : Known X.prog X.w X.K X.mg X.base k x (spT X.K P)) (hr : Room j X.A) (ha : HA X (SS B Γ Δ) (e :: es) (rEq (.ref q) :: Rs)) (hP : P Rs' steps R') (hm : Δ[m]? = some (oT l n q)) (hn : n + steps ≤ 5000)
    (hl : ∀ σ H, SS B Γ Δ σ H → rLs X.K xs (hid H q) (.ref l)) (hh : ∀ σ H vs, SS B Γ Δ σ H → RsOk Rs H vs → RsOk Rs' (hid H q) vs) (hR : ∀ H1 H' v, R' H1 H' v → ∃ g, Ri g H' v)
    (h : ∀ g, HB X (SS B (Γ.set i (some (Ri g))) (Δ.set m (oT l (n + steps) q))) rest D) (hN : X.N.Nodup) (hi : X.N[i]? = some y := by rfl) (hx : Loc X.env.scope y := by first | exact Or.inl rfl | exact Or.inr rfl) (hg : Gl X x := by rfl) (hk : k ≤ j := by decide) (hdb : (x == ("__debug__" : Str)) = false := by decide)
    (he : starEach (e :: es) X.env = (false, eval e X.env) :: starEach es X.env := by rfl) (hpl : (backTo pos (starEach es X.env)).any (·.1) = false := by rfl)
    (hs : swapsWith (.Call (.Name x p) (e :: es) [] pos) (some (.Name y p2)) pos'.line X.env = pure false := by rfl) (hf : X.fn y = true ∨ X.env.scope.names.lookup y = some .local := by first | exact .inl rfl | exact .inr rfl) : HB X (SS B Γ Δ) (.Assign [.Name y p2] (.Call (.Name x p) (e :: es) [] pos) pos' :: rest) D :=
  hb_of (ps_set hN hi hx pe_w hs hf) fun σ H s => callT_w F hr hk hg ha hP hm hn hl hh hdb he hpl s fun v H1 H' s1 e2 s2 r => by
    obtain ⟨g, hg⟩ := hR H1 H' v r
    exact h g _ H' (s2.set hg)
/-- a new thing -/
theorem hb_setTN {steps : Nat} {R' : Hp → Rel} {ι : Type} (i m : Nat) (o : ι → Addr → Own) (F : Known X.prog X.w X.K X.mg X.base k x (spT X.K P)) (hr : Room j X.A) (ha : HA X (SS B Γ Δ) (e :: es) (rEq (.ref q) :: Rs)) (hP : P Rs' steps R') (hm : Δ[m]? = some (oT l n q)) (hn : n + steps ≤ 5000)
    (hl : ∀ σ H, SS B Γ Δ σ H → rLs X.K xs (hid H q) (.ref l)) (hh : ∀ σ H vs, SS B Γ Δ σ H → RsOk Rs H vs → RsOk Rs' (hid H q) vs) (hR : ∀ H1 H' v, R' H1 H' v → ∃ g q2, v = .ref q2 ∧ H1 q2 = none ∧ (o g q2).p = q2 ∧ (o g q2).C H')
    (h : ∀ g q2, HB X (SS B (Γ.set i (some (rEq (.ref q2)))) (o g q2 :: Δ.set m (oT l (n + steps) q))) rest D) (hN : X.N.Nodup) (hi : X.N[i]? = some y := by rfl) (hx : Loc X.env.scope y := by first | exact Or.inl rfl | exact Or.inr rfl) (hg : Gl X x := by rfl) (hk : k ≤ j := by decide) (hdb : (x == ("__debug__" : Str)) = false := by decide)
    (he : starEach (e :: es) X.env = (false, eval e X.env) :: starEach es X.env := by rfl) (hpl : (backTo pos (starEach es X.env)).any (·.1) = false := by rfl)
    (hs : swapsWith (.Call (.Name x p) (e :: es) [] pos) (some (.Name y p2)) pos'.line X.env = pure false := by rfl) (hf : X.fn y = true ∨ X.env.scope.names.lookup y = some .local := by first | exact .inl rfl | exact .inr rfl) : HB X (SS B Γ Δ) (.Assign [.Name y p2] (.Call (.Name x p) (e :: es) [] pos) pos' :: rest) D :=
  hb_of (ps_set hN hi hx pe_w hs hf) fun σ H s => callT_w F hr hk hg ha hP hm hn hl hh hdb he hpl s fun v H1 H' s1 e2 s2 r => by
    obtain ⟨g, q2, rfl, h1, h2, h3⟩ := hR H1 H' v r
    obtain ⟨f1, f2, f3⟩ := s1.fresh h1
    refine h g q2 _ H' (SS.set (SS.addN s2 (o := o g q2) (by rw [h2]; exact f1) (by rw [h2]; exact f2) (fun o' ho' => ?_) h3) rfl)
    rw [h2]
    intro ep
    have hp : o'.p ∈ (Δ.set m (oT l (n + steps) q)).map (·.p) := List.mem_map.mpr ⟨o', ho', rfl⟩
    have ap' : (Δ.set m (oT l (n + steps) q)).map (·.p) = Δ.map (·.p) := by
      have hlt : m < Δ.length := (List.getElem?_eq_some_iff.mp hm).1
      refine List.ext_getElem? fun j => ?_
      rw [List.getElem?_map, List.getElem?_map]
      by_cases e : m = j
      · subst e
        rw [List.getElem?_set_self hlt, hm]
        rfl
      · rw [List.getElem?_set_ne e]
    rw [ap', ep] at hp
    obtain ⟨o2, ho2, e2⟩ := List.mem_map.mp hp
    exact f3 o2 ho2 e2
/-! ### slices -/
variable {α : Type} [Enc α] {as : List α} {i : Int}
theorem he_slC {lo hi : Option Expr} {tl th : TO} {n1 n2 : Nat} (ha : HE X S a (rD X.K as)) (hz : as.length ≤ 1000) (hl : PO X lo tl) (hh : PO X hi th) {bs : List α}
    (ht : ∀ σ H H1 x, S σ H → Ex H H1 → S σ H1 → rD X.K as H1 x → tl σ H1 fun l H2 => th σ H2 fun u H3 => Ex H1 H3 ∧ (as.drop (HT.sIx as.length 0 l)).take (HT.sIx as.length as.length u - HT.sIx as.length 0 l) = bs)
    (hm : ∀ σ H (Q Q' : Option Int → Hp → Prop), (∀ l H, Q l H → Q' l H) → tl σ H Q → tl σ H Q') (hm2 : ∀ σ H (Q Q' : Option Int → Hp → Prop), (∀ l H, Q l H → Q' l H) → th σ H Q → th σ H Q') : HE X S (.Subscript a (.Slice lo hi none p2) pos) (rD X.K bs) :=
  he_of (pe_slice sl_tupA pe_w hl hh) fun σ H s => (ha σ H s).mono fun x H1 ⟨e1, r1⟩ => hm _ _ _ _ (fun lo' H2 z => hm2 _ _ _ _ (fun hi' H3 ⟨e3, ec⟩ => by
    have r3 := Mon.up e3 r1
    obtain ⟨q, ys, rfl, h3, h4⟩ := r3
    have len := h4.length
    rw [List.length_map] at len
    refine ⟨q, ys, rfl, h3, fun w => ⟨e1.trans e3, q, ys, rfl, h3, ?_⟩, fun _ p hp => ⟨(e1.trans e3).trans (Ex.new hp), p, _, rfl, .of upd_same, ?_⟩⟩
    · rw [← ec]
      rw [len] at w
      rw [w.1, w.2, List.drop_zero, Nat.sub_zero, List.take_of_length_le (Nat.le_refl _)]
      exact h4
    · rw [← ec, List.map_take, List.map_drop]
      unfold cutV
      rw [len]
      exact Ims.up (le_of (Ex.new hp)) _ _ ((h4.drop _).take _)) z) (ht σ H H1 x s e1 (Stab.up s e1) r1)
/-- t[:i] -/
theorem he_slTo (ha : HE X S a (rD X.K as)) (hz : as.length ≤ 1000) (hb : HE X S b (rD X.K i)) (h0 : 0 ≤ i) : HE X S (.Subscript a (.Slice none (some b) none p2) pos) (rD X.K (as.take i.toNat)) :=
  he_slC (n1 := 0) (n2 := 0) ha hz po_none (po_some pe_w) (fun σ H H1 x s e1 s1 r => (hb σ H1 s1).mono fun y H2 ⟨e2, r2⟩ => ⟨i, r2, e2, by
    have e : i = ((i.toNat : Nat) : Int) := by omega
    rw [e, HT.sIx_nat, HT.sIx_none, List.drop_zero, Nat.sub_zero, Int.toNat_natCast]
    rw [List.take_eq_take_iff]
    omega⟩) (fun σ H Q Q' f h => f _ _ h) fun σ H Q Q' f h => wE.mono h fun v H' ⟨i, e, z⟩ => ⟨i, e, f _ _ z⟩
/-- t[i:] -/
theorem he_slFrom (ha : HE X S a (rD X.K as)) (hz : as.length ≤ 1000) (hb : HE X S b (rD X.K i)) (h0 : 0 ≤ i) : HE X S (.Subscript a (.Slice (some b) none none p2) pos) (rD X.K (as.drop i.toNat)) :=
  he_slC (n1 := 0) (n2 := 0) ha hz (po_some pe_w) po_none (fun σ H H1 x s e1 s1 r => (hb σ H1 s1).mono fun y H2 ⟨e2, r2⟩ => ⟨i, r2, e2, by
    have e : i = ((i.toNat : Nat) : Int) := by omega
    rw [e, HT.sIx_nat, HT.sIx_none, Int.toNat_natCast]
    by_cases z : i.toNat ≤ as.length
    · rw [Nat.min_eq_left z, List.take_of_length_le (by rw [List.length_drop]; exact Nat.le_refl _)]
    · rw [Nat.min_eq_right (by omega), Nat.sub_self, List.take_zero, List.drop_eq_nil_of_le (by omega)]⟩) (fun σ H Q Q' f h => wE.mono h fun v H' ⟨i, e, z⟩ => ⟨i, e, f _ _ z⟩) fun σ H Q Q' f h => f _ _ h
theorem he_three {K : PySem.W.Frag} {u v w : α} {x1 : Nat} (ha : HE X S a (rD K u)) (hb : HE X S b (rD K v)) (hc : HE X S c (rD K w)) (hs : starEach [a, b, c] X.env = (false, eval a X.env) :: starEach [b, c] X.env := by rfl) (hs1 : starEach [b, c] X.env = (false, eval b X.env) :: starEach [c] X.env := by rfl) (hs2 : starEach [c] X.env = (false, eval c X.env) :: starEach [] X.env := by rfl) : HE X S (.Tuple [a, b, c] x1 pos) (rD K [u, v, w]) :=
  he_tup (κ := .none) (ha_cons ha (ha_cons hb (ha_cons hc ha_nil hs2) hs1) hs) (by simp) fun H xs h => ⟨by rw [h.len]; simp, by
    obtain ⟨x, r, rfl, h1, y, r2, rfl, h2, z, r3, rfl, h3, h4⟩ := h
    exact ⟨x, _, rfl, h1, y, _, rfl, h2, z, _, rfl, h3, h4⟩⟩
end
end CB
end
section
set_option Elab.async false
set_option linter.all false
set_option maxRecDepth 100000
set_option maxHeartbeats 2000000
/-! FF. a written list of tuples of ints; judgements that are not unfolded. -/
namespace CB
open PySem PySem.Spec PyProof.Rows L2 Enc
def decI : Expr → Option Int
  | .Constant (.int i) _ _ => some i
  | _ => none
def decIs : List Expr → Option (List Int)
  | [] => some []
  | e :: es => (decI e).bind fun i => (decIs es).map fun l => i :: l
def decT : Expr → Option (List Int)
  | .Tuple es _ _ => decIs es
  | _ => none
def decTs : List Expr → Option (List (List Int))
  | [] => some []
  | e :: es => (decT e).bind fun i => (decTs es).map fun l => i :: l
section
variable [Tbs] {X : Cx} {S : SA} [Stab S] {K : PySem.W.Frag}
theorem he_decI {e : Expr} {i : Int} (h : decI e = some i) : HE X S e (rD K i) ∧ ∀ es, starEach (e :: es) X.env = (false, eval e X.env) :: starEach es X.env := by
  unfold decI at h
  split at h
  · cases h
    exact ⟨he_int, fun es => rfl⟩
  · cases h
theorem ha_decIs : ∀ {es : List Expr} {l : List Int}, decIs es = some l → HA X S es (l.map (rD K)) ∧ es.length = l.length
  | [], l, h => by
    cases h
    exact ⟨ha_nil, rfl⟩
  | e :: es, l, h => by
    unfold decIs at h
    obtain ⟨i, h1, h2⟩ := Option.bind_eq_some_iff.mp h
    obtain ⟨r, h3, h4⟩ := Option.map_eq_some_iff.mp h2
    subst h4
    obtain ⟨a1, a2⟩ := he_decI (X := X) (S := S) (K := K) h1
    obtain ⟨b1, b2⟩ := ha_decIs (es := es) h3
    exact ⟨ha_cons a1 b1 (a2 es), by rw [List.length_cons, List.length_cons, b2]⟩
theorem he_decT {e : Expr} {l : List Int} (h : decT e = some l) (hl : l.length ≤ 1000) : HE X S e (rD K l) ∧ ∀ es, starEach (e :: es) X.env = (false, eval e X.env) :: starEach es X.env := by
  unfold decT at h
  split at h
  · obtain ⟨a1, a2⟩ := ha_decIs (X := X) (S := S) (K := K) h
    exact ⟨he_tup (κ := .none) a1 (by omega) fun H xs r => ⟨by rw [r.len, List.length_map]; exact hl, rsok_ims.mp r⟩, fun es => rfl⟩
  · cases h
theorem ha_decTs : ∀ {es : List Expr} {l : List (List Int)}, decTs es = some l → (∀ t ∈ l, t.length ≤ 1000) → HA X S es (l.map (rD K)) ∧ es.length = l.length
  | [], l, h, _ => by
    cases h
    exact ⟨ha_nil, rfl⟩
  | e :: es, l, h, hl => by
    unfold decTs at h
    obtain ⟨i, h1, h2⟩ := Option.bind_eq_some_iff.mp h
    obtain ⟨r, h3, h4⟩ := Option.map_eq_some_iff.mp h2
    subst h4
    obtain ⟨a1, a2⟩ := he_decT (X := X) (S := S) (K := K) h1 (hl i (List.mem_cons_self ..))
    obtain ⟨b1, b2⟩ := ha_decTs (es := es) h3 fun t ht => hl t (List.mem_cons_of_mem _ ht)
    exact ⟨ha_cons a1 b1 (a2 es), by rw [List.length_cons, List.length_cons, b2]⟩
theorem hn_decTs {es : List Expr} {l : List (List Int)} {pos : Pos} (h : decTs es = some l) (hl : ∀ t ∈ l, t.length ≤ 1000) (hz : l.length ≤ 1000) : HN X S (.List es pos) (CL X.K l) := hn_lst (ha_decTs h hl).1 hz
structure HBx (X : Cx) (S : SA) (b : List Stmt) (D : Ends) : Prop where
  run : HB X S b D
variable {x : Str} {pos p p2 : Pos} {B : Bs} {Γ : Gam} {Δ : List Own} {q l : Addr} {ts xs : List Int} {n m : Nat} {D : Ends} {rest : List Stmt}
theorem hbx_tpW {bd : List Stmt} (m : Nat) (hm : Δ[m]? = some (oTx l ts q)) (hn : TsOk n ts) (h : HBx X (SS B Γ (Δ.set m (oT l n q))) bd D) : HBx X (SS B Γ Δ) bd D := ⟨hb_tpW m hm hn h.run⟩
theorem hbx_lit {es : List Expr} (i : Nat) (l : List (List Int)) (hd : decTs es = some l) (hl : ∀ t ∈ l, t.length ≤ 1000) (hz : l.length ≤ 1000) (h : ∀ q, HBx X (SS B (Γ.set i (some (rEq (.ref q)))) (oL X.K q l :: Δ)) rest D) (hN : X.N.Nodup) (hi : X.N[i]? = some x := by rfl) (hx : Loc X.env.scope x := by first | exact Or.inl rfl | exact Or.inr rfl)
    (hs : swapsWith (.List es p2) (some (.Name x p)) pos.line X.env = pure false := by kernel_rfl) (hf : X.fn x = true ∨ X.env.scope.names.lookup x = some .local := by first | exact .inl rfl | exact .inr rfl) : HBx X (SS B Γ Δ) (.Assign [.Name x p] (.List es p2) pos :: rest) D :=
  ⟨hb_setL i (hn_decTs hd hl hz) (fun q => (h q).run) hN hi hx hs hf⟩
end
end CB
end
section
set_option Elab.async false
set_option linter.all false
set_option maxRecDepth 100000
set_option maxHeartbeats 2000000
set_option exponentiation.threshold 100
namespace CB
open PySem PySem.Spec PyProof.Rows L2 Enc
section
variable {P : Program} {w : World} {K : PySem.W.Frag} {mg : Str → Option Value} {base : Heap}
/-! ### drawn things -/
abbrev pAny (K : PySem.W.Frag) : PT := fun Rs j R => ∃ as : List (List Int), Rs = [rLs K as] ∧ (as ≠ [] ∧ as.length ≤ 1000) ∧ j = 1 ∧ R = fun _ H v => ∃ u, u ∈ as ∧ rD K u H v
theorem k__law_any [Tbs] (T : Has K mg 71 "_law_any") (Bm : Bi mg) (k1 : Known P w K mg base 1 "_law_pick" (spT K (pPick K))) : Known P w K mg base 2 "_law_any" (spT K (pAny K)) := by
  have S : FnScope ["_law_tape_here", "_law_things"] ["_law_tape_here", "_law_things"] (defScope (top 71)) := ⟨rfl, rfl, rfl, by decide +kernel, rfl, by decide +kernel, by decide +kernel⟩
  refine known_ofT T S (fun _ _ _ _ _ _ us hl => match us, hl with | [_, _], _ => rfl) (fun Rs j R ⟨_, h, _⟩ => by rw [h] <;> rfl) fun f cdv A outer s H E hr Rs jj R hp a l n ts xs hn hts hxs => ?_
  obtain ⟨as, rfl, has, rfl, rfl⟩ := hp
  have hpos : 0 < as.length := List.length_pos_iff.mpr has.1
  refine hb_tpW (n := n) 0 rfl hts ?_
  refine hb_of (ps_ret (pe_ix ix_list pe_w pe_w plainIx_call)) fun σ H0 s => ((show HE _ _ _ (cst (hid H a) (rLs K as)) from he_var 1 rfl) σ H0 s).mono fun x H1 ⟨e1, r1⟩ => ?_
  refine callT_w (xs := xs) (m := 0) (n := n) k1 hr (by decide) (by rfl) (Rs' := [rD K ((as.map (rD K)).length : Int)]) (ha_cons (R := rEq (.ref a)) (he_var 0 rfl) (ha_cons (he_lenL (K := K) Bm (he_par (R := rLs K as) 1 rfl)) ha_nil)) ⟨_, rfl, by rw [List.length_map]; omega, rfl, rfl⟩ (by rfl) hn (hl_of (m := 0) (n := n) hxs rfl) (hh_d (m := 0) (n := n) rfl) (by decide) (by rfl) (by rfl) (Stab.up s e1) fun v H2 H3 s2 _ s3 ⟨d, d0, d1, rd⟩ => ?_
  have rx : rLs K as H3 x := MonK.up s3.le r1
  obtain ⟨p, ys, rfl, g1, g2⟩ := rLs.ls rx
  rw [List.length_map] at d1
  have hd : d.toNat < as.length := by omega
  obtain ⟨w', hw, iw⟩ := g2.get' (i := d.toNat) (k := enc as[d.toNat]) (by rw [List.getElem?_map, List.getElem?_eq_getElem hd]; rfl)
  refine ⟨p, ys, d, w', rfl, rd, g1, ?_, s3.ex, s3.own _ (List.mem_of_getElem? (i := 0) rfl), _, List.getElem_mem hd, iw⟩
  have e := atI_nat (xs := ys) (j := d.toNat) hw
  rw [Int.toNat_of_nonneg d0] at e
  exact e
/-- sizes -/
abbrev pSzs (K : PySem.W.Frag) : PT := fun Rs j R => ∃ most : Int, Rs = [rD K most] ∧ j = 1 ∧ R = fun _ H v => ∃ u, u ∈ allSz ∧ rD K u H v
def someSz : List (List Int) := [[2], [3], [4], [2, 2], [2, 2], [3, 2], [2, 3], [3, 3], [2, 2, 2], [2, 3, 2], [4, 4], [2, 2, 3]]
theorem someSz_ok : ∀ sz ∈ someSz, sz ∈ allSz ∧ sz.take 1 ∈ allSz := by decide
theorem k__law_sizes [Tbs] (T : Has K mg 78 "_law_sizes") (Bm : Bi mg) (k1 : Known P w K mg base 2 "_law_any" (spT K (pAny K))) (k2 : Known P w K mg base 2 "_law_contents" (spF (pConts K))) : Known P w K mg base 3 "_law_sizes" (spT K (pSzs K)) := by
  have S : FnScope ["_law_tape_here", "_law_most", "_law_some", "_law_sizes_here"] ["_law_tape_here", "_law_most"] (defScope (top 78)) := ⟨rfl, rfl, rfl, by decide +kernel, rfl, by decide +kernel, by decide +kernel⟩
  refine known_ofT T S (fun _ _ _ _ _ _ us hl => match us, hl with | [_, _], _ => rfl) (fun Rs j R ⟨_, h, _⟩ => by rw [h] <;> rfl) fun f cdv A outer s H E hr Rs jj R hp a l n ts xs hn hts hxs => ?_
  obtain ⟨most, rfl, rfl, rfl⟩ := hp
  refine @HBx.run _ _ _ _ ?_
  refine hbx_tpW (n := n) 0 rfl hts ?_
  refine hbx_lit 2 someSz (by rfl) (by decide) (by decide) (fun q2 => ⟨?_⟩) S.nd
  refine hb_setT (ι := { u : List Int // u ∈ allSz ∧ u.take 1 ∈ allSz }) (l := l) (xs := xs) (n := n) (q := a) (Rs := [rEq (.ref q2)]) (Rs' := [rLs K someSz]) (steps := 1) 3 1 (fun u => rD K u.1) k1 hr (ha_cons (he_var 0 rfl) (ha_cons (he_var 2 rfl) ha_nil)) ⟨someSz, rfl, ⟨by decide, by decide⟩, rfl, rfl⟩ rfl hn (hl_of (m := 1) (n := n) hxs rfl) (fun σ H' vs s r => ?_) (fun H1 H' v ⟨u, hu, r⟩ => ⟨⟨u, someSz_ok u hu⟩, r⟩) (fun u => ?_) S.nd
  · obtain ⟨v, rfl, h1⟩ := rs1 r
    have ev : v = .ref q2 := h1
    subst ev
    exact ⟨_, [], rfl, hh_own (m := 1) (m2 := 0) (n := n) rfl rfl (by decide) σ H' s, rfl⟩
  obtain ⟨u, hu, hu2⟩ := u
  dsimp only
  have ul := sz_len u hu
  refine hb_ret (R := fun H v => ∃ u, u ∈ allSz ∧ rD K u H v) (he_if (ht_c (hc_le (he_lenL (K := K) Bm (HN.ls (hn_call k2 hr (ha_cons (he_var 3 rfl) ha_nil) ⟨u, rfl, hu, rfl⟩))) (he_par (R := rD K most) 1 rfl))) (fun _ => (he_var (R := rD K u) 3 rfl).imp fun H v r => ⟨u, hu, r⟩) (fun _ => (he_slTo (he_var (R := rD K u) 3 rfl) (by omega) (he_int (i := 1)) (by decide)).imp fun H v r => ⟨_, hu2, r⟩)) fun σ H1 H2 v s e1 r => ⟨s.ex.trans e1, (oT l (n + 1) a).ex (s.own _ (List.mem_of_getElem? (i := 1) rfl)) e1, r⟩
end
end CB
end
section
set_option Elab.async false
set_option linter.all false
set_option maxRecDepth 100000
set_option maxHeartbeats 2000000
/-! GG. loops with ghosts that keep a law; comparisons that write the tape. -/
namespace CB
open PySem PySem.Spec PyProof.Rows L2 Enc
section
variable [Tbs] {X : Cx} {S : SA} [Stab S] {e a b c it tg : Expr} {R Ra Rb : Rel} {pos p pos' p2 tpos : Pos} {x y : Str} {D : Ends} {rest body : List Stmt} {B : Bs} {Γ : Gam} {Δ : List Own} {K : PySem.W.Frag} {α β : Type} {as : List α} {ι : Type}
abbrev LI (X : Cx) (rest : List Stmt) (D : Ends) (B : Bs) (t : Hp) (Pg : ι → Nat → Prop) (Γi : ι → Nat → Gam) (Δi : ι → Nat → List Own) (i : Nat) : Ends := LE X rest D fun σ H => ∃ g, Pg g i ∧ SS ⟨B.s, B.f, t⟩ (Γi g i) (Δi g i) σ H
theorem for_coreI {J : It} {G : Hp → Prop} {Ra : α → Rel} (w : Walk J as.length G (YR Ra as)) (Pg : ι → Nat → Prop) (Γi : ι → Nat → Gam) (Δi : ι → Nat → List Own) (g0 : ι) (hg0 : Pg g0 0) (f : α → Gam → Gam) {vs : List Nat} {σ : L2.St} {H1 : Hp} (s1 : SS B Γ Δ σ H1) (h0 : SS ⟨B.s, B.f, H1⟩ (Γi g0 0) (Δi g0 0) σ H1)
    (hG : ∀ g i σ H, SS ⟨B.s, B.f, H1⟩ (Γi g i) (Δi g i) σ H → G H) (hg : ∀ u, HG X tg (Ra u) (f u) vs)
    (hb : ∀ t g i u, as[i]? = some u → Pg g i → HB X (SS ⟨B.s, B.f, t⟩ (f u (Γi g i)) (Δi g i)) body (LI X rest D B t Pg Γi Δi (i + 1)))
    (hd : ∀ g, Pg g as.length → HB X (SS B (Γi g as.length) (Δi g as.length)) rest D) : ∃ W : Nat → Nat → L2.St → Hp → Prop, (∃ m, W 0 m σ H1) ∧ ∀ i m σ H, W i m σ H →
      (J.stop i H ∧ wB X rest D σ H) ∨ (J.go i H ∧ ∃ N : L2.St → Hp → Prop, (∀ σ' H', N σ' H' → ∃ m', m' < m ∧ W (i + 1) m' σ' H') ∧ ∀ x H', J.yld i H x H' → wG X tg x σ H' fun σ2 H2 => wB X body { D with nx := N, ct := N, bk := wB X rest D } σ2 H2) := by
  refine for_it (D := { D with nx := wB X rest D }) w (fun i σ' H' => ∃ g, Pg g i ∧ SS ⟨B.s, B.f, H1⟩ (Γi g i) (Δi g i) σ' H') ⟨g0, hg0, h0⟩ (fun i σ' H' _ ⟨g, _, s'⟩ => hG g i σ' H' s') (fun i x σ' Ha Hb hi ⟨g, hP, s'⟩ y => ?_) (fun σ' H' ⟨g, hP, s'⟩ => hd g hP σ' H' (SS.back (B := B) s' s1.lt))
  obtain ⟨e2, u, hu, ru⟩ := y
  intro pins sh uu I rv
  refine thn (hg u _ _ _ σ' Hb x (Stab.up s' e2) ru pins sh uu I rv) fun _ s3 ⟨σ2, H2, I2, r1, r2, _⟩ => ⟨σ2, H2, I2, ?_⟩
  subst r1
  exact hb H1 g i u hu hP σ2 H2 r2
variable [Enc α]
theorem hb_forXI (Pg : ι → Nat → Prop) (Γi : ι → Nat → Gam) (Δi : ι → Nat → List Own) (g0 : ι) (hg0 : Pg g0 0) (f : α → Gam → Gam) {vs : List Nat} (hc : X.calm = true) (hp : PassesOwn (model X.prog X.w) X.A X.env X.xe) (hi : HIt Lt X (SS B Γ Δ) tg it as) (h0 : Subg (Γi g0 0) Γ) (hΔ : List.Sublist (Δi g0 0) Δ) (hg : ∀ u, HG X tg (rD X.K u) (f u) vs)
    (hb : ∀ t g i u, as[i]? = some u → Pg g i → HB X (SS ⟨B.s, B.f, t⟩ (f u (Γi g i)) (Δi g i)) body (LI X rest D B t Pg Γi Δi (i + 1)))
    (hd : ∀ g, Pg g as.length → HB X (SS B (Γi g as.length) (Δi g as.length)) rest D) (hs : ∀ z, foldedSetIterable it X.env z = pure z := by intro _; rfl) : HB X (SS B Γ Δ) (.For tg it body [] pos :: rest) D :=
  hb_of (ps_for hp hc pi_w pg_w pb_w hs) fun σ H s => hi σ H s _ fun J H1 G e1 w g1 gk => by
    have s1 := Stab.up s e1
    exact for_coreI (Ra := rD X.K) w Pg Γi Δi g0 hg0 f s1 ((s1.now.sub h0).drop hΔ) (fun g i σ' H' s' => gk H1 H' g1 s'.lt) hg hb hd
/-- over a new list -/
theorem hb_forNI (Pg : ι → Nat → Prop) (Γi : ι → Nat → Gam) (Δi : ι → Nat → List Own) (g0 : ι) (hg0 : Pg g0 0) (f : α → Gam → Gam) {vs : List Nat} (hc : X.calm = true) (hp : PassesOwn (model X.prog X.w) X.A X.env X.xe) (he : HN X (SS B Γ Δ) it (CL X.K as)) (h0 : Subg (Γi g0 0) Γ) (hΔ : List.Sublist (Δi g0 0) Δ) (hg : ∀ u, HG X tg (rD X.K u) (f u) vs)
    (hb : ∀ t q g i u, as[i]? = some u → Pg g i → HB X (SS ⟨B.s, B.f, t⟩ (f u (Γi g i)) (oL X.K q as :: Δi g i)) body (LI X rest D B t Pg Γi (fun g i => oL X.K q as :: Δi g i) (i + 1)))
    (hd : ∀ g, Pg g as.length → HB X (SS B (Γi g as.length) (Δi g as.length)) rest D) (hs : ∀ z, foldedSetIterable it X.env z = pure z := by intro _; rfl) : HB X (SS B Γ Δ) (.For tg it body [] pos :: rest) D :=
  hb_of (ps_for hp hc (pi_list pe_w) pg_w pb_w hs) fun σ H s => (he σ H s).mono fun v H1 ⟨e1, q, r1, r2, xs, r3, r4⟩ => by
    have s1 : SS B Γ (oL X.K q as :: Δ) σ H1 := s.add e1 (o := oL X.K q as) r2 ⟨xs, r3, r4⟩
    refine ⟨q, r1, ⟨xs, .of r3⟩, for_coreI (Ra := rD X.K) walk_listT Pg Γi (fun g i => oL X.K q as :: Δi g i) g0 hg0 f s1 ((s1.now.sub h0).drop (hΔ.cons_cons _)) (fun g i σ H s => ?_) hg (fun t g i u hu hP => hb t q g i u hu hP) fun g hP σ H s => hd g hP σ H (s.drop (List.sublist_cons_self ..))⟩
    obtain ⟨xs, h1, h2⟩ := s.own _ (List.mem_cons_self ..)
    exact ⟨q, xs, rfl, .of h1, h2⟩
/-- over a parameter's list -/
theorem hb_forPI (n : Nat) (Pg : ι → Nat → Prop) (Γi : ι → Nat → Gam) (Δi : ι → Nat → List Own) (g0 : ι) (hg0 : Pg g0 0) (f : α → Gam → Gam) {vs : List Nat} (hc : X.calm = true) (hp : PassesOwn (model X.prog X.w) X.A X.env X.xe) (hn : Γ[n]? = some (some (cst B.s (rLs X.K as)))) (h0 : Subg (Γi g0 0) Γ) (hΔ : List.Sublist (Δi g0 0) Δ) (hg : ∀ u, HG X tg (rD X.K u) (f u) vs)
    (hb : ∀ t g i u, as[i]? = some u → Pg g i → HB X (SS ⟨B.s, B.f, t⟩ (f u (Γi g i)) (Δi g i)) body (LI X rest D B t Pg Γi Δi (i + 1)))
    (hd : ∀ g, Pg g as.length → HB X (SS B (Γi g as.length) (Δi g as.length)) rest D) (hN : X.N[n]? = some x := by rfl) (hvs : Vis X.env.scope x := by first | exact Or.inl rfl | exact Or.inr (Or.inl rfl) | exact Or.inr (Or.inr rfl)) (hdb : (x == ("__debug__" : Str)) = false := by decide)
    (hcd : (x == ("__classdict__" : Str)) = false := by decide) (hs : ∀ z, foldedSetIterable (.Name x p) X.env z = pure z := by intro _; rfl) : HB X (SS B Γ Δ) (.For tg (.Name x p) body [] pos :: rest) D :=
  hb_of (ps_for hp hc (pi_list (pe_var hN hvs hdb hcd)) pg_w pb_w hs) fun σ H s => by
    obtain ⟨v, h1, h2⟩ := s.get hn
    have h2' : rLs X.K as B.s v := h2
    obtain ⟨q, xs, rfl, h3, h4⟩ := rLs.ls h2'
    exact ⟨_, h1, q, rfl, ⟨xs, s.le.le.sqL h3⟩, for_coreI (Ra := rD X.K) walk_listT Pg Γi Δi g0 hg0 f s ((s.now.sub h0).drop hΔ) (fun g i σ H s => ⟨q, xs, rfl, s.le.le.sqL h3, Ims.up s.le.le _ _ h4⟩) hg hb hd⟩
end
section
variable [Tbs] {X : Cx} {S : SA} [Stab S] {e a b c : Expr} {rest : List Expr} {pos : Pos} {op : CmpOp} {σ : L2.St} {H : Hp} {Q : VK} {Qb : Bool → Hp → Prop}
theorem wc_op {r : R2} (ho : OpR X (compareOp op) r) (h : wE X a σ H fun x H1 => wE X b σ H1 fun y H2 => r x y H2 Q) : wC X op a b σ H Q := fun pins sh I =>
  binT pe_w pe_w I h fun v u s2 x y H2 I2 rx ry q => ho pins s2 _ H2 x y v u _ I2 rx ry q
theorem we_c (h : wC X op a b σ H Q) (hm : behindInMarks op b = false) : wE X (.Compare a [op] [b] pos) σ H Q := fun pins sh I => (pe_cmp pc_w hm).run pins sh σ H Q I h
theorem wt_c (h : wC X op a b σ H fun v H' => ∃ k, v = .bl k ∧ Qb k H') (hm : behindInMarks op b = false) : wT X (.Compare a [op] [b] pos) σ H Qb := fun pins sh I => (pt_cmp pc_w hm).run pins sh σ H Qb I h
theorem ww_and1 (h : wT X a σ H Qb) : wW X (.BoolOp .And [a] pos) σ H Qb := fun wh pins sh I => (pw_and1 pt_w).run wh pins sh σ H Qb I h
theorem ww_or1 (h : wT X a σ H Qb) : wW X (.BoolOp .Or [a] pos) σ H Qb := fun wh pins sh I => (pw_or1 pt_w).run wh pins sh σ H Qb I h
theorem ww_and (h : wT X a σ H fun c H1 => (c = true → wW X (.BoolOp .And (b :: rest) pos) σ H1 Qb) ∧ (c = false → Qb false H1)) : wW X (.BoolOp .And (a :: b :: rest) pos) σ H Qb := fun wh pins sh I =>
  (pw_and pt_w pw_w).run wh pins sh σ H Qb I (h.mono fun c H1 ⟨z1, z2⟩ => by
    cases c with
    | true => exact iteT (z1 rfl)
    | false => exact iteF (z2 rfl))
theorem ww_or (h : wT X a σ H fun c H1 => (c = false → wW X (.BoolOp .Or (b :: rest) pos) σ H1 Qb) ∧ (c = true → Qb true H1)) : wW X (.BoolOp .Or (a :: b :: rest) pos) σ H Qb := fun wh pins sh I =>
  (pw_or pt_w pw_w).run wh pins sh σ H Qb I (h.mono fun c H1 ⟨z1, z2⟩ => by
    cases c with
    | true => exact iteT (z2 rfl)
    | false => exact iteF (z1 rfl))
theorem ww_andH {k : Bool} (s : S σ H) (h : HT X S a k) (q1 : ∀ H1, Ex H H1 → S σ H1 → k = true → wW X (.BoolOp .And (b :: rest) pos) σ H1 Qb) (q2 : ∀ H1, Ex H H1 → S σ H1 → k = false → Qb false H1) : wW X (.BoolOp .And (a :: b :: rest) pos) σ H Qb :=
  ww_and ((h σ H s).mono fun c H1 ⟨e1, ec⟩ => ⟨fun z => q1 H1 e1 (Stab.up s e1) (by rw [← ec, z]), fun z => q2 H1 e1 (Stab.up s e1) (by rw [← ec, z])⟩)
theorem ww_orH {k : Bool} (s : S σ H) (h : HT X S a k) (q1 : ∀ H1, Ex H H1 → S σ H1 → k = false → wW X (.BoolOp .Or (b :: rest) pos) σ H1 Qb) (q2 : ∀ H1, Ex H H1 → S σ H1 → k = true → Qb true H1) : wW X (.BoolOp .Or (a :: b :: rest) pos) σ H Qb :=
  ww_or ((h σ H s).mono fun c H1 ⟨e1, ec⟩ => ⟨fun z => q1 H1 e1 (Stab.up s e1) (by rw [← ec, z]), fun z => q2 H1 e1 (Stab.up s e1) (by rw [← ec, z])⟩)
theorem we_H {R : Rel} {Q : VK} (s : S σ H) (h : HE X S e R) (q : ∀ v H1, Ex H H1 → S σ H1 → R H1 v → Q v H1) : wE X e σ H Q := (h σ H s).mono fun v H1 ⟨e1, r⟩ => q v H1 e1 (Stab.up s e1) r
theorem wt_w (h : wW X e σ H Qb) : wT X e σ H Qb := fun pins sh I => h _ pins sh I
theorem hb_and {P : Prop} {b : List Stmt} {D : Ends} (h : P → HB X S b D) : HB X (fun σ H => S σ H ∧ P) b D := fun σ H s => h s.2 σ H s.1
/-- if with a test that changes the state -/
theorem hb_ifW {ι : Type} {D : Ends} {A A2 rest : List Stmt} (St : Bool → SA) (J : ι → SA) (hc : ∀ σ H, S σ H → wT X c σ H fun k H' => St k σ H') (ha : HB X (St true) A { D with nx := fun σ H => ∃ g, J g σ H }) (hb : HB X (St false) A2 { D with nx := fun σ H => ∃ g, J g σ H }) (hr : ∀ g, HB X (J g) rest D) : HB X S (.If c A A2 pos :: rest) D :=
  hb_of (ps_if pt_w pb_w pb_w) fun σ H s => (hc σ H s).mono fun d H1 st => by
    cases d with
    | true => exact iteT ((ha σ H1 st).mono (fun σ H ⟨g, s⟩ => hr g σ H s) (fun _ _ z => z) (fun _ _ z => z) fun _ _ z => z)
    | false => exact iteF ((hb σ H1 st).mono (fun σ H ⟨g, s⟩ => hr g σ H s) (fun _ _ z => z) (fun _ _ z => z) fun _ _ z => z)
theorem tapeC_mono {l a : Addr} {n n' : Nat} {H : Hp} (h : TapeC l n a H) (hn : n ≤ n') : TapeC l n' a H := by
  obtain ⟨ts, ⟨i1, i2, i3, i4, e, h1, h3, h4, h5⟩, h6⟩ := h
  exact ⟨ts, ⟨i1, i2, i3, i4, e, h1, h3, h4, by omega⟩, h6⟩
theorem known_ofTC {P : Program} {w : World} {K : PySem.W.Frag} {mg : Str → Option Value} {base : Heap} {x : Str} {i k : Nat} {c : Addr} {N ps : List Str} {p : PT} (T : HasC K mg i x c) (sc : FnScope N ps (defScope (top i)))
    (hb : ∀ (kV doc pm : Value) (an : Option Addr) (cdv ct : Value) (us : List Value), us.length = ps.length → bindArgs (PySem.W.fnOf x x (defArgs (top i)) (defBody (top i)) (defScope (top i)) .none kV doc pm an cdv ct) ⟨us, []⟩ = pure (ps.zip us))
    (hp : ∀ Rs j R, p Rs j R → Rs.length + 1 = ps.length)
    (body : ∀ (f : Addr) (A : Around) (outer : List Env) (s : Shared) (H : Hp) (E : XK), Room k (A.deeper (envOfC x (defScope (top i)) s.heap.objs.size f (.ref c))) → ∀ Rs j R, p Rs j R → ∀ (a l : Addr) (n : Nat) (ts xs : List Int), n + j ≤ 5000 → TsOk n ts → rLs K xs (hid H a) (.ref l) →
      HB (cxOf CX0 P w K mg base N x (defScope (top i)) f (.ref c) A outer s H E).nox (SS (BT H a) (G0 (hid H a) N (rEq (.ref a) :: Rs)) [oTx l ts a]) (defBody (top i)) (DT a l (n + j) H R)) : Known P w K mg base (k + 1) x (spT K p) := by
  obtain ⟨f, oc, od, kV, doc, pm, an, ct, osl, hm, lk, hcd, hkp⟩ := T
  refine ⟨f, _, ps, fn_of lk hcd sc (fun vs H Q E h => ?_) (fun A outer s H vs Q E hr h => ?_), hm, hkp, Binds.all (hb kV doc pm an (.ref c) ct)⟩
  · obtain ⟨a, l, n, xs, rest, Rs, j, R, h1, rfl, _, _, _, h2, _⟩ := h
    rw [List.length_cons, h2.len]
    exact hp Rs j R h1
  · obtain ⟨a, l, n, xs, rest, Rs, j, R, h1, rfl, hn, ht, hx, h2, htb, h3⟩ := h
    obtain ⟨ts, hts, ha⟩ := ht
    have hl : (rEq (.ref a) :: Rs).length ≤ N.length := by
      have := congrArg List.length sc.pre
      rw [List.length_take] at this
      have := hp Rs j R h1
      rw [List.length_cons]
      omega
    have s0 : SS (BT H a) (G0 (hid H a) N (rEq (.ref a) :: Rs)) [] (L2.start N (.ref a :: rest)) (hid H a) := SS.start ⟨_, _, rfl, rfl, h2⟩ hl (tabs_hidL htb ha pl_lst)
    have s1 : SS (BT H a) (G0 (hid H a) N (rEq (.ref a) :: Rs)) [oTx l ts a] (L2.start N (.ref a :: rest)) H := s0.add Ex.unhid (o := oTx l ts a) hid_same ha
    refine ⟨_, PSs.nox (pb_w (X := (cxOf CX0 P w K mg base N x (defScope (top i)) f (.ref c) A outer s H E).nox) (b := defBody (top i))), fun pins sh I => ?_⟩
    refine thn (body f A outer s H E hr Rs j R h1 a l n ts xs hn hts hx _ H s1 pins sh I) fun fl s' q => ?_
    cases fl with
    | next => obtain ⟨σ', H', I', e1, c, q⟩ := q; exact ⟨σ', H', I', h3 _ _ e1 c q⟩
    | ret u => obtain ⟨v, σ', H', I', r, e1, c, q⟩ := q; exact ⟨v, σ', H', I', r, h3 _ _ e1 c q⟩
    | brk => obtain ⟨_, _, _, q⟩ := q; exact q.elim
    | cont => obtain ⟨_, _, _, q⟩ := q; exact q.elim
end
end CB
end
section
set_option Elab.async false
set_option linter.all false
set_option maxRecDepth 100000
set_option maxHeartbeats 2000000
set_option exponentiation.threshold 100
namespace CB
open PySem PySem.Spec PyProof.Rows L2 Enc
section
variable {P : Program} {w : World} {K : PySem.W.Frag} {mg : Str → Option Value} {base : Heap}
/-! ### a drawn family -/
def moreL (n : Nat) (p : List Int) : List (List Int) := (esort (lotsR n)).filter fun o => more o p
def famStep (n : Nat) (fs : List (List (List Int))) (p : List Int) : List (List (List Int)) := fs.flatMap fun fnd => if (moreL n p).all (fun o => decide (o ∈ fnd)) then (if (moreL n p).length = 0 then [fnd ++ [p]] else [fnd, fnd ++ [p]]) else [fnd]
def famRuns (n : Nat) (ps : List (List Int)) : List (List (List Int)) := ps.foldl (famStep n) [[]]
theorem famRuns_snoc (n : Nat) (ps : List (List Int)) (p : List Int) : famRuns n (ps ++ [p]) = famStep n (famRuns n ps) p := by unfold famRuns; rw [List.foldl_append]; rfl
def downL (n : Nat) : List (List Int) := ksort true (esort (lotsR n))
def FamD (n : Nat) (F : List (List Int)) : Prop := ∃ fnd ∈ famRuns n (downL n), F = esort fnd
theorem famRuns_len (n : Nat) : ∀ (i : Nat) (ps : List (List Int)), ∀ fnd ∈ famRuns n (ps.take i), fnd.length ≤ i
  | 0, ps => by
    intro fnd h
    rw [List.take_zero] at h
    have e : fnd = [] := by simpa [famRuns] using h
    rw [e]
    exact Nat.le_refl 0
  | i + 1, ps => by
    intro fnd h
    have ih := famRuns_len n i ps
    cases z : ps[i]? with
    | none =>
      have := List.getElem?_eq_none_iff.mp z
      rw [List.take_of_length_le (by omega)] at h ih
      have := ih fnd h
      omega
    | some p =>
      rw [take_snoc z, famRuns_snoc] at h
      obtain ⟨f0, h0, h1⟩ := List.mem_flatMap.mp h
      have := ih f0 h0
      split at h1
      · split at h1
        · have e : fnd = f0 ++ [p] := by simpa using h1
          rw [e, List.length_append, List.length_singleton]
          omega
        · rcases List.mem_cons.mp h1 with e | h1
          · rw [e]; omega
          · have e : fnd = f0 ++ [p] := by simpa using h1
            rw [e, List.length_append, List.length_singleton]
            omega
      · have e : fnd = f0 := by simpa using h1
        rw [e]
        omega
abbrev pFamD (K : PySem.W.Frag) : PT := fun Rs j R => ∃ n : Nat, Rs = [rD K (n : Int)] ∧ n ≤ 4 ∧ j = 16 ∧ R = fun H H' v => ∃ F q, FamD n F ∧ v = .ref q ∧ H q = none ∧ CL K F q H'
theorem k__law_family [Tbs] {lc lp : Addr} (T : HasC K mg 84 "_law_family" lc) (L : LamK base mg "_law_family" lc lp) (Bm : Bi mg) (k1 : Known P w K mg base 1 "_law_patterns" (spF (pLotsB K))) (k2 : Known P w K mg base 1 "_law_shows_more" (spF (pMore K))) (k3 : Known P w K mg base 1 "_law_pick" (spT K (pPick K))) : Known P w K mg base 2 "_law_family" (spT K (pFamD K)) := by
  have S : FnScope ["_law_tape_here", "_law_many", "_law_found", "_law_pattern", "_law_more", "_law_one"] ["_law_tape_here", "_law_many"] (defScope (top 84)) := ⟨rfl, rfl, rfl, by decide +kernel, rfl, by decide +kernel, by decide +kernel⟩
  refine known_ofTC T S (fun _ _ _ _ _ _ us hl => match us, hl with | [_, _], _ => rfl) (fun Rs j R ⟨_, h, _⟩ => by rw [h] <;> rfl) fun f A outer s H E hr Rs jj R hp a l n ts xs hn hts hxs => ?_
  obtain ⟨n0, rfl, hn0, rfl, rfl⟩ := hp
  obtain ⟨b1, b2⟩ := lotsR_ok n0 hn0
  have perm : (esort (lotsR n0)).Perm (lotsR n0) := esort_perm _
  have kperm : (downL n0).Perm (esort (lotsR n0)) := ksort_perm true _
  have plen : (esort (lotsR n0)).length ≤ 16 := by rw [perm.length_eq]; exact b1
  have psh : ∀ o ∈ esort (lotsR n0), o.length ≤ 4 := fun o ho => b2 o (perm.mem_iff.mp ho)
  have dlen : (downL n0).length ≤ 16 := by rw [kperm.length_eq]; exact plen
  refine hb_tpW (n := n) 0 rfl hts ?_
  refine hb_setL (as := ([] : List (List Int))) (K := K) 2 hn_lst0 (fun qf => ?_) S.nd
  refine hb_forNI (ι := List (List Int)) (as := downL n0) (fun g i => g ∈ famRuns n0 ((downL n0).take i)) (fun _ _ => [some (cst (hid H a) (rEq (.ref a))), some (cst (hid H a) (rD K (n0 : Int))), some (rEq (.ref qf)), none, none, none]) (fun g i => [oL K qf g, oT l (n + i) a]) [] (by simp [famRuns]) (fun u Γ => Γ.set 3 (some (rD K u))) rfl nox
    (hn_sortK (x := "_law_lot") (as := esort (lotsR n0)) true ⟨L.tab, rfl, L.mem, L.uniq⟩ Bm hr (HN.ls (hn_call k1 hr (ha_cons (he_par (R := rD K (n0 : Int)) 1 rfl) ha_nil) ⟨n0, rfl, hn0, rfl⟩)) (by omega) (fun l hl => by have := psh l hl; omega) rfl rfl (fun _ _ _ _ => rfl) rfl rfl rfl rfl (by decide) (by decide)) (Subg.refl _) (List.Sublist.refl _) (fun u => hg_name 3 S.nd) (fun t qd g i p hp hg => ?_) (fun g hg => ?_)
  · have hpm : p ∈ downL n0 := List.mem_of_getElem? hp
    have hpl : p.length ≤ 4 := psh p (kperm.mem_iff.mp hpm)
    have hi : i < 16 := by have := (List.getElem?_eq_some_iff.mp hp).1; omega
    have hgl := famRuns_len n0 i (downL n0) g hg
    refine hb_setLc (as := esort (lotsR n0)) 4 (fun o => more o p) (fun o => o) (fun u Γ => Γ.set 5 (some (rD K u))) [("_law_one", 5)] rfl S.nd (hi_list (HN.ls (hn_call k1 hr (ha_cons (he_par (R := rD K (n0 : Int)) 1 rfl) ha_nil) ⟨n0, rfl, hn0, rfl⟩))) (by omega) (fun s H0 C cl fp u => hg_name 5 S.nd)
      (fun s H0 C cl fp o ho => hts_one (ht_val (he_call k2 hr (ha_cons (he_var 5 rfl) (ha_cons (he_var 3 rfl) ha_nil)) ⟨o, p, rfl, by omega, rfl⟩))) (fun s H0 C cl fp o ho _ => he_var 5 rfl) (by kernel_rfl) (fun qm => ?_)
    rw [show ((esort (lotsR n0)).filter fun o => more o p).map (fun o => o) = moreL n0 p from List.map_id' _]
    have ml : (moreL n0 p).length ≤ 16 := Nat.le_trans (List.length_filter_le _ _) plen
    refine hb_ifW (ι := { g' : List (List Int) // g' ∈ famRuns n0 ((downL n0).take (i + 1)) }) (fun k σ H' => SS ⟨hid H a, hid H a, t⟩ [some (cst (hid H a) (rEq (.ref a))), some (cst (hid H a) (rD K (n0 : Int))), some (rEq (.ref qf)), some (rD K p), some (rEq (.ref qm)), none] [oL K qm (moreL n0 p), oL K qd (downL n0), oL K qf g, oT l (n + (i + 1)) a] σ H' ∧ (k = true → ((moreL n0 p).map fun o => decide (o ∈ g)).all id = true) ∧ (k = false → ((moreL n0 p).map fun o => decide (o ∈ g)).all id = true → ¬ (moreL n0 p).length = 0))
      (J := fun g' σ H' => SS ⟨hid H a, hid H a, t⟩ [some (cst (hid H a) (rEq (.ref a))), some (cst (hid H a) (rD K (n0 : Int))), some (rEq (.ref qf)), none, none, none] [oL K qm (moreL n0 p), oL K qd (downL n0), oL K qf g'.1, oT l (n + (i + 1)) a] σ H') (fun σ H' s => ?_) ?_ ?_ (fun g' => ?_)
    · refine wt_w (ww_andH (k := ((moreL n0 p).map fun o => decide (o ∈ g)).all id) s (ht_val (he_all rfl Bm (he_lcB (as := moreL n0 p) (fun o => decide (o ∈ g)) (fun u Γ => Γ.set 5 (some (rD K u))) [("_law_one", 5)] rfl S.nd (hi_list (he_own 4 0 rfl rfl)) (by omega) (fun s H0 C cl fp u => hg_name 5 S.nd) (fun s H0 C cl fp o ho => HE.eq (he_c (hc_inL (u := o) (as := g) (hu0 hr) (by decide) (he_var 5 rfl) (he_own (as := g) 2 2 rfl rfl))) (congrArg rB (decide_eq_decide.mpr Iff.rfl))) (by kernel_rfl)))) (fun H1 e1 s1 z => ?_) (fun H1 e1 s1 z => ?_))
      · refine ww_and1 (wt_w (ww_orH (k := decide (((moreL n0 p).length : Int) = 0)) s1 (ht_c (hc_eqE (hu0 hr) (by decide) (HE.eq (he_lenL (K := K) (Ra := (moreL n0 p).map (rD K)) Bm (he_own (as := moreL n0 p) 4 0 rfl rfl)) (by rw [List.length_map] <;> rfl)) he_int)) (fun H2 e2 s2 z2 => ?_) (fun H2 e2 s2 z2 => ?_)))
        · refine ww_or1 (wt_c (wc_op op_gt (callT_w (xs := xs) (m := 3) (n := n + i) k3 hr (by decide) (by rfl) (Rs' := [rD K (5 : Int)]) (ha_cons (R := rEq (.ref a)) (he_var 0 rfl) (ha_cons (he_int (K := K) (i := 5)) ha_nil)) ⟨5, rfl, ⟨by decide, by decide⟩, rfl, rfl⟩ (by rfl) (by omega) (hl_of (m := 3) (n := n + i) hxs rfl) (hh_d (m := 3) (n := n + i) rfl) (by decide) (by rfl) (by rfl) s2 fun v H3 H4 s3 _ s4 ⟨d, d0, d1, rd⟩ => ?_)) (nomark _))
          refine we_H (R := rD K (0 : Int)) s4 he_int fun y H5 e5 s5 ry => ⟨d, 0, rd, ry, _, rfl, s5, fun _ => z, fun _ _ zz => ?_⟩
          rw [zz] at z2
          cases z2
        · refine ⟨s2.reown (o' := oT l (n + (i + 1)) a) (m := 3) rfl rfl fun H c => tapeC_mono c (by omega), fun _ => z, (fun w => nomatch w)⟩
      · refine ⟨s1.reown (o' := oT l (n + (i + 1)) a) (m := 3) rfl rfl fun H c => tapeC_mono c (by omega), (fun w => nomatch w), fun _ w => ?_⟩
        rw [z] at w
        cases w
    · refine hb_and fun hh => ?_
      have h1 := hh.1 rfl
      refine (hb_append (as := g) (u := p) (q := qf) 2 2 rfl rfl (by omega) (he_var 3 rfl) (hb_nil fun σ H2 s2 => ⟨⟨g ++ [p], ?_⟩, s2.sub ⟨rfl, rfl, rfl, trivial⟩⟩))
      rw [take_snoc hp, famRuns_snoc]
      refine List.mem_flatMap.mpr ⟨g, hg, ?_⟩
      rw [List.all_map] at h1
      rw [if_pos (by simpa using h1)]
      split <;> simp
    · refine hb_and fun hh => ?_
      have h2 := hh.2 rfl
      refine (hb_nil fun σ H2 s2 => ⟨⟨g, ?_⟩, s2.sub ⟨rfl, rfl, rfl, trivial⟩⟩)
      rw [take_snoc hp, famRuns_snoc]
      refine List.mem_flatMap.mpr ⟨g, hg, ?_⟩
      by_cases z : ((moreL n0 p).map fun o => decide (o ∈ g)).all id = true
      · have h2 := h2 z
        rw [List.all_map] at z
        rw [if_pos (by simpa using z), if_neg h2]
        simp
      · rw [List.all_map] at z
        rw [if_neg (by simpa using z)]
        simp
    · exact hb_nil fun σ H' s => ⟨g'.1, g'.2, s.subd (Subg.refl _) (List.Sublist.cons _ (List.Sublist.refl _))⟩
  · rw [List.take_length] at hg
    refine hb_retN (he_sortL Bm (hu0 hr) (by decide) (he_own (as := g) 2 0 rfl rfl)) fun σ H1 H2 q s e1 hq hc => ?_
    have f := s.fresh hq
    have hne : H q = none := by
      by_cases z : q = a
      · exact absurd z.symm (f.2.2 (oT l (n + (downL n0).length) a) (List.mem_of_getElem? (i := 1) rfl))
      · have f1 : hid H a q = none := f.1
        rwa [hid_ne z] at f1
    exact ⟨s.ex.trans e1, tapeC_mono ((oT l (n + (downL n0).length) a).ex (s.own _ (List.mem_of_getElem? (i := 1) rfl)) e1) (by omega), _, q, ⟨g, hg, rfl⟩, rfl, hne, hc⟩
end
end CB
end
section
set_option Elab.async false
set_option linter.all false
set_option maxRecDepth 100000
set_option maxHeartbeats 2000000
/-! HH. stores of values whose making changes the state. -/
namespace CB
open PySem PySem.Spec PyProof.Rows L2 Enc
section
variable [Tbs] {X : Cx} {S : SA} [Stab S] {e a b c : Expr} {pos p pos' p2 : Pos} {x y : Str} {D : Ends} {rest : List Stmt} {B : Bs} {Γ : Gam} {Δ Δ' : List Own}
theorem hb_setTC {ι : Type} (i : Nat) (Ri : ι → Rel) [∀ g, Sta (Ri g)] (hw : ∀ σ H, SS B Γ Δ σ H → wE X e σ H fun v H' => SS B Γ Δ' σ H' ∧ ∃ g, Ri g H' v) (h : ∀ g, HB X (SS B (Γ.set i (some (Ri g))) Δ') rest D) (hN : X.N.Nodup) (hi : X.N[i]? = some y := by rfl) (hx : Loc X.env.scope y := by first | exact Or.inl rfl | exact Or.inr rfl)
    (hs : swapsWith e (some (.Name y p2)) pos'.line X.env = pure false := by rfl) (hf : X.fn y = true ∨ X.env.scope.names.lookup y = some .local := by first | exact .inl rfl | exact .inr rfl) : HB X (SS B Γ Δ) (.Assign [.Name y p2] e pos' :: rest) D :=
  hb_of (ps_set hN hi hx pe_w hs hf) fun σ H s => (hw σ H s).mono fun v H' ⟨s2, g, r⟩ => h g _ H' (s2.set r)
theorem hb_setTCN {ι : Type} (i : Nat) (o : ι → Addr → Own) (hw : ∀ σ H, SS B Γ Δ σ H → wE X e σ H fun v H' => ∃ g q, v = .ref q ∧ (o g q).p = q ∧ SS B Γ (o g q :: Δ') σ H') (h : ∀ g q, HB X (SS B (Γ.set i (some (rEq (.ref q)))) (o g q :: Δ')) rest D) (hN : X.N.Nodup) (hi : X.N[i]? = some y := by rfl) (hx : Loc X.env.scope y := by first | exact Or.inl rfl | exact Or.inr rfl)
    (hs : swapsWith e (some (.Name y p2)) pos'.line X.env = pure false := by rfl) (hf : X.fn y = true ∨ X.env.scope.names.lookup y = some .local := by first | exact .inl rfl | exact .inr rfl) : HB X (SS B Γ Δ) (.Assign [.Name y p2] e pos' :: rest) D :=
  hb_of (ps_set hN hi hx pe_w hs hf) fun σ H s => (hw σ H s).mono fun v H' ⟨g, q, ev, ep, s2⟩ => by
    subst ev
    exact h g q _ H' (s2.set rfl)
theorem hb_putT {κ β : Type} [Enc κ] [DecidableEq κ] [TupE κ] [Enc β] {kvs : List (κ × β)} {q : Addr} {u : κ} {ι : Type} (val : ι → β) (i n : Nat) (hΓ : Γ[i]? = some (some (rEq (.ref q)))) (hΔ : Δ'[n]? = some (oD X.prog X.w X.K q kvs)) (hu : X.A.units + 40 < cLine) (hd : dp κ ≤ 8) (hl : kvs.length < 10000)
    (hv : ∀ σ H, SS B Γ Δ σ H → wE X e σ H fun v H' => SS B Γ Δ' σ H' ∧ ∃ g, rD X.K (val g) H' v) (hk : HE X (SS B Γ Δ') b (rD X.K u)) (h : ∀ g, HB X (SS B Γ (Δ'.set n (oD X.prog X.w X.K q (put kvs u (val g))))) rest D) (hN : X.N[i]? = some x := by rfl) (hvs : Vis X.env.scope x := by first | exact Or.inl rfl | exact Or.inr (Or.inl rfl) | exact Or.inr (Or.inr rfl)) (hdb : (x == ("__debug__" : Str)) = false := by decide)
    (hcd : (x == ("__classdict__" : Str)) = false := by decide) (hs : swapsWith e (some (.Subscript (.Name x p) b pos')) pos.line X.env = pure false := by rfl) : HB X (SS B Γ Δ) (.Assign [.Subscript (.Name x p) b pos'] e pos :: rest) D :=
  hb_of (ps_xput (by omega) (pe_var hN hvs hdb hcd) pe_w pe_w hs) fun σ H s => (hv σ H s).mono fun y H1 ⟨s1, g, r1⟩ => by
    obtain ⟨z, h1, h2⟩ := s1.get hΓ
    have e2 : z = .ref q := h2
    subst e2
    refine ⟨_, h1, (hk σ H1 s1).mono fun w H2 ⟨e3, r2⟩ => ?_⟩
    have s2 := Stab.up s1 e3
    obtain ⟨t, g1, g2⟩ := s2.own _ (List.mem_of_getElem? hΔ)
    obtain ⟨bq, rfl⟩ := key_ref r2
    have lt : Lt H2 (upd H2 q (DO X.prog X.w q (rput t (enc u) bq y))) := Lt.put g1 loose_ext
    refine ⟨q, bq, t, enc u, rfl, rfl, g1, g2.keys hd, r2, Nat.le_trans (Enc.le u) hd, ?_, h g _ _ (SS.mut s2 hΔ (o' := oD X.prog X.w X.K q (put kvs u (val g))) rfl ⟨_, upd_same, ?_⟩)⟩
    · rw [g2.length, sizeLine_eq]; omega
    · have r1' : Im X.K H2 (enc (val g)) y := Mon.up (R := rD X.K (val g)) e3 r1
      exact DR.upT (g2.put (b := val g) r2 r1') lt
theorem we_op {op : Operator} {r : R2} {σ : L2.St} {H : Hp} {Q : VK} (ho : OpR X (binaryOp op) r) (h : wE X a σ H fun x H1 => wE X b σ H1 fun y H2 => r x y H2 Q) : wE X (.BinOp a op b pos) σ H Q := fun pins sh I => (pe_op ho pe_w pe_w).run pins sh σ H Q I h
/-- ints -/
def rI0E : R2 := fun x y H Q => ∃ i j : Int, x = .int i ∧ y = .int j ∧ Q (.bl (decide (i = j))) H
theorem op_eqI : OpR X (compareOp .Eq) rI0E := by
  intro pins s σ H x y v u Q I rx ry h
  obtain ⟨i, j, rfl, rfl, q⟩ := h
  obtain ⟨t, rfl⟩ := rx
  obtain ⟨t', rfl⟩ := ry
  exact eq_int (fin_bl I q (by rw [Bool.eq_iff_iff]; simp))
end
end CB
end
section
set_option Elab.async false
set_option linter.all false
set_option maxRecDepth 100000
set_option maxHeartbeats 2000000
set_option exponentiation.threshold 100
namespace CB
open PySem PySem.Spec PyProof.Rows L2 Enc
section
variable {P : Program} {w : World} {K : PySem.W.Frag} {mg : Str → Option Value} {base : Heap}
/-! ### drawn weights -/
def kst (ks : List (List Int)) (v : List Int) : List (List Int) := if v ∈ ks then ks else ks ++ [v]
def vkP (p : List Int) (ks cs : List (List Int)) : List (List Int) := cs.foldl (fun ks c => kst ks (view c p)) ks
def vkeys (sz : List Int) (F : List (List Int)) : List (List Int) := F.foldl (fun ks p => vkP p ks (contents sz)) []
theorem vkP_snoc (p : List Int) (ks cs : List (List Int)) (c : List Int) : vkP p ks (cs ++ [c]) = kst (vkP p ks cs) (view c p) := by unfold vkP; rw [List.foldl_append]; rfl
theorem vkeys_snoc (sz : List Int) (F : List (List Int)) (p : List Int) : vkeys sz (F ++ [p]) = vkP p (vkeys sz F) (contents sz) := by unfold vkeys; rw [List.foldl_append]; rfl
theorem kst_len (ks : List (List Int)) (v : List Int) : (kst ks v).length ≤ ks.length + 1 := by
  unfold kst
  split
  · omega
  · rw [List.length_append, List.length_singleton]; exact Nat.le_refl _
theorem vkP_len (p : List Int) (ks : List (List Int)) : ∀ (n : Nat) (cs : List (List Int)), (vkP p ks (cs.take n)).length ≤ ks.length + n
  | 0, cs => by rw [List.take_zero] <;> exact Nat.le_refl _
  | n + 1, cs => by
    have h2 := vkP_len p ks n cs
    cases h : cs[n]? with
    | none =>
      have := List.getElem?_eq_none_iff.mp h
      rw [List.take_of_length_le (by omega)]
      rw [List.take_of_length_le (by omega)] at h2
      omega
    | some c =>
      rw [take_snoc h, vkP_snoc]
      have := kst_len (vkP p ks (cs.take n)) (view c p)
      omega
theorem vkeys_len {sz : List Int} (hz : sz ∈ allSz) : ∀ (n : Nat) (F : List (List Int)), (vkeys sz (F.take n)).length ≤ 16 * n
  | 0, F => by rw [List.take_zero] <;> exact Nat.le_refl _
  | n + 1, F => by
    have h2 := vkeys_len hz n F
    cases h : F[n]? with
    | none =>
      have := List.getElem?_eq_none_iff.mp h
      rw [List.take_of_length_le (by omega)]
      rw [List.take_of_length_le (by omega)] at h2
      omega
    | some p =>
      rw [take_snoc h, vkeys_snoc]
      have h3 := vkP_len p (vkeys sz (F.take n)) (contents sz).length (contents sz)
      rw [List.take_length] at h3
      have := contents_few sz hz
      omega
def WsOk (ks : List (List Int)) (ws : List (List Int × Int)) : Prop := ws.map (·.1) = ks ∧ ∀ x ∈ ws, 1 ≤ x.2 ∧ x.2 ≤ 10 ^ 9
theorem WsOk.len {ks : List (List Int)} {ws : List (List Int × Int)} (h : WsOk ks ws) : ws.length = ks.length := by rw [← h.1, List.length_map]
theorem wsok_step {ks : List (List Int)} {ws : List (List Int × Int)} {v : List Int} (h : WsOk ks ws) : (v ∈ ks → WsOk (kst ks v) ws) ∧ (¬ v ∈ ks → ∀ w, 1 ≤ w ∧ w ≤ 10 ^ 9 → WsOk (kst ks v) (put ws v w)) := by
  refine ⟨fun hv => ?_, fun hv w hw => ?_⟩
  · unfold kst
    rw [if_pos hv]
    exact h
  · have e : look ws v = none := look_none (by rw [h.1]; exact hv)
    unfold kst
    rw [if_neg hv, put_new e]
    refine ⟨by rw [List.map_append, h.1]; rfl, fun x hx => ?_⟩
    rcases List.mem_append.mp hx with hx | hx
    · exact h.2 x hx
    · have ex : x = (v, w) := by simpa using hx
      rw [ex]
      exact hw
theorem lookW {ks : List (List Int)} {ws : List (List Int × Int)} (h : WsOk ks ws) (v : List Int) : (look ws v).isSome = decide (v ∈ ks) := by
  by_cases z : v ∈ ks
  · rw [← h.1] at z
    obtain ⟨w, e⟩ := look_some z
    rw [e]
    rw [h.1] at z
    simp [z]
  · have z2 := z
    rw [← h.1] at z2
    rw [look_none z2]
    simp [z]
def mostW (k : Bool) (p : List Int) : Int := if k then 10 ^ 9 else ([3, 9, 30] : List Int).getD (p.length % 3) 0
theorem mostW_ok (k : Bool) (p : List Int) : 0 < mostW k p ∧ mostW k p ≤ 10 ^ 9 := by
  unfold mostW
  cases k with
  | true => rw [if_pos rfl]; exact ⟨by decide, by decide⟩
  | false =>
    have h : p.length % 3 = 0 ∨ p.length % 3 = 1 ∨ p.length % 3 = 2 := by omega
    rw [if_neg Bool.false_ne_true]
    rcases h with h | h | h <;> (rw [h]; decide)
theorem atI_w (p : List Int) : atI ([3, 9, 30] : List Int) ((p.length : Int) % 3) = some (([3, 9, 30] : List Int).getD (p.length % 3) 0) := by
  have e : ((p.length : Int) % 3) = ((p.length % 3 : Nat) : Int) := by omega
  rw [e]
  have h : p.length % 3 = 0 ∨ p.length % 3 = 1 ∨ p.length % 3 = 2 := by omega
  rcases h with h | h | h <;> (rw [h]; rfl)
abbrev pWtsD (P : Program) (w : World) (K : PySem.W.Frag) : PT := fun Rs j R => ∃ (sz : List Int) (F : List (List Int)), Rs = [rD K sz, rLs K F] ∧ (sz ∈ allSz ∧ F.length ≤ 20 ∧ ∀ p ∈ F, p.length ≤ 100) ∧ j = 400 ∧ R = fun H H' v => ∃ ws q, WsOk (vkeys sz F) ws ∧ v = .ref q ∧ H q = none ∧ CD P w K ws q H'
theorem k__law_weights [Tbs] (T : Has K mg 85 "_law_weights") (Bm : Bi mg) (k1 : Known P w K mg base 1 "_law_pick" (spT K (pPick K))) (k2 : Known P w K mg base 2 "_law_contents" (spF (pConts K))) (k3 : Known P w K mg base 1 "_law_view" (spF (pView2 K))) : Known P w K mg base 3 "_law_weights" (spT K (pWtsD P w K)) := by
  have S : FnScope ["_law_tape_here", "_law_sizes_here", "_law_family_here", "_law_great", "_law_found", "_law_pattern", "_law_content", "_law_view_here"] ["_law_tape_here", "_law_sizes_here", "_law_family_here"] (defScope (top 85)) := ⟨rfl, rfl, rfl, by decide +kernel, rfl, by decide +kernel, by decide +kernel⟩
  refine known_ofT T S (fun _ _ _ _ _ _ us hl => match us, hl with | [_, _, _], _ => rfl) (fun Rs j R ⟨_, _, h, _⟩ => by rw [h] <;> rfl) fun f cdv A outer s H E hr Rs jj R hp a l n ts xs hn hts hxs => ?_
  obtain ⟨sz, F, rfl, ⟨hz, hF, hsh⟩, rfl, rfl⟩ := hp
  obtain ⟨cn, cc⟩ := contents_ok sz hz
  have c16 := contents_few sz hz
  refine hb_tpW (n := n) 0 rfl hts ?_
  refine hb_setTC (ι := Bool) (Δ' := [oT l (n + 1) a]) 3 (fun k => rB k) (fun σ H' s => we_c (wc_op op_eqI (callT_w (xs := xs) (m := 0) (n := n) k1 hr (by decide) (by rfl) (Rs' := [rD K (12 : Int)]) (ha_cons (R := rEq (.ref a)) (he_var 0 rfl) (ha_cons (he_int (K := K) (i := 12)) ha_nil)) ⟨12, rfl, ⟨by decide, by decide⟩, rfl, rfl⟩ (by rfl) (by omega) (hl_of (m := 0) (n := n) hxs rfl) (hh_d (m := 0) (n := n) rfl) (by decide) (by rfl) (by rfl) s fun v H3 H4 s3 _ s4 ⟨d, d0, d1, rd⟩ => we_H (R := rD K (0 : Int)) s4 he_int fun y H5 e5 s5 ry => ⟨d, 0, rd, ry, s5, _, rfl⟩)) (nomark _)) (fun gr => ?_) S.nd
  refine hb_setD (P := P) (w := w) (K := K) (kvs := ([] : List (List Int × Int))) 4 (hn_xnew (List Int) Int) (fun qf => ?_) S.nd
  refine hb_forPI (ι := List (List Int × Int)) (as := F) 2 (fun g i => WsOk (vkeys sz (F.take i)) g) (fun _ _ => [some (cst (hid H a) (rEq (.ref a))), some (cst (hid H a) (rD K sz)), some (cst (hid H a) (rLs K F)), some (rB gr), some (rEq (.ref qf)), none, none, none]) (fun g i => [oD P w K qf g, oT l (n + 1 + 16 * i) a]) [] ⟨rfl, fun x hx => nomatch hx⟩ (fun u Γ => Γ.set 5 (some (rD K u))) rfl nox rfl (Subg.refl _) (List.Sublist.refl _) (fun u => hg_name 5 S.nd) (fun t g i p hp hg => ?_) (fun g hg => ?_)
  · have hpm : p ∈ F := List.mem_of_getElem? hp
    have hpl := hsh p hpm
    have hi : i < 20 := by have := (List.getElem?_eq_some_iff.mp hp).1; omega
    have kl := vkeys_len hz i F
    refine hb_forNI (ι := List (List Int × Int)) (as := contents sz) (fun g j => WsOk (vkP p (vkeys sz (F.take i)) ((contents sz).take j)) g) (fun _ _ => [some (cst (hid H a) (rEq (.ref a))), some (cst (hid H a) (rD K sz)), some (cst (hid H a) (rLs K F)), some (rB gr), some (rEq (.ref qf)), some (rD K p), none, none]) (fun g j => [oD P w K qf g, oT l (n + 1 + 16 * i + j) a]) g (by rw [List.take_zero]; exact hg) (fun u Γ => Γ.set 6 (some (rD K u))) rfl nox (hn_call k2 hr (ha_cons (he_par (R := rD K sz) 1 rfl) ha_nil) ⟨sz, rfl, hz, rfl⟩) (Subg.refl _) (List.Sublist.refl _) (fun u => hg_name 6 S.nd) (fun t2 qc g2 j c hc hg2 => ?_) (fun g2 hg2 => ?_)
    · have hcm := List.mem_of_getElem? hc
      have hj : j < 16 := by have := (List.getElem?_eq_some_iff.mp hc).1; omega
      have ll := vkP_len p (vkeys sz (F.take i)) j (contents sz)
      have gl := hg2.len
      obtain ⟨st1, st2⟩ := wsok_step (v := view c p) hg2
      refine hb_set (R := rD K (view c p)) 7 (he_call k3 hr (ha_cons (he_var 6 rfl) (ha_cons (he_var 5 rfl) ha_nil)) ⟨c, p, rfl, by have := (cc c hcm).1; have := (sz_len sz hz).2; omega, rfl⟩) ?_ S.nd
      refine hb_if (ht_c (hc_xnotin (u := view c p) (kvs := g2) (hu0 hr) (by decide) (he_var 7 rfl) (he_ownD 4 1 rfl rfl))) (fun hk => ?_) (fun hk => ?_)
      · rw [lookW hg2] at hk
        have hk : ¬ view c p ∈ vkP p (vkeys sz (F.take i)) ((contents sz).take j) := by simpa using hk
        obtain ⟨mw1, mw2⟩ := mostW_ok gr p
        refine hb_putT (κ := List Int) (β := Int) (kvs := g2) (u := view c p) (ι := { d : Int // 0 ≤ d ∧ d < mostW gr p }) (Δ' := [oL K qc (contents sz), oD P w K qf g2, oT l (n + 1 + 16 * i + j + 1) a]) (fun d => 1 + d.1) 4 1 rfl rfl (hu0 hr) (by decide) (by omega) (fun σ H' s => ?_) (he_var 7 rfl) (fun d => hb_nil ?_)
        · refine we_op op_add (we_H (R := rD K (1 : Int)) s he_int fun x H1 e1 s1 rx => callT_w (xs := xs) (m := 2) (n := n + 1 + 16 * i + j) k1 hr (by decide) (by rfl) (Rs' := [rD K (mostW gr p)]) (ha_cons (R := rEq (.ref a)) (he_var 0 rfl) (ha_cons (R := rD K (mostW gr p)) (he_if (ht_val (he_var 3 rfl)) (fun hk => ?_) (fun hk => ?_)) ha_nil)) ⟨_, rfl, ⟨mw1, Int.le_trans mw2 (by decide)⟩, rfl, rfl⟩ (by rfl) (by omega) (hl_of (m := 2) (n := n + 1 + 16 * i + j) hxs rfl) (hh_d (m := 2) (n := n + 1 + 16 * i + j) rfl) (by decide) (by rfl) (by rfl) s1 fun v H3 H4 s3 _ s4 ⟨d, d0, d1, rd⟩ => ⟨1, d, rx, rd, s4, ⟨d, d0, d1⟩, rfl⟩)
          · rw [hk]
            exact he_pow he_int he_int ⟨by decide, by decide, by decide⟩
          · rw [hk]
            exact he_atL (as := ([3, 9, 30] : List Int)) (HN.ls (hn_lst (l := ([3, 9, 30] : List Int)) (ha_cons he_int (ha_cons he_int (ha_cons he_int ha_nil))) (by decide))) (he_mod (he_lenT (K := K) Bm (he_var (R := rD K p) 5 rfl)) he_int (by decide)) (fun _ _ => rfl) (atI_w p)
        · refine hb_nil fun σ H' s => ⟨put g2 (view c p) (1 + d.1), ?_, s.sub ⟨rfl, rfl, rfl, rfl, rfl, rfl, trivial⟩⟩
          show WsOk (vkP p (vkeys sz (F.take i)) ((contents sz).take (j + 1))) _
          rw [take_snoc hc, vkP_snoc]
          exact st2 hk _ ⟨by have := d.2.1; omega, by have := d.2.2; omega⟩
      · rw [lookW hg2] at hk
        have hk : view c p ∈ vkP p (vkeys sz (F.take i)) ((contents sz).take j) := by simpa using hk
        refine hb_nil ?_
        refine hb_nil fun σ H' s => ⟨g2, ?_, (s.reown (o' := oT l (n + 1 + 16 * i + (j + 1)) a) (m := 2) rfl rfl fun H c => tapeC_mono c (by omega)).sub ⟨rfl, rfl, rfl, rfl, rfl, rfl, trivial⟩⟩
        show WsOk (vkP p (vkeys sz (F.take i)) ((contents sz).take (j + 1))) _
        rw [take_snoc hc, vkP_snoc]
        exact st1 hk
    · rw [List.take_length] at hg2
      refine hb_nil fun σ H' s => ⟨g2, ?_, ((s.reown (o' := oT l (n + 1 + 16 * (i + 1)) a) (m := 1) rfl rfl fun H c => tapeC_mono c (by omega)).sub ⟨rfl, rfl, rfl, rfl, rfl, trivial⟩)⟩
      show WsOk (vkeys sz (F.take (i + 1))) _
      rw [take_snoc hp, vkeys_snoc]
      exact hg2
  · rw [List.take_length] at hg
    refine hb_of (ps_ret (pe_var (i := 4) rfl (by first | exact Or.inl rfl | exact Or.inr (Or.inl rfl) | exact Or.inr (Or.inr rfl)) (by decide) (by decide))) fun σ H' s => ?_
    obtain ⟨v, h1, h2⟩ := s.get (i := 4) rfl
    have ev : v = .ref qf := h2
    subst ev
    have f := s.fr (oD P w K qf g) (List.mem_of_getElem? (i := 0) rfl)
    have ne : qf ≠ a := fun e => by
      have := s.ap
      rw [e] at this
      simp [oD, oT] at this
    have f1 : hid H a qf = none := f.1
    rw [hid_ne ne] at f1
    exact ⟨_, h1, s.ex, tapeC_mono (s.own _ (List.mem_of_getElem? (i := 1) rfl)) (by omega), g, qf, hg, rfl, f1, s.own _ (List.mem_of_getElem? (i := 0) rfl)⟩
end
end CB
end
section
set_option Elab.async false
set_option linter.all false
set_option maxRecDepth 100000
set_option maxHeartbeats 2000000
/-! II. sorted(t), t a tuple of ints. -/
namespace CB
open PySem PySem.Spec PyProof.Rows L2 Enc
section
variable {X : Cx}
theorem sortable_ints (as : List Int) : PySem.W.Sortable (as.map dat) := .inr fun d hd => by
  obtain ⟨a, _, rfl⟩ := List.mem_map.mp hd
  have e : dat a = .int a := rfl
  rw [e]
  exact ⟨(fun z => nomatch z), (fun xs z => nomatch z)⟩
theorem sort_newI {A : Around} {E : Value → Shared → Prop} {pins : List (Addr × Obj)} {σ : L2.St} {H : Hp} {s : Shared} {us : List Value} {as : List Int} {Q : Value → Shared → Prop} (I : Inv X pins σ H s) (e : PySem.W.EachIs (RI X.K H) us as) (hr : A.units + 35 < cLine)
    (hL : us.length ≤ sizeLine) (h : ∀ h' c out, (∀ b o, s.heap.get? b = some o → h'.get? b = some o) → h'.get? s.heap.objs.size = some (seqObj "list" (List.toArray out) c) → PySem.W.EachIs (RI X.K H) out (esort as) → Q .none { s with heap := h' }) :
    wpAny (model X.prog X.w) A (call (.builtin "list.sort") [.ref s.heap.objs.size]) Q E { s with heap := s.heap.push (seqObj "list" us.toArray 0) } := by
  have er := ri_reads I e
  have er' : PySem.W.EachIs (fun v b => ∃ as, Reads (PySem.W.sortingHeap (s.heap.push (seqObj "list" us.toArray 0)) s.heap.objs.size us) v (dat b) as) us as := er.mono fun v b ⟨as, r⟩ => ⟨as, PyProof.Rows.Reads.keeps (fun b o q => PySem.W.sortingHeap_old (Nat.ne_of_lt (Heap.lt_size q)) (Heap.get?_push_of_some _ q)) r⟩
  have ho : (s.heap.push (seqObj "list" us.toArray 0)).get? s.heap.objs.size = some (seqObj "list" us.toArray 0) := Heap.get?_push_size _ rfl
  refine wpAny_call_entry slot_list_sort ⟨_, ho, rfl⟩ entry_list_sort (PySem.W.list_sort_vals (s := { s with heap := s.heap.push (seqObj "list" us.toArray 0) }) ho (PySem.W.SortsAt.data (s := { s with heap := PySem.W.sortingHeap (s.heap.push (seqObj "list" us.toArray 0)) s.heap.objs.size us })
    (PySem.W.each_map (R := fun v d => ∃ as, Reads (PySem.W.sortingHeap (s.heap.push (seqObj "list" us.toArray 0)) s.heap.objs.size us) v d as) dat er') (all_alike as) (sortable_ints as) (fun d hdm => ?_)) hL ⟨.none, rfl, ?_⟩) (args_list_sort _)
  · obtain ⟨a, _, rfl⟩ := List.mem_map.mp hdm
    have : (dat a).depth ≤ 0 := dat_depth a
    rw [Around.in1_units]
    omega
  · have out := PySem.W.sortVals_data false e er' (all_alike as)
    obtain ⟨c, hc⟩ := sortedHeap_at (vs := us) (out := (PySem.W.sortVals (PySem.W.dataKind (PySem.W.sortingHeap (s.heap.push (seqObj "list" us.toArray 0)) s.heap.objs.size us) (as.map dat)) false us us).toArray) ho
    refine h _ c _ (fun b o q => ?_) hc out
    have hb : b < s.heap.objs.size := Heap.lt_size q
    rw [sortedHeap_old (Nat.ne_of_lt hb) (by rw [size_push']; exact Nat.lt_succ_of_lt hb)]
    exact Heap.get?_push_of_some _ q
def rSortTI (K : PySem.W.Frag) (as : List Int) : List V → Hp → VK → Prop := fun vs H Q => ∃ v, vs = [v] ∧ rD K as H v ∧ ∀ p xs, H p = none → Ims K H ((esort as).map enc) xs → Q (.ref p) (upd H p (.lst xs))
theorem cr_sortTI (as : List Int) (hr : X.A.units + 40 < cLine) : CallR X (.builtin "sorted") (rSortTI X.K as) := by
  intro pins s σ H vs us Q I r h
  obtain ⟨v, rfl, ⟨d, xs, rfl, hx, hi⟩, q⟩ := h
  obtain ⟨u, rfl, rx⟩ := vals1 r
  cases rx
  obtain ⟨its, rv, ⟨o, ho, hc, n, hdt⟩, hz⟩ := I.tuple hx
  have hlen : its.length = xs.length := rv.length.symm
  refine Calls.call_function_entry PyProof.Rows.kind_sorted PyProof.Rows.plain_sorted PyProof.Rows.entry_sorted (PyProof.Rows.args_sorted1 _) ?_
  unfold Builtin.«sorted»
  refine wpAny_bind (m := checkCount "sorted" 1 1 _) (wpAny_pure ?_)
  refine wpAny_bind (wpAny_collect_seq d (.inr rfl) ho hc hdt (fun h' hk => ?_) (by rw [List.size_toArray]; omega))
  have I1 : Inv X pins σ H { s with heap := h' } := I.kept (t' := s.toks) hk
  have e : PySem.W.EachIs (RI X.K H) its as := ri_of hi rv
  have hl2 := esort_len as
  have hl3 : xs.length = as.length := by have := hi.length; rw [List.length_map] at this; exact this
  refine wpAny_bind (wpAny_newList ?_ (by simp only [List.size_toArray] <;> omega))
  show wpAny _ _ _ _ _ { s with heap := h'.push (seqObj "list" its.toArray 0), toks := s.toks }
  refine wpAny_bind (wpAny_holding (sort_newI I1 e (by rw [Around.in1_units]; omega) (by omega) fun h2 c out k2 hc eo => ?_))
  obtain ⟨ys, i2, r2⟩ := of_ri eo
  have hn : H h'.objs.size = none := I1.hok.fresh (Nat.le_refl _)
  have hy : ys.length ≤ sizeLine := by
    have h1 := i2.length
    rw [List.length_map] at h1
    omega
  exact wpAny_pure ⟨_, rfl, .ref h'.objs.size, upd H h'.objs.size (.lst ys), I1.laid (t' := s.toks) k2 (Nat.le_refl _) (show ObjOk X.prog X.w _ _ _ (.lst ys) from ⟨hy, _, c, r2, hc⟩), rfl, q _ ys hn i2⟩
end
section
variable [Tbs] {X : Cx} {S : SA} [Stab S] {a : Expr} {p pos : Pos} {as : List Int}
theorem hn_sortTI (B : Bi X.mg) (hr : X.A.units + 40 < cLine) (ha : HE X S a (rD X.K as)) (hg : Gl X "sorted" := by rfl) (he : starEach [a] X.env = (false, eval a X.env) :: starEach [] X.env := by rfl) (hpl : (backTo pos (starEach [] X.env)).any (·.1) = false := by rfl) :
    HN X S (.Call (.Name "sorted" p) [a] [] pos) (CL X.K (esort as)) := fun σ H s => bi_w (cr_sortTI as hr) B.sorted boot_sorted (ha_cons ha ha_nil he) s (fun vs H1 e1 r => by
    obtain ⟨v, rfl, h⟩ := rs1 r
    exact ⟨v, rfl, h, fun q xs hq hi => ⟨e1.trans (Ex.new hq), q, rfl, none_of_ex e1 hq, xs, upd_same, Ims.up (le_of (Ex.new hq)) _ _ hi⟩⟩) hg (by decide) (by decide) he hpl
end
end CB
end
section
set_option Elab.async false
set_option linter.all false
set_option maxRecDepth 100000
set_option maxHeartbeats 2000000
set_option exponentiation.threshold 100
namespace CB
open PySem PySem.Spec PyProof.Rows L2 Enc
section
variable {P : Program} {w : World} {K : PySem.W.Frag} {mg : Str → Option Value} {base : Heap}
/-! ### uncalm -/
structure Unc1 (kvs : List (PK × Rat)) (p m c o : List Int) : Prop where
  k1 : (c, p) ∈ kvs.map (·.1)
  k2 : (c, m) ∈ kvs.map (·.1)
  k3 : (o, p) ∈ kvs.map (·.1)
  k4 : (o, m) ∈ kvs.map (·.1)
  ok1 : Ok2 (lkG kvs (c, p)) (lkG kvs (c, m))
  ok2 : Ok2 (lkG kvs (o, p)) (lkG kvs (o, m))
  p1 : 0 < (lkG kvs (c, m)).num
  p2 : 0 < (lkG kvs (o, m)).num
  o1 : Ok2 (lkG kvs (c, p) / lkG kvs (c, m)) 1
  o2 : Ok2 (lkG kvs (o, p) / lkG kvs (o, m)) 1
  eq : lkG kvs (c, p) / lkG kvs (c, m) = lkG kvs (o, p) / lkG kvs (o, m)
structure UncOk (sz : List Int) (F : List (List Int)) (kvs : List (PK × Rat)) : Prop where
  hz : sz ∈ allSz
  few : F.length ≤ 20
  short : ∀ p ∈ F, p.length ≤ 100
  ok : ∀ (i : Nat) (s : Int), sz[i]? = some s → ∀ p ∈ F, ¬ (i : Int) ∈ p → esort (p ++ [(i : Int)]) ∈ F → ∀ c ∈ contents sz, ∀ v w : Int, c[i]? = some v → v < w → w < s → Unc1 kvs p (esort (p ++ [(i : Int)])) c (c.take i ++ [w] ++ c.drop (i + 1))
abbrev pUnc (P : Program) (w : World) (K : PySem.W.Frag) : PR := fun Rs R => ∃ (sz : List Int) (F : List (List Int)) (kvs : List (PK × Rat)), Rs = [rD K sz, rLs K F, rDs P w K kvs, rD K (evens sz)] ∧ UncOk sz F kvs ∧ R = fun _ => rN
theorem HC.eq [Tbs] {X : Cx} {S : SA} {op : CmpOp} {a b : Expr} {k k' : Bool} (h : HC X S op a b k) (e : k = k') : HC X S op a b k' := e ▸ h
theorem esort_mem' {α : Type} [Enc α] {as : List α} {a : α} : a ∈ esort as ↔ a ∈ as := (List.mergeSort_perm _ _).mem_iff
theorem evens_at {sz : List Int} {i : Nat} {s : Int} (h : sz[i]? = some s) : atI (evens sz) (i : Int) = some (List.replicate s.toNat 1) := atI_nat (j := i) (by unfold evens; rw [List.getElem?_map, h]; rfl)
theorem rep_at {s v : Int} (h0 : 0 ≤ v) (h : v < s) : atI (List.replicate s.toNat (1 : Rat)) v = some 1 := by
  have e := atI_nat (xs := List.replicate s.toNat (1 : Rat)) (j := v.toNat) (v := 1) (by rw [List.getElem?_replicate, if_pos (by omega)])
  rw [Int.toNat_of_nonneg h0] at e
  exact e
theorem rgL_get2 {a b : Int} {j : Nat} {u : Int} (h : (rgL a b)[j]? = some u) : a ≤ u ∧ u < b := by
  have hl := (List.getElem?_eq_some_iff.mp h).1
  rw [rgL_len] at hl
  unfold rgL at h
  rw [List.getElem?_map, List.getElem?_range hl] at h
  have e : a + (j : Int) = u := Option.some.inj h
  omega
theorem k__law_uncalm [Tbs]  (T : Has K mg 91 "_law_uncalm") (Bm : Bi mg) (k1 : Known P w K mg base 2 "_law_contents" (spF (pConts K))) (k2 : Known P w K mg base 2 "_law_over" (spF (pOver K))) : Known P w K mg base 3 "_law_uncalm" (spF (pUnc P w K)) := by
  have S : FnScope ["_law_sizes_here", "_law_family_here", "_law_whole", "_law_tilts", "_law_column", "_law_pattern", "_law_more", "_law_content", "_law_worth", "_law_other", "_law_one", "_law_two"] ["_law_sizes_here", "_law_family_here", "_law_whole", "_law_tilts"] (defScope (top 91)) := ⟨rfl, rfl, rfl, by decide +kernel, rfl, by decide +kernel, by decide +kernel⟩
  refine known_of T S (fun _ _ _ _ _ _ us hl => match us, hl with | [_, _, _, _], _ => rfl) (fun Rs R ⟨_, _, _, h, _⟩ => by rw [h] <;> rfl) fun f cdv A outer s H E hr Rs R hp => ?_
  obtain ⟨sz, F, kvs, rfl, hk, rfl⟩ := hp
  obtain ⟨cn, cc⟩ := contents_ok sz hk.hz
  have szl := sz_len sz hk.hz
  have fF := hk.few
  refine hb_for (as := rgL 0 (sz.length : Int)) (fun _ => [some (cst H (rD K sz)), some (cst H (rLs K F)), some (cst H (rDs P w K kvs)), some (cst H (rD K (evens sz))), none, none, none, none, none, none, none, none]) (fun _ => []) (fun u Γ => Γ.set 4 (some (rD K u))) rfl nox (hi_range1 Bm (he_lenT (K := K) Bm (he_par (R := rD K sz) 0 rfl)) (by omega) (by omega)) (Subg.refl _) (List.Sublist.refl _) (fun u => hg_name 4 S.nd) (fun t i0 u hu => ?_) ?_
  · obtain ⟨hi, rfl⟩ := rgL_get hu
    generalize i0 = i at hi hu ⊢
    obtain ⟨s, hs⟩ : ∃ s, sz[i]? = some s := ⟨sz[i], List.getElem?_eq_getElem hi⟩
    have hsm := List.mem_of_getElem? hs
    have hsr := sz_all sz hk.hz s hsm
    refine hb_forN (as := esort F) (fun _ => [some (cst H (rD K sz)), some (cst H (rLs K F)), some (cst H (rDs P w K kvs)), some (cst H (rD K (evens sz))), some (rD K (i : Int)), none, none, none, none, none, none, none]) (fun _ => []) (fun u Γ => Γ.set 5 (some (rD K u))) rfl nox (he_sortL Bm (hu0 hr) (by decide) (he_par (R := rLs K F) 1 rfl)) (Subg.refl _) (List.Sublist.refl _) (fun u => hg_name 5 S.nd) (fun t2 q2 j p hp => ?_) (hb_nil fun σ H' s => s.sub ⟨rfl, rfl, rfl, rfl, trivial⟩)
    have hpm : p ∈ F := esort_mem (List.mem_of_getElem? hp)
    have hpl := hk.short p hpm
    refine hb_set (R := rD K (esort (p ++ [(i : Int)]))) 6 (he_tupT Bm (HN.ls (hn_sortTI Bm (hu0 hr) (he_cat (he_var 5 rfl) (he_one (he_var 4 rfl)) (by simp <;> omega))))) ?_ S.nd
    refine hb_if (ht_w (hw_and (k := !decide ((i : Int) ∈ p)) (k' := decide (esort (p ++ [(i : Int)]) ∈ F)) (ht_c (hc_notInT (hu0 hr) (by decide) (he_var 4 rfl) (he_var (R := rD K p) 5 rfl))) fun _ => hw_and1 (ht_c (HC.eq (hc_inL (u := esort (p ++ [(i : Int)])) (as := F) (hu0 hr) (by decide) (he_var 6 rfl) (he_par (R := rLs K F) 1 rfl)) (decide_eq_decide.mpr Iff.rfl))))) (fun hc => ?_) (fun _ => hb_nil ?_)
    · rw [Bool.and_eq_true] at hc
      have h1 : ¬ (i : Int) ∈ p := by simpa using hc.1
      have h2 : esort (p ++ [(i : Int)]) ∈ F := of_decide_eq_true hc.2
      refine hb_forN (as := contents sz) (fun _ => [some (cst H (rD K sz)), some (cst H (rLs K F)), some (cst H (rDs P w K kvs)), some (cst H (rD K (evens sz))), some (rD K (i : Int)), some (rD K p), some (rD K (esort (p ++ [(i : Int)]))), none, none, none, none, none]) (fun _ => [oL K q2 (esort F)]) (fun u Γ => Γ.set 7 (some (rD K u))) rfl nox (hn_call k1 hr (ha_cons (he_par (R := rD K sz) 0 rfl) ha_nil) ⟨sz, rfl, hk.hz, rfl⟩) (Subg.refl _) (List.Sublist.refl _) (fun u => hg_name 7 S.nd) (fun t3 q3 j3 c hcc => ?_) (hb_nil ?_)
      · have hcm := List.mem_of_getElem? hcc
        have hct := cc c hcm
        have hcl : c.length = sz.length := hct.1
        obtain ⟨v, hv⟩ : ∃ v, c[i]? = some v := ⟨c[i]'(by omega), List.getElem?_eq_getElem (by omega)⟩
        obtain ⟨s', hs', hv0, hv1⟩ := ct_at hct hv
        have es : s' = s := by rw [hs] at hs'; exact (Option.some.inj hs').symm
        subst es
        refine hb_for (as := rgL (v + 1) s') (fun _ => [some (cst H (rD K sz)), some (cst H (rLs K F)), some (cst H (rDs P w K kvs)), some (cst H (rD K (evens sz))), some (rD K (i : Int)), some (rD K p), some (rD K (esort (p ++ [(i : Int)]))), some (rD K c), none, none, none, none]) (fun _ => [oL K q3 (contents sz), oL K q2 (esort F)]) (fun u Γ => Γ.set 8 (some (rD K u))) rfl nox (hi_range2 Bm (he_add (he_at (as := c) (u := v) (he_var 7 rfl) (he_var 4 rfl) plainIx_name (atI_nat (j := i) hv)) he_int) (he_at (as := sz) (u := s') (he_par (R := rD K sz) 0 rfl) (he_var 4 rfl) plainIx_name (atI_nat (j := i) hs)) (by omega) (by omega)) (Subg.refl _) (List.Sublist.refl _) (fun u => hg_name 8 S.nd) (fun t4 j4 w4 hw => ?_) (hb_nil fun σ H' s => s.subd ⟨rfl, rfl, rfl, rfl, rfl, rfl, rfl, trivial⟩ (List.Sublist.refl _))
        obtain ⟨w1, w2⟩ := rgL_get2 hw
        have un := hk.ok i s' hs p hpm h1 h2 c hcm v w4 hv (by omega) w2
        generalize hm : esort (p ++ [(i : Int)]) = m at un ⊢
        have he : ((i : Int) + 1).toNat = i + 1 := by omega
        refine hb_set (R := rD K (c.take i ++ [w4] ++ c.drop (i + 1))) 9 (he_deq (he_cat (he_cat (he_slTo (he_var (R := rD K c) 7 rfl) (by omega) (he_var 4 rfl) (by omega)) (he_one (he_var 8 rfl)) (by simp <;> omega)) (he_slFrom (he_var (R := rD K c) 7 rfl) (by omega) (he_add (he_var 4 rfl) he_int) (by omega)) (by simp <;> omega)) (by rw [he, Int.toNat_natCast])) ?_ S.nd
        generalize c.take i ++ [w4] ++ c.drop (i + 1) = o at un ⊢
        refine hb_set (R := rD K (lkG kvs (c, p) / lkG kvs (c, m))) 10 (he_call k2 hr (ha_cons (he_xget (kvs := kvs) (u := (c, p)) (hu0 hr) (by decide) (he_par (R := rDs P w K kvs) 2 rfl) (he_pair (he_var 7 rfl) (he_var 5 rfl)) (fun _ _ => rfl) (lkG_some un.k1)) (ha_cons (he_xget (kvs := kvs) (u := (c, m)) (hu0 hr) (by decide) (he_par (R := rDs P w K kvs) 2 rfl) (he_pair (he_var 7 rfl) (he_var 6 rfl)) (fun _ _ => rfl) (lkG_some un.k2)) ha_nil)) ⟨_, _, rfl, ⟨un.ok1, un.p1⟩, rfl⟩) ?_ S.nd
        refine hb_set (R := rD K (lkG kvs (o, p) / lkG kvs (o, m))) 11 (he_call k2 hr (ha_cons (he_xget (kvs := kvs) (u := (o, p)) (hu0 hr) (by decide) (he_par (R := rDs P w K kvs) 2 rfl) (he_pair (he_var 9 rfl) (he_var 5 rfl)) (fun _ _ => rfl) (lkG_some un.k3)) (ha_cons (he_xget (kvs := kvs) (u := (o, m)) (hu0 hr) (by decide) (he_par (R := rDs P w K kvs) 2 rfl) (he_pair (he_var 9 rfl) (he_var 6 rfl)) (fun _ _ => rfl) (lkG_some un.k4)) ha_nil)) ⟨_, _, rfl, ⟨un.ok2, un.p2⟩, rfl⟩) ?_ S.nd
        refine hb_set (R := rD K (lkG kvs (c, p) / lkG kvs (c, m) / 1)) 10 (he_call k2 hr (ha_cons (he_var 10 rfl) (ha_cons (he_at (as := List.replicate s'.toNat (1 : Rat)) (he_at (as := evens sz) (he_par (R := rD K (evens sz)) 3 rfl) (he_var 4 rfl) plainIx_name (evens_at hs)) (he_at (as := c) (u := v) (he_var 7 rfl) (he_var 4 rfl) plainIx_name (atI_nat (j := i) hv)) plainIx_sub (rep_at hv0 hv1)) ha_nil)) ⟨_, _, rfl, ⟨un.o1, by decide⟩, rfl⟩) ?_ S.nd
        refine hb_if (ht_c (hc_neE (u := lkG kvs (c, p) / lkG kvs (c, m) / 1) (v := lkG kvs (o, p) / lkG kvs (o, m) / 1) (hu0 hr) (by decide) (he_var 10 rfl) (he_call k2 hr (ha_cons (he_var 11 rfl) (ha_cons (he_at (as := List.replicate s'.toNat (1 : Rat)) (he_at (as := evens sz) (he_par (R := rD K (evens sz)) 3 rfl) (he_var 4 rfl) plainIx_name (evens_at hs)) (he_var 8 rfl) plainIx_name (rep_at (by omega) w2)) ha_nil)) ⟨_, _, rfl, ⟨un.o2, by decide⟩, rfl⟩))) (fun hx => ?_) (fun _ => hb_nil ?_)
        · rw [un.eq] at hx
          simp at hx
        · exact hb_nil fun σ H' s => s.sub ⟨rfl, rfl, rfl, rfl, rfl, rfl, rfl, rfl, trivial⟩
      · exact hb_nil fun σ H' s => s.subd ⟨rfl, rfl, rfl, rfl, rfl, trivial⟩ (List.Sublist.refl _)
    · exact hb_nil fun σ H' s => s.subd ⟨rfl, rfl, rfl, rfl, rfl, trivial⟩ (List.Sublist.refl _)
  · exact hb_rt he_non fun v H' e r => ⟨e, r⟩
end
end CB
end
section
set_option Elab.async false
set_option linter.all false
set_option maxRecDepth 100000
set_option maxHeartbeats 2000000
set_option exponentiation.threshold 100
namespace CB
open PySem PySem.Spec PyProof.Rows L2 Enc
section
variable {P : Program} {w : World} {K : PySem.W.Frag} {mg : Str → Option Value} {base : Heap}
/-! ### by hand -/
def pairsOf (s t : Int) : List (Int × Int) := (rgL 0 s).flatMap fun a => (rgL 0 t).map fun b => (a, b)
theorem contents_one (s : Int) : contents [s] = (rgL 0 s).map fun a => [a] := by simp [contents, tupl]
theorem contents_two (s t : Int) : contents [s, t] = (pairsOf s t).map fun p => [p.1, p.2] := by
  simp [contents, tupl, pairsOf, List.map_flatMap, List.flatMap_map]
  rfl
theorem cl_pairs {K : PySem.W.Frag} {ps : List (Int × Int)} {p : Addr} {H : Hp} (h : CL K (ps.map fun p => [p.1, p.2]) p H) : CL K ps p H := by
  obtain ⟨xs, h1, h2⟩ := h
  rw [List.map_map] at h2
  exact ⟨xs, h1, h2⟩
def T1 (kvs : List (List Int × Rat)) (s : Int) : Rat := rsum ((rgL 0 s).map fun w => lk kvs [w])
def byS1 (kvs : List (List Int × Rat)) (T : Rat) (m : List (PK × Rat)) (w : Int) : List (PK × Rat) := put (put m ([w], [0]) (lk kvs [w])) ([w], []) (lk kvs [-1] * lk kvs [w] / T)
def by1 (kvs : List (List Int × Rat)) (T : Rat) (ws : List Int) : List (PK × Rat) := ws.foldl (byS1 kvs T) []
theorem by1_snoc (kvs : List (List Int × Rat)) (T : Rat) (ws : List Int) (w : Int) : by1 kvs T (ws ++ [w]) = byS1 kvs T (by1 kvs T ws) w := by unfold by1; rw [List.foldl_append]; rfl
theorem fold_len {α β : Type} {f : List β → α → List β} {d : Nat} (h : ∀ m a, (f m a).length ≤ m.length + d) : ∀ (l : List α) (m : List β), (l.foldl f m).length ≤ m.length + d * l.length
  | [], m => Nat.le_refl _
  | a :: l, m => by
    rw [List.foldl_cons, List.length_cons]
    have h1 := fold_len h l (f m a)
    have h2 := h m a
    rw [Nat.mul_add, Nat.mul_one]
    omega
theorem byS1_len (kvs : List (List Int × Rat)) (T : Rat) (m : List (PK × Rat)) (w : Int) : (byS1 kvs T m w).length ≤ m.length + 2 := by
  unfold byS1
  have h1 := length_put m ([w], ([0] : List Int)) (lk kvs [w])
  have h2 := length_put (put m ([w], ([0] : List Int)) (lk kvs [w])) ([w], ([] : List Int)) (lk kvs [-1] * lk kvs [w] / T)
  omega
structure ByOk1 (kvs : List (List Int × Rat)) (s : Int) : Prop where
  s0 : 0 ≤ s ∧ s ≤ 4
  key : ∀ w ∈ rgL 0 s, [w] ∈ kvs.map (·.1)
  key0 : [-1] ∈ kvs.map (·.1)
  sums : ∀ i a, ((rgL 0 s).map fun w => lk kvs [w])[i]? = some a → Ok2 (rsum (((rgL 0 s).map fun w => lk kvs [w]).take i)) a
  tms : ∀ w ∈ rgL 0 s, Ok2 (lk kvs [-1]) (lk kvs [w]) ∧ Ok2 (lk kvs [-1] * lk kvs [w]) (T1 kvs s)
  pos : 0 < (T1 kvs s).num
def fsA (kvs : List (List Int × Rat)) (t a : Int) : Rat := rsum ((rgL 0 t).map fun b => lk kvs [a, b])
def snB (kvs : List (List Int × Rat)) (s b : Int) : Rat := rsum ((rgL 0 s).map fun a => lk kvs [a, b])
def byA (kvs : List (List Int × Rat)) (t a : Int) : Rat := lk kvs [a, -1] / fsA kvs t a
def byB (kvs : List (List Int × Rat)) (s b : Int) : Rat := lk kvs [-1, b] / snB kvs s b
def byS2 (kvs : List (List Int × Rat)) (s t : Int) (m : List (PK × Rat)) (p : Int × Int) : List (PK × Rat) := put (put (put (put m ([p.1, p.2], [0, 1]) (lk kvs [p.1, p.2])) ([p.1, p.2], [0]) (byA kvs t p.1 * lk kvs [p.1, p.2])) ([p.1, p.2], [1]) (byB kvs s p.2 * lk kvs [p.1, p.2])) ([p.1, p.2], []) (byA kvs t p.1 * byB kvs s p.2 * lk kvs [p.1, p.2])
def by2 (kvs : List (List Int × Rat)) (s t : Int) (ps : List (Int × Int)) : List (PK × Rat) := ps.foldl (byS2 kvs s t) []
theorem by2_snoc (kvs : List (List Int × Rat)) (s t : Int) (ps : List (Int × Int)) (p : Int × Int) : by2 kvs s t (ps ++ [p]) = byS2 kvs s t (by2 kvs s t ps) p := by unfold by2; rw [List.foldl_append]; rfl
theorem byS2_len (kvs : List (List Int × Rat)) (s t : Int) (m : List (PK × Rat)) (p : Int × Int) : (byS2 kvs s t m p).length ≤ m.length + 4 := by
  unfold byS2
  have h1 := length_put m ([p.1, p.2], ([0, 1] : List Int)) (lk kvs [p.1, p.2])
  generalize put m ([p.1, p.2], ([0, 1] : List Int)) (lk kvs [p.1, p.2]) = m1 at h1 ⊢
  have h2 := length_put m1 ([p.1, p.2], ([0] : List Int)) (byA kvs t p.1 * lk kvs [p.1, p.2])
  generalize put m1 ([p.1, p.2], ([0] : List Int)) (byA kvs t p.1 * lk kvs [p.1, p.2]) = m2 at h2 ⊢
  have h3 := length_put m2 ([p.1, p.2], ([1] : List Int)) (byB kvs s p.2 * lk kvs [p.1, p.2])
  generalize put m2 ([p.1, p.2], ([1] : List Int)) (byB kvs s p.2 * lk kvs [p.1, p.2]) = m3 at h3 ⊢
  have h4 := length_put m3 ([p.1, p.2], ([] : List Int)) (byA kvs t p.1 * byB kvs s p.2 * lk kvs [p.1, p.2])
  omega
def T2 (m : List (PK × Rat)) (cs : List (List Int)) : Rat := rsum (cs.map fun c => lkG m (c, []))
def byS3 (z T : Rat) (m : List (PK × Rat)) (c : List Int) : List (PK × Rat) := put m (c, []) (lkG m (c, []) * z / T)
def by3 (z T : Rat) (m : List (PK × Rat)) (cs : List (List Int)) : List (PK × Rat) := cs.foldl (byS3 z T) m
theorem by3_snoc (z T : Rat) (m : List (PK × Rat)) (cs : List (List Int)) (c : List Int) : by3 z T m (cs ++ [c]) = byS3 z T (by3 z T m cs) c := by unfold by3; rw [List.foldl_append]; rfl
theorem byS3_len (z T : Rat) (m : List (PK × Rat)) (c : List Int) : (byS3 z T m c).length ≤ m.length + 1 := length_put _ _ _
def byTwo (kvs : List (List Int × Rat)) (s t : Int) : List (PK × Rat) := by3 (lk kvs [-1, -1]) (T2 (by2 kvs s t (pairsOf s t)) (contents [s, t])) (by2 kvs s t (pairsOf s t)) (contents [s, t])
structure ByOk2 (kvs : List (List Int × Rat)) (s t : Int) : Prop where
  s0 : 0 ≤ s ∧ s ≤ 4
  t0 : 0 ≤ t ∧ t ≤ 4
  key : ∀ a ∈ rgL 0 s, ∀ b ∈ rgL 0 t, [a, b] ∈ kvs.map (·.1) ∧ [a, -1] ∈ kvs.map (·.1) ∧ [-1, b] ∈ kvs.map (·.1)
  key0 : [-1, -1] ∈ kvs.map (·.1)
  sumA : ∀ x ∈ rgL 0 s, ∀ i a, ((rgL 0 t).map fun b => lk kvs [x, b])[i]? = some a → Ok2 (rsum (((rgL 0 t).map fun b => lk kvs [x, b]).take i)) a
  sumB : ∀ y ∈ rgL 0 t, ∀ i a, ((rgL 0 s).map fun x => lk kvs [x, y])[i]? = some a → Ok2 (rsum (((rgL 0 s).map fun x => lk kvs [x, y]).take i)) a
  ovA : ∀ a ∈ rgL 0 s, Ok2 (lk kvs [a, -1]) (fsA kvs t a) ∧ 0 < (fsA kvs t a).num
  ovB : ∀ b ∈ rgL 0 t, Ok2 (lk kvs [-1, b]) (snB kvs s b) ∧ 0 < (snB kvs s b).num
  tms : ∀ a ∈ rgL 0 s, ∀ b ∈ rgL 0 t, Ok2 (byA kvs t a) (lk kvs [a, b]) ∧ Ok2 (byB kvs s b) (lk kvs [a, b]) ∧ Ok2 (byA kvs t a) (byB kvs s b) ∧ Ok2 (byA kvs t a * byB kvs s b) (lk kvs [a, b])
  key2 : ∀ c ∈ contents [s, t], (c, []) ∈ (by2 kvs s t (pairsOf s t)).map (·.1)
  sumT : ∀ i a, ((contents [s, t]).map fun c => lkG (by2 kvs s t (pairsOf s t)) (c, []))[i]? = some a → Ok2 (rsum (((contents [s, t]).map fun c => lkG (by2 kvs s t (pairsOf s t)) (c, [])).take i)) a
  pos : 0 < (T2 (by2 kvs s t (pairsOf s t)) (contents [s, t])).num
  step : ∀ i c, (contents [s, t])[i]? = some c → ∀ m, m = by3 (lk kvs [-1, -1]) (T2 (by2 kvs s t (pairsOf s t)) (contents [s, t])) (by2 kvs s t (pairsOf s t)) ((contents [s, t]).take i) → (c, []) ∈ m.map (·.1) ∧ Ok2 (lkG m (c, [])) (lk kvs [-1, -1]) ∧ Ok2 (lkG m (c, []) * lk kvs [-1, -1]) (T2 (by2 kvs s t (pairsOf s t)) (contents [s, t]))
inductive ByOk (kvs : List (List Int × Rat)) : List Int → List (PK × Rat) → Prop
  | one (s : Int) : ByOk1 kvs s → [s] ∈ allSz → ByOk kvs [s] (by1 kvs (T1 kvs s) (rgL 0 s))
  | two (s t : Int) : ByOk2 kvs s t → [s, t] ∈ allSz → ByOk kvs [s, t] (byTwo kvs s t)
abbrev pBy (P : Program) (w : World) (K : PySem.W.Frag) : PR := fun Rs R => ∃ (sz : List Int) (kvs : List (List Int × Rat)) (res : List (PK × Rat)), Rs = [rD K sz, rDs P w K kvs] ∧ ByOk kvs sz res ∧ R = rNew (CD P w K res)
theorem rgL_at {s w : Int} (h : w ∈ rgL 0 s) : 0 ≤ w ∧ w < s := by
  obtain ⟨j, hj, e⟩ := List.getElem_of_mem h
  exact rgL_get2 (j := j) (by rw [List.getElem?_eq_getElem hj, e])
theorem atI_map {β : Type} {s w : Int} {f : Int → β} (h : w ∈ rgL 0 s) : atI ((rgL 0 s).map f) w = some (f w) := by
  obtain ⟨h0, h1⟩ := rgL_at h
  have e := atI_nat (xs := (rgL 0 s).map f) (j := w.toNat) (v := f w) (by
    rw [List.getElem?_map]
    have : (rgL 0 s)[w.toNat]? = some w := by
      unfold rgL
      rw [List.getElem?_map, List.getElem?_range (by omega)]
      show some (0 + ((w.toNat : Nat) : Int)) = some w
      congr 1
      omega
    rw [this]
    rfl)
  rw [Int.toNat_of_nonneg h0] at e
  exact e
theorem pairs_mem {s t : Int} {p : Int × Int} (h : p ∈ pairsOf s t) : p.1 ∈ rgL 0 s ∧ p.2 ∈ rgL 0 t := by
  obtain ⟨a, h1, h2⟩ := List.mem_flatMap.mp h
  obtain ⟨b, h3, rfl⟩ := List.mem_map.mp h2
  exact ⟨h1, h3⟩
theorem k__law_by_hand [Tbs]  (T : Has K mg 93 "_law_by_hand") (Bm : Bi mg) (k1 : Known P w K mg base 2 "_law_contents" (spF (pConts K))) (k2 : Known P w K mg base 3 "_law_sum" (spF (pSum K))) (k3 : Known P w K mg base 2 "_law_over" (spF (pOver K))) (k4 : Known P w K mg base 2 "_law_times" (spF (pTimes K))) : Known P w K mg base 4 "_law_by_hand" (spF (pBy P w K)) := by
  have S : FnScope ["_law_sizes_here", "_law_shares_here", "_law_found", "_law_first", "_law_second", "_law_total", "_law_content", "_law_worth", "_law_a", "_law_b", "_law_one", "_law_other"] ["_law_sizes_here", "_law_shares_here"] (defScope (top 93)) := ⟨rfl, rfl, rfl, by decide +kernel, rfl, by decide +kernel, by decide +kernel⟩
  refine known_of T S (fun _ _ _ _ _ _ us hl => match us, hl with | [_, _], _ => rfl) (fun Rs R ⟨_, _, _, h, _⟩ => by rw [h] <;> rfl) fun f cdv A outer s H E hr Rs R hp => ?_
  obtain ⟨sz, kvs, res, rfl, hk, rfl⟩ := hp
  have szm : sz ∈ allSz := by cases hk <;> assumption
  have szl := sz_len sz szm
  refine hb_setD (P := P) (w := w) (K := K) (kvs := ([] : List (PK × Rat))) 2 (hn_xnew PK Rat) (fun qf => ?_) S.nd
  cases hk with
  | one s1 h1 hm1 =>
    have hs := h1.s0
    have rl : (rgL 0 s1).length ≤ 4 := by rw [rgL_len]; omega
    refine hb_if (ht_c (hc_eqE (hu0 hr) (by decide) (he_lenT (K := K) Bm (he_par (R := rD K [s1]) 0 rfl)) he_int)) (fun _ => ?_) (fun hx => absurd hx (by simp))
    refine hb_set (R := rD K (T1 kvs s1)) 5 (he_call k2 hr (ha_cons (HN.ls (hn_map (as := rgL 0 s1) (fun w => lk kvs [w]) (fun u Γ => Γ.set 7 (some (rD K u))) [("_law_worth", 7)] rfl S.nd (hi_range1 Bm (he_at (as := [s1]) (u := s1) (he_par (R := rD K [s1]) 0 rfl) he_int plainIx_int (atI_nat (j := 0) rfl)) (by omega) (by omega)) (by omega) (fun s H0 C cl fp u => hg_name 7 S.nd)
      (fun s H0 C cl fp u hu => (he_xget (kvs := kvs) (u := [u]) (hu0 hr) (by decide) (he_par (R := rDs P w K kvs) 1 rfl) (he_one (he_var 7 rfl)) (fun _ _ => rfl) (lk_some (h1.key u hu)))) (by kernel_rfl))) ha_nil) ⟨_, rfl, h1.sums, rfl⟩) ?_ S.nd
    refine hb_for (as := rgL 0 s1) (fun _ => [some (cst H (rD K [s1])), some (cst H (rDs P w K kvs)), some (rEq (.ref qf)), none, none, some (rD K (T1 kvs s1)), none, none, none, none, none, none]) (fun i => [oD P w K qf (by1 kvs (T1 kvs s1) ((rgL 0 s1).take i))]) (fun u Γ => Γ.set 7 (some (rD K u))) rfl nox (hi_range1 Bm (he_at (as := [s1]) (u := s1) (he_par (R := rD K [s1]) 0 rfl) he_int plainIx_int (atI_nat (j := 0) rfl)) (by omega) (by omega)) (Subg.refl _) (List.Sublist.refl _) (fun u => hg_name 7 S.nd) (fun t i u hu => ?_) ?_
    · have hm := List.mem_of_getElem? hu
      have hi : i < 4 := by have := (List.getElem?_eq_some_iff.mp hu).1; omega
      have hl := fold_len (byS1_len kvs (T1 kvs s1)) ((rgL 0 s1).take i) []
      have hl : (by1 kvs (T1 kvs s1) ((rgL 0 s1).take i)).length ≤ 8 := by unfold by1; rw [List.length_take, List.length_nil] at hl; omega
      rw [take_snoc hu, by1_snoc]
      generalize by1 kvs (T1 kvs s1) ((rgL 0 s1).take i) = m at hl ⊢
      have hl2 := length_put m ([u], ([0] : List Int)) (lk kvs [u])
      refine hb_put (κ := PK) (β := Rat) (kvs := m) (u := ([u], ([0] : List Int))) (v := lk kvs [u]) 2 0 rfl rfl (hu0 hr) (by decide) (by omega) (he_xget (kvs := kvs) (u := [u]) (hu0 hr) (by decide) (he_par (R := rDs P w K kvs) 1 rfl) (he_one (he_var 7 rfl)) (fun _ _ => rfl) (lk_some (h1.key u hm))) (he_pair (he_one (he_var 7 rfl)) (he_one he_int)) (?_)
      refine hb_put (κ := PK) (β := Rat) (kvs := put m ([u], ([0] : List Int)) (lk kvs [u])) (u := ([u], ([] : List Int))) (v := lk kvs [-1] * lk kvs [u] / T1 kvs s1) 2 0 rfl rfl (hu0 hr) (by decide) (by omega) (he_call k3 hr (ha_cons (he_call k4 hr (ha_cons (he_xget (kvs := kvs) (u := [-1]) (hu0 hr) (by decide) (he_par (R := rDs P w K kvs) 1 rfl) (he_one (he_neg he_int)) (fun _ _ => rfl) (lk_some h1.key0)) (ha_cons (he_xget (kvs := kvs) (u := [u]) (hu0 hr) (by decide) (he_par (R := rDs P w K kvs) 1 rfl) (he_one (he_var 7 rfl)) (fun _ _ => rfl) (lk_some (h1.key u hm))) ha_nil)) ⟨_, _, rfl, (h1.tms u hm).1, rfl⟩) (ha_cons (he_var 5 rfl) ha_nil)) ⟨_, _, rfl, ⟨(h1.tms u hm).2, h1.pos⟩, rfl⟩) (he_pair (he_one (he_var 7 rfl)) (he_unit (α := Int))) (hb_nil fun σ H' s => ?_)
      exact s.sub ⟨rfl, rfl, rfl, rfl, trivial⟩
    · rw [List.take_length]
      exact hb_rtO 2 0 rfl rfl rfl fun H' e n c => ⟨e, qf, rfl, n, c⟩
  | two s1 t1 h2 hm2 =>
    have hs := h2.s0
    have ht := h2.t0
    have rl : (rgL 0 s1).length ≤ 4 := by rw [rgL_len]; omega
    have rl2 : (rgL 0 t1).length ≤ 4 := by rw [rgL_len]; omega
    obtain ⟨cn, cc⟩ := contents_ok [s1, t1] hm2
    have c16 := contents_few [s1, t1] hm2
    have pl16 : (pairsOf s1 t1).length ≤ 16 := by rw [contents_two, List.length_map] at c16; exact c16
    refine hb_if (ht_c (hc_eqE (hu0 hr) (by decide) (he_lenT (K := K) Bm (he_par (R := rD K [s1, t1]) 0 rfl)) he_int)) (fun hx => absurd hx (by simp)) (fun _ => hb_nil ?_)
    refine hb_setLc (as := rgL 0 s1) 3 (fun _ => true) (fun a => fsA kvs t1 a) (fun u Γ => Γ.set 8 (some (rD K u))) [("_law_a", 8)] rfl S.nd (hi_range1 Bm (he_at (as := [s1, t1]) (u := s1) (he_par (R := rD K [s1, t1]) 0 rfl) he_int plainIx_int (atI_nat (j := 0) rfl)) (by omega) (by omega)) (by omega) (fun s H0 C cl fp u => hg_name 8 S.nd) (fun s H0 C cl fp u hu => hts_nil)
      (fun s H0 C cl fp u hu _ => he_call k2 hr (ha_cons (HN.ls (hn_map (as := rgL 0 t1) (fun b => lk kvs [u, b]) (fun u Γ => Γ.set 9 (some (rD K u))) [("_law_b", 9)] rfl S.nd (hi_range1 Bm (he_at (as := [s1, t1]) (u := t1) (he_par (R := rD K [s1, t1]) 0 rfl) he_int plainIx_int (atI_nat (j := 1) rfl)) (by omega) (by omega)) (by omega) (fun s H0 C cl fp u => hg_name 9 S.nd)
        (fun s H0 C cl fp b hb => (he_xget (kvs := kvs) (u := [u, b]) (hu0 hr) (by decide) (he_par (R := rDs P w K kvs) 1 rfl) (he_two (he_var 8 rfl) (he_var 9 rfl)) (fun _ _ => rfl) (lk_some (h2.key u hu b hb).1))) (by kernel_rfl))) ha_nil) ⟨_, rfl, h2.sumA u hu, rfl⟩) (by kernel_rfl) (fun q3 => ?_)
    rw [List.filter_eq_self.mpr fun _ _ => rfl]
    refine hb_setLc (as := rgL 0 t1) 4 (fun _ => true) (fun b => snB kvs s1 b) (fun u Γ => Γ.set 9 (some (rD K u))) [("_law_b", 9)] rfl S.nd (hi_range1 Bm (he_at (as := [s1, t1]) (u := t1) (he_par (R := rD K [s1, t1]) 0 rfl) he_int plainIx_int (atI_nat (j := 1) rfl)) (by omega) (by omega)) (by omega) (fun s H0 C cl fp u => hg_name 9 S.nd) (fun s H0 C cl fp u hu => hts_nil)
      (fun s H0 C cl fp u hu _ => he_call k2 hr (ha_cons (HN.ls (hn_map (as := rgL 0 s1) (fun x => lk kvs [x, u]) (fun u Γ => Γ.set 8 (some (rD K u))) [("_law_a", 8)] rfl S.nd (hi_range1 Bm (he_at (as := [s1, t1]) (u := s1) (he_par (R := rD K [s1, t1]) 0 rfl) he_int plainIx_int (atI_nat (j := 0) rfl)) (by omega) (by omega)) (by omega) (fun s H0 C cl fp u => hg_name 8 S.nd)
        (fun s H0 C cl fp a ha => (he_xget (kvs := kvs) (u := [a, u]) (hu0 hr) (by decide) (he_par (R := rDs P w K kvs) 1 rfl) (he_two (he_var 8 rfl) (he_var 9 rfl)) (fun _ _ => rfl) (lk_some (h2.key a ha u hu).1))) (by kernel_rfl))) ha_nil) ⟨_, rfl, h2.sumB u hu, rfl⟩) (by kernel_rfl) (fun q4 => ?_)
    rw [List.filter_eq_self.mpr fun _ _ => rfl]
    refine hb_forN (as := pairsOf s1 t1) (fun _ => [some (cst H (rD K [s1, t1])), some (cst H (rDs P w K kvs)), some (rEq (.ref qf)), some (rEq (.ref q3)), some (rEq (.ref q4)), none, none, none, none, none, none, none]) (fun i => [oL K q4 ((rgL 0 t1).map fun b => snB kvs s1 b), oL K q3 ((rgL 0 s1).map fun a => fsA kvs t1 a), oD P w K qf (by2 kvs s1 t1 ((pairsOf s1 t1).take i))]) (fun u Γ => (Γ.set 8 (some (rD K u.1))).set 9 (some (rD K u.2))) rfl nox (HN.imp (hn_call k1 hr (ha_cons (he_par (R := rD K [s1, t1]) 0 rfl) ha_nil) ⟨[s1, t1], rfl, hm2, rfl⟩) fun p H c => cl_pairs (by rw [← contents_two]; exact c)) (Subg.refl _) (List.Sublist.refl _) (fun u => hg_pair 8 9 rfl S.nd) (fun t q5 i u hu => ?_) ?_
    · obtain ⟨a, b⟩ := u
      have hm := List.mem_of_getElem? hu
      have hi : i < 16 := by have := (List.getElem?_eq_some_iff.mp hu).1; omega
      obtain ⟨ha, hb⟩ := pairs_mem hm
      dsimp only at ha hb ⊢
      obtain ⟨ky1, ky2, ky3⟩ := h2.key a ha b hb
      obtain ⟨tm1, tm2, tm3, tm4⟩ := h2.tms a ha b hb
      have hl := fold_len (byS2_len kvs s1 t1) ((pairsOf s1 t1).take i) []
      have hl : (by2 kvs s1 t1 ((pairsOf s1 t1).take i)).length ≤ 64 := by unfold by2; rw [List.length_take, List.length_nil] at hl; omega
      rw [take_snoc hu, by2_snoc]
      generalize by2 kvs s1 t1 ((pairsOf s1 t1).take i) = m at hl ⊢
      unfold byS2
      dsimp only
      refine hb_set (R := rD K (byA kvs t1 a)) 10 (he_call k3 hr (ha_cons (he_xget (kvs := kvs) (u := [a, -1]) (hu0 hr) (by decide) (he_par (R := rDs P w K kvs) 1 rfl) (he_two (he_var 8 rfl) (he_neg he_int)) (fun _ _ => rfl) (lk_some ky2)) (ha_cons (he_atL (he_own (as := (rgL 0 s1).map fun a => fsA kvs t1 a) 3 2 rfl rfl) (he_var 8 rfl) plainIx_name (atI_map ha)) ha_nil)) ⟨_, _, rfl, h2.ovA a ha, rfl⟩) ?_ S.nd
      refine hb_set (R := rD K (byB kvs s1 b)) 11 (he_call k3 hr (ha_cons (he_xget (kvs := kvs) (u := [-1, b]) (hu0 hr) (by decide) (he_par (R := rDs P w K kvs) 1 rfl) (he_two (he_neg he_int) (he_var 9 rfl)) (fun _ _ => rfl) (lk_some ky3)) (ha_cons (he_atL (he_own (as := (rgL 0 t1).map fun b => snB kvs s1 b) 4 1 rfl rfl) (he_var 9 rfl) plainIx_name (atI_map hb)) ha_nil)) ⟨_, _, rfl, h2.ovB b hb, rfl⟩) ?_ S.nd
      have l1 := length_put m ([a, b], ([0, 1] : List Int)) (lk kvs [a, b])
      refine hb_put (κ := PK) (β := Rat) (kvs := m) (u := ([a, b], ([0, 1] : List Int))) (v := lk kvs [a, b]) 2 3 rfl rfl (hu0 hr) (by decide) (by omega) (he_xget (kvs := kvs) (u := [a, b]) (hu0 hr) (by decide) (he_par (R := rDs P w K kvs) 1 rfl) (he_two (he_var 8 rfl) (he_var 9 rfl)) (fun _ _ => rfl) (lk_some ky1)) (he_pair (he_two (he_var 8 rfl) (he_var 9 rfl)) (he_two he_int he_int)) (?_)
      generalize put m ([a, b], ([0, 1] : List Int)) (lk kvs [a, b]) = m1 at l1 ⊢
      have l2 := length_put m1 ([a, b], ([0] : List Int)) (byA kvs t1 a * lk kvs [a, b])
      refine hb_put (κ := PK) (β := Rat) (kvs := m1) (u := ([a, b], ([0] : List Int))) (v := byA kvs t1 a * lk kvs [a, b]) 2 3 rfl rfl (hu0 hr) (by decide) (by omega) (he_call k4 hr (ha_cons (he_var 10 rfl) (ha_cons (he_xget (kvs := kvs) (u := [a, b]) (hu0 hr) (by decide) (he_par (R := rDs P w K kvs) 1 rfl) (he_two (he_var 8 rfl) (he_var 9 rfl)) (fun _ _ => rfl) (lk_some ky1)) ha_nil)) ⟨_, _, rfl, tm1, rfl⟩) (he_pair (he_two (he_var 8 rfl) (he_var 9 rfl)) (he_one he_int)) (?_)
      generalize put m1 ([a, b], ([0] : List Int)) (byA kvs t1 a * lk kvs [a, b]) = m2 at l2 ⊢
      have l3 := length_put m2 ([a, b], ([1] : List Int)) (byB kvs s1 b * lk kvs [a, b])
      refine hb_put (κ := PK) (β := Rat) (kvs := m2) (u := ([a, b], ([1] : List Int))) (v := byB kvs s1 b * lk kvs [a, b]) 2 3 rfl rfl (hu0 hr) (by decide) (by omega) (he_call k4 hr (ha_cons (he_var 11 rfl) (ha_cons (he_xget (kvs := kvs) (u := [a, b]) (hu0 hr) (by decide) (he_par (R := rDs P w K kvs) 1 rfl) (he_two (he_var 8 rfl) (he_var 9 rfl)) (fun _ _ => rfl) (lk_some ky1)) ha_nil)) ⟨_, _, rfl, tm2, rfl⟩) (he_pair (he_two (he_var 8 rfl) (he_var 9 rfl)) (he_one he_int)) (?_)
      generalize put m2 ([a, b], ([1] : List Int)) (byB kvs s1 b * lk kvs [a, b]) = m3 at l3 ⊢
      refine hb_put (κ := PK) (β := Rat) (kvs := m3) (u := ([a, b], ([] : List Int))) (v := byA kvs t1 a * byB kvs s1 b * lk kvs [a, b]) 2 3 rfl rfl (hu0 hr) (by decide) (by omega) (he_call k4 hr (ha_cons (he_call k4 hr (ha_cons (he_var 10 rfl) (ha_cons (he_var 11 rfl) ha_nil)) ⟨_, _, rfl, tm3, rfl⟩) (ha_cons (he_xget (kvs := kvs) (u := [a, b]) (hu0 hr) (by decide) (he_par (R := rDs P w K kvs) 1 rfl) (he_two (he_var 8 rfl) (he_var 9 rfl)) (fun _ _ => rfl) (lk_some ky1)) ha_nil)) ⟨_, _, rfl, tm4, rfl⟩) (he_pair (he_two (he_var 8 rfl) (he_var 9 rfl)) (he_unit (α := Int))) (hb_nil fun σ H' s => ?_)
      exact s.sub ⟨rfl, rfl, rfl, rfl, rfl, trivial⟩
    · rw [List.take_length]
      have hl := fold_len (byS2_len kvs s1 t1) (pairsOf s1 t1) []
      have hl : (by2 kvs s1 t1 (pairsOf s1 t1)).length ≤ 64 := by unfold by2; rw [List.length_nil] at hl; omega
      have key2 := h2.key2
      have sumT := h2.sumT
      have hpos := h2.pos
      have step := h2.step
      unfold byTwo
      generalize by2 kvs s1 t1 (pairsOf s1 t1) = m at hl key2 sumT hpos step ⊢
      refine hb_set (R := rD K (T2 m (contents [s1, t1]))) 5 (he_call k2 hr (ha_cons (HN.ls (hn_map (as := contents [s1, t1]) (fun c => lkG m (c, [])) (fun u Γ => Γ.set 6 (some (rD K u))) [("_law_content", 6)] rfl S.nd (hi_list (HN.ls (hn_call k1 hr (ha_cons (he_par (R := rD K [s1, t1]) 0 rfl) ha_nil) ⟨[s1, t1], rfl, hm2, rfl⟩))) (by omega) (fun s H0 C cl fp u => hg_name 6 S.nd)
        (fun s H0 C cl fp c hc => he_xget (κ := PK) (kvs := m) (u := (c, ([] : List Int))) (hu0 hr) (by decide) (he_ownD 2 2 rfl rfl) (he_pair (he_var 6 rfl) (he_unit (α := Int))) (fun _ _ => rfl) (lkG_some (key2 c hc))) (by kernel_rfl))) ha_nil) ⟨_, rfl, sumT, rfl⟩) ?_ S.nd
      refine hb_forN (as := contents [s1, t1]) (fun _ => [some (cst H (rD K [s1, t1])), some (cst H (rDs P w K kvs)), some (rEq (.ref qf)), none, none, some (rD K (T2 m (contents [s1, t1]))), none, none, none, none, none, none]) (fun i => [oD P w K qf (by3 (lk kvs [-1, -1]) (T2 m (contents [s1, t1])) m ((contents [s1, t1]).take i))]) (fun u Γ => Γ.set 6 (some (rD K u))) rfl nox (hn_call k1 hr (ha_cons (he_par (R := rD K [s1, t1]) 0 rfl) ha_nil) ⟨[s1, t1], rfl, hm2, rfl⟩) ⟨rfl, rfl, rfl, rfl, trivial⟩ (List.Sublist.cons _ (List.Sublist.cons _ (List.Sublist.refl _))) (fun u => hg_name 6 S.nd) (fun t q5 i c hc => ?_) ?_
      · have hi : i < 16 := by have := (List.getElem?_eq_some_iff.mp hc).1; omega
        have hl2 := fold_len (byS3_len (lk kvs [-1, -1]) (T2 m (contents [s1, t1]))) ((contents [s1, t1]).take i) m
        have hl2 : (by3 (lk kvs [-1, -1]) (T2 m (contents [s1, t1])) m ((contents [s1, t1]).take i)).length ≤ 80 := by unfold by3; rw [List.length_take] at hl2; omega
        obtain ⟨st1, st2, st3⟩ := step i c hc _ rfl
        rw [take_snoc hc, by3_snoc]
        generalize by3 (lk kvs [-1, -1]) (T2 m (contents [s1, t1])) m ((contents [s1, t1]).take i) = mm at hl2 st1 st2 st3 ⊢
        unfold byS3
        refine hb_put (κ := PK) (β := Rat) (kvs := mm) (u := (c, ([] : List Int))) (v := lkG mm (c, []) * lk kvs [-1, -1] / T2 m (contents [s1, t1])) 2 1 rfl rfl (hu0 hr) (by decide) (by omega) (he_call k3 hr (ha_cons (he_call k4 hr (ha_cons (he_xget (κ := PK) (kvs := mm) (u := (c, ([] : List Int))) (hu0 hr) (by decide) (he_ownD 2 1 rfl rfl) (he_pair (he_var 6 rfl) (he_unit (α := Int))) (fun _ _ => rfl) (lkG_some st1)) (ha_cons (he_xget (kvs := kvs) (u := [-1, -1]) (hu0 hr) (by decide) (he_par (R := rDs P w K kvs) 1 rfl) (he_two (he_neg he_int) (he_neg he_int)) (fun _ _ => rfl) (lk_some h2.key0)) ha_nil)) ⟨_, _, rfl, st2, rfl⟩) (ha_cons (he_var 5 rfl) ha_nil)) ⟨_, _, rfl, ⟨st3, hpos⟩, rfl⟩) (he_pair (he_var 6 rfl) (he_unit (α := Int))) (hb_nil fun σ H' s => ?_)
        exact s.sub ⟨rfl, rfl, rfl, rfl, trivial⟩
      · rw [List.take_length]
        exact hb_rtO 2 0 rfl rfl rfl fun H' e n c => ⟨e, qf, rfl, n, c⟩
end
end CB
end
section
set_option Elab.async false
set_option linter.all false
set_option maxRecDepth 100000
set_option maxHeartbeats 2000000
/-! JJ. the tape made; calls over what a call made; x, y = object, new. -/
namespace CB
open PySem PySem.Spec PyProof.Rows L2 Enc
section
variable [Tbs] {X : Cx} {S : SA} [Stab S] {e a b c : Expr} {es : List Expr} {R Ra Rb : Rel} {Rs Rs' : List Rel} {pos pos' p p2 p3 px py pt pt2 : Pos} {x y z : Str} {j k : Nat} {P : PR} {B : Bs} {Γ : Gam} {Δ Δ' : List Own} {xs : List Int} {D : Ends} {rest : List Stmt} {σ : L2.St} {H : Hp}
/-- tape = _law_tape(script): from here on the tape is hidden from the base -/
theorem hb_tape (i : Nat) (F : Known X.prog X.w X.K X.mg X.base k x (spF (pTape X.K))) (hr : Room j X.A) (ha : HA X (SS B Γ []) (e :: es) [rLs X.K xs])
    (h : ∀ H1 q l, Ex B.f (hid H1 q) → rLs X.K xs (hid H1 q) (.ref l) → HB X (SS (BT H1 q) ((List.replicate Γ.length none).set i (some (rEq (.ref q)))) [oT l 0 q]) rest D) (hN : X.N.Nodup) (hi : X.N[i]? = some y := by rfl) (hx : Loc X.env.scope y := by first | exact Or.inl rfl | exact Or.inr rfl) (hg : Gl X x := by rfl) (hk : k ≤ j := by decide) (hdb : (x == ("__debug__" : Str)) = false := by decide)
    (he : starEach (e :: es) X.env = (false, eval e X.env) :: starEach es X.env := by rfl) (hpl : (backTo pos (starEach es X.env)).any (·.1) = false := by rfl)
    (hs : swapsWith (.Call (.Name x p) (e :: es) [] pos) (some (.Name y p2)) pos'.line X.env = pure false := by rfl) (hf : X.fn y = true ∨ X.env.scope.names.lookup y = some .local := by first | exact .inl rfl | exact .inr rfl) : HB X (SS B Γ []) (.Assign [.Name y p2] (.Call (.Name x p) (e :: es) [] pos) pos' :: rest) D :=
  hb_of (ps_set hN hi hx pe_w hs hf) fun σ H s => call_w F hr hk hg ha ⟨xs, rfl, rfl⟩ hdb he hpl s fun v H1 H' e1 e2 ⟨q, l, ev, ne, h1, h2, h3, h4⟩ => by
    subst ev
    have hq : B.f q = none := none_of_ex (s.ex.trans e1) h1
    have ex : Ex B.f (hid H' q) := (s.ex.trans (e1.trans e2)).tohid hq h3 pl_lst
    obtain ⟨ys, g1, g2⟩ := h4
    have hl : rLs X.K xs (hid H' q) (.ref l) := rLs.of ⟨l, ys, rfl, .of ((hid_ne (Ne.symm ne)).trans g1), Ims.upT (lt_hidL h3 loose_lst) _ _ g2⟩
    have tb : LamX.Tabs Tbs.T H' := (e1.trans e2).tb s.tb
    have e0 : ∀ (i : Nat) (R : Rel), (List.replicate Γ.length none : Gam)[i]? = some (some R) → ∃ v, σ[i]? = some (some v) ∧ Sta R ∧ R (hid H' q) v := fun i R e => by
      rw [List.getElem?_replicate] at e
      split at e <;> cases e
    have s0 : SS (BT H' q) (List.replicate Γ.length none) [] σ (hid H' q) := ⟨Lk.refl _, Ex.refl _, Lt.refl _, by rw [List.length_replicate]; exact s.len, e0, (fun _ z => nomatch z), (fun _ z => nomatch z), List.nodup_nil, tabs_hidL tb h3 pl_lst⟩
    have s1 : SS (BT H' q) (List.replicate Γ.length none) [oT l 0 q] σ H' := s0.add Ex.unhid (o := oT l 0 q) hid_same ⟨[0, 0, 1, 0], ⟨0, 0, 1, 0, rfl, by decide, ⟨by decide, by decide⟩, by decide, by decide⟩, h3⟩
    exact h H' q l ex hl _ _ (s1.set rfl)
/-- f(e), e changes the state -/
theorem we_call1T (F : Known X.prog X.w X.K X.mg X.base k x (spF P)) (hr : Room j X.A) (hk : k ≤ j) (hg : Gl X x) {Q : VK} (h : wE X e σ H fun v H1 => ∃ Rv R', P [Rv] R' ∧ Rv H1 v ∧ LamX.Tabs Tbs.T H1 ∧ ∀ v' H', Ex H1 H' → R' H1 H' v' → Q v' H') (hdb : (x == ("__debug__" : Str)) = false)
    (he : starEach [e] X.env = (false, eval e X.env) :: starEach [] X.env) (hpl : (backTo pos (starEach [] X.env)).any (·.1) = false) : wE X (.Call (.Name x p) [e] [] pos) σ H Q := fun pins sh I => by
  obtain ⟨f, fd, ps, F1, F2, F3, F4⟩ := F
  refine (pe_call F1 (hr.mono hk) hg F2 F3 F4 .nil pass0 (pa_cons pe_w pa_nil he) hdb he hpl).run pins sh σ H Q I (h.mono fun v H1 ⟨Rv, R', hP, r, tb, q⟩ => ?_)
  show spF P ([v] ++ []) H1 Q E0
  rw [List.append_nil]
  exact ⟨[Rv], R', hP, ⟨v, [], rfl, r, rfl⟩, tb, q⟩
/-- x, y = e1, new -/
theorem hb_asgHN (i j : Nat) {kt k2 : Nat} [Sta Ra] (o2 : Addr → Own) {C2 : Addr → Hp → Prop} (hc : X.calm = true) (ha : HE X (SS B Γ Δ) a Ra) (hb : HN X (SS B Γ Δ) b C2) (ho2 : ∀ q, (o2 q).p = q ∧ (o2 q).C = C2 q)
    (h : ∀ q2, HB X (SS B ((Γ.set i (some Ra)).set j (some (rEq (.ref q2)))) (o2 q2 :: Δ)) rest D) (hN : X.N.Nodup) (hi : X.N[i]? = some x := by rfl) (hx : Loc X.env.scope x := by first | exact Or.inl rfl | exact Or.inr rfl) (hf : X.fn x = true ∨ X.env.scope.names.lookup x = some .local := by first | exact .inl rfl | exact .inr rfl)
    (hi2 : X.N[j]? = some y := by rfl) (hx2 : Loc X.env.scope y := by first | exact Or.inl rfl | exact Or.inr rfl) (hf2 : X.fn y = true ∨ X.env.scope.names.lookup y = some .local := by first | exact .inl rfl | exact .inr rfl)
    (hs : (assignEach [.Name x px, .Name y py] X.env).map (·.2) = assign (.Name x px) X.env :: (assignEach [.Name y py] X.env).map (·.2) := by rfl) (hs2 : (assignEach [.Name y py] X.env).map (·.2) = assign (.Name y py) X.env :: (assignEach [] X.env).map (·.2) := by rfl)
    (hn : (assignEach [.Name x px, .Name y py] X.env).length = 2 := by rfl) (hst : (assignEach [.Name x px, .Name y py] X.env).findIdx? (·.1) = none := by rfl) (hs1 : starEach [a, b] X.env = (false, eval a X.env) :: starEach [b] X.env := by rfl) (hs3 : starEach [b] X.env = (false, eval b X.env) :: starEach [] X.env := by rfl)
    (hs4 : swapsWithSole [.Tuple [.Name x px, .Name y py] kt pt] (.Tuple [a, b] k2 pt2) pos.line X.env = pure false := by rfl) (hw : swappedStores [.Tuple [.Name x px, .Name y py] kt pt] (.Tuple [a, b] k2 pt2) X.env = pure none := by rfl)
    (h1s : (assignEach [.Tuple [.Name x px, .Name y py] kt pt] X.env).map (·.2) = [assign (.Tuple [.Name x px, .Name y py] kt pt) X.env] := by rfl) : HB X (SS B Γ Δ) (.Assign [.Tuple [.Name x px, .Name y py] kt pt] (.Tuple [a, b] k2 pt2) pos :: rest) D :=
  hb_of (ps_asg (pe_tup (pa_cons pe_w (pa_cons pe_w pa_nil hs3) hs1)) (pg_tup (pos := pt) (k := kt) hc (pgs_cons (pg_name hN hi hx hf) (pgs_cons (pg_name hN hi2 hx2 hf2) pgs_nil hs2) hs) hn hst) hs4 hw h1s) fun σ H s => (ha σ H s).mono fun v1 H1 ⟨e1, r1⟩ => by
    have s1 : SS B Γ Δ σ H1 := Stab.up s e1
    refine (hb σ H1 s1).mono fun v2 H2 ⟨e2, q2, r2, f2, c2⟩ => ?_
    obtain ⟨p2, d2⟩ := ho2 q2
    have s2 : SS B Γ (o2 q2 :: Δ) σ H2 := s1.add e2 (o := o2 q2) (by rw [p2]; exact f2) (by rw [d2]; exact c2)
    subst r2
    refine ⟨by rw [sizeLine_eq]; exact (by decide : 2 ≤ 16777216), fun z hz => ?_⟩
    have s3 := Stab.up s2 (Ex.new (o := .tup [v1, .ref q2]) hz)
    exact ⟨z, _, rfl, .of upd_same, rfl, _, _, rfl, _, _, rfl, rfl, h q2 _ _ ((s3.set (R := Ra) (Sta.up (Lt.of (e2.trans (Ex.new hz))) r1)).set rfl)⟩
/-- d != e, of the same keys and values -/
theorem hc_neDD {κ β : Type} [Enc κ] [DecidableEq κ] [Enc β] {ka kb : List (κ × β)} (hu : X.A.units + 60 < cLine) (hd : dp κ ≤ 8) (hd2 : dp β ≤ 30) (ha : HE X S a (rDs X.prog X.w X.K ka)) (hb : HE X S b (rDs X.prog X.w X.K kb)) (hl : ka.length = kb.length) (hall : ∀ p ∈ ka, look kb p.1 = some p.2) : HC X S .NotEq a b false :=
  hc_op (op_neD ka kb hu hd hd2) ha hb (fun x y H h1 h2 H0 e => ⟨h1, h2, hl, hall, e, rfl⟩) (nomark _)
end
end CB
end
section
set_option Elab.async false
set_option linter.all false
set_option maxRecDepth 100000
set_option maxHeartbeats 2000000
set_option exponentiation.threshold 100
namespace CB
open PySem PySem.Spec PyProof.Rows L2 Enc
section
variable {P : Program} {w : World} {K : PySem.W.Frag} {mg : Str → Option Value} {base : Heap}
/-! ### law -/
theorem hu60 {k : Nat} {A : Around} (h : Room k A) : A.units + 60 < cLine := by have := h.un; omega
theorem all_true {α : Type} (l : List α) : (l.map fun _ => true).all id = true := List.all_eq_true.mpr fun b hb => by obtain ⟨_, _, rfl⟩ := List.mem_map.mp hb; rfl
abbrev shK (ws : List (List Int × Int)) : List (List Int × Rat) := rowsG (shOf ws)
abbrev ownK (sz : List Int) (F : List (List Int)) (ws : List (List Int × Int)) : List (List Int × Rat) := lqAll (shOf ws) sz F (ksort true F)
abbrev dueK (sz : List Int) (F : List (List Int)) (ws : List (List Int × Int)) : List (PK × Rat) := dueL (ownK sz F ws) F (contents sz)
structure LawOk (sz : List Int) (F : List (List Int)) (ws : List (List Int × Int)) : Prop where
  few : F.length ≤ 20
  short : ∀ p ∈ F, p.length ≤ 100
  sh : ShOk ws
  shl : (shOf ws).length ≤ 9000
  seen : SeenOk sz (shK ws)
  lq : LqOk sz (shOf ws) F
  due : DueOk sz F (ownK sz F ws)
  hl : HlOk (dueK sz F ws)
  hid1 : (hidL (dueK sz F ws) ((dueK sz F ws).map (·.1))).length = (shOf ws).length
  hid2 : ∀ p ∈ hidL (dueK sz F ws) ((dueK sz F ws).map (·.1)), look (shOf ws) p.1 = some p.2
  unc : UncOk sz F (dueK sz F ws)
  by_ : sz.length < 3 → F.length = (if sz.length = 1 then 2 else 4) → ∃ res, ByOk (shOf ws) sz res ∧ res.length = (dueK sz F ws).length ∧ ∀ p ∈ res, look (dueK sz F ws) p.1 = some p.2
  calm : CalmOk sz (shK ws) F
  whole : WholeOk sz (rowsG (dueK sz F ws))
  duel : (dueK sz F ws).length ≤ 9000
  told : srt (qAll (shK ws) sz F (ksort true F)).2 = rowsG (dueK sz F ws)
  hok : HidOk (rowsG (dueK sz F ws))
  hide : srt (hidOf (rowsG (dueK sz F ws))) = shK ws
  qf : QfOk sz (shK ws) F
  ownl : (ownK sz F ws).length ≤ 9000
  qrows : rowsOf (qof sz (shK ws) F) = rowsG (ownK sz F ws)
  qkey : ∀ v ∈ (ownK sz F ws).map (·.1), v ∈ (qof sz (shK ws) F).map (·.1) ∧ (v.length = sz.length ∧ (v.zip sz).all (fun p => decide (-1 ≤ p.1) && decide (p.1 ≤ p.2 - 1)) = true) ∧ pat v ∈ F
  qval : ∀ v ∈ (ownK sz F ws).map (·.1), lk (qof sz (shK ws) F) v = lk (ownK sz F ws) v
abbrev pLaw (K : PySem.W.Frag) : PR := fun Rs R => ∃ xs : List Int, Rs = [rLs K xs] ∧ R = fun _ => rB true
theorem atI_24 {n : Nat} (h0 : 1 ≤ n) (h : n < 3) : atI ([2, 4] : List Int) ((n : Int) - 1) = some (if n = 1 then 2 else 4) := by
  have e : n = 1 ∨ n = 2 := by omega
  rcases e with rfl | rfl <;> rfl
/-- a def whose function object is given -/
theorem fnok_of [Tbs] {f0 : Addr} {fd0 : FuncData} {x : Str} {i k : Nat} {N ps : List Str} {p : PR} (T : FnP K x (top i) f0 fd0) (sc : FnScope N ps (defScope (top i)))
    (hp : ∀ Rs R, p Rs R → Rs.length = ps.length)
    (body : ∀ (f : Addr) (cdv : Value) (A : Around) (outer : List Env) (s : Shared) (H : Hp) (E : XK), Room k (A.deeper (envOfC x (defScope (top i)) s.heap.objs.size f cdv)) → ∀ Rs R, p Rs R →
      HB (cxOf CX0 P w K mg base N x (defScope (top i)) f cdv A outer s H E).nox (SS ⟨H, H, H⟩ (G0 H N Rs) []) (defBody (top i)) (D0 H R)) : FnOk P w K mg base CX0 (k + 1) f0 fd0 ps (spF p) := by
  refine T.ok sc (fun vs H Q E h => ?_) (fun cdv A outer s H vs Q E hr h => ?_)
  · obtain ⟨Rs, R, h1, h2, _⟩ := h
    rw [h2.len]
    exact hp Rs R h1
  · obtain ⟨Rs, R, h1, h2, htb, h3⟩ := h
    have hl : Rs.length ≤ N.length := by
      have := congrArg List.length sc.pre
      rw [List.length_take] at this
      have := hp Rs R h1
      omega
    refine ⟨_, PSs.nox (pb_w (X := (cxOf CX0 P w K mg base N x (defScope (top i)) f0 cdv A outer s H E).nox) (b := defBody (top i))), fun pins sh I => ?_⟩
    refine thn (body f0 cdv A outer s H E hr Rs R h1 _ H (SS.start h2 hl htb) pins sh I) fun fl s' q => ?_
    cases fl with
    | next => obtain ⟨σ', H', I', e1, q⟩ := q; exact ⟨σ', H', I', h3 _ _ e1 q⟩
    | ret u => obtain ⟨v, σ', H', I', r, e1, q⟩ := q; exact ⟨v, σ', H', I', r, h3 _ _ e1 q⟩
    | brk => obtain ⟨_, _, _, q⟩ := q; exact q.elim
    | cont => obtain ⟨_, _, _, q⟩ := q; exact q.elim
theorem k_law [Tbs] {f0 : Addr} {fd0 : FuncData} (T : FnP K "law" (top 94) f0 fd0) (Bm : Bi mg) (famFew : ∀ n, 1 ≤ n → n ≤ 3 → ∀ F, FamD n F → F.length ≤ 20 ∧ ∀ p ∈ F, p.length ≤ 100) (plain : ∀ sz ∈ allSz, ∀ F, FamD sz.length F → ∀ ws, WsOk (vkeys sz F) ws → LawOk sz F ws) {C fi fe C2 fi2 fe2 : Addr} (CK : ClsK K mg "Seen" C fi fe) (CK2 : ClsK K mg "Whole" C2 fi2 fe2) (m1 : KnownM P w K mg base 9 fi (spI C (pSeen K))) (m2 : KnownM P w K mg base 9 fi2 (spI C2 (pWhole K))) (e1 : KnownM P w K mg base 1 fe (spF (pEqO K C (List Int)))) (e2 : KnownM P w K mg base 1 fe2 (spF (pEqO K C2 (List Int × List Int)))) (kT : Known P w K mg base 1 "_law_tape" (spF (pTape K))) (kS : Known P w K mg base 3 "_law_sizes" (spT K (pSzs K))) (kF : Known P w K mg base 2 "_law_family" (spT K (pFamD K))) (kW : Known P w K mg base 3 "_law_weights" (spT K (pWtsD P w K))) (kSh : Known P w K mg base 2 "_law_shares" (spF (pShs P w K))) (kR : Known P w K mg base 1 "_law_rows" (spF (pRows P w K (List Int)))) (kR2 : Known P w K mg base 1 "_law_rows" (spF (pRows P w K (List Int × List Int)))) (kQ : Known P w K mg base 4 "_law_quotients" (spF (pLq P w K))) (kC : Known P w K mg base 4 "_law_calm" (spF (pDue P w K))) (kH : Known P w K mg base 3 "_law_hidden" (spF (pHl P w K))) (kU : Known P w K mg base 3 "_law_uncalm" (spF (pUnc P w K))) (kE : Known P w K mg base 1 "_law_even" (spF (pEven K))) (kB : Known P w K mg base 4 "_law_by_hand" (spF (pBy P w K))) (kcw : Known P w K mg base 13 "calm_whole" (spF (pCalmW K C C2))) (khd : Known P w K mg base 12 "hidden" (spF (pHid P w K C2 C))) (kcp : Known P w K mg base 14 "calm_part" (spF (pPart K C C2))) (kqs : Known P w K mg base 8 "quotients" (spF (pQuos K C))) (kqt : Known P w K mg base 8 "quotient" (spF (pQuo K C))) : FnOk P w K mg base CX0 15 f0 fd0 ["_law_script"] (spF (pLaw K)) := by
  have S : FnScope ["_law_script", "_law_tape_here", "_law_turn", "_law_sizes_here", "_law_family_here", "_law_shares_here", "_law_due", "_law_told", "_law_seen", "_law_own", "_law_view_here"] ["_law_script"] (defScope (top 94)) := ⟨rfl, rfl, rfl, by decide +kernel, rfl, by decide +kernel, by decide +kernel⟩
  refine fnok_of T S (fun Rs R ⟨_, h, _⟩ => by rw [h] <;> rfl) fun f cdv A outer s H E hr Rs R hp => ?_
  obtain ⟨xs, rfl, rfl⟩ := hp
  refine hb_tape 1 kT hr (ha_cons (he_par (R := rLs K xs) 0 rfl) ha_nil) (fun H1 a l ex hxs => ?_) S.nd
  refine hb_for (as := rgL 0 2) (fun _ => [none, some (rEq (.ref a)), none, none, none, none, none, none, none, none, none]) (fun i => [oT l (417 * i) a]) (fun u Γ => Γ.set 2 (some (rD K u))) rfl nox (hi_range1 Bm he_int (by decide) (by decide)) (Subg.refl _) (List.Sublist.refl _) (fun u => hg_name 2 S.nd) (fun t i u hu => ?_) ?_
  · have hi : i < 2 := by have := (List.getElem?_eq_some_iff.mp hu).1; rw [rgL_len] at this; exact this
    refine hb_setT (ι := { z : List Int // z ∈ allSz }) (l := l) (xs := xs) (n := 417 * i) (q := a) (Rs := [rD K (if u = 0 then (18 : Int) else 9)]) (Rs' := [rD K (if u = 0 then (18 : Int) else 9)]) (steps := 1) 3 0 (fun z => rD K z.1) kS hr (ha_cons (he_var 1 rfl) (ha_cons (he_if (ht_c (hc_eqE (u := u) (v := (0 : Int)) (hu0 hr) (by decide) (he_var 2 rfl) he_int)) (fun hk => HE.eq (he_int (K := K) (i := 18)) (by rw [if_pos (of_decide_eq_true hk)])) (fun hk => HE.eq (he_int (K := K) (i := 9)) (by rw [if_neg (of_decide_eq_false hk)]))) ha_nil)) ⟨_, rfl, rfl, rfl⟩ rfl (by omega) (hl_of (m := 0) (n := 417 * i) hxs rfl) (hh_d (m := 0) (n := 417 * i) rfl) (fun H1 H' v ⟨z, hz, r⟩ => ⟨⟨z, hz⟩, r⟩) (fun sz0 => ?_) S.nd
    obtain ⟨sz, hz⟩ := sz0
    dsimp only
    have szl := sz_len sz hz
    refine hb_setTN (ι := { z : List (List Int) // FamD sz.length z }) (l := l) (xs := xs) (n := 417 * i + 1) (q := a) (Rs := [rD K (sz.length : Int)]) (Rs' := [rD K (sz.length : Int)]) (steps := 16) 4 0 (fun z q => oL K q z.1) kF hr (ha_cons (he_var 1 rfl) (ha_cons (he_lenT (K := K) Bm (he_var (R := rD K sz) 3 rfl)) ha_nil)) ⟨sz.length, rfl, by omega, rfl, rfl⟩ rfl (by omega) (hl_of (m := 0) (n := 417 * i + 1) hxs rfl) (hh_d (m := 0) (n := 417 * i + 1) rfl) (fun H1 H' v ⟨F, q, hF, ev, hq, c⟩ => ⟨⟨F, hF⟩, q, ev, hq, rfl, c⟩) (fun F0 qF => ?_) S.nd
    obtain ⟨F, hF⟩ := F0
    dsimp only
    have plainF := plain sz hz F hF
    refine hb_setTCN (ι := { z : List (List Int × Int) // WsOk (vkeys sz F) z }) (Δ' := [oL K qF F, oT l (417 * i + 1 + 16 + 400) a]) 5 (fun z q => oD P w K q (shOf z.1)) (fun σ H' s => we_call1T kSh hr (by decide) (by rfl) (callT_w (xs := xs) (l := l) (q := a) (m := 1) (n := 417 * i + 1 + 16) (Rs := [rD K sz, rEq (.ref qF)]) kW hr (by decide) (by rfl) (Rs' := [rD K sz, rLs K F]) (steps := 400) (ha_cons (R := rEq (.ref a)) (he_var 1 rfl) (ha_cons (he_var 3 rfl) (ha_cons (he_var 4 rfl) ha_nil))) ⟨sz, F, rfl, ⟨hz, (famFew _ (by omega) (by omega) F hF).1, (famFew _ (by omega) (by omega) F hF).2⟩, rfl, rfl⟩ (by rfl) (by omega) (hl_of (m := 1) (n := 417 * i + 1 + 16) hxs rfl) (fun σ H' vs s r => ?_) (by decide) (by rfl) (by rfl) s fun v H3 H4 s3 e34 s4 ⟨ws, q, hws, ev, hq, cd⟩ => ⟨rDs P w K ws, rNew (CD P w K (shOf ws)), ⟨ws, rfl, (plainF ws hws).sh, rfl⟩, by rw [ev]; exact ds_of_CD cd, s4.tb, fun v' H' ee ⟨q2, ev2, hq2, cd2⟩ => ⟨⟨ws, hws⟩, q2, ev2, rfl, SS.add s4 ee (o := oD P w K q2 (shOf ws)) hq2 cd2⟩⟩) (by decide) (by rfl) (by rfl)) (fun ws0 qS => ?_) S.nd
    · obtain ⟨v, rr, rfl, h1, u2, rr2, rfl, h2, h3⟩ := r
      have eu : u2 = .ref qF := h2
      subst eu
      obtain ⟨uu, hu2, lo, _⟩ := (oT l (417 * i + 1 + 16) a).at_ (s.own _ (List.mem_of_getElem? (i := 1) rfl))
      exact ⟨v, _, rfl, Sta.up (R := rD K sz) (lt_hidL hu2 lo) h1, _, _, rfl, hh_own (m := 1) (m2 := 0) (n := 417 * i + 1 + 16) rfl rfl (by decide) σ H' s, h3⟩
    obtain ⟨ws, hws⟩ := ws0
    dsimp only
    have ok := plainF ws hws
    refine hb_asgHN (Ra := rO K C sz (shK ws)) 8 9 (fun q => oD P w K q (ownK sz F ws)) rfl (HN.he (hn_makeR (Ra := rD K sz) (Rb := rP K (shK ws)) (Rs := [rD K sz, rD K (shK ws)]) CK m1 hr (he_var 3 rfl) (he_call kR hr (ha_cons (he_ownD 5 0 rfl rfl) ha_nil) ⟨shOf ws, rfl, ok.shl, rfl⟩) ⟨sz, shK ws, rfl, ok.seen⟩ (fun H v u h1 h2 => ⟨v, _, rfl, h1, u, _, rfl, Pt.is h2, rfl⟩)) fun q H c => CO.ro c) (hn_call kQ hr (ha_cons (he_var 3 rfl) (ha_cons (he_own (as := F) 4 1 rfl rfl) (ha_cons (he_ownD 5 0 rfl rfl) ha_nil))) ⟨sz, F, shOf ws, rfl, ok.lq, rfl⟩) (fun q => ⟨rfl, rfl⟩) (fun qO => ?_) S.nd
    refine hb_setD (P := P) (w := w) (K := K) (kvs := dueK sz F ws) 6 (hn_call kC hr (ha_cons (he_var 3 rfl) (ha_cons (he_own (as := F) 4 2 rfl rfl) (ha_cons (he_ownD 9 0 rfl rfl) ha_nil))) ⟨sz, F, ownK sz F ws, rfl, ok.due, rfl⟩) (fun qD => ?_) S.nd
    refine hb_if (ht_w (hw_or (k := false) (k' := false) (ht_c (hc_neDD (hu60 hr) (by decide) (by decide) (HN.ds (hn_call kH hr (ha_cons (he_ownD 6 0 rfl rfl) ha_nil) ⟨dueK sz F ws, rfl, ok.hl, rfl⟩)) (he_ownD 5 2 rfl rfl) ok.hid1 ok.hid2)) fun _ => hw_or1 (ht_c (hc_notN true (he_call kU hr (ha_cons (he_var 3 rfl) (ha_cons (he_own (as := F) 4 3 rfl rfl) (ha_cons (he_ownD 6 0 rfl rfl) (ha_cons (he_call kE hr (ha_cons (he_var 3 rfl) ha_nil) ⟨sz, rfl, hz, rfl⟩) ha_nil)))) ⟨sz, F, dueK sz F ws, rfl, ok.unc, rfl⟩) fun H v r => by rw [show v = .non from r] <;> rfl)))) (fun h => absurd h (by simp)) (fun _ => hb_nil ?_)
    refine hb_if (k := decide ((sz.length : Int) < 3) && (decide ((F.length : Int) = (if sz.length = 1 then 2 else 4)) && false)) (ht_w (hw_and (ht_c (hc_lt (he_lenT (K := K) Bm (he_var (R := rD K sz) 3 rfl)) he_int)) fun h1 => hw_and (ht_c (hc_eqE (u := (F.length : Int)) (v := (if sz.length = 1 then (2 : Int) else 4)) (hu0 hr) (by decide) (HE.eq (he_lenL (K := K) Bm (he_own (as := F) 4 3 rfl rfl)) (by rw [List.length_map] <;> rfl)) (he_atL (as := ([2, 4] : List Int)) (HN.ls (hn_lst (l := ([2, 4] : List Int)) (ha_cons he_int (ha_cons he_int ha_nil)) (by decide))) (he_sub (he_lenT (K := K) Bm (he_var (R := rD K sz) 3 rfl)) he_int) (fun _ _ => rfl) (atI_24 (by omega) (by have := of_decide_eq_true h1; omega))))) fun h2 => hw_and1 ?_)) (fun h => absurd h (by simp)) (fun _ => hb_nil ?_)
    · obtain ⟨res, r1, r2, r3⟩ := ok.by_ (by have := of_decide_eq_true h1; omega) (by have := of_decide_eq_true h2; split at this <;> (rename_i z; simp only [z, if_true, if_false]; omega))
      exact ht_c (hc_neDD (hu60 hr) (by decide) (by decide) (HN.ds (hn_call kB hr (ha_cons (he_var 3 rfl) (ha_cons (he_ownD 5 2 rfl rfl) ha_nil)) ⟨sz, shOf ws, res, rfl, r1, rfl⟩)) (he_ownD 6 0 rfl rfl) r2 r3)
    refine hb_set (R := rO K C2 sz (rowsG (dueK sz F ws))) 7 (HN.he (hn_call kcw hr (ha_cons (he_var 8 rfl) ha_nil) ⟨sz, shK ws, F, rfl, ok.calm, rfl⟩) fun q H c => CO.ro (by rw [← ok.told]; exact c)) ?_ S.nd
    refine hb_if (ht_w (hw_or (k := false) (k' := false || false) (ht_c (hc_neO CK2 e2 (j := 12) hr (by decide) (he_var 7 rfl) (HN.he (hn_makeR (Ra := rD K sz) (Rb := rP K (rowsG (dueK sz F ws))) (Rs := [rD K sz, rD K (rowsG (dueK sz F ws))]) CK2 m2 hr (he_var 3 rfl) (he_call kR2 hr (ha_cons (he_ownD 6 0 rfl rfl) ha_nil) ⟨dueK sz F ws, rfl, ok.duel, rfl⟩) ⟨sz, rowsG (dueK sz F ws), rfl, ok.whole⟩ (fun H v u h1 h2 => ⟨v, _, rfl, h1, u, _, rfl, Pt.is h2, rfl⟩)) fun q H c => CO.ro c))) fun _ => hw_or (k := false) (k' := false) (ht_c (hc_neO CK e1 (j := 12) hr (by decide) (HN.he (hn_call khd hr (ha_cons (he_var 7 rfl) ha_nil) ⟨sz, rowsG (dueK sz F ws), rfl, ok.hok, rfl⟩) fun q H c => CO.ro (by rw [← ok.hide]; exact c)) (he_var 8 rfl))) fun _ => hw_or1 (ht_c (hc_neO CK2 e2 (j := 12) hr (by decide) (HN.he (hn_call kcp hr (ha_cons (he_var 7 rfl) ha_nil) ⟨sz, rowsG (dueK sz F ws), F, rfl, ⟨ok.hok, by rw [ok.hide]; exact ok.calm⟩, rfl⟩) fun q H c => CO.ro (by rw [ok.hide] at c; rw [← ok.told]; exact c)) (he_var 7 rfl))))) (fun h => absurd h (by simp)) (fun _ => hb_nil ?_)
    refine hb_if (ht_c (hc_neE (u := rowsOf (qof sz (shK ws) F)) (v := rowsG (ownK sz F ws)) (hu0 hr) (by decide) (he_call kqs hr (ha_cons (he_var 8 rfl) ha_nil) ⟨sz, shK ws, F, rfl, ⟨ok.qf, ok.calm.told⟩, rfl⟩) (rP.d (he_call kR hr (ha_cons (he_ownD 9 1 rfl rfl) ha_nil) ⟨ownK sz F ws, rfl, ok.ownl, rfl⟩)))) (fun h => absurd h (by rw [ok.qrows]; simp)) (fun _ => hb_nil ?_)
    have ownl := ok.ownl
    have qkey := ok.qkey
    have qval := ok.qval
    generalize hown : ownK sz F ws = own at ownl qkey qval ⊢
    refine hb_if (k := !true) (ht_not (ht_val (he_lockD (q := qO) (kvs := own) (Rr := rB true) (fun H v (b : Rat) => Is K H v b) 1 rfl fun od t => HE.eq (he_all rfl Bm (he_lcB (as := own.map (·.1)) (fun _ => true) (fun u Γ => Γ.set 10 (some (rD K u))) [("_law_view_here", 10)] rfl S.nd (hi_keys (q := qO) (od := od) (t := t) (kvs := own) (fun H v (b : Rat) => Is K H v b) 1 rfl (he_var 9 rfl)) (by rw [List.length_map]; omega) (fun s H0 C cl fp u => hg_name 10 S.nd) (fun s H0 C cl fp v hv => ?_) (by kernel_rfl))) (congrArg rB (all_true _))))) (fun h => absurd h (by simp)) (fun _ => hb_nil ?_)
    · obtain ⟨q1, q2, q3⟩ := qkey v hv
      refine HE.eq (he_c (hc_eqE (u := lk (qof sz (shK ws) F) v) (v := lk own v) (hu0 hr) (by decide) (he_call kqt hr (ha_cons (he_var 8 rfl) (ha_cons (he_var 10 rfl) ha_nil)) ⟨sz, shK ws, F, v, rfl, ⟨⟨ok.qf, ok.calm.told⟩, q1, q2, q3⟩, rfl⟩) (he_xget (kvs := own) (u := v) (hu0 hr) (by decide) (he_ownF (R := fun H v (b : Rat) => Is K H v b) (od := od) (t := t) (kvs := own) 9 1 rfl rfl fun H h1 h2 => rds_of_f h1 h2) (he_var 10 rfl) (fun _ _ => rfl) (lk_some hv)))) (by rw [qval v hv]; simp)
    · exact hb_nil fun σ H' s => ((s.reown (o' := oT l (417 * (i + 1)) a) (m := 4) rfl rfl fun H c => tapeC_mono c (by omega)).subd ⟨rfl, trivial⟩ (List.Sublist.cons _ (List.Sublist.cons _ (List.Sublist.cons _ (List.Sublist.cons _ (List.Sublist.refl _))))))
  · exact hb_ret he_bl fun σ H2 H3 v s ee r => ⟨ex.trans (s.ex.trans ee), r⟩
end
end CB
end
section
set_option Elab.async false
set_option linter.all false
set_option maxRecDepth 100000
set_option maxHeartbeats 2000000
/-! Plain law A: the drawn families. -/
namespace CB
open PySem PySem.Spec PyProof.Rows L2 Enc
theorem elt_int (a b : Int) : elt a b = decide (a < b) := by
  unfold elt
  show PySem.W.dataLt (PyData.int a) (PyData.int b) = _
  exact PySem.W.dataLt_int a b
instance : TotE Int := ⟨fun {a b} h h2 => by
  rw [elt_int] at h h2
  have := of_decide_eq_false h
  have := of_decide_eq_false h2
  omega⟩
def kf (neg : Bool) (l : List Int) : Int × List Int := (if neg then -(l.length : Int) else (l.length : Int), l)
theorem keyD_dat (neg : Bool) (l : List Int) : keyD neg l = dat (kf neg l) := rfl
theorem ksort_le (neg : Bool) (as : List (List Int)) : (ksort neg as).Pairwise fun a b => elt (kf neg b) (kf neg a) = false := by
  have e : PySem.W.dataLe false (keyD neg) = fun a b => PySem.W.dataLe false (dat (α := Int × List Int)) (kf neg a) (kf neg b) := by
    funext a b
    rfl
  have h := List.pairwise_mergeSort (le := PySem.W.dataLe false (keyD neg)) (fun a b c h1 h2 => ?_) (fun a b => ?_) as
  · refine h.imp fun {a b} h => ?_
    have : (!elt (kf neg b) (kf neg a)) = true := h
    simpa using this
  · have h1 : (!elt (kf neg b) (kf neg a)) = true := h1
    have h2 : (!elt (kf neg c) (kf neg b)) = true := h2
    show (!elt (kf neg c) (kf neg a)) = true
    simp only [Bool.not_eq_true'] at h1 h2 ⊢
    cases z : elt (kf neg c) (kf neg a) with
    | false => rfl
    | true =>
      cases y : elt (kf neg a) (kf neg b) with
      | true => have := elt_trans z y; rw [h2] at this; cases this
      | false => have := TotE.tot y h1; rw [← this, z] at h2; cases h2
  · show (!elt (kf neg b) (kf neg a) || !elt (kf neg a) (kf neg b)) = true
    cases z : elt (kf neg b) (kf neg a) with
    | false => rfl
    | true => rw [elt_asymm z] <;> rfl
theorem ksort_lt {neg : Bool} {as : List (List Int)} (h : as.Nodup) : (ksort neg as).Pairwise fun a b => elt (kf neg a) (kf neg b) = true := by
  have n : (ksort neg as).Nodup := (ksort_perm neg as).symm.nodup h
  refine List.Pairwise.imp₂ (fun a b h1 h2 => ?_) (ksort_le neg as) n
  cases z : elt (kf neg a) (kf neg b) with
  | true => rfl
  | false => exact absurd (congrArg Prod.snd (TotE.tot z h1)) h2
theorem ksort_eq {neg : Bool} {as bs : List (List Int)} (h : as.Nodup) (hb : bs.Pairwise fun a b => elt (kf neg a) (kf neg b) = true) (hp : as.Perm bs) : ksort neg as = bs :=
  List.Perm.eq_of_pairwise (le := fun a b => elt (kf neg a) (kf neg b) = true) (fun a b _ _ h h' => by rw [elt_asymm h] at h'; cases h') (ksort_lt h) hb ((ksort_perm neg as).trans hp)
/-- all lots, fewest columns last; ascending -/
def dl : Nat → List (List Int)
  | 1 => [[0], []]
  | 2 => [[0, 1], [0], [1], []]
  | 3 => [[0, 1, 2], [0, 1], [0, 2], [1, 2], [0], [1], [2], []]
  | _ => []
def al : Nat → List (List Int)
  | 1 => [[], [0]]
  | 2 => [[], [0], [0, 1], [1]]
  | 3 => [[], [0], [0, 1], [0, 1, 2], [0, 2], [1], [1, 2], [2]]
  | _ => []
def Ns : List Nat := [1, 2, 3]
theorem al_perm : ∀ n ∈ Ns, (lotsR n).Nodup ∧ (lotsR n).Perm (al n) ∧ (al n).Perm (dl n) := by decide +kernel
theorem al_lt : ∀ n ∈ Ns, (al n).Pairwise fun a b => elt a b = true := by
  have h : ∀ n ∈ Ns, (al n).Pairwise fun a b => a < b := by decide +kernel
  exact fun n hn => (h n hn).imp fun {a b} h => by rw [elt_ints]; exact decide_eq_true h
theorem dl_lt : ∀ n ∈ Ns, (dl n).Pairwise fun a b => elt (kf true a) (kf true b) = true := by
  have h : ∀ n ∈ Ns, (dl n).Pairwise fun a b => (if -(a.length : Int) = -(b.length : Int) then (if a = b then False else a < b) else -(a.length : Int) < -(b.length : Int)) := by decide +kernel
  refine fun n hn => (h n hn).imp fun {a b} h => ?_
  rw [elt_pair]
  show (if -(a.length : Int) = -(b.length : Int) then (if a = b then false else elt a b) else elt (-(a.length : Int)) (-(b.length : Int))) = true
  split at h
  · rename_i z
    rw [if_pos z]
    split at h
    · exact h.elim
    · rename_i z2
      rw [if_neg z2, elt_ints]
      exact decide_eq_true h
  · rename_i z
    rw [if_neg z, elt_int]
    exact decide_eq_true h
theorem esort_lots {n : Nat} (hn : n ∈ Ns) : esort (lotsR n) = al n := esort_eq (al_perm n hn).1 (al_lt n hn) (al_perm n hn).2.1
theorem downL_eq {n : Nat} (hn : n ∈ Ns) : downL n = dl n := by
  unfold downL
  rw [esort_lots hn]
  exact ksort_eq ((al_perm n hn).2.1.nodup (al_perm n hn).1) (dl_lt n hn) (al_perm n hn).2.2
/-- with an order by another key it is the same lots -/
theorem esort_ksort {n : Nat} (hn : n ∈ Ns) : esort (ksort false (lotsR n)) = al n := esort_eq ((ksort_perm _ _).symm.nodup (al_perm n hn).1) (al_lt n hn) ((ksort_perm _ _).trans (al_perm n hn).2.1)
/-- the runs, told -/
def moreA (n : Nat) (p : List Int) : List (List Int) := (al n).filter fun o => more o p
def stepA (n : Nat) (fs : List (List (List Int))) (p : List Int) : List (List (List Int)) := fs.flatMap fun fnd => if (moreA n p).all (fun o => decide (o ∈ fnd)) then (if (moreA n p).length = 0 then [fnd ++ [p]] else [fnd, fnd ++ [p]]) else [fnd]
def runsA (n : Nat) : List (List (List Int)) := (dl n).foldl (stepA n) [[]]
theorem runs_eq {n : Nat} (hn : n ∈ Ns) : famRuns n (downL n) = runsA n := by
  have e : famStep n = stepA n := by
    funext fs p
    unfold famStep stepA moreL moreA
    rw [esort_lots hn]
  unfold famRuns runsA
  rw [e, downL_eq hn]
/-- the families -/
def allF (n : Nat) : List (List (List Int)) := (runsA n).map fun fnd => (al n).filter fun p => decide (p ∈ fnd)
theorem runs_ok : ∀ n ∈ Ns, ∀ fnd ∈ runsA n, fnd.Nodup ∧ fnd.Perm ((al n).filter fun p => decide (p ∈ fnd)) := by decide +kernel
theorem famD_mem {n : Nat} {F : List (List Int)} (hn : n ∈ Ns) (h : FamD n F) : F ∈ allF n := by
  obtain ⟨fnd, h1, h2⟩ := h
  rw [runs_eq hn] at h1
  obtain ⟨r1, r2⟩ := runs_ok n hn fnd h1
  refine List.mem_map.mpr ⟨fnd, h1, ?_⟩
  rw [h2]
  exact (esort_eq r1 ((al_lt n hn).sublist List.filter_sublist) r2).symm
/-- the order in which a family is walked -/
def dn (n : Nat) (F : List (List Int)) : List (List Int) := (dl n).filter fun p => decide (p ∈ F)
structure FamFacts (n : Nat) (F : List (List Int)) : Prop where
  sl : F.Sublist (al n)
  lt : F.Pairwise fun a b => elt a b = true
  sub : ∀ p ∈ F, p ∈ al n
  full : rgL 0 (n : Int) ∈ F
  up : ∀ o ∈ al n, ∀ q ∈ F, more o q = true → o ∈ F
  ks : ksort true F = dn n F
  perm : (dn n F).Perm F
  ord : ∀ i p, (dn n F)[i]? = some p → ∀ o ∈ F, more o p = true → o ∈ (dn n F).take i
def factsB (n : Nat) (F : List (List Int)) : Bool :=
  F.all (fun p => decide (p ∈ al n)) && (decide (rgL 0 (n : Int) ∈ F) && ((al n).all (fun o => F.all fun q => !more o q || decide (o ∈ F)) && (decide ((dn n F).Perm F) && (List.range 8).all fun i => match (dn n F)[i]? with
    | none => true
    | some p => F.all fun o => !more o p || decide (o ∈ (dn n F).take i))))
theorem factsB_ok : ∀ n ∈ Ns, ∀ F ∈ allF n, factsB n F = true := by decide +kernel
theorem dl_len : ∀ n ∈ Ns, (dl n).length ≤ 8 := by decide
theorem famFacts {n : Nat} {F : List (List Int)} (hn : n ∈ Ns) (h : F ∈ allF n) : FamFacts n F := by
  have f := factsB_ok n hn F h
  unfold factsB at f
  simp only [Bool.and_eq_true] at f
  obtain ⟨f1, f2, f3, f4, f5⟩ := f
  have hlt : F.Pairwise fun a b => elt a b = true := by
    obtain ⟨fnd, _, e⟩ := List.mem_map.mp h
    rw [← e]
    exact (al_lt n hn).sublist List.filter_sublist
  have hp : (dn n F).Perm F := of_decide_eq_true f4
  have hsl : F.Sublist (al n) := by
    obtain ⟨fnd, _, e⟩ := List.mem_map.mp h
    rw [← e]
    exact List.filter_sublist
  refine ⟨hsl, hlt, fun p hp => of_decide_eq_true (List.all_eq_true.mp f1 p hp), of_decide_eq_true f2, fun o ho q hq hm => ?_, ksort_eq (nodup_of_lt hlt) ((dl_lt n hn).sublist List.filter_sublist) hp.symm, hp, fun i p hi o ho hm => ?_⟩
  · have := List.all_eq_true.mp (List.all_eq_true.mp f3 o ho) q hq
    rw [hm] at this
    exact of_decide_eq_true this
  · have hi8 : i < 8 := by
      have h1 := (List.getElem?_eq_some_iff.mp hi).1
      have h2 : (dn n F).length ≤ (dl n).length := List.length_filter_le _ _
      have h3 := dl_len n hn
      omega
    have := List.all_eq_true.mp f5 i (List.mem_range.mpr hi8)
    rw [hi] at this
    have := List.all_eq_true.mp this o ho
    rw [hm] at this
    exact of_decide_eq_true this
end CB
end
section
set_option Elab.async false
set_option linter.all false
set_option maxRecDepth 100000
set_option maxHeartbeats 2000000
/-! Plain law B: dicts made by folds; sums and products. -/
namespace CB
open PySem PySem.Spec PyProof.Rows L2 Enc
section
variable {κ β α : Type} [DecidableEq κ]
theorem look_none_iff {m : List (κ × β)} {k : κ} : look m k = none ↔ k ∉ m.map (·.1) := by
  constructor
  · intro h hk
    obtain ⟨v, e⟩ := look_some hk
    rw [h] at e
    cases e
  · exact look_none
theorem look_map_val (f : κ → β → β) (k : κ) : ∀ m : List (κ × β), look (m.map fun p => (p.1, f p.1 p.2)) k = (look m k).map (f k)
  | [] => rfl
  | p :: r => by
    rw [List.map_cons]
    by_cases e : p.1 = k
    · subst e
      rw [look_pos rfl, look_pos rfl]
      rfl
    · rw [look_neg e, look_neg (p := (p.1, f p.1 p.2)) e, look_map_val f k r]
theorem look_put (m : List (κ × β)) (k k' : κ) (v : β) : look (put m k v) k' = if k' = k then some v else look m k' := by
  unfold put
  by_cases h : (look m k).isSome = true
  · rw [if_pos h]
    have e : (m.map fun p => if p.1 = k then (p.1, v) else p) = m.map fun p => (p.1, (fun q b => if q = k then v else b) p.1 p.2) := by
      refine List.map_congr_left fun p _ => ?_
      by_cases z : p.1 = k
      · simp [z]
      · simp [z]
    rw [e, look_map_val (fun q b => if q = k then v else b)]
    by_cases z : k' = k
    · subst z
      rw [if_pos rfl]
      obtain ⟨b, hb⟩ := Option.isSome_iff_exists.mp h
      rw [hb]
      simp
    · rw [if_neg z]
      cases look m k' with
      | none => rfl
      | some b => simp [z]
  · rw [if_neg h, look_append]
    have hn : look m k = none := by simpa using h
    by_cases z : k' = k
    · subst z
      rw [hn, if_pos rfl, look_pos rfl]
      rfl
    · rw [if_neg z, look_neg (fun e => z e.symm)]
      cases look m k' <;> rfl
theorem keys_put (m : List (κ × β)) (k : κ) (v : β) : (put m k v).map (·.1) = if k ∈ m.map (·.1) then m.map (·.1) else m.map (·.1) ++ [k] := by
  unfold put
  by_cases h : k ∈ m.map (·.1)
  · rw [if_pos h]
    obtain ⟨b, hb⟩ := look_some h
    rw [hb]
    show (m.map fun p => if p.1 = k then (p.1, v) else p).map (·.1) = m.map (·.1)
    rw [List.map_map]
    refine List.map_congr_left fun p _ => ?_
    by_cases z : p.1 = k
    · simp [z]
    · simp [z]
  · rw [if_neg h, look_none h, if_neg (by simp), List.map_append]
    rfl
/-- keys, each once, as they first come -/
def kadd (ks : List κ) (k : κ) : List κ := if k ∈ ks then ks else ks ++ [k]
def dedup (l : List κ) : List κ := l.foldl kadd []
theorem mem_kadd {ks : List κ} {k x : κ} : x ∈ kadd ks k ↔ x ∈ ks ∨ x = k := by
  unfold kadd
  split
  · rename_i h
    constructor
    · exact .inl
    · rintro (h' | rfl)
      · exact h'
      · exact h
  · simp
theorem mem_foldk {x : κ} : ∀ {l ks : List κ}, x ∈ l.foldl kadd ks ↔ x ∈ ks ∨ x ∈ l
  | [], ks => by simp
  | k :: l, ks => by
    rw [List.foldl_cons, mem_foldk, mem_kadd, List.mem_cons, or_assoc]
theorem nodup_kadd {ks : List κ} {k : κ} (h : ks.Nodup) : (kadd ks k).Nodup := by
  unfold kadd
  split
  · exact h
  · rename_i z
    exact List.nodup_append.mpr ⟨h, by simp, fun a ha b hb e => by
      have : b = k := by simpa using hb
      rw [← this, ← e] at z
      exact z ha⟩
theorem nodup_foldk : ∀ {l ks : List κ}, ks.Nodup → (l.foldl kadd ks).Nodup
  | [], _, h => h
  | k :: l, ks, h => nodup_foldk (l := l) (nodup_kadd h)
theorem mem_dedup {l : List κ} {x : κ} : x ∈ dedup l ↔ x ∈ l := by
  unfold dedup
  rw [mem_foldk]
  simp
theorem nodup_dedup (l : List κ) : (dedup l).Nodup := nodup_foldk List.nodup_nil
theorem foldk_app : ∀ {l ks : List κ}, (∀ x ∈ l, x ∉ ks) → l.foldl kadd ks = ks ++ dedup l := by
  have key : ∀ (l ks es : List κ), (∀ x ∈ l, x ∉ ks) → l.foldl kadd (ks ++ es) = ks ++ l.foldl kadd es := by
    intro l
    induction l with
    | nil => intro ks es _; rfl
    | cons x l ih =>
      intro ks es h
      have hx := h x (List.mem_cons_self ..)
      rw [List.foldl_cons, List.foldl_cons]
      have e : kadd (ks ++ es) x = ks ++ kadd es x := by
        unfold kadd
        by_cases z : x ∈ es
        · rw [if_pos z, if_pos (List.mem_append.mpr (.inr z))]
        · rw [if_neg z, if_neg (fun q => (List.mem_append.mp q).elim hx z), List.append_assoc]
      rw [e]
      exact ih ks _ fun y hy => h y (List.mem_cons_of_mem _ hy)
  intro l ks h
  have := key l ks [] h
  rwa [List.append_nil] at this
/-- a dict that gathers by key -/
def accF (key : α → κ) (e : β) (op : β → α → β) (l : List α) : List (κ × β) := l.foldl (fun m a => put m (key a) (op ((look m (key a)).getD e) a)) []
theorem acc_look (key : α → κ) (e : β) (op : β → α → β) (k : κ) : ∀ (l : List α) (m : List (κ × β)), look (l.foldl (fun m a => put m (key a) (op ((look m (key a)).getD e) a)) m) k = if k ∈ l.map key then some ((l.filter fun a => decide (key a = k)).foldl op ((look m k).getD e)) else look m k
  | [], m => by simp
  | a :: l, m => by
    rw [List.foldl_cons, acc_look key e op k l, look_put, List.map_cons]
    by_cases h : k = key a
    · subst h
      rw [if_pos rfl, if_pos (List.mem_cons_self ..), List.filter_cons_of_pos (by simp), List.foldl_cons]
      by_cases z : key a ∈ l.map key
      · rw [if_pos z]; rfl
      · rw [if_neg z]
        have e : (l.filter fun b => decide (key b = key a)) = [] := List.filter_eq_nil_iff.mpr fun b hb => by
          simp only [decide_eq_true_eq]
          intro q
          exact z (by rw [← q]; exact List.mem_map.mpr ⟨b, hb, rfl⟩)
        rw [e]
        rfl
    · rw [if_neg h, List.filter_cons_of_neg (by simpa using fun q => h q.symm)]
      by_cases z : k ∈ l.map key
      · rw [if_pos z, if_pos (List.mem_cons_of_mem _ z)]
      · rw [if_neg z, if_neg (fun q => (List.mem_cons.mp q).elim h z)]
theorem acc_keys (key : α → κ) (e : β) (op : β → α → β) : ∀ (l : List α) (m : List (κ × β)), (l.foldl (fun m a => put m (key a) (op ((look m (key a)).getD e) a)) m).map (·.1) = (l.map key).foldl kadd (m.map (·.1))
  | [], m => rfl
  | a :: l, m => by
    rw [List.foldl_cons, acc_keys key e op l, keys_put, List.map_cons, List.foldl_cons]
    rfl
theorem accF_look (key : α → κ) (e : β) (op : β → α → β) (l : List α) (k : κ) : look (accF key e op l) k = if k ∈ l.map key then some ((l.filter fun a => decide (key a = k)).foldl op e) else none := acc_look key e op k l []
theorem accF_keys (key : α → κ) (e : β) (op : β → α → β) (l : List α) : (accF key e op l).map (·.1) = dedup (l.map key) := acc_keys key e op l []
theorem acc_none {key : α → κ} {e : β} {op : β → α → β} {l : List α} {k : κ} (h : k ∉ l.map key) : look (accF key e op l) k = none := by rw [accF_look, if_neg h]
/-- new keys, one behind another -/
theorem put_all (key : α → κ) (val : α → β) : ∀ (l : List α) (m : List (κ × β)), (l.map key).Nodup → (∀ a ∈ l, key a ∉ m.map (·.1)) → l.foldl (fun m a => put m (key a) (val a)) m = m ++ l.map fun a => (key a, val a)
  | [], m, _, _ => by simp
  | a :: l, m, hn, hm => by
    rw [List.map_cons, List.nodup_cons] at hn
    rw [List.foldl_cons, put_new (look_none (hm a (List.mem_cons_self ..))), put_all key val l _ hn.2 (fun b hb => ?_), List.map_cons, List.append_assoc]
    · rfl
    · rw [List.map_append]
      intro q
      rcases List.mem_append.mp q with q | q
      · exact hm b (List.mem_cons_of_mem _ hb) q
      · have e : key b = key a := by simpa using q
        exact hn.1 (by rw [← e]; exact List.mem_map.mpr ⟨b, hb, rfl⟩)
theorem look_mapF {l : List α} (key : α → κ) (val : α → β) (hn : (l.map key).Nodup) {a : α} (ha : a ∈ l) : look (l.map fun a => (key a, val a)) (key a) = some (val a) :=
  look_of_mem (by rw [List.map_map]; exact hn) (List.mem_map.mpr ⟨a, ha, rfl⟩)
/-- two dicts of the same keys and values, as told by look -/
theorem ext_look {m m' : List (κ × β)} (hk : m.map (·.1) = m'.map (·.1)) (hn : (m.map (·.1)).Nodup) (h : ∀ k ∈ m.map (·.1), look m k = look m' k) : m = m' := by
  have hl : m.length = m'.length := by have := congrArg List.length hk; simpa using this
  refine List.ext_getElem hl fun i h1 h2 => ?_
  have e1 : (m.map (·.1))[i]? = (m'.map (·.1))[i]? := by rw [hk]
  rw [List.getElem?_map, List.getElem?_map, List.getElem?_eq_getElem h1, List.getElem?_eq_getElem h2] at e1
  have e1 : m[i].1 = m'[i].1 := Option.some.inj e1
  have a1 := look_of_mem hn (k := m[i].1) (v := m[i].2) (List.getElem_mem h1)
  have a2 := look_of_mem (by rw [← hk]; exact hn) (k := m'[i].1) (v := m'[i].2) (List.getElem_mem h2)
  rw [h _ (List.mem_map.mpr ⟨_, List.getElem_mem h1, rfl⟩), e1, a2] at a1
  exact Prod.ext e1 (Option.some.inj a1).symm
end
/-! ### sums, products -/
theorem rsum_cons (a : Rat) (l : List Rat) : rsum (a :: l) = a + rsum l := by
  have key : ∀ (l : List Rat) (x : Rat), l.foldl (· + ·) x = x + l.foldl (· + ·) 0 := by
    intro l
    induction l with
    | nil => intro x; rw [List.foldl_nil, List.foldl_nil, Rat.add_zero]
    | cons b l ih =>
      intro x
      rw [List.foldl_cons, List.foldl_cons, ih (x + b), ih (0 + b), Rat.zero_add, Rat.add_assoc]
  unfold rsum
  rw [List.foldl_cons, Rat.zero_add, key]
theorem rsum_nil : rsum [] = 0 := rfl
theorem rsum_app (l l' : List Rat) : rsum (l ++ l') = rsum l + rsum l' := by
  induction l with
  | nil => rw [List.nil_append, rsum_nil, Rat.zero_add]
  | cons a l ih => rw [List.cons_append, rsum_cons, rsum_cons, ih, Rat.add_assoc]
theorem rsum_perm {l l' : List Rat} (h : l.Perm l') : rsum l = rsum l' := by
  induction h with
  | nil => rfl
  | cons a _ ih => rw [rsum_cons, rsum_cons, ih]
  | swap a b l => rw [rsum_cons, rsum_cons, rsum_cons, rsum_cons]; grind
  | trans _ _ h1 h2 => rw [h1, h2]
theorem rprod_nil : rprod [] = 1 := rfl
theorem rprod_cons (a : Rat) (l : List Rat) : rprod (a :: l) = a * rprod l := by
  have key : ∀ (l : List Rat) (x : Rat), l.foldl (· * ·) x = x * l.foldl (· * ·) 1 := by
    intro l
    induction l with
    | nil => intro x; rw [List.foldl_nil, List.foldl_nil, Rat.mul_one]
    | cons b l ih =>
      intro x
      rw [List.foldl_cons, List.foldl_cons, ih (x * b), ih (1 * b), Rat.one_mul, Rat.mul_assoc]
  unfold rprod
  rw [List.foldl_cons, Rat.one_mul, key]
theorem rprod_app (l l' : List Rat) : rprod (l ++ l') = rprod l * rprod l' := by
  induction l with
  | nil => rw [List.nil_append, rprod_nil, Rat.one_mul]
  | cons a l ih => rw [List.cons_append, rprod_cons, rprod_cons, ih, Rat.mul_assoc]
theorem rprod_perm {l l' : List Rat} (h : l.Perm l') : rprod l = rprod l' := by
  induction h with
  | nil => rfl
  | cons a _ ih => rw [rprod_cons, rprod_cons, ih]
  | swap a b l => rw [rprod_cons, rprod_cons, rprod_cons, rprod_cons]; grind
  | trans _ _ h1 h2 => rw [h1, h2]
theorem rsum_mul {α : Type} (q : Rat) (f : α → Rat) (l : List α) : rsum (l.map fun a => q * f a) = q * rsum (l.map f) := by
  induction l with
  | nil => rw [List.map_nil, List.map_nil, rsum_nil, Rat.mul_zero]
  | cons a l ih => rw [List.map_cons, List.map_cons, rsum_cons, rsum_cons, ih, Rat.mul_add]
theorem rsum_nonneg {l : List Rat} (h : ∀ a ∈ l, 0 ≤ a) : 0 ≤ rsum l := by
  induction l with
  | nil => exact Rat.le_refl
  | cons a l ih =>
    rw [rsum_cons]
    have h1 := h a (List.mem_cons_self ..)
    have h2 := ih fun b hb => h b (List.mem_cons_of_mem _ hb)
    grind
theorem rsum_pos {l : List Rat} (hl : l ≠ []) (h : ∀ a ∈ l, 0 < a) : 0 < rsum l := by
  cases l with
  | nil => exact absurd rfl hl
  | cons a l =>
    rw [rsum_cons]
    have h1 := h a (List.mem_cons_self ..)
    have h2 := rsum_nonneg (l := l) fun b hb => Rat.le_of_lt (h b (List.mem_cons_of_mem _ hb))
    grind
theorem rprod_pos {l : List Rat} (h : ∀ a ∈ l, 0 < a) : 0 < rprod l := by
  induction l with
  | nil => exact (by decide : (0 : Rat) < 1)
  | cons a l ih =>
    rw [rprod_cons]
    exact Rat.mul_pos (h a (List.mem_cons_self ..)) (ih fun b hb => h b (List.mem_cons_of_mem _ hb))
theorem fold_sum {α : Type} (w : α → Rat) (l : List α) (x : Rat) : l.foldl (fun b a => b + w a) x = (l.map w).foldl (· + ·) x := by rw [List.foldl_map]
theorem rsum_fold {α : Type} (w : α → Rat) (l : List α) : l.foldl (fun b a => b + w a) 0 = rsum (l.map w) := fold_sum w l 0
end CB
end
section
set_option Elab.async false
set_option linter.all false
set_option maxRecDepth 100000
set_option maxHeartbeats 2000000
/-! Plain law C: views. -/
namespace CB
open PySem PySem.Spec PyProof.Rows L2 Enc
theorem enumL_at {α : Type} {as : List α} {i : Nat} : (enumL as)[i]? = (as[i]?).map fun a => ((i : Int), a) := by
  cases h : as[i]? with
  | none =>
    have := List.getElem?_eq_none_iff.mp h
    exact List.getElem?_eq_none (by rw [enumL_len]; exact this)
  | some a => rw [enumL_get h]; rfl
theorem enumL_map {α β : Type} (as : List α) (f : Int × α → β) : enumL ((enumL as).map f) = (enumL as).map fun x => (x.1, f x) := by
  refine List.ext_getElem? fun i => ?_
  rw [enumL_at, List.getElem?_map, List.getElem?_map, enumL_at]
  cases as[i]? <;> rfl
theorem enumL_fst {α : Type} (as : List α) : (enumL as).map (·.1) = rgL 0 (as.length : Int) := by
  refine List.ext_getElem? fun i => ?_
  rw [List.getElem?_map, enumL_at]
  unfold rgL
  rw [List.getElem?_map]
  have e : ((as.length : Int) - 0).toNat = as.length := by omega
  rw [e]
  by_cases h : i < as.length
  · rw [List.getElem?_eq_getElem h, List.getElem?_range h]
    show some (i : Int) = some (0 + (i : Int))
    rw [Int.zero_add]
  · rw [List.getElem?_eq_none (by omega), List.getElem?_eq_none (by rw [List.length_range]; omega)]
    rfl
theorem view_at (c P : List Int) (i : Nat) : (view c P)[i]? = (c[i]?).map fun w => if (i : Int) ∈ P then w else -1 := by
  unfold view
  rw [List.getElem?_map, enumL_at]
  cases c[i]? <;> rfl
theorem view_len (c P : List Int) : (view c P).length = c.length := by unfold view; rw [List.length_map, enumL_len]
theorem view_view {c o p : List Int} (h : ∀ i ∈ p, i ∈ o) : view (view c o) p = view c p := by
  refine List.ext_getElem? fun i => ?_
  rw [view_at, view_at, view_at]
  cases c[i]? with
  | none => rfl
  | some w =>
    show some _ = some _
    congr 1
    dsimp only
    by_cases z : (i : Int) ∈ p
    · rw [if_pos z, if_pos z, if_pos (h _ z)]
    · rw [if_neg z, if_neg z]
theorem more_sub {o p : List Int} (h : more o p = true) : ∀ i ∈ p, i ∈ o := by
  unfold more at h
  rw [Bool.and_eq_true] at h
  exact fun i hi => of_decide_eq_true (List.all_eq_true.mp h.2 i hi)
theorem more_len {o p : List Int} (h : more o p = true) : p.length < o.length := by
  unfold more at h
  rw [Bool.and_eq_true] at h
  have := of_decide_eq_true h.1
  omega
theorem view_sub {c d o p : List Int} (h : ∀ i ∈ p, i ∈ o) (e : view c o = view d o) : view c p = view d p := by rw [← view_view h, e, view_view h]
/-- views agree where only a blank place differs -/
theorem view_off {c d p : List Int} (hl : c.length = d.length) (h : ∀ j : Nat, (j : Int) ∈ p → c[j]? = d[j]?) : view c p = view d p := by
  refine List.ext_getElem? fun j => ?_
  rw [view_at, view_at]
  by_cases z : (j : Int) ∈ p
  · rw [h j z]
  · by_cases hj : j < c.length
    · rw [List.getElem?_eq_getElem hj, List.getElem?_eq_getElem (show j < d.length by omega)]
      show some _ = some _
      dsimp only
      rw [if_neg z, if_neg z]
    · rw [List.getElem?_eq_none (by omega), List.getElem?_eq_none (by omega)]
theorem lots_filter : ∀ n ∈ Ns, ∀ p ∈ al n, (rgL 0 (n : Int)).filter (fun i => decide (i ∈ p)) = p := by decide +kernel
theorem pat_view {c p : List Int} {n : Nat} (hn : n ∈ Ns) (hp : p ∈ al n) (hl : c.length = n) (h0 : ∀ w ∈ c, 0 ≤ w) : pat (view c p) = p := by
  have e1 : enumL (view c p) = (enumL c).map fun x => (x.1, vcell p x) := enumL_map c (vcell p)
  unfold pat
  rw [e1, List.filter_map, List.map_map]
  have e2 : (enumL c).filter ((fun q : Int × Int => !decide (q.2 = -1)) ∘ fun x => (x.1, vcell p x)) = (enumL c).filter ((fun i => decide (i ∈ p)) ∘ fun x => x.1) := by
    refine List.filter_congr fun x hx => ?_
    obtain ⟨i, hi, _⟩ := enumL_mem hx
    have hw := h0 x.2 (List.mem_of_getElem? hi)
    show (!decide (vcell p x = -1)) = decide (x.1 ∈ p)
    unfold vcell
    by_cases z : x.1 ∈ p
    · rw [if_pos z]
      simp [z]
      omega
    · rw [if_neg z]
      simp [z]
  rw [e2]
  have e3 := lots_filter n hn p hp
  rw [← hl, ← enumL_fst c, List.filter_map] at e3
  exact e3
theorem view_full {c : List Int} : view c (rgL 0 (c.length : Int)) = c := by
  refine List.ext_getElem? fun i => ?_
  rw [view_at]
  by_cases h : i < c.length
  · rw [List.getElem?_eq_getElem h]
    show some _ = some _
    dsimp only
    rw [if_pos]
    unfold rgL
    refine List.mem_map.mpr ⟨i, List.mem_range.mpr (by omega), ?_⟩
    omega
  · rw [List.getElem?_eq_none (by omega)]
    rfl
theorem sz_facts : ∀ sz ∈ allSz, sz.length ∈ Ns ∧ (contents sz).Nodup ∧ contents sz ≠ [] ∧ ∀ c ∈ contents sz, c.length = sz.length ∧ ∀ w ∈ c, 0 ≤ w := by decide +kernel
theorem views_mem : ∀ sz ∈ allSz, ∀ p ∈ al sz.length, (∀ v ∈ views sz p, v ∈ (contents sz).map fun c => view c p) ∧ ∀ c ∈ contents sz, view c p ∈ views sz p := by decide +kernel
theorem conts_swap : ∀ sz ∈ allSz, ∀ c ∈ contents sz, ∀ i ∈ List.range sz.length, ∀ w ∈ rgL 0 (sz.getD i 0), c.take i ++ [w] ++ c.drop (i + 1) ∈ contents sz := by decide +kernel
theorem views_ok : ∀ sz ∈ allSz, ∀ p ∈ al sz.length, ∀ v ∈ views sz p, v.length = sz.length ∧ (v.zip sz).all (fun q => decide (-1 ≤ q.1) && decide (q.1 ≤ q.2 - 1)) = true := by decide +kernel
/-- a lot is a lot -/
theorem al_lot : ∀ n ∈ Ns, ∀ p ∈ al n, p.length ≤ 3 := by decide
end CB
end
section
set_option Elab.async false
set_option linter.all false
set_option maxRecDepth 100000
set_option maxHeartbeats 2000000
/-! Plain law D: shares, quotients. -/
namespace CB
open PySem PySem.Spec PyProof.Rows L2 Enc
/-- the views by a pattern, each once -/
def vsd (sz p : List Int) : List (List Int) := dedup ((contents sz).map fun c => view c p)
theorem mem_vsd {sz p v : List Int} : v ∈ vsd sz p ↔ ∃ c ∈ contents sz, view c p = v := by
  unfold vsd
  rw [mem_dedup, List.mem_map]
theorem foldl_fm {α β γ : Type} (f : α → List β) (g : γ → β → γ) : ∀ (l : List α) (x : γ), (l.flatMap f).foldl g x = l.foldl (fun x a => (f a).foldl g x) x
  | [], x => rfl
  | a :: l, x => by rw [List.flatMap_cons, List.foldl_append, foldl_fm f g l, List.foldl_cons]
theorem kst_eq (ks : List (List Int)) (v : List Int) : kst ks v = kadd ks v := by
  unfold kst kadd
  by_cases h : v ∈ ks
  · rw [if_pos h, if_pos h]
  · rw [if_neg h, if_neg h]
theorem vkeys_eq (sz : List Int) (F : List (List Int)) : vkeys sz F = dedup (F.flatMap fun p => (contents sz).map fun c => view c p) := by
  unfold vkeys dedup
  rw [foldl_fm]
  congr 1
  funext ks p
  unfold vkP
  rw [List.foldl_map]
  congr 1
  funext ks c
  exact kst_eq ks _
theorem mem_vkeys {sz : List Int} {F : List (List Int)} {v : List Int} : v ∈ vkeys sz F ↔ ∃ p ∈ F, ∃ c ∈ contents sz, view c p = v := by
  rw [vkeys_eq, mem_dedup, List.mem_flatMap]
  constructor
  · rintro ⟨p, hp, h⟩
    obtain ⟨c, hc, e⟩ := List.mem_map.mp h
    exact ⟨p, hp, c, hc, e⟩
  · rintro ⟨p, hp, c, hc, e⟩
    exact ⟨p, hp, List.mem_map.mpr ⟨c, hc, e⟩⟩
theorem sum_bounds {ws : List (List Int × Int)} : ∀ l : List (List Int), (∀ v ∈ l, 1 ≤ lkI ws v ∧ lkI ws v ≤ 10 ^ 9) → (l.length : Int) ≤ (l.map (lkI ws)).sum ∧ (l.map (lkI ws)).sum ≤ (l.length : Int) * 10 ^ 9
  | [], _ => by simp
  | v :: l, h => by
    obtain ⟨h1, h2⟩ := sum_bounds l fun u hu => h u (List.mem_cons_of_mem _ hu)
    have h3 := h v (List.mem_cons_self ..)
    rw [List.map_cons, List.sum_cons, List.length_cons]
    constructor
    · omega
    · omega
structure Ctx (sz : List Int) (F : List (List Int)) (ws : List (List Int × Int)) : Prop where
  hz : sz ∈ allSz
  hF : FamFacts sz.length F
  hw : WsOk (vkeys sz F) ws
section
variable {sz : List Int} {F : List (List Int)} {ws : List (List Int × Int)} (X : Ctx sz F ws)
include X
theorem Ctx.n : sz.length ∈ Ns := (sz_facts sz X.hz).1
theorem Ctx.cl {c : List Int} (h : c ∈ contents sz) : c.length = sz.length := ((sz_facts sz X.hz).2.2.2 c h).1
theorem Ctx.c0 {c : List Int} (h : c ∈ contents sz) : ∀ w ∈ c, 0 ≤ w := ((sz_facts sz X.hz).2.2.2 c h).2
theorem Ctx.nd : F.Nodup := nodup_of_lt X.hF.lt
theorem Ctx.pat {c p : List Int} (hc : c ∈ contents sz) (hp : p ∈ F) : pat (view c p) = p := pat_view X.n (X.hF.sub p hp) (X.cl hc) (X.c0 hc)
theorem Ctx.vs_pat {p v : List Int} (hp : p ∈ F) (h : v ∈ vsd sz p) : CB.pat v = p := by
  obtain ⟨c, hc, e⟩ := mem_vsd.mp h
  rw [← e]
  exact X.pat hc hp
theorem Ctx.wkeys : ws.map (·.1) = vkeys sz F := X.hw.1
theorem Ctx.wnd : (ws.map (·.1)).Nodup := by rw [X.wkeys, vkeys_eq]; exact nodup_dedup _
theorem Ctx.wI {v : List Int} (h : v ∈ vkeys sz F) : 1 ≤ lkI ws v ∧ lkI ws v ≤ 10 ^ 9 := by
  rw [← X.wkeys] at h
  have e := lkI_some h
  exact X.hw.2 _ (look_mem e)
theorem Ctx.skeys : (shOf ws).map (·.1) = vkeys sz F := by
  unfold shOf
  rw [List.map_map]
  have : ((fun x : List Int × Rat => x.1) ∘ fun k => (k, mkRat (lkI ws k) (totW ws).toNat)) = id := rfl
  rw [this, List.map_id, X.wkeys]
theorem Ctx.snd : ((shOf ws).map (·.1)).Nodup := by rw [X.skeys, vkeys_eq]; exact nodup_dedup _
theorem Ctx.slook {v : List Int} (h : v ∈ vkeys sz F) : look (shOf ws) v = some (mkRat (lkI ws v) (totW ws).toNat) := by
  unfold shOf
  exact look_mapF (fun k => k) (fun k => mkRat (lkI ws k) (totW ws).toNat) (by rw [List.map_id']; exact X.wnd) (by rw [X.wkeys]; exact h)
theorem Ctx.slk {v : List Int} (h : v ∈ vkeys sz F) : lk (shOf ws) v = mkRat (lkI ws v) (totW ws).toNat := by
  unfold lk
  rw [X.slook h]
  rfl
theorem Ctx.vkl : (vkeys sz F).length ≤ 128 := by
  have h := vkeys_len X.hz F.length F
  rw [List.take_length] at h
  have h2 : F.length ≤ 8 := by
    have h1 := X.hF.perm.length_eq
    have h3 : (dn sz.length F).length ≤ (dl sz.length).length := List.length_filter_le _ _
    have h4 := dl_len _ X.n
    omega
  omega
theorem Ctx.few : F.length ≤ 8 := by
  have h1 := X.hF.perm.length_eq
  have h3 : (dn sz.length F).length ≤ (dl sz.length).length := List.length_filter_le _ _
  have h4 := dl_len _ X.n
  omega
theorem Ctx.vk_ne : vkeys sz F ≠ [] := by
  obtain ⟨c, hc⟩ := List.exists_mem_of_ne_nil _ (sz_facts sz X.hz).2.2.1
  intro e
  have : view c (rgL 0 (sz.length : Int)) ∈ vkeys sz F := mem_vkeys.mpr ⟨_, X.hF.full, c, hc, rfl⟩
  rw [e] at this
  cases this
theorem Ctx.tot : 0 < totW ws ∧ totW ws ≤ 128 * 10 ^ 9 := by
  unfold totW
  rw [X.wkeys]
  obtain ⟨h1, h2⟩ := sum_bounds (vkeys sz F) fun v hv => X.wI hv
  have h3 := X.vkl
  have h4 : 0 < (vkeys sz F).length := List.length_pos_iff.mpr X.vk_ne
  constructor
  · omega
  · omega
theorem Ctx.shOk : ShOk ws := by
  have t := X.tot
  refine ⟨X.wnd, ?_, t.1, ?_⟩
  · have h := X.vkl
    rw [← X.wkeys, List.length_map] at h
    omega
  · have h1 : (totW ws).toNat < 2 ^ 40 := by omega
    exact Nat.lt_of_lt_of_le h1 (Nat.pow_le_pow_right (by decide) (by decide : 40 ≤ 9000))
end
/-! ### quotients -/
section
variable {sz : List Int} {F : List (List Int)} {ws : List (List Int × Int)}
/-- the law's quotients -/
abbrev fnd (sz : List Int) (F : List (List Int)) (ws : List (List Int × Int)) (i : Nat) : List (List Int × Rat) := lqAll (shOf ws) sz F ((dn sz.length F).take i)
theorem below_acc (p : List Int) (wt : List Int → Rat) (cs : List (List Int)) : below p wt cs = accF (fun c => view c p) 0 (fun b c => b + wt c) cs := rfl
theorem below_keys (p : List Int) (wt : List Int → Rat) : (below p wt (contents sz)).map (·.1) = vsd sz p := by rw [below_acc, accF_keys]; rfl
/-- the sum over the contents that show v -/
def sgm (sz p : List Int) (wt : List Int → Rat) (v : List Int) : Rat := rsum (((contents sz).filter fun c => decide (view c p = v)).map wt)
theorem below_look (p : List Int) (wt : List Int → Rat) {v : List Int} (h : v ∈ vsd sz p) : look (below p wt (contents sz)) v = some (sgm sz p wt v) := by
  rw [below_acc, accF_look, if_pos (mem_dedup.mp h), rsum_fold]
  rfl
variable (X : Ctx sz F ws)
include X
theorem Ctx.dnm {p : List Int} : p ∈ dn sz.length F ↔ p ∈ F := X.hF.perm.mem_iff
theorem Ctx.dnd : (dn sz.length F).Nodup := X.hF.perm.symm.nodup X.nd
theorem Ctx.block (i : Nat) : (fnd sz F ws i).map (·.1) = ((dn sz.length F).take i).flatMap (vsd sz) ∧ ∀ p, (dn sz.length F)[i]? = some p → fnd sz F ws (i + 1) = fnd sz F ws i ++ (below p (pw (fnd sz F ws i) F p) (contents sz)).map fun x => (x.1, lk (shOf ws) x.1 / x.2) := by
  have step : ∀ i p, (dn sz.length F)[i]? = some p → (fnd sz F ws i).map (·.1) = ((dn sz.length F).take i).flatMap (vsd sz) → fnd sz F ws (i + 1) = fnd sz F ws i ++ (below p (pw (fnd sz F ws i) F p) (contents sz)).map fun x => (x.1, lk (shOf ws) x.1 / x.2) := by
    intro i p hp hk
    show lqAll (shOf ws) sz F ((dn sz.length F).take (i + 1)) = _
    rw [take_snoc hp, lqAll_snoc]
    unfold lqStep lqF
    have hpF : p ∈ F := X.dnm.mp (List.mem_of_getElem? hp)
    refine put_all (fun x : List Int × Rat => x.1) (fun x => lk (shOf ws) x.1 / x.2) _ _ (by rw [below_keys]; exact nodup_dedup _) fun x hx => ?_
    have hx1 : x.1 ∈ vsd sz p := by rw [← below_keys p (pw (fnd sz F ws i) F p)]; exact List.mem_map.mpr ⟨x, hx, rfl⟩
    show x.1 ∉ (fnd sz F ws i).map (·.1)
    rw [hk]
    intro q
    obtain ⟨p', hp', hv⟩ := List.mem_flatMap.mp q
    have hp'F : p' ∈ F := X.dnm.mp (List.mem_of_mem_take hp')
    have e : p = p' := (X.vs_pat hpF hx1).symm.trans (X.vs_pat hp'F hv)
    subst e
    obtain ⟨j, hj, ej⟩ := List.getElem_of_mem hp'
    rw [List.length_take] at hj
    rw [List.getElem_take] at ej
    have h2 := (List.getElem?_eq_some_iff.mp hp)
    obtain ⟨h3, h4⟩ := h2
    have := (List.getElem_inj X.dnd).mp (ej.trans h4.symm)
    omega
  have keys : ∀ i, (fnd sz F ws i).map (·.1) = ((dn sz.length F).take i).flatMap (vsd sz) := by
    intro i
    induction i with
    | zero => rfl
    | succ i ih =>
      cases h : (dn sz.length F)[i]? with
      | none =>
        have := List.getElem?_eq_none_iff.mp h
        have e1 : (dn sz.length F).take (i + 1) = (dn sz.length F).take i := by rw [List.take_of_length_le (by omega), List.take_of_length_le (by omega)]
        show (lqAll (shOf ws) sz F ((dn sz.length F).take (i + 1))).map (·.1) = _
        rw [e1]
        exact ih
      | some p =>
        rw [step i p h ih, List.map_append, ih, take_snoc h, List.flatMap_append, List.map_map]
        congr 1
        show (below p (pw (fnd sz F ws i) F p) (contents sz)).map (·.1) = _
        rw [below_keys]
        simp
  exact ⟨keys i, fun p hp => step i p hp (keys i)⟩
theorem Ctx.pre {i j : Nat} (h : i ≤ j) : ∃ r, fnd sz F ws j = fnd sz F ws i ++ r := by
  induction h with
  | refl => exact ⟨[], by rw [List.append_nil]⟩
  | @step j h ih =>
    obtain ⟨r, e⟩ := ih
    cases hp : (dn sz.length F)[j]? with
    | none =>
      have := List.getElem?_eq_none_iff.mp hp
      refine ⟨r, ?_⟩
      rw [← e]
      show lqAll (shOf ws) sz F ((dn sz.length F).take (j + 1)) = lqAll (shOf ws) sz F ((dn sz.length F).take j)
      rw [List.take_of_length_le (by omega), List.take_of_length_le (by omega)]
    | some p =>
      rw [(X.block j).2 p hp, e, List.append_assoc]
      exact ⟨_, rfl⟩
theorem Ctx.own_eq : ownK sz F ws = fnd sz F ws (dn sz.length F).length := by
  show lqAll (shOf ws) sz F (ksort true F) = lqAll (shOf ws) sz F _
  rw [X.hF.ks, List.take_length]
theorem Ctx.own_pre (i : Nat) : ∃ r, ownK sz F ws = fnd sz F ws i ++ r := by
  rw [X.own_eq]
  by_cases h : i ≤ (dn sz.length F).length
  · exact X.pre h
  · refine ⟨[], ?_⟩
    rw [List.append_nil]
    show lqAll (shOf ws) sz F _ = lqAll (shOf ws) sz F _
    rw [List.take_length, List.take_of_length_le (by omega)]
theorem Ctx.okeys : (ownK sz F ws).map (·.1) = (dn sz.length F).flatMap (vsd sz) := by
  rw [X.own_eq, (X.block _).1, List.take_length]
theorem Ctx.ond : ((ownK sz F ws).map (·.1)).Nodup := by
  rw [X.okeys]
  have h : ∀ l : List (List Int), l.Nodup → (∀ p ∈ l, p ∈ F) → (l.flatMap (vsd sz)).Nodup := by
    intro l
    induction l with
    | nil => intro _ _; exact List.nodup_nil
    | cons p l ih =>
      intro hn hl
      rw [List.nodup_cons] at hn
      rw [List.flatMap_cons]
      refine List.nodup_append.mpr ⟨nodup_dedup _, ih hn.2 fun q hq => hl q (List.mem_cons_of_mem _ hq), fun a ha b hb e => ?_⟩
      obtain ⟨q, hq, hb⟩ := List.mem_flatMap.mp hb
      rw [e] at ha
      have : p = q := (X.vs_pat (hl p (List.mem_cons_self ..)) ha).symm.trans (X.vs_pat (hl q (List.mem_cons_of_mem _ hq)) hb)
      rw [this] at hn
      exact hn.1 hq
  exact h _ X.dnd fun p hp => X.dnm.mp hp
theorem Ctx.okm {v : List Int} : v ∈ (ownK sz F ws).map (·.1) ↔ v ∈ vkeys sz F := by
  rw [X.okeys, List.mem_flatMap, mem_vkeys]
  constructor
  · rintro ⟨p, hp, h⟩
    obtain ⟨c, hc, e⟩ := mem_vsd.mp h
    exact ⟨p, X.dnm.mp hp, c, hc, e⟩
  · rintro ⟨p, hp, c, hc, e⟩
    exact ⟨p, X.dnm.mpr hp, mem_vsd.mpr ⟨c, hc, e⟩⟩
end
/-- the quotient of a view -/
abbrev Qv (sz : List Int) (F : List (List Int)) (ws : List (List Int × Int)) (v : List Int) : Rat := lk (ownK sz F ws) v
/-- the product of the quotients by patterns that show more -/
def Wv (sz : List Int) (F : List (List Int)) (ws : List (List Int × Int)) (p c : List Int) : Rat := rprod ((above F p).map fun o => Qv sz F ws (view c o))
section
variable {sz : List Int} {F : List (List Int)} {ws : List (List Int × Int)} (X : Ctx sz F ws)
include X
theorem Ctx.at_ {i : Nat} {p : List Int} (hp : (dn sz.length F)[i]? = some p) {c o : List Int} (hc : c ∈ contents sz) (ho : o ∈ above F p) : view c o ∈ (fnd sz F ws i).map (·.1) ∧ lk (fnd sz F ws i) (view c o) = Qv sz F ws (view c o) := by
  obtain ⟨h1, h2⟩ := List.mem_filter.mp ho
  have hm : view c o ∈ (fnd sz F ws i).map (·.1) := by
    rw [(X.block i).1]
    exact List.mem_flatMap.mpr ⟨o, X.hF.ord i p hp o h1 h2, mem_vsd.mpr ⟨c, hc, rfl⟩⟩
  refine ⟨hm, ?_⟩
  obtain ⟨r, e⟩ := X.own_pre i
  obtain ⟨b, hb⟩ := look_some hm
  unfold Qv lk
  rw [e, look_append, hb]
  rfl
theorem Ctx.pw_eq {i : Nat} {p : List Int} (hp : (dn sz.length F)[i]? = some p) {c : List Int} (hc : c ∈ contents sz) : pw (fnd sz F ws i) F p c = Wv sz F ws p c := by
  unfold pw Wv
  congr 1
  exact List.map_congr_left fun o ho => (X.at_ hp hc ho).2
theorem Ctx.sgm_eq {i : Nat} {p : List Int} (hp : (dn sz.length F)[i]? = some p) (v : List Int) : sgm sz p (pw (fnd sz F ws i) F p) v = sgm sz p (Wv sz F ws p) v := by
  unfold sgm
  congr 1
  exact List.map_congr_left fun c hc => X.pw_eq hp (List.mem_filter.mp hc).1
/-- the recurrence -/
theorem Ctx.rec_ {p c : List Int} (hp : p ∈ F) (hc : c ∈ contents sz) : Qv sz F ws (view c p) = lk (shOf ws) (view c p) / sgm sz p (Wv sz F ws p) (view c p) := by
  obtain ⟨i, hi, e⟩ := List.getElem_of_mem (X.dnm.mpr hp)
  have hpi : (dn sz.length F)[i]? = some p := by rw [List.getElem?_eq_getElem hi, e]
  have hv : view c p ∈ vsd sz p := mem_vsd.mpr ⟨c, hc, rfl⟩
  obtain ⟨r, er⟩ := X.own_pre (i + 1)
  have hb := below_look p (pw (fnd sz F ws i) F p) hv
  rw [X.sgm_eq hpi] at hb
  have hnone : look (fnd sz F ws i) (view c p) = none := look_none fun q => by
    have nd := X.ond
    obtain ⟨r', er'⟩ := X.own_pre (i + 1)
    rw [er', (X.block i).2 p hpi, List.append_assoc, List.map_append, List.map_append] at nd
    have := (List.nodup_append.mp nd).2.2 _ q _ (List.mem_append.mpr (.inl ?_)) rfl
    · exact this
    · rw [List.map_map]
      show view c p ∈ (below p (pw (fnd sz F ws i) F p) (contents sz)).map (·.1)
      rw [below_keys]
      exact hv
  have hl : look (ownK sz F ws) (view c p) = some (lk (shOf ws) (view c p) / sgm sz p (Wv sz F ws p) (view c p)) := by
    rw [er, look_append, (X.block i).2 p hpi, look_append, hnone]
    have := look_map_val (fun k b => lk (shOf ws) k / b) (view c p) (below p (pw (fnd sz F ws i) F p) (contents sz))
    rw [this, hb]
    rfl
  unfold Qv lk
  rw [hl]
  rfl
end
end CB
end
section
set_option Elab.async false
set_option linter.all false
set_option maxRecDepth 100000
set_option maxHeartbeats 2000000
/-! Plain law E: what is positive; the whole; calm. -/
namespace CB
open PySem PySem.Spec PyProof.Rows L2 Enc
theorem num_pos {q : Rat} : 0 < q ↔ 0 < q.num := by
  have h := @Rat.num_nonneg (-q)
  rw [Rat.neg_num] at h
  constructor
  · intro hq
    have : ¬ 0 ≤ -q.num := fun z => by
      have := h.mp z
      grind
    omega
  · intro hq
    have : ¬ 0 ≤ -q := fun z => by
      have := h.mpr z
      omega
    grind
theorem mk_pos {a : Int} {b : Nat} (ha : 0 < a) (hb : 0 < b) : 0 < mkRat a b := by
  rw [Rat.mkRat_eq_div]
  have h1 : (0 : Rat) < (a : Rat) := by exact_mod_cast ha
  have h2 : (0 : Rat) < (b : Rat) := by exact_mod_cast hb
  rw [Rat.div_def]
  exact Rat.mul_pos h1 (Rat.inv_pos.mpr h2)
theorem div_pos' {a b : Rat} (ha : 0 < a) (hb : 0 < b) : 0 < a / b := by
  rw [Rat.div_def]
  exact Rat.mul_pos ha (Rat.inv_pos.mpr hb)
theorem more_self (p : List Int) : more p p = false := by
  cases h : more p p with
  | false => rfl
  | true => have := more_len h; omega
theorem atUp_perm {F : List (List Int)} {p : List Int} (hn : F.Nodup) (hp : p ∈ F) : (atUp F p).Perm (p :: above F p) := by
  refine (List.perm_ext_iff_of_nodup (hn.filter _) (List.nodup_cons.mpr ⟨fun q => ?_, hn.filter _⟩)).mpr fun o => ?_
  · have := (List.mem_filter.mp q).2
    rw [more_self] at this
    cases this
  · show o ∈ F.filter (fun o => decide (o = p) || more o p) ↔ o ∈ p :: F.filter (fun o => more o p)
    rw [List.mem_filter, List.mem_cons, List.mem_filter]
    constructor
    · rintro ⟨h1, h2⟩
      rw [Bool.or_eq_true] at h2
      rcases h2 with h2 | h2
      · exact .inl (of_decide_eq_true h2)
      · exact .inr ⟨h1, h2⟩
    · rintro (rfl | ⟨h1, h2⟩)
      · exact ⟨hp, by simp⟩
      · exact ⟨h1, by rw [h2, Bool.or_true]⟩
/-- a share of the whole -/
def dV (sz : List Int) (F : List (List Int)) (ws : List (List Int × Int)) (c p : List Int) : Rat := rprod ((atUp F p).map fun o => Qv sz F ws (view c o))
section
variable {sz : List Int} {F : List (List Int)} {ws : List (List Int × Int)} (X : Ctx sz F ws)
include X
theorem Ctx.vk {c p : List Int} (hp : p ∈ F) (hc : c ∈ contents sz) : view c p ∈ vkeys sz F := mem_vkeys.mpr ⟨p, hp, c, hc, rfl⟩
theorem Ctx.spos {v : List Int} (h : v ∈ vkeys sz F) : 0 < lk (shOf ws) v := by
  rw [X.slk h]
  have := X.wI h
  have := X.tot
  exact mk_pos (by omega) (by omega)
theorem Ctx.pl {p : List Int} (hp : p ∈ F) : p.length ≤ 3 := al_lot _ X.n _ (X.hF.sub p hp)
theorem Ctx.qpos {p c : List Int} (hp : p ∈ F) (hc : c ∈ contents sz) : 0 < Qv sz F ws (view c p) := by
  have key : ∀ k : Nat, ∀ p ∈ F, 3 - p.length ≤ k → ∀ c ∈ contents sz, 0 < Qv sz F ws (view c p) := by
    intro k
    induction k with
    | zero =>
      intro p hp hk c hc
      rw [X.rec_ hp hc]
      refine div_pos' (X.spos (X.vk hp hc)) (rsum_pos ?_ fun a ha => ?_)
      · exact fun e => by
          have : c ∈ (contents sz).filter fun d => decide (view d p = view c p) := List.mem_filter.mpr ⟨hc, by simp⟩
          rw [List.map_eq_nil_iff.mp e] at this
          cases this
      · obtain ⟨d, hd, rfl⟩ := List.mem_map.mp ha
        refine rprod_pos fun b hb => ?_
        obtain ⟨o, ho, rfl⟩ := List.mem_map.mp hb
        obtain ⟨h1, h2⟩ := List.mem_filter.mp ho
        have := more_len h2
        have := X.pl h1
        omega
    | succ k ih =>
      intro p hp hk c hc
      rw [X.rec_ hp hc]
      refine div_pos' (X.spos (X.vk hp hc)) (rsum_pos ?_ fun a ha => ?_)
      · exact fun e => by
          have : c ∈ (contents sz).filter fun d => decide (view d p = view c p) := List.mem_filter.mpr ⟨hc, by simp⟩
          rw [List.map_eq_nil_iff.mp e] at this
          cases this
      · obtain ⟨d, hd, rfl⟩ := List.mem_map.mp ha
        refine rprod_pos fun b hb => ?_
        obtain ⟨o, ho, rfl⟩ := List.mem_map.mp hb
        obtain ⟨h1, h2⟩ := List.mem_filter.mp ho
        have := more_len h2
        have := X.pl h1
        exact ih o h1 (by omega) d (List.mem_filter.mp hd).1
  exact key 3 p hp (by omega) c hc
theorem Ctx.wpos {p c : List Int} (hc : c ∈ contents sz) : 0 < Wv sz F ws p c := rprod_pos fun b hb => by
  obtain ⟨o, ho, rfl⟩ := List.mem_map.mp hb
  exact X.qpos (List.mem_filter.mp ho).1 hc
theorem Ctx.gpos {p c : List Int} (hc : c ∈ contents sz) : 0 < sgm sz p (Wv sz F ws p) (view c p) := by
  refine rsum_pos ?_ fun a ha => ?_
  · exact fun e => by
      have : c ∈ (contents sz).filter fun d => decide (view d p = view c p) := List.mem_filter.mpr ⟨hc, by simp⟩
      rw [List.map_eq_nil_iff.mp e] at this
      cases this
  · obtain ⟨d, hd, rfl⟩ := List.mem_map.mp ha
    exact X.wpos (List.mem_filter.mp hd).1
theorem Ctx.dV_eq {p c : List Int} (hp : p ∈ F) : dV sz F ws c p = Qv sz F ws (view c p) * Wv sz F ws p c := by
  unfold dV Wv
  rw [rprod_perm ((atUp_perm X.nd hp).map _), List.map_cons, rprod_cons]
theorem Ctx.dpos {p c : List Int} (hp : p ∈ F) (hc : c ∈ contents sz) : 0 < dV sz F ws c p := by
  rw [X.dV_eq hp]
  exact Rat.mul_pos (X.qpos hp hc) (X.wpos hc)
/-- hidden it is the table -/
theorem Ctx.hid {p c : List Int} (hp : p ∈ F) (hc : c ∈ contents sz) : sgm sz p (fun d => dV sz F ws d p) (view c p) = lk (shOf ws) (view c p) := by
  have e : sgm sz p (fun d => dV sz F ws d p) (view c p) = Qv sz F ws (view c p) * sgm sz p (Wv sz F ws p) (view c p) := by
    unfold sgm
    rw [← rsum_mul]
    congr 1
    refine List.map_congr_left fun d hd => ?_
    have hv : view d p = view c p := of_decide_eq_true (List.mem_filter.mp hd).2
    rw [X.dV_eq hp, hv]
  rw [e, X.rec_ hp hc]
  have := X.gpos (p := p) hc
  grind
end
/-- one column more -/
theorem ins_facts : ∀ n ∈ Ns, ∀ i ∈ List.range n, ∀ p ∈ al n, ¬ (i : Int) ∈ p → ∀ m ∈ al n, m.Perm (p ++ [(i : Int)]) → ∀ o ∈ al n, (o = m ∨ more o m = true) ↔ ((o = p ∨ more o p = true) ∧ (i : Int) ∈ o) := by decide +kernel
section
variable {sz : List Int} {F : List (List Int)} {ws : List (List Int × Int)} (X : Ctx sz F ws)
include X
/-- what does not change along a column -/
def restV (sz : List Int) (F : List (List Int)) (ws : List (List Int × Int)) (i : Nat) (p c : List Int) : Rat := rprod (((atUp F p).filter fun o => !decide ((i : Int) ∈ o)).map fun o => Qv sz F ws (view c o))
omit X in
theorem filter_perm {α : Type} (f : α → Bool) (l : List α) : (l.filter f ++ l.filter fun a => !f a).Perm l := by
  induction l with
  | nil => exact .refl _
  | cons a l ih =>
    cases h : f a with
    | true =>
      rw [List.filter_cons_of_pos h, List.filter_cons_of_neg (by simp [h])]
      exact ih.cons a
    | false =>
      rw [List.filter_cons_of_neg (by simp [h]), List.filter_cons_of_pos (by simp [h])]
      exact List.perm_middle.trans (ih.cons a)
theorem Ctx.split {i : Nat} {p m c : List Int} (hi : i < sz.length) (hp : p ∈ F) (hip : ¬ (i : Int) ∈ p) (hm : m ∈ F) (hpm : m.Perm (p ++ [(i : Int)])) : dV sz F ws c p = dV sz F ws c m * restV sz F ws i p c := by
  have e : (atUp F p).filter (fun o => decide ((i : Int) ∈ o)) = atUp F m := by
    unfold atUp
    rw [List.filter_filter]
    refine List.filter_congr fun o ho => ?_
    have := ins_facts _ X.n i (List.mem_range.mpr hi) p (X.hF.sub p hp) hip m (X.hF.sub m hm) hpm o (X.hF.sub o ho)
    rw [Bool.eq_iff_iff]
    simp only [Bool.and_eq_true, Bool.or_eq_true, decide_eq_true_eq]
    rw [this]
    exact And.comm
  have hq := (filter_perm (fun o => decide ((i : Int) ∈ o)) (atUp F p)).map fun o => Qv sz F ws (view c o)
  unfold dV restV
  rw [← rprod_perm hq, List.map_append, rprod_app, e]
theorem Ctx.rest_eq {i : Nat} {p c d : List Int} (hl : c.length = d.length) (h : ∀ j : Nat, j ≠ i → c[j]? = d[j]?) : restV sz F ws i p c = restV sz F ws i p d := by
  unfold restV
  congr 1
  refine List.map_congr_left fun o ho => ?_
  have hio : ¬ (i : Int) ∈ o := by have := (List.mem_filter.mp ho).2; simpa using this
  rw [view_off hl fun j hj => h j fun e => hio (by rw [← e]; exact hj)]
/-- calm -/
theorem Ctx.calm {i : Nat} {p m c d : List Int} (hi : i < sz.length) (hp : p ∈ F) (hip : ¬ (i : Int) ∈ p) (hm : m ∈ F) (hpm : m.Perm (p ++ [(i : Int)])) (hc : c ∈ contents sz) (hd : d ∈ contents sz) (h : ∀ j : Nat, j ≠ i → c[j]? = d[j]?) : dV sz F ws c p / dV sz F ws c m = dV sz F ws d p / dV sz F ws d m := by
  have e1 := X.split (c := c) hi hp hip hm hpm
  have e2 := X.split (c := d) hi hp hip hm hpm
  have e3 := X.rest_eq (p := p) ((X.cl hc).trans (X.cl hd).symm) h
  have p1 := X.dpos hm hc
  have p2 := X.dpos hm hd
  grind
end
end CB
end
section
set_option Elab.async false
set_option linter.all false
set_option maxRecDepth 100000
set_option maxHeartbeats 2000000
set_option exponentiation.threshold 100
/-! Plain law F: how great the numbers are. -/
namespace CB
open PySem PySem.Spec PyProof.Rows L2 Enc
def Fq (D N : Nat) (q : Rat) : Prop := ∃ x : Nat, x ≤ N ∧ q * (D : Rat) = (x : Rat)
theorem fq_mul {D N D' N' : Nat} {q q' : Rat} (h : Fq D N q) (h' : Fq D' N' q') : Fq (D * D') (N * N') (q * q') := by
  obtain ⟨x, h1, h2⟩ := h
  obtain ⟨y, g1, g2⟩ := h'
  refine ⟨x * y, Nat.mul_le_mul h1 g1, ?_⟩
  rw [Rat.natCast_mul, Rat.natCast_mul, ← h2, ← g2]
  grind
theorem fq_add {D N N' : Nat} {q q' : Rat} (h : Fq D N q) (h' : Fq D N' q') : Fq D (N + N') (q + q') := by
  obtain ⟨x, h1, h2⟩ := h
  obtain ⟨y, g1, g2⟩ := h'
  refine ⟨x + y, Nat.add_le_add h1 g1, ?_⟩
  rw [Rat.natCast_add, ← h2, ← g2]
  grind
theorem fq_mono {D N N' : Nat} {q : Rat} (h : Fq D N q) (hn : N ≤ N') : Fq D N' q := by
  obtain ⟨x, h1, h2⟩ := h
  exact ⟨x, Nat.le_trans h1 hn, h2⟩
theorem fq_one (D : Nat) : Fq D D 1 := ⟨D, Nat.le_refl _, by rw [Rat.one_mul]⟩
theorem fq_zero (D N : Nat) : Fq D N 0 := ⟨0, Nat.zero_le _, by rw [Rat.zero_mul]; rfl⟩
theorem fq_sum {α : Type} {D N : Nat} {f : α → Rat} : ∀ {l : List α}, (∀ a ∈ l, Fq D N (f a)) → Fq D (N * l.length) (rsum (l.map f))
  | [], _ => fq_zero _ _
  | a :: l, h => by
    rw [List.map_cons, rsum_cons, List.length_cons]
    have h1 := fq_add (h a (List.mem_cons_self ..)) (fq_sum fun b hb => h b (List.mem_cons_of_mem _ hb))
    refine fq_mono h1 ?_
    rw [Nat.mul_add, Nat.mul_one, Nat.add_comm]
    exact Nat.le_refl _
theorem q_den (q : Rat) : q * (q.den : Rat) = (q.num : Rat) := by
  have h2 : (q.den : Rat) ≠ 0 := by
    have := q.den_nz
    exact_mod_cast this
  have h := Rat.div_mul_cancel (a := (q.num : Rat)) h2
  rwa [← Rat.mkRat_eq_div, Rat.mkRat_self] at h
theorem eq_mk {D x : Nat} {q : Rat} (hD : 0 < D) (h : q * (D : Rat) = (x : Rat)) : q = mkRat (x : Int) D := by
  rw [Rat.mkRat_eq_div, Rat.intCast_natCast, ← h]
  have h2 : (D : Rat) ≠ 0 := by
    have : D ≠ 0 := by omega
    exact_mod_cast this
  grind
theorem mk_le {x D : Nat} (hD : 0 < D) : (mkRat (x : Int) D).num.natAbs ≤ x ∧ (mkRat (x : Int) D).den ≤ D := by
  obtain ⟨h1, h2⟩ := rat_mk (n := (x : Int)) (d := D) (by omega)
  rw [h1, h2]
  refine ⟨?_, Nat.div_le_self _ _⟩
  have e : ((x : Int) / (((x : Int).natAbs.gcd D : Nat) : Int)) = ((x / (x.gcd D) : Nat) : Int) := by
    rw [Int.natAbs_natCast, Int.natCast_ediv]
  rw [e, Int.natAbs_natCast]
  exact Nat.div_le_self _ _
theorem fq_le {D N : Nat} {q : Rat} (hD : 0 < D) (h : Fq D N q) : q.num.natAbs ≤ N ∧ q.den ≤ D := by
  obtain ⟨x, h1, h2⟩ := h
  have e := eq_mk hD h2
  obtain ⟨g1, g2⟩ := mk_le (x := x) hD
  rw [← e] at g1 g2
  exact ⟨Nat.le_trans g1 h1, g2⟩
/-- at most 2^b -/
structure Bq (b : Nat) (q : Rat) : Prop where
  pos : 0 < q
  num : q.num.natAbs ≤ 2 ^ b
  den : q.den ≤ 2 ^ b
theorem Bq.bt {b n : Nat} {q : Rat} (h : Bq b q) (hn : b < n) : Bt n q := by
  have e : 2 ^ b < 2 ^ n := Nat.pow_lt_pow_right (by decide) hn
  exact ⟨Nat.lt_of_le_of_lt h.num e, Nat.lt_of_le_of_lt h.den e⟩
theorem fq_bt {D N b n : Nat} {q : Rat} (hD : 0 < D) (h : Fq D N q) (h1 : D ≤ 2 ^ b) (h2 : N ≤ 2 ^ b) (hn : b < n) : Bt n q := by
  have e : 2 ^ b < 2 ^ n := Nat.pow_lt_pow_right (by decide) hn
  obtain ⟨g1, g2⟩ := fq_le hD h
  exact ⟨Nat.lt_of_le_of_lt (Nat.le_trans g1 h2) e, Nat.lt_of_le_of_lt (Nat.le_trans g2 h1) e⟩
theorem Bq.mono {b b' : Nat} {q : Rat} (h : Bq b q) (hb : b ≤ b') : Bq b' q := by
  have e : 2 ^ b ≤ 2 ^ b' := Nat.pow_le_pow_right (by decide) hb
  exact ⟨h.pos, Nat.le_trans h.num e, Nat.le_trans h.den e⟩
theorem Bq.fq {b : Nat} {q : Rat} (h : Bq b q) : Fq q.den (2 ^ b) q := by
  refine ⟨q.num.natAbs, h.num, ?_⟩
  rw [q_den]
  have : 0 < q.num := num_pos.mp h.pos
  have e : q.num = ((q.num.natAbs : Nat) : Int) := by omega
  conv => lhs; rw [e]
  exact Rat.intCast_natCast _
theorem bq_mul {b b' : Nat} {q q' : Rat} (h : Bq b q) (h' : Bq b' q') : Bq (b + b') (q * q') := by
  have f := fq_mul h.fq h'.fq
  obtain ⟨g1, g2⟩ := fq_le (Nat.mul_pos q.den_pos q'.den_pos) f
  refine ⟨Rat.mul_pos h.pos h'.pos, ?_, ?_⟩
  · rw [Nat.pow_add]; exact g1
  · rw [Nat.pow_add]; exact Nat.le_trans g2 (Nat.mul_le_mul h.den h'.den)
theorem bq_one : Bq 0 1 := ⟨by decide, by decide, by decide⟩
theorem bq_prod {α : Type} {e : α → Nat} {q : α → Rat} : ∀ {l : List α}, (∀ o ∈ l, Bq (e o) (q o)) → Bq ((l.map e).sum) (rprod (l.map q))
  | [], _ => bq_one
  | o :: l, h => by
    rw [List.map_cons, List.sum_cons, List.map_cons, rprod_cons]
    exact bq_mul (h o (List.mem_cons_self ..)) (bq_prod fun o' ho => h o' (List.mem_cons_of_mem _ ho))
theorem bq_div {b b' : Nat} {q q' : Rat} (h : Bq b q) (h' : Bq b' q') : Bq (b + b') (q / q') := by
  obtain ⟨x, h1, h2⟩ := h.fq
  obtain ⟨y, g1, g2⟩ := h'.fq
  have hy : q' ≠ 0 := by have := h'.pos; grind
  have y0 : 0 < y := by
    rcases Nat.eq_zero_or_pos y with z | z
    · subst z
      have : q' * (q'.den : Rat) = 0 := g2
      have hd : (q'.den : Rat) ≠ 0 := by have := q'.den_nz; exact_mod_cast this
      grind
    · exact z
  have f : Fq (q.den * y) (2 ^ b * 2 ^ b') (q / q') := by
    refine ⟨x * q'.den, Nat.mul_le_mul h1 h'.den, ?_⟩
    rw [Rat.natCast_mul, Rat.natCast_mul, ← h2, ← g2]
    grind
  obtain ⟨k1, k2⟩ := fq_le (Nat.mul_pos q.den_pos y0) f
  refine ⟨div_pos' h.pos h'.pos, ?_, ?_⟩
  · rw [Nat.pow_add]; exact k1
  · rw [Nat.pow_add]; exact Nat.le_trans k2 (Nat.mul_le_mul h.den g1)
/-! ### common denominators -/
def dens (l : List Rat) : Nat := l.foldr (fun q d => q.den * d) 1
theorem dens_pos : ∀ l : List Rat, 0 < dens l
  | [] => Nat.one_pos
  | q :: l => Nat.mul_pos q.den_pos (dens_pos l)
theorem dens_le {b : Nat} : ∀ {l : List Rat}, (∀ q ∈ l, Bq b q) → dens l ≤ 2 ^ (b * l.length)
  | [], _ => Nat.le_refl _
  | q :: l, h => by
    rw [List.length_cons, Nat.mul_add, Nat.mul_one, Nat.add_comm, Nat.pow_add]
    exact Nat.mul_le_mul (h q (List.mem_cons_self ..)).den (dens_le fun r hr => h r (List.mem_cons_of_mem _ hr))
theorem fq_mem {b : Nat} : ∀ {l : List Rat} {q : Rat}, q ∈ l → (∀ q ∈ l, Bq b q) → Fq (dens l) (2 ^ (b * l.length)) q
  | r :: l, q, hq, h => by
    rw [List.length_cons, Nat.mul_add, Nat.mul_one, Nat.add_comm, Nat.pow_add]
    have hl : ∀ q ∈ l, Bq b q := fun r hr => h r (List.mem_cons_of_mem _ hr)
    have hr := h r (List.mem_cons_self ..)
    rcases List.mem_cons.mp hq with e | hq
    · subst e
      have := fq_mul hr.fq (fq_mono (fq_one (dens l)) (dens_le hl))
      rwa [Rat.mul_one] at this
    · have := fq_mul (fq_mono (fq_one r.den) hr.den) (fq_mem hq hl)
      rwa [Rat.one_mul] at this
def proD {α : Type} (D : α → Nat) (l : List α) : Nat := l.foldr (fun a d => D a * d) 1
theorem fq_prod {α : Type} {D e : α → Nat} {q : α → Rat} : ∀ {l : List α}, (∀ o ∈ l, Fq (D o) (2 ^ e o) (q o) ∧ D o ≤ 2 ^ e o ∧ 0 < D o) → Fq (proD D l) (2 ^ (l.map e).sum) (rprod (l.map q)) ∧ proD D l ≤ 2 ^ (l.map e).sum ∧ 0 < proD D l
  | [], _ => ⟨fq_one 1, Nat.le_refl _, Nat.one_pos⟩
  | o :: l, h => by
    obtain ⟨h1, h2, h3⟩ := h o (List.mem_cons_self ..)
    obtain ⟨g1, g2, g3⟩ := fq_prod (l := l) fun o' ho => h o' (List.mem_cons_of_mem _ ho)
    rw [List.map_cons, List.sum_cons, List.map_cons, rprod_cons, Nat.pow_add]
    exact ⟨fq_mul h1 g1, Nat.mul_le_mul h2 g2, Nat.mul_pos h3 g3⟩
theorem sum_sub {α : Type} {f : α → Nat} {l l' : List α} (h : l.Sublist l') : (l.map f).sum ≤ (l'.map f).sum := by
  induction h with
  | slnil => exact Nat.le_refl _
  | cons a _ ih => rw [List.map_cons, List.sum_cons]; omega
  | cons_cons a _ ih => rw [List.map_cons, List.sum_cons, List.map_cons, List.sum_cons]; omega
theorem rprod_filter {α : Type} (f : α → Bool) (q : α → Rat) : ∀ l : List α, rprod ((l.filter f).map q) = rprod (l.map fun o => if f o = true then q o else 1)
  | [] => rfl
  | o :: l => by
    cases h : f o with
    | true => rw [List.filter_cons_of_pos h, List.map_cons, List.map_cons, rprod_cons, rprod_cons, if_pos h, rprod_filter f q l]
    | false => rw [List.filter_cons_of_neg (by simp [h]), List.map_cons, rprod_cons, if_neg (by simp [h]), Rat.one_mul, rprod_filter f q l]
/-! ### the bounds -/
def fullP (sz : List Int) : List Int := rgL 0 (sz.length : Int)
def bb (n k : Nat) : Nat := if n - k = 0 then 37 else if n - k = 1 then 34 else if n - k = 2 then (if n = 2 then 306 else 204) else 2006
/-- the views by o that lie under v, a view by p -/
def Uo (sz p o v : List Int) : List (List Int) := (views sz o).filter fun u => decide (view u p = v)
theorem full_one : ∀ sz ∈ allSz, ∀ c ∈ contents sz, (contents sz).filter (fun d => decide (view d (fullP sz) = view c (fullP sz))) = [c] := by decide +kernel
theorem full_top : ∀ n ∈ Ns, ∀ p ∈ al n, (more p (rgL 0 (n : Int)) = false) ∧ (p ≠ rgL 0 (n : Int) → more (rgL 0 (n : Int)) p = true) := by decide +kernel
theorem chk1 : ∀ sz ∈ allSz, ∀ p ∈ al sz.length, p ≠ fullP sz → ∀ v ∈ views sz p, (((al sz.length).filter fun o => more o p && !decide (o = fullP sz)).map fun o => bb sz.length o.length * (Uo sz p o v).length).sum + 34 ≤ bb sz.length p.length := by decide +kernel
theorem chk2 : ∀ n ∈ Ns, ∀ p ∈ al n, (((al n).filter fun o => more o p).map fun o => bb n o.length).sum ≤ 751 ∧ bb n p.length ≤ 2006 := by decide +kernel
theorem chk3 : ∀ sz ∈ allSz, (((al sz.length).filter fun o => !decide (o = fullP sz)).map fun o => bb sz.length o.length * (views sz o).length).sum ≤ 3978 := by decide +kernel
end CB
end
section
set_option Elab.async false
set_option linter.all false
set_option maxRecDepth 100000
set_option maxHeartbeats 2000000
set_option exponentiation.threshold 100
/-! Plain law G: bounds of quotients, sums, the whole. -/
namespace CB
open PySem PySem.Spec PyProof.Rows L2 Enc
abbrev aN (sz : List Int) (F : List (List Int)) (p : List Int) : List (List Int) := (above F p).filter fun o => !decide (o = fullP sz)
section
variable {sz : List Int} {F : List (List Int)} {ws : List (List Int × Int)} (X : Ctx sz F ws)
include X
theorem Ctx.sfq {v : List Int} (h : v ∈ vkeys sz F) : Fq (totW ws).toNat (2 ^ 30) (lk (shOf ws) v) := by
  have hw := X.wI h
  have ht := X.tot
  refine ⟨(lkI ws v).toNat, by omega, ?_⟩
  rw [X.slk h, Rat.mkRat_eq_div]
  have h2 : (((totW ws).toNat : Nat) : Rat) ≠ 0 := by
    have : (totW ws).toNat ≠ 0 := by omega
    exact_mod_cast this
  rw [Rat.div_mul_cancel h2, ← Rat.intCast_natCast, Int.toNat_of_nonneg (by omega)]
theorem Ctx.T0 : 0 < (totW ws).toNat ∧ (totW ws).toNat ≤ 2 ^ 37 := by
  have := X.tot
  constructor <;> omega
theorem Ctx.sbq {v : List Int} (h : v ∈ vkeys sz F) : Bq 37 (lk (shOf ws) v) := by
  obtain ⟨t0, t1⟩ := X.T0
  obtain ⟨g1, g2⟩ := fq_le t0 (X.sfq h)
  exact ⟨X.spos h, Nat.le_trans g1 (Nat.pow_le_pow_right (by decide) (by decide)), Nat.le_trans g2 t1⟩
theorem Ctx.fullF : fullP sz ∈ F := X.hF.full
theorem Ctx.above_nil : above F (fullP sz) = [] := List.filter_eq_nil_iff.mpr fun o ho => by
  have := (full_top _ X.n o (X.hF.sub o ho)).1
  show ¬ more o (fullP sz) = true
  unfold fullP
  rw [this]
  simp
theorem Ctx.wfull (c : List Int) : Wv sz F ws (fullP sz) c = 1 := by
  unfold Wv
  rw [X.above_nil]
  rfl
theorem Ctx.qfull {c : List Int} (hc : c ∈ contents sz) : Qv sz F ws (view c (fullP sz)) = lk (shOf ws) (view c (fullP sz)) := by
  rw [X.rec_ X.fullF hc]
  unfold sgm
  rw [full_one sz X.hz c hc, List.map_cons, List.map_nil, X.wfull, rsum_cons, rsum_nil, Rat.add_zero, Rat.div_def]
  grind
theorem Ctx.vfull {c : List Int} (hc : c ∈ contents sz) : view c (fullP sz) = c := by
  have := view_full (c := c)
  rw [X.cl hc] at this
  exact this
theorem Ctx.above_perm {p : List Int} (hp : p ∈ F) (hf : p ≠ fullP sz) : (above F p).Perm (fullP sz :: aN sz F p) := by
  refine (List.perm_ext_iff_of_nodup (X.nd.filter _) (List.nodup_cons.mpr ⟨fun q => ?_, (X.nd.filter _).filter _⟩)).mpr fun o => ?_
  · have := (List.mem_filter.mp q).2
    simp at this
  · constructor
    · intro h
      by_cases e : o = fullP sz
      · exact List.mem_cons.mpr (.inl e)
      · exact List.mem_cons.mpr (.inr (List.mem_filter.mpr ⟨h, by simpa using e⟩))
    · intro h
      rcases List.mem_cons.mp h with e | h
      · rw [e]
        exact List.mem_filter.mpr ⟨X.fullF, (full_top _ X.n p (X.hF.sub p hp)).2 hf⟩
      · exact (List.mem_filter.mp h).1
theorem Ctx.w_eq {p c : List Int} (hp : p ∈ F) (hf : p ≠ fullP sz) (hc : c ∈ contents sz) : Wv sz F ws p c = lk (shOf ws) (view c (fullP sz)) * rprod ((aN sz F p).map fun o => Qv sz F ws (view c o)) := by
  unfold Wv
  rw [rprod_perm ((X.above_perm hp hf).map _), List.map_cons, rprod_cons, X.qfull hc]
abbrev eU (sz p v o : List Int) : Nat := bb sz.length o.length * (Uo sz p o v).length
abbrev dU (sz : List Int) (F : List (List Int)) (ws : List (List Int × Int)) (p v o : List Int) : Nat := dens ((Uo sz p o v).map (Qv sz F ws))
theorem Ctx.wcom {p c : List Int} (hp : p ∈ F) (hf : p ≠ fullP sz) (hc : c ∈ contents sz) (ih : ∀ o ∈ above F p, ∀ d ∈ contents sz, Bq (bb sz.length o.length) (Qv sz F ws (view d o))) :
    ∃ D e, e + 34 ≤ bb sz.length p.length ∧ 0 < D ∧ D ≤ 2 ^ e ∧ ∀ d ∈ contents sz, view d p = view c p → Fq ((totW ws).toNat * D) (2 ^ 30 * 2 ^ e) (Wv sz F ws p d) := by
  have pa := X.hF.sub p hp
  have hv : view c p ∈ views sz p := (views_mem sz X.hz p pa).2 c hc
  have mem : ∀ o ∈ aN sz F p, o ∈ above F p := fun o ho => (List.mem_filter.mp ho).1
  have hb : ∀ o ∈ aN sz F p, ∀ q ∈ (Uo sz p o (view c p)).map (Qv sz F ws), Bq (bb sz.length o.length) q := by
    intro o ho q hq
    obtain ⟨u, hu, rfl⟩ := List.mem_map.mp hq
    have hoF := (List.mem_filter.mp (mem o ho)).1
    obtain ⟨d, hd, rfl⟩ := List.mem_map.mp ((views_mem sz X.hz o (X.hF.sub o hoF)).1 u (List.mem_filter.mp hu).1)
    exact ih o (mem o ho) d hd
  have hu : ∀ o ∈ aN sz F p, ∀ d ∈ contents sz, view d p = view c p → Qv sz F ws (view d o) ∈ (Uo sz p o (view c p)).map (Qv sz F ws) := by
    intro o ho d hd e
    have ho2 := List.mem_filter.mp (mem o ho)
    refine List.mem_map.mpr ⟨view d o, List.mem_filter.mpr ⟨(views_mem sz X.hz o (X.hF.sub o ho2.1)).2 d hd, ?_⟩, rfl⟩
    rw [view_view (more_sub ho2.2), e]
    simp
  have one := fun d hd e => fq_prod (D := dU sz F ws p (view c p)) (e := eU sz p (view c p)) (q := fun o => Qv sz F ws (view d o)) (l := aN sz F p) fun o ho => by
    have l1 := fq_mem (hu o ho d hd e) (hb o ho)
    have l2 := dens_le (hb o ho)
    rw [List.length_map] at l1 l2
    exact ⟨l1, l2, dens_pos _⟩
  refine ⟨proD (dU sz F ws p (view c p)) (aN sz F p), ((aN sz F p).map (eU sz p (view c p))).sum, ?_, (one c hc rfl).2.2, (one c hc rfl).2.1, fun d hd e => ?_⟩
  · have s : (aN sz F p).Sublist ((al sz.length).filter fun o => more o p && !decide (o = fullP sz)) := by
      have : aN sz F p = F.filter fun o => !decide (o = fullP sz) && more o p := List.filter_filter ..
      rw [this]
      have e2 : (fun o : List Int => more o p && !decide (o = fullP sz)) = fun o => !decide (o = fullP sz) && more o p := by funext o; exact Bool.and_comm _ _
      rw [e2]
      exact X.hF.sl.filter _
    have := sum_sub (f := eU sz p (view c p)) s
    have h2 : (((al sz.length).filter fun o => more o p && !decide (o = fullP sz)).map (eU sz p (view c p))).sum + 34 ≤ bb sz.length p.length := chk1 sz X.hz p pa hf (view c p) hv
    omega
  · rw [X.w_eq hp hf hd]
    exact fq_mul (X.sfq (X.vk X.fullF hd)) (one d hd e).1
theorem Ctx.qb {p c : List Int} (hp : p ∈ F) (hc : c ∈ contents sz) : Bq (bb sz.length p.length) (Qv sz F ws (view c p)) := by
  have key : ∀ k : Nat, ∀ p ∈ F, 3 - p.length ≤ k → ∀ c ∈ contents sz, Bq (bb sz.length p.length) (Qv sz F ws (view c p)) := by
    intro k
    induction k with
    | zero =>
      intro p hp hk c hc
      by_cases hf : p = fullP sz
      · subst hf
        rw [X.qfull hc]
        have : bb sz.length (fullP sz).length = 37 := by
          have e : (fullP sz).length = sz.length := by unfold fullP; rw [rgL_len]; omega
          rw [e]
          unfold bb
          rw [if_pos (by omega)]
        rw [this]
        exact X.sbq (X.vk hp hc)
      · have := (full_top _ X.n p (X.hF.sub p hp)).2 hf
        have := more_len this
        have := al_lot _ X.n _ (X.hF.sub _ X.fullF)
        have := X.pl hp
        unfold fullP at *
        omega
    | succ k ih =>
      intro p hp hk c hc
      by_cases hf : p = fullP sz
      · subst hf
        rw [X.qfull hc]
        have : bb sz.length (fullP sz).length = 37 := by
          have e : (fullP sz).length = sz.length := by unfold fullP; rw [rgL_len]; omega
          rw [e]
          unfold bb
          rw [if_pos (by omega)]
        rw [this]
        exact X.sbq (X.vk hp hc)
      · obtain ⟨D, e, he, hD, hDe, hw⟩ := X.wcom hp hf hc fun o ho d hd => by
          obtain ⟨h1, h2⟩ := List.mem_filter.mp ho
          have := more_len h2
          have := X.pl h1
          exact ih o h1 (by omega) d hd
        have hq := X.rec_ hp hc
        have gp := X.gpos (p := p) hc
        have qp := X.qpos hp hc
        obtain ⟨x, hx1, hx2⟩ : Fq ((totW ws).toNat * D) (2 ^ 30 * 2 ^ e * ((contents sz).filter fun d => decide (view d p = view c p)).length) (sgm sz p (Wv sz F ws p) (view c p)) := fq_sum fun d hd => hw d (List.mem_filter.mp hd).1 (of_decide_eq_true (List.mem_filter.mp hd).2)
        obtain ⟨w, hw1, hw2⟩ := X.sfq (X.vk hp hc)
        have fl : ((contents sz).filter fun d => decide (view d p = view c p)).length ≤ 16 := Nat.le_trans (List.length_filter_le _ _) (contents_few sz X.hz)
        have x1 : x ≤ 2 ^ (34 + e) := by
          refine Nat.le_trans hx1 (Nat.le_trans (Nat.mul_le_mul_left _ fl) ?_)
          rw [← Nat.pow_add, show 16 = 2 ^ 4 from rfl, ← Nat.pow_add]
          exact Nat.pow_le_pow_right (by decide) (by omega)
        have f : Fq x (2 ^ 30 * 2 ^ e) (Qv sz F ws (view c p)) := by
          refine ⟨w * D, Nat.mul_le_mul hw1 hDe, ?_⟩
          rw [hq, ← hx2, Rat.natCast_mul, Rat.natCast_mul, ← hw2]
          have : sgm sz p (Wv sz F ws p) (view c p) ≠ 0 := by grind
          grind
        have x0 : 0 < x := by
          rcases Nat.eq_zero_or_pos x with z | z
          · exfalso
            subst z
            have hd : (((totW ws).toNat * D : Nat) : Rat) ≠ 0 := by
              have : (totW ws).toNat * D ≠ 0 := Nat.mul_ne_zero (by have := X.T0.1; omega) (by omega)
              exact_mod_cast this
            have h0 : sgm sz p (Wv sz F ws p) (view c p) * (((totW ws).toNat * D : Nat) : Rat) = 0 := hx2
            grind
          · exact z
        obtain ⟨g1, g2⟩ := fq_le x0 f
        refine ⟨qp, Nat.le_trans g1 ?_, Nat.le_trans g2 (Nat.le_trans x1 (Nat.pow_le_pow_right (by decide) (by omega)))⟩
        rw [← Nat.pow_add]
        exact Nat.pow_le_pow_right (by decide) (by omega)
  exact key 3 p hp (by omega) c hc
theorem Ctx.qb' {p c : List Int} (hp : p ∈ F) (hc : c ∈ contents sz) : Bq 2006 (Qv sz F ws (view c p)) := (X.qb hp hc).mono (chk2 _ X.n p (X.hF.sub p hp)).2
/-- products of some of what shows more -/
theorem Ctx.wb {p c : List Int} (hp : p ∈ F) (hc : c ∈ contents sz) {l : List (List Int)} (hl : l.Sublist (above F p)) : Bq 751 (rprod (l.map fun o => Qv sz F ws (view c o))) := by
  refine (bq_prod (e := fun o => bb sz.length o.length) fun o ho => X.qb (List.mem_filter.mp (hl.subset ho)).1 hc).mono ?_
  have s : l.Sublist ((al sz.length).filter fun o => more o p) := hl.trans (X.hF.sl.filter _)
  have := sum_sub (f := fun o : List Int => bb sz.length o.length) s
  have := (chk2 _ X.n p (X.hF.sub p hp)).1
  omega
theorem Ctx.Wb {p c : List Int} (hp : p ∈ F) (hc : c ∈ contents sz) : Bq 751 (Wv sz F ws p c) := X.wb hp hc (List.Sublist.refl _)
theorem Ctx.dq {p c : List Int} (hp : p ∈ F) (hc : c ∈ contents sz) : Bq 2757 (dV sz F ws c p) := by
  rw [X.dV_eq hp]
  exact bq_mul (X.qb' hp hc) (X.Wb hp hc)
/-- sums of weights under one view -/
theorem Ctx.gb {p c : List Int} (hp : p ∈ F) (hc : c ∈ contents sz) {l : List (List Int)} (hl : ∀ d ∈ l, d ∈ contents sz ∧ view d p = view c p) (h16 : l.length ≤ 16) : Bt 2050 (rsum (l.map (Wv sz F ws p))) := by
  by_cases hf : p = fullP sz
  · subst hf
    refine fq_bt (D := 1) (N := 1 * l.length) (b := 4) Nat.one_pos (fq_sum fun d _ => ?_) (by decide) (by omega) (by decide)
    rw [X.wfull]
    exact fq_one 1
  · obtain ⟨D, e, he, hD, hDe, hw⟩ := X.wcom hp hf hc fun o ho d hd => X.qb (List.mem_filter.mp ho).1 hd
    have h6 := (chk2 _ X.n p (X.hF.sub p hp)).2
    obtain ⟨t0, t1⟩ := X.T0
    refine fq_bt (b := 2049) (Nat.mul_pos t0 hD) (fq_sum fun d hd => hw d (hl d hd).1 (hl d hd).2) ?_ ?_ (by decide)
    · refine Nat.le_trans (Nat.mul_le_mul t1 hDe) ?_
      rw [← Nat.pow_add]
      exact Nat.pow_le_pow_right (by decide) (by omega)
    · refine Nat.le_trans (Nat.mul_le_mul_left _ h16) ?_
      rw [← Nat.pow_add, show 16 = 2 ^ 4 from rfl, ← Nat.pow_add]
      exact Nat.pow_le_pow_right (by decide) (by omega)
/-- sums of shares of the whole -/
theorem Ctx.db {l : List (List Int × List Int)} (hl : ∀ k ∈ l, k.1 ∈ contents sz ∧ k.2 ∈ F) (h : l.length ≤ 128) : Bt 4100 (rsum (l.map fun k => dV sz F ws k.1 k.2)) := by
  obtain ⟨t0, t1⟩ := X.T0
  let D : List Int → Nat := fun o => if o = fullP sz then (totW ws).toNat else dens ((views sz o).map (Qv sz F ws))
  let e : List Int → Nat := fun o => if o = fullP sz then 37 else bb sz.length o.length * (views sz o).length
  have hb : ∀ o ∈ F, ∀ q ∈ (views sz o).map (Qv sz F ws), Bq (bb sz.length o.length) q := by
    intro o ho q hq
    obtain ⟨u, hu, rfl⟩ := List.mem_map.mp hq
    obtain ⟨d, hd, rfl⟩ := List.mem_map.mp ((views_mem sz X.hz o (X.hF.sub o ho)).1 u hu)
    exact X.qb ho hd
  have dle : ∀ o ∈ F, D o ≤ 2 ^ e o ∧ 0 < D o := by
    intro o ho
    by_cases z : o = fullP sz
    · show (if o = fullP sz then _ else _) ≤ 2 ^ (if o = fullP sz then _ else _) ∧ 0 < (if o = fullP sz then _ else _)
      rw [if_pos z, if_pos z]
      exact ⟨t1, t0⟩
    · show (if o = fullP sz then _ else _) ≤ 2 ^ (if o = fullP sz then _ else _) ∧ 0 < (if o = fullP sz then _ else _)
      rw [if_neg z, if_neg z]
      have := dens_le (hb o ho)
      rw [List.length_map] at this
      exact ⟨this, dens_pos _⟩
  have one : ∀ c ∈ contents sz, ∀ p ∈ F, Fq (proD D F) (2 ^ (F.map e).sum) (dV sz F ws c p) ∧ proD D F ≤ 2 ^ (F.map e).sum ∧ 0 < proD D F := by
    intro c hc p hp
    unfold dV atUp
    rw [rprod_filter]
    refine fq_prod fun o ho => ⟨?_, dle o ho⟩
    split
    · by_cases z : o = fullP sz
      · show Fq (if o = fullP sz then _ else _) (2 ^ (if o = fullP sz then _ else _)) _
        rw [if_pos z, if_pos z, z, X.qfull hc]
        exact fq_mono (X.sfq (X.vk X.fullF hc)) (Nat.pow_le_pow_right (by decide) (by decide))
      · show Fq (if o = fullP sz then _ else _) (2 ^ (if o = fullP sz then _ else _)) _
        rw [if_neg z, if_neg z]
        have := fq_mem (List.mem_map.mpr ⟨view c o, (views_mem sz X.hz o (X.hF.sub o ho)).2 c hc, rfl⟩) (hb o ho)
        rw [List.length_map] at this
        exact this
    · exact fq_mono (fq_one _) (dle o ho).1
  have es : (F.map e).sum ≤ 4015 := by
    have s1 : (F.map e).sum ≤ 37 + ((F.filter fun o => !decide (o = fullP sz)).map fun o => bb sz.length o.length * (views sz o).length).sum := by
      have gen : ∀ l : List (List Int), l.Nodup → (l.map e).sum ≤ 37 + ((l.filter fun o => !decide (o = fullP sz)).map fun o => bb sz.length o.length * (views sz o).length).sum := by
        intro l
        induction l with
        | nil => intro _; exact Nat.zero_le _
        | cons o l ih =>
          intro hn
          rw [List.nodup_cons] at hn
          have h2 := ih hn.2
          rw [List.map_cons, List.sum_cons]
          by_cases z : o = fullP sz
          · rw [List.filter_cons_of_neg (by simp [z])]
            have ez : e o = 37 := if_pos z
            have eq : (l.map e).sum = ((l.filter fun o => !decide (o = fullP sz)).map fun o => bb sz.length o.length * (views sz o).length).sum := by
              have ef : l.filter (fun o => !decide (o = fullP sz)) = l := List.filter_eq_self.mpr fun a ha => by
                have : a ≠ fullP sz := fun q => hn.1 (by rw [z, ← q]; exact ha)
                simpa using this
              rw [ef]
              congr 1
              refine List.map_congr_left fun a ha => ?_
              have : a ≠ fullP sz := fun q => hn.1 (by rw [z, ← q]; exact ha)
              exact if_neg this
            omega
          · rw [List.filter_cons_of_pos (by simpa using z), List.map_cons, List.sum_cons]
            have ez : e o = bb sz.length o.length * (views sz o).length := if_neg z
            omega
      exact gen F X.nd
    have s2 := sum_sub (f := fun o : List Int => bb sz.length o.length * (views sz o).length) (X.hF.sl.filter fun o => !decide (o = fullP sz))
    have s3 := chk3 sz X.hz
    omega
  cases l with
  | nil =>
    show Bt 4100 0
    exact ⟨Nat.pow_pos (by decide), Nat.one_lt_two_pow (by decide)⟩
  | cons k0 l0 =>
    obtain ⟨k1, k2⟩ := hl k0 (List.mem_cons_self ..)
    have d2 := (one k0.1 k1 k0.2 k2).2
    refine fq_bt (b := 4099) d2.2 (fq_sum (N := 2 ^ (F.map e).sum) fun k hk => (one k.1 (hl k hk).1 k.2 (hl k hk).2).1) (Nat.le_trans d2.1 (Nat.pow_le_pow_right (by decide) (by omega))) ?_ (by decide)
    refine Nat.le_trans (Nat.mul_le_mul_left _ h) ?_
    rw [show 128 = 2 ^ 7 from rfl, ← Nat.pow_add]
    exact Nat.pow_le_pow_right (by decide) (by omega)
end
end CB
end
section
set_option Elab.async false
set_option linter.all false
set_option maxRecDepth 100000
set_option maxHeartbeats 2000000
set_option exponentiation.threshold 100
/-! Plain law H: sorted rows; the whole as a list. -/
namespace CB
open PySem PySem.Spec PyProof.Rows L2 Enc
section
variable {κ : Type} [Enc κ] [DecidableEq κ] [TotE κ]
theorem self_map {m : List (κ × Rat)} (h : (m.map (·.1)).Nodup) : (m.map (·.1)).map (fun k => (k, lkG m k)) = m := by
  rw [List.map_map]
  conv => rhs; rw [← List.map_id' m]
  refine List.map_congr_left fun p hp => ?_
  have : look m p.1 = some p.2 := look_of_mem h hp
  show (p.1, lkG m p.1) = p
  unfold lkG
  rw [this]
  rfl
theorem rows_keys (m : List (κ × Rat)) : (rowsG m).map (·.1) = esort (m.map (·.1)) := by
  unfold rowsG
  rw [List.map_map]
  exact List.map_id' _
theorem rows_perm {m : List (κ × Rat)} (h : (m.map (·.1)).Nodup) : (rowsG m).Perm m := by
  have := (esort_perm (m.map (·.1))).map fun k => (k, lkG m k)
  rw [self_map h] at this
  exact this
theorem rows_nd {m : List (κ × Rat)} (h : (m.map (·.1)).Nodup) : ((rowsG m).map (·.1)).Nodup := by rw [rows_keys]; exact (esort_perm _).symm.nodup h
theorem rows_look {m : List (κ × Rat)} (h : (m.map (·.1)).Nodup) (k : κ) : look (rowsG m) k = look m k := by
  by_cases z : k ∈ m.map (·.1)
  · obtain ⟨v, e⟩ := look_some z
    rw [e]
    exact look_of_mem (rows_nd h) ((rows_perm h).mem_iff.mpr (look_mem e))
  · rw [look_none z, look_none]
    rw [rows_keys]
    exact fun q => z ((esort_perm _).mem_iff.mp q)
theorem rows_asc {m : List (κ × Rat)} (h : (m.map (·.1)).Nodup) (hp : ∀ k ∈ m.map (·.1), 0 < lkG m k) (hl : m.length ≤ 1000) : Asc (rowsG m) := by
  refine ⟨fun i a b ha hb => ?_, fun a ha => ?_, by rw [(rows_perm h).length_eq]; exact hl⟩
  · have hs := esort_lt h
    rw [← rows_keys] at hs
    have h1 : ((rowsG m).map (·.1))[i]? = some a.1 := by rw [List.getElem?_map, ha]; rfl
    have h2 : ((rowsG m).map (·.1))[i + 1]? = some b.1 := by rw [List.getElem?_map, hb]; rfl
    obtain ⟨l1, e1⟩ := List.getElem?_eq_some_iff.mp h1
    obtain ⟨l2, e2⟩ := List.getElem?_eq_some_iff.mp h2
    have := List.pairwise_iff_getElem.mp hs i (i + 1) l1 l2 (by omega)
    rw [e1, e2] at this
    exact this
  · have hm := (rows_perm h).mem_iff.mp ha
    have e : look m a.1 = some a.2 := look_of_mem h hm
    have := hp a.1 (List.mem_map.mpr ⟨a, hm, rfl⟩)
    unfold lkG at this
    rw [e] at this
    exact num_pos.mp this
/-- sorted, of the same members -/
theorem esort_congr {l l' : List κ} (h : l.Nodup) (h' : l'.Nodup) (e : ∀ x, x ∈ l ↔ x ∈ l') : esort l = esort l' :=
  esort_eq h (esort_lt h') (((List.perm_ext_iff_of_nodup h h').mpr e).trans (esort_perm l').symm)
theorem srt_eq {m m' : List (κ × Rat)} (h : (m.map (·.1)).Nodup) (h' : (m'.map (·.1)).Nodup) (e : ∀ x, x ∈ m.map (·.1) ↔ x ∈ m'.map (·.1)) (hv : ∀ k ∈ m'.map (·.1), (look m k).getD 0 = lkG m' k) (hp : ∀ k ∈ m'.map (·.1), 0 < lkG m' k) : srt m = rowsG m' := by
  unfold srt rowsG
  rw [esort_congr h h' e]
  have hm : ∀ k ∈ esort (m'.map (·.1)), k ∈ m'.map (·.1) := fun k hk => (esort_perm _).mem_iff.mp hk
  rw [List.filter_eq_self.mpr fun k hk => by
    rw [hv k (hm k hk)]
    exact decide_eq_true (num_pos.mp (hp k (hm k hk)))]
  exact List.map_congr_left fun k hk => by rw [hv k (hm k hk)]
end
section
variable {κ α : Type} [DecidableEq κ]
theorem accF_getD (key : α → κ) (w : α → Rat) (l : List α) (k : κ) : (look (accF key 0 (fun b a => b + w a) l) k).getD 0 = rsum ((l.filter fun a => decide (key a = k)).map w) := by
  rw [accF_look]
  by_cases h : k ∈ l.map key
  · rw [if_pos h, rsum_fold]
    rfl
  · rw [if_neg h]
    have e : (l.filter fun a => decide (key a = k)) = [] := List.filter_eq_nil_iff.mpr fun b hb => by
      simp only [decide_eq_true_eq]
      intro q
      exact h (by rw [← q]; exact List.mem_map.mpr ⟨b, hb, rfl⟩)
    rw [e]
    rfl
theorem accF_nd {β : Type} (key : α → κ) (e : β) (op : β → α → β) (l : List α) : ((accF key e op l).map (·.1)).Nodup := by rw [accF_keys]; exact nodup_dedup _
theorem rsum_put {m : List (κ × Rat)} (h : (m.map (·.1)).Nodup) (k : κ) (w : Rat) : rsum ((put m k ((look m k).getD 0 + w)).map (·.2)) = rsum (m.map (·.2)) + w := by
  by_cases z : k ∈ m.map (·.1)
  · obtain ⟨b, hb⟩ := look_some z
    rw [hb]
    unfold put
    rw [hb]
    show rsum ((m.map fun p => if p.1 = k then (p.1, b + w) else p).map (·.2)) = _
    clear z
    induction m with
    | nil => cases hb
    | cons p r ih =>
      rw [List.map_cons, List.nodup_cons] at h
      rw [List.map_cons, List.map_cons, List.map_cons, rsum_cons, rsum_cons]
      by_cases e : p.1 = k
      · rw [look_pos e] at hb
        have e2 : p.2 = b := Option.some.inj hb
        rw [if_pos e]
        have e3 : (r.map fun p => if p.1 = k then (p.1, b + w) else p) = r := by
          conv => rhs; rw [← List.map_id' r]
          refine List.map_congr_left fun q hq => if_neg fun e' => h.1 ?_
          rw [e, ← e']
          exact List.mem_map.mpr ⟨q, hq, rfl⟩
        rw [e3]
        show b + w + _ = _
        rw [e2]
        grind
      · rw [look_neg e] at hb
        rw [if_neg e, ih h.2 hb]
        grind
  · rw [look_none z, put_new (look_none z), List.map_append, rsum_app]
    show _ + rsum [(none : Option Rat).getD 0 + w] = _
    rw [rsum_cons, rsum_nil]
    show _ + (0 + w + 0) = _
    grind
theorem accF_total (key : α → κ) (w : α → Rat) (l : List α) : rsum ((accF key 0 (fun b a => b + w a) l).map (·.2)) = rsum (l.map w) := by
  have gen : ∀ (l : List α) (m : List (κ × Rat)), (m.map (·.1)).Nodup → rsum ((l.foldl (fun m a => put m (key a) ((look m (key a)).getD 0 + w a)) m).map (·.2)) = rsum (m.map (·.2)) + rsum (l.map w) := by
    intro l
    induction l with
    | nil => intro m _; rw [List.map_nil, rsum_nil, Rat.add_zero]; rfl
    | cons a l ih =>
      intro m h
      rw [List.foldl_cons, ih _ (by rw [keys_put]; exact nodup_kadd h), rsum_put h, List.map_cons, rsum_cons, Rat.add_assoc]
  have := gen l [] List.nodup_nil
  rw [List.map_nil, rsum_nil, Rat.zero_add] at this
  exact this
/-- a fold of puts whose values hang on the keys -/
theorem put_look {β : Type} (key : α → κ) (val : α → β) (f : κ → β) (k : κ) : ∀ (l : List α) (m : List (κ × β)), (∀ a ∈ l, val a = f (key a)) → look (l.foldl (fun m a => put m (key a) (val a)) m) k = if k ∈ l.map key then some (f k) else look m k
  | [], m, _ => by simp
  | a :: l, m, h => by
    rw [List.foldl_cons, put_look key val f k l _ fun b hb => h b (List.mem_cons_of_mem _ hb), look_put, List.map_cons]
    by_cases z : k ∈ l.map key
    · rw [if_pos z, if_pos (List.mem_cons_of_mem _ z)]
    · rw [if_neg z]
      by_cases e : k = key a
      · rw [if_pos e, if_pos (by rw [e]; exact List.mem_cons_self ..), h a (List.mem_cons_self ..), e]
      · rw [if_neg e, if_neg fun q => (List.mem_cons.mp q).elim e z]
theorem putf_keys {β : Type} (key : α → κ) (val : α → β) : ∀ (l : List α) (m : List (κ × β)), (l.foldl (fun m a => put m (key a) (val a)) m).map (·.1) = (l.map key).foldl kadd (m.map (·.1))
  | [], m => rfl
  | a :: l, m => by
    rw [List.foldl_cons, putf_keys key val l, keys_put, List.map_cons, List.foldl_cons]
    rfl
end
/-! ### the whole -/
def PL (sz : List Int) (F : List (List Int)) : List PK := (contents sz).flatMap fun c => F.map fun p => (c, p)
theorem mem_PL {sz : List Int} {F : List (List Int)} {k : PK} : k ∈ PL sz F ↔ k.1 ∈ contents sz ∧ k.2 ∈ F := by
  unfold PL
  rw [List.mem_flatMap]
  constructor
  · rintro ⟨c, hc, h⟩
    obtain ⟨p, hp, rfl⟩ := List.mem_map.mp h
    exact ⟨hc, hp⟩
  · rintro ⟨h1, h2⟩
    exact ⟨k.1, h1, List.mem_map.mpr ⟨k.2, h2, rfl⟩⟩
theorem nodup_prod {α β : Type} {ps : List β} (hp : ps.Nodup) : ∀ {cs : List α}, cs.Nodup → (cs.flatMap fun c => ps.map fun p => (c, p)).Nodup
  | [], _ => List.nodup_nil
  | c :: cs, h => by
    rw [List.nodup_cons] at h
    rw [List.flatMap_cons]
    refine List.nodup_append.mpr ⟨?_, nodup_prod hp h.2, fun a ha b hb e => ?_⟩
    · have : (ps.map fun p => (c, p)).Nodup := by
        refine List.pairwise_map.mpr (hp.imp fun {x y} hxy e => hxy ?_)
        exact congrArg Prod.snd e
      exact this
    · obtain ⟨p, _, rfl⟩ := List.mem_map.mp ha
      obtain ⟨c', hc', hb⟩ := List.mem_flatMap.mp hb
      obtain ⟨p', _, rfl⟩ := List.mem_map.mp hb
      have : c = c' := congrArg Prod.fst e
      rw [this] at h
      exact h.1 hc'
theorem len_prod {α β : Type} (ps : List β) : ∀ cs : List α, (cs.flatMap fun c => ps.map fun p => (c, p)).length = cs.length * ps.length
  | [] => by simp
  | c :: cs => by rw [List.flatMap_cons, List.length_append, List.length_map, len_prod ps cs, List.length_cons, Nat.add_mul, Nat.one_mul, Nat.add_comm]
section
variable {sz : List Int} {F : List (List Int)} {ws : List (List Int × Int)} (X : Ctx sz F ws)
include X
theorem Ctx.cnd : (contents sz).Nodup := (sz_facts sz X.hz).2.1
theorem Ctx.PLnd : (PL sz F).Nodup := nodup_prod X.nd X.cnd
theorem Ctx.PLlen : (PL sz F).length ≤ 128 := by
  unfold PL
  rw [len_prod]
  have h1 := contents_few sz X.hz
  have h2 := X.few
  exact Nat.mul_le_mul h1 h2
theorem Ctx.due_eq : dueK sz F ws = (PL sz F).map fun k => (k, dV sz F ws k.1 k.2) := by
  have one : ∀ (c : List Int) (m : List (PK × Rat)), (∀ p ∈ F, (c, p) ∉ m.map (·.1)) → dueC (ownK sz F ws) F c m F = m ++ F.map fun p => ((c, p), dV sz F ws c p) := by
    intro c m h
    unfold dueC
    exact put_all (fun p => ((c, p) : PK)) (fun p => dV sz F ws c p) F m (List.pairwise_map.mpr (X.nd.imp fun {x y} hxy e => hxy (congrArg Prod.snd e))) h
  have gen : ∀ (cs : List (List Int)) (m : List (PK × Rat)), cs.Nodup → (∀ c ∈ cs, ∀ p ∈ F, (c, p) ∉ m.map (·.1)) → cs.foldl (fun m c => dueC (ownK sz F ws) F c m F) m = m ++ (cs.flatMap fun c => F.map fun p => ((c, p), dV sz F ws c p)) := by
    intro cs
    induction cs with
    | nil => intro m _ _; simp
    | cons c cs ih =>
      intro m hn hm
      rw [List.nodup_cons] at hn
      rw [List.foldl_cons, one c m (hm c (List.mem_cons_self ..)), ih _ hn.2 fun c' hc' p hp q => ?_, List.flatMap_cons, List.append_assoc]
      rw [List.map_append] at q
      rcases List.mem_append.mp q with q | q
      · exact hm c' (List.mem_cons_of_mem _ hc') p hp q
      · rw [List.map_map] at q
        obtain ⟨p', _, e⟩ := List.mem_map.mp q
        have : c = c' := congrArg Prod.fst e
        rw [this] at hn
        exact hn.1 hc'
  have := gen (contents sz) [] X.cnd fun c _ p _ q => nomatch q
  rw [List.nil_append] at this
  show dueL (ownK sz F ws) F (contents sz) = _
  unfold dueL PL
  rw [this, List.map_flatMap]
  congr 1
  funext c
  rw [List.map_map]
  rfl
theorem Ctx.dkeys : (dueK sz F ws).map (·.1) = PL sz F := by
  rw [X.due_eq, List.map_map]
  exact List.map_id' _
theorem Ctx.dnd2 : ((dueK sz F ws).map (·.1)).Nodup := by rw [X.dkeys]; exact X.PLnd
theorem Ctx.dlook {k : PK} (h : k ∈ PL sz F) : look (dueK sz F ws) k = some (dV sz F ws k.1 k.2) := by
  rw [X.due_eq]
  exact look_mapF (fun k => k) (fun k : PK => dV sz F ws k.1 k.2) (by rw [List.map_id']; exact X.PLnd) h
theorem Ctx.dlk {k : PK} (h : k ∈ PL sz F) : lkG (dueK sz F ws) k = dV sz F ws k.1 k.2 := by
  unfold lkG
  rw [X.dlook h]
  rfl
theorem Ctx.dlen : (dueK sz F ws).length ≤ 128 := by rw [X.due_eq, List.length_map]; exact X.PLlen
/-- the places seen as v -/
theorem Ctx.seen_perm {c p : List Int} (hp : p ∈ F) (hc : c ∈ contents sz) : ((PL sz F).filter fun k => decide (view k.1 k.2 = view c p)).Perm (((contents sz).filter fun d => decide (view d p = view c p)).map fun d => (d, p)) := by
  refine (List.perm_ext_iff_of_nodup (X.PLnd.filter _) (List.pairwise_map.mpr ((X.cnd.filter _).imp fun {x y} hxy e => hxy (congrArg Prod.fst e)))).mpr fun k => ?_
  rw [List.mem_filter, mem_PL, List.mem_map]
  constructor
  · rintro ⟨⟨h1, h2⟩, h3⟩
    have h3 : view k.1 k.2 = view c p := of_decide_eq_true h3
    have e : k.2 = p := by
      have a := X.pat h1 h2
      rw [h3, X.pat hc hp] at a
      exact a.symm
    refine ⟨k.1, List.mem_filter.mpr ⟨h1, ?_⟩, by rw [← e]⟩
    rw [← h3, e]
    simp
  · rintro ⟨d, hd, rfl⟩
    obtain ⟨h1, h2⟩ := List.mem_filter.mp hd
    exact ⟨⟨h1, hp⟩, h2⟩
theorem Ctx.seen_sum {c p : List Int} (hp : p ∈ F) (hc : c ∈ contents sz) : rsum (((PL sz F).filter fun k => decide (view k.1 k.2 = view c p)).map fun k => dV sz F ws k.1 k.2) = lk (shOf ws) (view c p) := by
  rw [rsum_perm ((X.seen_perm hp hc).map _), List.map_map]
  exact X.hid hp hc
theorem Ctx.slkG {v : List Int} (h : v ∈ vkeys sz F) : look (shOf ws) v = some (lk (shOf ws) v) := by rw [X.slk h, X.slook h]
end
end CB
end
section
set_option Elab.async false
set_option linter.all false
set_option maxRecDepth 100000
set_option maxHeartbeats 2000000
set_option exponentiation.threshold 100
/-! Plain law I: what the law's own defs and the two classes ask. -/
namespace CB
open PySem PySem.Spec PyProof.Rows L2 Enc
theorem ok2_of {a b : Rat} {n m : Nat} (h : Bt n a) (h' : Bt m b) (hs : n + m ≤ 8999) : Ok2 a b := ⟨n, m, h, h', hs⟩
theorem mem_look {κ β : Type} [DecidableEq κ] {m : List (κ × β)} (h : (m.map (·.1)).Nodup) {k : κ} {v : β} : (k, v) ∈ m ↔ look m k = some v := ⟨look_of_mem h, look_mem⟩
theorem nodup_pairs {κ β : Type} {m : List (κ × β)} (h : (m.map (·.1)).Nodup) : m.Nodup := (List.pairwise_map.mp h).imp fun {a b} hab e => hab (congrArg Prod.fst e)
theorem perm_of_look {κ β : Type} [DecidableEq κ] {m m' : List (κ × β)} (h : (m.map (·.1)).Nodup) (h' : (m'.map (·.1)).Nodup) (e : ∀ k, look m k = look m' k) : m.Perm m' :=
  (List.perm_ext_iff_of_nodup (nodup_pairs h) (nodup_pairs h')).mpr fun p => by
    rw [mem_look h (k := p.1) (v := p.2), mem_look h' (k := p.1) (v := p.2), e]
theorem rows_snd {κ : Type} [Enc κ] [DecidableEq κ] (m : List (κ × Rat)) : (rowsG m).map (·.2) = (esort (m.map (·.1))).map (lkG m) := by
  unfold rowsG
  rw [List.map_map]
  rfl
theorem mk_sum (T : Nat) (hT : 0 < T) (f : List Int → Int) : ∀ l : List (List Int), rsum (l.map fun k => mkRat (f k) T) = mkRat ((l.map f).sum) T
  | [] => by
    rw [List.map_nil, rsum_nil, List.map_nil, List.sum_nil, Rat.zero_mkRat]
  | k :: l => by
    rw [List.map_cons, rsum_cons, mk_sum T hT f l, List.map_cons, List.sum_cons, Rat.mkRat_eq_div, Rat.mkRat_eq_div, Rat.mkRat_eq_div, Rat.intCast_add]
    have h2 : (T : Rat) ≠ 0 := by
      have : T ≠ 0 := by omega
      exact_mod_cast this
    grind
theorem perm_sum {l l' : List Nat} (h : l.Perm l') : l.sum = l'.sum := by
  induction h with
  | nil => rfl
  | cons a _ ih => rw [List.sum_cons, List.sum_cons, ih]
  | swap a b l => rw [List.sum_cons, List.sum_cons, List.sum_cons, List.sum_cons]; omega
  | trans _ _ h1 h2 => rw [h1, h2]
theorem lots_ok : ∀ n ∈ Ns, ∀ p ∈ al n, ∀ i ∈ List.range p.length, lastOf (p.take i) + 1 ≤ p.getD i 0 ∧ p.getD i 0 ≤ (n : Int) - 1 := by decide +kernel
theorem lot_ok {n : Nat} {p : List Int} (hn : n ∈ Ns) (hp : p ∈ al n) : LotOk p (n : Int) := by
  intro i a h
  have hi := (List.getElem?_eq_some_iff.mp h).1
  have := lots_ok n hn p hp i (List.mem_range.mpr hi)
  have e : p.getD i 0 = a := by rw [List.getD_eq_getElem?_getD, h]; rfl
  rw [e] at this
  exact this
theorem count_len {α : Type} : ∀ (l : List α) (n : Int), l.foldl (fun n _ => n + 1) n = n + (l.length : Int)
  | [], n => by simp
  | a :: l, n => by
    rw [List.foldl_cons, count_len l, List.length_cons]
    omega
theorem swap_at {c : List Int} {i : Nat} {w : Int} (hi : i < c.length) {j : Nat} (hj : j ≠ i) : c[j]? = (c.take i ++ [w] ++ c.drop (i + 1))[j]? := by
  rw [List.append_assoc]
  by_cases h : j < i
  · rw [List.getElem?_append_left (by rw [List.length_take]; omega), List.getElem?_take_of_lt h]
  · rw [List.getElem?_append_right (by rw [List.length_take]; omega), List.length_take, Nat.min_eq_left (by omega)]
    have e : j - i = (j - i - 1) + 1 := by omega
    rw [e, List.singleton_append, List.getElem?_cons_succ, List.getElem?_drop]
    congr 1
    omega
section
variable {sz : List Int} {F : List (List Int)} {ws : List (List Int × Int)} (X : Ctx sz F ws)
include X
theorem Ctx.slen : (shOf ws).length ≤ 128 := by
  have h := X.vkl
  rw [← X.skeys, List.length_map] at h
  exact h
theorem Ctx.ssum : rsum ((shOf ws).map (·.2)) = 1 := by
  obtain ⟨t0, t1⟩ := X.T0
  have e : (shOf ws).map (·.2) = (ws.map (·.1)).map fun k => mkRat (lkI ws k) (totW ws).toNat := by
    unfold shOf
    rw [List.map_map]
    rfl
  rw [e, mk_sum _ t0]
  have e2 : ((ws.map (·.1)).map (lkI ws)).sum = (((totW ws).toNat : Nat) : Int) := by
    show totW ws = _
    omega
  rw [e2, Rat.mkRat_eq_div, Rat.intCast_natCast]
  have h2 : (((totW ws).toNat : Nat) : Rat) ≠ 0 := by
    have : (totW ws).toNat ≠ 0 := by omega
    exact_mod_cast this
  grind
theorem Ctx.slkG2 {v : List Int} (h : v ∈ vkeys sz F) : lkG (shOf ws) v = lk (shOf ws) v := by
  unfold lkG
  rw [X.slkG h]
  rfl
/-- sums of shares -/
theorem Ctx.sbt {l : List (List Int)} (hl : ∀ v ∈ l, v ∈ vkeys sz F) (h : l.length ≤ 128) : Bt 38 (rsum (l.map (lkG (shOf ws)))) := by
  obtain ⟨t0, t1⟩ := X.T0
  refine fq_bt (N := 2 ^ 30 * l.length) (b := 37) t0 (fq_sum (N := 2 ^ 30) fun v hv => ?_) t1 ?_ (by decide)
  · rw [X.slkG2 (hl v hv)]
    exact X.sfq (hl v hv)
  · refine Nat.le_trans (Nat.mul_le_mul_left _ h) (by decide)
theorem Ctx.seen : SeenOk sz (shK ws) := by
  have mem : ∀ v, v ∈ esort ((shOf ws).map (·.1)) → v ∈ vkeys sz F := fun v hv => by rw [← X.skeys]; exact (esort_perm _).mem_iff.mp hv
  have el : (esort ((shOf ws).map (·.1))).length ≤ 128 := by rw [(esort_perm _).length_eq, List.length_map]; exact X.slen
  refine ⟨X.hz, rows_asc X.snd (fun k hk => ?_) (by have := X.slen; omega), fun a ha => ?_, fun i a ha => ?_, ?_⟩
  · rw [X.skeys] at hk
    rw [X.slkG2 hk]
    exact X.spos hk
  · have hm := (rows_perm X.snd).mem_iff.mp ha
    have hv : a.1 ∈ vkeys sz F := by rw [← X.skeys]; exact List.mem_map.mpr ⟨a, hm, rfl⟩
    obtain ⟨p, hp, c, hc, e⟩ := mem_vkeys.mp hv
    have := views_ok sz X.hz p (X.hF.sub p hp) (view c p) ((views_mem sz X.hz p (X.hF.sub p hp)).2 c hc)
    rw [e] at this
    exact this
  · rw [rows_snd] at ha ⊢
    rw [List.getElem?_map] at ha
    obtain ⟨v, hv, e⟩ := Option.map_eq_some_iff.mp ha
    rw [← List.map_take]
    have hvm := mem v (List.mem_of_getElem? hv)
    refine ok2_of (n := 38) (m := 38) (X.sbt (fun v hv => mem v (List.mem_of_mem_take hv)) (by rw [List.length_take]; omega)) ?_ (by decide)
    rw [← e, X.slkG2 hvm]
    exact (X.sbq hvm).bt (by decide)
  · rw [rsum_perm ((rows_perm X.snd).map _), X.ssum]
theorem Ctx.short {p : List Int} (hp : p ∈ F) : p.length ≤ 100 := by have := X.pl hp; omega
theorem Ctx.c16 : (contents sz).length ≤ 16 := contents_few sz X.hz
theorem Ctx.getc {i : Nat} {p : List Int} (h : (ksort true F)[i]? = some p) : (dn sz.length F)[i]? = some p := by rw [← X.hF.ks]; exact h
theorem Ctx.lq : LqOk sz (shOf ws) F := by
  refine ⟨X.hz, by have := X.few; omega, fun p hp => X.short hp, fun i p hp => ?_⟩
  have hp := X.getc hp
  have hpF : p ∈ F := X.dnm.mp (List.mem_of_getElem? hp)
  have ef : lqAll (shOf ws) sz F ((ksort true F).take i) = fnd sz F ws i := by rw [X.hF.ks]
  rw [ef]
  refine ⟨fun c hc o ho => (X.at_ hp hc ho).1, fun c hc j a ha => ?_, fun j c hc => ?_, fun x hx => ?_, fun x hx => ?_⟩
  · have e : ((above F p).map fun o => lk (fnd sz F ws i) (view c o)) = (above F p).map fun o => Qv sz F ws (view c o) := List.map_congr_left fun o ho => (X.at_ hp hc ho).2
    rw [e] at ha ⊢
    rw [List.getElem?_map] at ha
    obtain ⟨o, ho, eo⟩ := Option.map_eq_some_iff.mp ha
    rw [← List.map_take]
    refine ok2_of (n := 752) (m := 2007) ((X.wb hpF hc (List.take_sublist _ _)).bt (by decide)) ?_ (by decide)
    rw [← eo]
    exact (X.qb' (List.mem_filter.mp (List.mem_of_getElem? ho)).1 hc).bt (by decide)
  · have hcm := List.mem_of_getElem? hc
    rw [below_acc, accF_getD, X.pw_eq hp hcm]
    have e : (((contents sz).take j).filter fun d => decide (view d p = view c p)).map (pw (fnd sz F ws i) F p) = (((contents sz).take j).filter fun d => decide (view d p = view c p)).map (Wv sz F ws p) := List.map_congr_left fun d hd => X.pw_eq hp (List.mem_of_mem_take (List.mem_filter.mp hd).1)
    rw [e]
    refine ok2_of (n := 2050) (m := 752) (X.gb hpF hcm (fun d hd => ⟨List.mem_of_mem_take (List.mem_filter.mp hd).1, of_decide_eq_true (List.mem_filter.mp hd).2⟩) ?_) ((X.Wb hpF hcm).bt (by decide)) (by decide)
    have h1 := List.length_filter_le (fun d => decide (view d p = view c p)) ((contents sz).take j)
    rw [List.length_take] at h1
    have := X.c16
    omega
  · have hv : x.1 ∈ vsd sz p := by rw [← below_keys p (pw (fnd sz F ws i) F p)]; exact List.mem_map.mpr ⟨x, hx, rfl⟩
    obtain ⟨c, hc, e⟩ := mem_vsd.mp hv
    rw [X.skeys]
    exact mem_vkeys.mpr ⟨p, hpF, c, hc, e⟩
  · have hv : x.1 ∈ vsd sz p := by rw [← below_keys p (pw (fnd sz F ws i) F p)]; exact List.mem_map.mpr ⟨x, hx, rfl⟩
    obtain ⟨c, hc, e⟩ := mem_vsd.mp hv
    have hk : ((below p (pw (fnd sz F ws i) F p) (contents sz)).map (·.1)).Nodup := by rw [below_keys]; exact nodup_dedup _
    have hl : look (below p (pw (fnd sz F ws i) F p) (contents sz)) x.1 = some x.2 := look_of_mem hk hx
    have h2 := below_look p (pw (fnd sz F ws i) F p) hv
    rw [hl, X.sgm_eq hp, ← e] at h2
    have h2 : x.2 = sgm sz p (Wv sz F ws p) (view c p) := Option.some.inj h2
    refine ⟨hl, ok2_of (n := 38) (m := 2050) ?_ ?_ (by decide), ?_⟩
    · rw [← e]
      exact (X.sbq (X.vk hpF hc)).bt (by decide)
    · rw [h2]
      exact X.gb hpF hc (fun d hd => ⟨(List.mem_filter.mp hd).1, of_decide_eq_true (List.mem_filter.mp hd).2⟩) (Nat.le_trans (List.length_filter_le _ _) X.c16)
    · rw [h2]
      exact num_pos.mp (X.gpos hc)
theorem Ctx.ub {p c : List Int} (hp : p ∈ F) (hc : c ∈ contents sz) {l : List (List Int)} (hl : l.Sublist (atUp F p)) : Bq 2757 (rprod (l.map fun o => Qv sz F ws (view c o))) := by
  refine (bq_prod (e := fun o => bb sz.length o.length) fun o ho => X.qb (List.mem_filter.mp (hl.subset ho)).1 hc).mono ?_
  have h1 := sum_sub (f := fun o : List Int => bb sz.length o.length) hl
  have h2 := perm_sum ((atUp_perm X.nd hp).map fun o => bb sz.length o.length)
  rw [List.map_cons, List.sum_cons] at h2
  have h3 := sum_sub (f := fun o : List Int => bb sz.length o.length) (X.hF.sl.filter fun o => more o p)
  have h4 := chk2 _ X.n p (X.hF.sub p hp)
  have h5 : ((above F p).map fun o => bb sz.length o.length).sum ≤ (((al sz.length).filter fun o => more o p).map fun o => bb sz.length o.length).sum := h3
  omega
theorem Ctx.due : DueOk sz F (ownK sz F ws) := by
  refine ⟨X.hz, by have := X.few; omega, fun p hp => X.short hp, fun c hc o ho => X.okm.mpr (X.vk ho hc), fun c hc p hp i a ha => ?_⟩
  rw [List.getElem?_map] at ha
  obtain ⟨o, ho, eo⟩ := Option.map_eq_some_iff.mp ha
  rw [← List.map_take]
  refine ok2_of (n := 2758) (m := 2007) ((X.ub hp hc (List.take_sublist _ _)).bt (by decide)) ?_ (by decide)
  rw [← eo]
  exact (X.qb' (List.mem_filter.mp (List.mem_of_getElem? ho)).1 hc).bt (by decide)
/-! ### hidden -/
theorem Ctx.hid_acc : hidL (dueK sz F ws) ((dueK sz F ws).map (·.1)) = accF (fun k : PK => view k.1 k.2) 0 (fun b k => b + lkG (dueK sz F ws) k) (PL sz F) := by rw [X.dkeys]; rfl
theorem Ctx.hid_keys : (hidL (dueK sz F ws) ((dueK sz F ws).map (·.1))).map (·.1) = dedup ((PL sz F).map fun k => view k.1 k.2) := by rw [X.hid_acc, accF_keys]
theorem Ctx.hid_mem {v : List Int} : v ∈ dedup ((PL sz F).map fun k => view k.1 k.2) ↔ v ∈ vkeys sz F := by
  rw [mem_dedup, List.mem_map, mem_vkeys]
  constructor
  · rintro ⟨k, hk, e⟩
    obtain ⟨h1, h2⟩ := mem_PL.mp hk
    exact ⟨k.2, h2, k.1, h1, e⟩
  · rintro ⟨p, hp, c, hc, e⟩
    exact ⟨(c, p), mem_PL.mpr ⟨hc, hp⟩, e⟩
theorem Ctx.hid_val {v : List Int} (h : v ∈ vkeys sz F) : rsum (((PL sz F).filter fun k => decide (view k.1 k.2 = v)).map (lkG (dueK sz F ws))) = lk (shOf ws) v := by
  obtain ⟨p, hp, c, hc, e⟩ := mem_vkeys.mp h
  rw [← e, ← X.seen_sum hp hc]
  congr 1
  exact List.map_congr_left fun k hk => X.dlk (List.mem_filter.mp hk).1
theorem Ctx.hid_look {v : List Int} : look (hidL (dueK sz F ws) ((dueK sz F ws).map (·.1))) v = look (shOf ws) v := by
  by_cases h : v ∈ vkeys sz F
  · rw [X.hid_acc, accF_look, if_pos (by have := X.hid_mem.mpr h; rwa [mem_dedup] at this), rsum_fold, X.hid_val h, X.slkG h]
  · rw [look_none (by rw [X.hid_keys]; exact fun q => h (X.hid_mem.mp q)), look_none (by rw [X.skeys]; exact h)]
theorem Ctx.hid_nd : ((hidL (dueK sz F ws) ((dueK sz F ws).map (·.1))).map (·.1)).Nodup := by rw [X.hid_keys]; exact nodup_dedup _
theorem Ctx.hid_perm : (hidL (dueK sz F ws) ((dueK sz F ws).map (·.1))).Perm (shOf ws) := perm_of_look X.hid_nd X.snd fun k => X.hid_look
theorem Ctx.hid2 : ∀ p ∈ hidL (dueK sz F ws) ((dueK sz F ws).map (·.1)), look (shOf ws) p.1 = some p.2 := fun p hp => by
  rw [← X.hid_look]
  exact look_of_mem X.hid_nd hp
theorem Ctx.dsum : rsum ((PL sz F).map (lkG (dueK sz F ws))) = 1 := by
  have := accF_total (fun k : PK => view k.1 k.2) (lkG (dueK sz F ws)) (PL sz F)
  rw [← this, ← X.hid_acc, rsum_perm (X.hid_perm.map _), X.ssum]
theorem Ctx.dlkG {l : List PK} (hl : ∀ k ∈ l, k ∈ PL sz F) (h : l.length ≤ 128) : Bt 4100 (rsum (l.map (lkG (dueK sz F ws)))) := by
  have e : l.map (lkG (dueK sz F ws)) = l.map fun k => dV sz F ws k.1 k.2 := List.map_congr_left fun k hk => X.dlk (hl k hk)
  rw [e]
  exact X.db (fun k hk => mem_PL.mp (hl k hk)) h
theorem Ctx.dbt {k : PK} (h : k ∈ PL sz F) : Bt 2758 (lkG (dueK sz F ws) k) := by
  rw [X.dlk h]
  obtain ⟨h1, h2⟩ := mem_PL.mp h
  exact (X.dq h2 h1).bt (by decide)
theorem Ctx.hl : HlOk (dueK sz F ws) := by
  refine ⟨by have := X.dlen; omega, fun k hk => ?_, fun i k hk => ?_⟩
  · rw [X.dkeys] at hk
    have := X.cl (mem_PL.mp hk).1
    have := (sz_len sz X.hz).2
    omega
  · rw [X.dkeys] at hk ⊢
    have e : hidL (dueK sz F ws) ((PL sz F).take i) = accF (fun k : PK => view k.1 k.2) 0 (fun b k => b + lkG (dueK sz F ws) k) ((PL sz F).take i) := rfl
    rw [e, accF_getD]
    refine ok2_of (n := 4100) (m := 2758) (X.dlkG (fun k hk => List.mem_of_mem_take (List.mem_filter.mp hk).1) ?_) (X.dbt (List.mem_of_getElem? hk)) (by decide)
    have h1 := List.length_filter_le (fun a : PK => decide (view a.1 a.2 = view k.1 k.2)) ((PL sz F).take i)
    rw [List.length_take] at h1
    have := X.PLlen
    omega
/-! ### calm -/
theorem Ctx.unc : UncOk sz F (dueK sz F ws) := by
  refine ⟨X.hz, by have := X.few; omega, fun p hp => X.short hp, fun i s hs p hp hip hm c hc v w hv hvw hws => ?_⟩
  have hi : i < sz.length := (List.getElem?_eq_some_iff.mp hs).1
  have hcl := X.cl hc
  have hv0 := X.c0 hc v (List.mem_of_getElem? hv)
  have ho : c.take i ++ [w] ++ c.drop (i + 1) ∈ contents sz := conts_swap sz X.hz c hc i (List.mem_range.mpr hi) w (by
    have e : sz.getD i 0 = s := by rw [List.getD_eq_getElem?_getD, hs]; rfl
    rw [e]
    unfold rgL
    refine List.mem_map.mpr ⟨w.toNat, List.mem_range.mpr (by omega), by omega⟩)
  have hperm : (esort (p ++ [(i : Int)])).Perm (p ++ [(i : Int)]) := esort_perm _
  have sw : ∀ j : Nat, j ≠ i → c[j]? = (c.take i ++ [w] ++ c.drop (i + 1))[j]? := fun j hj => swap_at (by omega) hj
  generalize esort (p ++ [(i : Int)]) = m at hm hperm ⊢
  generalize c.take i ++ [w] ++ c.drop (i + 1) = o at ho sw ⊢
  have k1 : (c, p) ∈ PL sz F := mem_PL.mpr ⟨hc, hp⟩
  have k2 : (c, m) ∈ PL sz F := mem_PL.mpr ⟨hc, hm⟩
  have k3 : (o, p) ∈ PL sz F := mem_PL.mpr ⟨ho, hp⟩
  have k4 : (o, m) ∈ PL sz F := mem_PL.mpr ⟨ho, hm⟩
  have one : Bt 1 (1 : Rat) := ⟨by decide, by decide⟩
  refine ⟨by rw [X.dkeys]; exact k1, by rw [X.dkeys]; exact k2, by rw [X.dkeys]; exact k3, by rw [X.dkeys]; exact k4, ok2_of (X.dbt k1) (X.dbt k2) (by decide), ok2_of (X.dbt k3) (X.dbt k4) (by decide), ?_, ?_, ?_, ?_, ?_⟩
  · rw [X.dlk k2]; exact num_pos.mp (X.dpos hm hc)
  · rw [X.dlk k4]; exact num_pos.mp (X.dpos hm ho)
  · rw [X.dlk k1, X.dlk k2]
    exact ok2_of (n := 5515) ((bq_div (X.dq hp hc) (X.dq hm hc)).bt (by decide)) one (by decide)
  · rw [X.dlk k3, X.dlk k4]
    exact ok2_of (n := 5515) ((bq_div (X.dq hp ho) (X.dq hm ho)).bt (by decide)) one (by decide)
  · rw [X.dlk k1, X.dlk k2, X.dlk k3, X.dlk k4]
    exact X.calm hi hp hip hm hperm hc ho sw
/-! ### the whole -/
theorem Ctx.mem_es {k : PK} (h : k ∈ esort ((dueK sz F ws).map (·.1))) : k ∈ PL sz F := by rw [← X.dkeys]; exact (esort_perm _).mem_iff.mp h
theorem Ctx.es_len : (esort ((dueK sz F ws).map (·.1))).length ≤ 128 := by rw [(esort_perm _).length_eq, List.length_map]; exact X.dlen
theorem Ctx.whole : WholeOk sz (rowsG (dueK sz F ws)) := by
  refine ⟨X.hz, rows_asc X.dnd2 (fun k hk => ?_) (by have := X.dlen; omega), fun a ha => ?_, fun i a ha => ?_, ?_, ?_⟩
  · rw [X.dkeys] at hk
    rw [X.dlk hk]
    exact X.dpos (mem_PL.mp hk).2 (mem_PL.mp hk).1
  · have hm := (rows_perm X.dnd2).mem_iff.mp ha
    have hk : a.1 ∈ PL sz F := by rw [← X.dkeys]; exact List.mem_map.mpr ⟨a, hm, rfl⟩
    obtain ⟨h1, h2⟩ := mem_PL.mp hk
    exact ⟨(contents_ok sz X.hz).2 _ h1, lot_ok X.n (X.hF.sub _ h2)⟩
  · rw [rows_snd] at ha ⊢
    rw [List.getElem?_map] at ha
    obtain ⟨k, hk, e⟩ := Option.map_eq_some_iff.mp ha
    rw [← List.map_take, ← e]
    exact ok2_of (n := 4100) (m := 2758) (X.dlkG (fun k hk => X.mem_es (List.mem_of_mem_take hk)) (Nat.le_trans (by rw [List.length_take]; exact Nat.min_le_right _ _) X.es_len)) (X.dbt (X.mem_es (List.mem_of_getElem? hk))) (by decide)
  · rw [rows_snd, rsum_perm ((esort_perm _).map _), X.dkeys, X.dsum]
  · have el : (rowsG (dueK sz F ws)).length = (dueK sz F ws).length := (rows_perm X.dnd2).length_eq
    refine ⟨by have := X.dlen; omega, fun l hl n hn => ?_⟩
    have e : counts (rowsG (dueK sz F ws)) = accF (fun a : PK × Rat => a.1.2) 0 (fun n _ => n + 1) (rowsG (dueK sz F ws)) := rfl
    rw [e, accF_keys, mem_dedup] at hl
    rw [e, accF_look, if_pos hl, count_len, Int.zero_add] at hn
    have hn : ((((rowsG (dueK sz F ws)).filter fun a => decide (a.1.2 = l)).length : Nat) : Int) = n := Option.some.inj hn
    obtain ⟨a, ha, el⟩ := List.mem_map.mp hl
    have hm := (rows_perm X.dnd2).mem_iff.mp ha
    have hk : a.1 ∈ PL sz F := by rw [← X.dkeys]; exact List.mem_map.mpr ⟨a, hm, rfl⟩
    have hlF : l ∈ F := by rw [← el]; exact (mem_PL.mp hk).2
    have p1 := ((rows_perm X.dnd2).filter fun a => decide (a.1.2 = l)).length_eq
    have p2 : ((dueK sz F ws).filter fun a => decide (a.1.2 = l)).length = ((PL sz F).filter fun k => decide (k.2 = l)).length := by
      rw [X.due_eq, List.filter_map, List.length_map]
      rfl
    have p3 : ((contents sz).map fun c => (c, l)).Perm ((PL sz F).filter fun k => decide (k.2 = l)) := by
      refine (List.perm_ext_iff_of_nodup (List.pairwise_map.mpr (X.cnd.imp fun {x y} hxy e => hxy (congrArg Prod.fst e))) (X.PLnd.filter _)).mpr fun k => ?_
      rw [List.mem_filter, mem_PL, List.mem_map]
      constructor
      · rintro ⟨c, hc, rfl⟩
        exact ⟨⟨hc, hlF⟩, by simp⟩
      · rintro ⟨⟨h1, _⟩, h3⟩
        have h3 : k.2 = l := of_decide_eq_true h3
        exact ⟨k.1, h1, by rw [← h3]⟩
    have p4 := p3.length_eq
    rw [List.length_map] at p4
    have p5 : (contents sz).length = ((rowsG (dueK sz F ws)).filter fun a => decide (a.1.2 = l)).length := p4.trans (p2.symm.trans p1.symm)
    rw [← hn]
    exact Int.ofNat_le.mpr (Nat.le_of_eq p5)
theorem Ctx.hok : HidOk (rowsG (dueK sz F ws)) := by
  have el : (rowsG (dueK sz F ws)).length = (dueK sz F ws).length := (rows_perm X.dnd2).length_eq
  have mem : ∀ a ∈ rowsG (dueK sz F ws), a.1 ∈ PL sz F ∧ a.2 = lkG (dueK sz F ws) a.1 := by
    intro a ha
    have hm := (rows_perm X.dnd2).mem_iff.mp ha
    refine ⟨by rw [← X.dkeys]; exact List.mem_map.mpr ⟨a, hm, rfl⟩, ?_⟩
    unfold lkG
    rw [look_of_mem X.dnd2 (k := a.1) (v := a.2) hm]
    rfl
  refine ⟨⟨by rw [List.length_map]; have := X.dlen; omega, fun i a ha b hb => ?_⟩, fun a ha => ?_⟩
  · rw [List.getElem?_map] at ha
    obtain ⟨r, hr, er⟩ := Option.map_eq_some_iff.mp ha
    rw [← List.map_take] at hb
    have e : gath (((rowsG (dueK sz F ws)).take i).map fun a => (view a.1.1 a.1.2, a.2)) = accF (fun a : PK × Rat => view a.1.1 a.1.2) 0 (fun b a => b + a.2) ((rowsG (dueK sz F ws)).take i) := by
      unfold gath accF
      rw [List.foldl_map]
      congr 1
      funext m a
      congr 1
      cases look m (view a.1.1 a.1.2) with
      | none => exact (Rat.zero_add _).symm
      | some b => rfl
    rw [e] at hb
    have h2 := accF_getD (fun a : PK × Rat => view a.1.1 a.1.2) (fun a => a.2) ((rowsG (dueK sz F ws)).take i) a.1
    rw [hb] at h2
    have h2 : b = _ := h2
    have hr2 := mem r (List.mem_of_getElem? hr)
    refine ok2_of (n := 4100) (m := 2758) ?_ ?_ (by decide)
    · rw [h2]
      have e3 : ((((rowsG (dueK sz F ws)).take i).filter fun r => decide (view r.1.1 r.1.2 = a.1)).map fun r => r.2) = (((((rowsG (dueK sz F ws)).take i).filter fun r => decide (view r.1.1 r.1.2 = a.1)).map (·.1))).map (lkG (dueK sz F ws)) := by
        rw [List.map_map]
        exact List.map_congr_left fun r hr => (mem r (List.mem_of_mem_take (List.mem_filter.mp hr).1)).2
      rw [e3]
      refine X.dlkG (fun k hk => ?_) ?_
      · obtain ⟨r, hr, rfl⟩ := List.mem_map.mp hk
        exact (mem r (List.mem_of_mem_take (List.mem_filter.mp hr).1)).1
      · rw [List.length_map]
        have h1 := List.length_filter_le (fun r : PK × Rat => decide (view r.1.1 r.1.2 = a.1)) ((rowsG (dueK sz F ws)).take i)
        rw [List.length_take] at h1
        have := X.dlen
        omega
    · rw [← er]
      show Bt 2758 r.2
      rw [hr2.2]
      exact X.dbt hr2.1
  · have := X.cl (mem_PL.mp (mem a ha).1).1
    have := (sz_len sz X.hz).2
    omega
theorem Ctx.gath_eq : hidOf (rowsG (dueK sz F ws)) = accF (fun a : PK × Rat => view a.1.1 a.1.2) 0 (fun b a => b + a.2) (rowsG (dueK sz F ws)) := by
  unfold hidOf gath accF
  rw [List.foldl_map]
  congr 1
  funext m a
  congr 1
  cases look m (view a.1.1 a.1.2) with
  | none => exact (Rat.zero_add _).symm
  | some b => rfl
theorem Ctx.hide : srt (hidOf (rowsG (dueK sz F ws))) = shK ws := by
  have memk : ∀ v, v ∈ (hidOf (rowsG (dueK sz F ws))).map (·.1) ↔ v ∈ (shOf ws).map (·.1) := by
    intro v
    rw [X.gath_eq, accF_keys, mem_dedup, X.skeys, ← X.hid_mem, mem_dedup, List.mem_map, List.mem_map]
    constructor
    · rintro ⟨a, ha, e⟩
      have hm := (rows_perm X.dnd2).mem_iff.mp ha
      exact ⟨a.1, by rw [← X.dkeys]; exact List.mem_map.mpr ⟨a, hm, rfl⟩, e⟩
    · rintro ⟨k, hk, e⟩
      refine ⟨(k, dV sz F ws k.1 k.2), (rows_perm X.dnd2).mem_iff.mpr ?_, e⟩
      rw [X.due_eq]
      exact List.mem_map.mpr ⟨k, hk, rfl⟩
  refine srt_eq (by rw [X.gath_eq]; exact accF_nd _ _ _ _) X.snd memk (fun v hv => ?_) (fun v hv => ?_)
  · rw [X.skeys] at hv
    rw [X.gath_eq, accF_getD, X.slkG2 hv, ← X.hid_val hv]
    have p1 := (((rows_perm X.dnd2).filter fun a => decide (view a.1.1 a.1.2 = v)).map fun a => a.2)
    have e4 : (((dueK sz F ws).filter fun a => decide (view a.1.1 a.1.2 = v)).map fun a => a.2) = ((PL sz F).filter fun k => decide (view k.1 k.2 = v)).map fun k => dV sz F ws k.1 k.2 := by
      rw [X.due_eq, List.filter_map, List.map_map]
      rfl
    rw [rsum_perm p1, e4]
    congr 1
    exact List.map_congr_left fun k hk => (X.dlk (List.mem_filter.mp hk).1).symm
  · rw [X.skeys] at hv
    rw [X.slkG2 hv]
    exact X.spos hv
end
end CB
end
section
set_option Elab.async false
set_option linter.all false
set_option maxRecDepth 100000
set_option maxHeartbeats 2000000
set_option exponentiation.threshold 100
/-! Plain law J: the package's quotients and whole. -/
namespace CB
open PySem PySem.Spec PyProof.Rows L2 Enc
theorem groups_acc (p : List Int) (cs : List (List Int)) : groupsOf p cs = accF (fun c => view c p) [] (fun l c => l ++ [c]) cs := rfl
theorem foldl_snoc {α : Type} : ∀ (l x : List α), l.foldl (fun a c => a ++ [c]) x = x ++ l
  | [], x => by simp
  | a :: l, x => by rw [List.foldl_cons, foldl_snoc l, List.append_assoc]; rfl
theorem gr_fst (kvs : List (List Int × Rat)) (p : List Int) (wts : List (List Int × Rat)) : ∀ (gs : GR) (z : FS), (gs.foldl (grStep kvs p wts) z).1 = gs.foldl (fun m g => put m g.1 (qv kvs wts g)) z.1 ∧ (gs.foldl (grStep kvs p wts) z).2 = gs.foldl (fun s g => shrs p (qv kvs wts g) wts g.2 s) z.2
  | [], z => ⟨rfl, rfl⟩
  | g :: gs, z => by
    obtain ⟨h1, h2⟩ := gr_fst kvs p wts gs (grStep kvs p wts z g)
    rw [List.foldl_cons, List.foldl_cons, List.foldl_cons]
    exact ⟨h1, h2⟩
theorem wgt_prod (fnd : List (List Int × Rat)) (os : List (List Int)) (c : List Int) : wgt fnd os c = rprod (os.map fun o => lk fnd (view c o)) := by
  unfold wgt rprod
  rw [List.foldl_map]
theorem chk4 : ∀ sz ∈ allSz, ((dl sz.length).map fun p => (vsd sz p).length).sum < 64 := by decide +kernel
section
variable {sz : List Int} {F : List (List Int)} {ws : List (List Int × Int)} (X : Ctx sz F ws)
include X
theorem Ctx.vk_nd : (vkeys sz F).Nodup := by rw [vkeys_eq]; exact nodup_dedup _
theorem Ctx.few64 : (shOf ws).length < 64 := by
  have h1 : (vkeys sz F).length = ((ownK sz F ws).map (·.1)).length := ((List.perm_ext_iff_of_nodup X.vk_nd X.ond).mpr fun v => X.okm.symm).length_eq
  have h2 : (shOf ws).length = (vkeys sz F).length := by rw [← X.skeys, List.length_map]
  rw [h2, h1, X.okeys, List.length_flatMap]
  exact Nat.lt_of_le_of_lt (sum_sub (f := fun p => (vsd sz p).length) List.filter_sublist) (chk4 sz X.hz)
theorem Ctx.shl (v : List Int) : lk (shK ws) v = lk (shOf ws) v := by
  show (look (rowsG (shOf ws)) v).getD 0 = _
  rw [rows_look X.snd]
  rfl
theorem Ctx.shk {v : List Int} : v ∈ (shK ws).map (·.1) ↔ v ∈ vkeys sz F := by
  show v ∈ (rowsG (shOf ws)).map (·.1) ↔ _
  rw [rows_keys, (esort_perm _).mem_iff, X.skeys]
theorem Ctx.shnd : ((shK ws).map (·.1)).Nodup := rows_nd X.snd
theorem Ctx.fam : FamOk F (shK ws) := by
  refine ⟨X.hF.lt, fun x => ?_, ?_, fun a ha => ?_⟩
  · rw [List.mem_map]
    constructor
    · intro hx
      obtain ⟨c, hc⟩ := List.exists_mem_of_ne_nil _ (sz_facts sz X.hz).2.2.1
      obtain ⟨a, ha, e⟩ := List.mem_map.mp (X.shk.mpr (X.vk hx hc))
      exact ⟨a, ha, by rw [e]; exact X.pat hc hx⟩
    · rintro ⟨a, ha, e⟩
      obtain ⟨p, hp, c, hc, e2⟩ := mem_vkeys.mp (X.shk.mp (List.mem_map.mpr ⟨a, ha, rfl⟩))
      rw [← e, ← e2, X.pat hc hp]
      exact hp
  · have : (shK ws).length = (shOf ws).length := (rows_perm X.snd).length_eq
    rw [this]
    exact X.few64
  · obtain ⟨p, hp, c, hc, e2⟩ := mem_vkeys.mp (X.shk.mp (List.mem_map.mpr ⟨a, ha, rfl⟩))
    rw [← e2, view_len, X.cl hc]
    have := (sz_len sz X.hz).2
    omega
theorem Ctx.told : ToldOk sz (shK ws) F := by
  refine ⟨X.hz, X.fam, X.shnd, fun p hp v hv => ?_, fun p hp => ?_, fun p hp => by have := X.pl hp; omega⟩
  · obtain ⟨c, hc, e⟩ := List.mem_map.mp ((views_mem sz X.hz p (X.hF.sub p hp)).1 v hv)
    rw [← e]
    exact X.shk.mpr (X.vk hp hc)
  · rw [esort_ksort X.n] at hp
    by_cases h : p ∈ F
    · exact .inl h
    · refine .inr fun o ho => ?_
      cases z : more p o with
      | false => rfl
      | true => exact absurd (X.hF.up p hp o ho z) h
/-- a block, told -/
theorem Ctx.block_eq {i : Nat} {p : List Int} (hp : (dn sz.length F)[i]? = some p) : fnd sz F ws (i + 1) = fnd sz F ws i ++ (vsd sz p).map fun v => (v, Qv sz F ws v) := by
  have hpF : p ∈ F := X.dnm.mp (List.mem_of_getElem? hp)
  rw [(X.block i).2 p hp]
  congr 1
  have hk := below_keys (sz := sz) p (pw (fnd sz F ws i) F p)
  rw [← hk, List.map_map]
  refine List.map_congr_left fun x hx => ?_
  have hv : x.1 ∈ vsd sz p := by rw [← hk]; exact List.mem_map.mpr ⟨x, hx, rfl⟩
  obtain ⟨c, hc, e⟩ := mem_vsd.mp hv
  have hnd : ((below p (pw (fnd sz F ws i) F p) (contents sz)).map (·.1)).Nodup := by rw [hk]; exact nodup_dedup _
  have hl : look (below p (pw (fnd sz F ws i) F p) (contents sz)) x.1 = some x.2 := look_of_mem hnd hx
  rw [below_look p (pw (fnd sz F ws i) F p) hv, X.sgm_eq hp] at hl
  have hl : sgm sz p (Wv sz F ws p) x.1 = x.2 := Option.some.inj hl
  show (x.1, lk (shOf ws) x.1 / x.2) = (x.1, Qv sz F ws x.1)
  rw [← hl, ← e, X.rec_ hpF hc]
theorem Ctx.grp_eq {p : List Int} {g : List Int × List (List Int)} (hg : g ∈ groupsOf p (contents sz)) : g.1 ∈ vsd sz p ∧ g.2 = (contents sz).filter fun c => decide (view c p = g.1) := by
  have hk : (groupsOf p (contents sz)).map (·.1) = vsd sz p := by rw [groups_acc, accF_keys]; rfl
  have hv : g.1 ∈ vsd sz p := by rw [← hk]; exact List.mem_map.mpr ⟨g, hg, rfl⟩
  have hl : look (groupsOf p (contents sz)) g.1 = some g.2 := look_of_mem (by rw [hk]; exact nodup_dedup _) hg
  rw [groups_acc, accF_look, if_pos (mem_dedup.mp hv), foldl_snoc, List.nil_append] at hl
  exact ⟨hv, (Option.some.inj hl).symm⟩
theorem Ctx.wts_eq {i : Nat} {p c : List Int} (hp : (dn sz.length F)[i]? = some p) (hc : c ∈ contents sz) : lk (wgts sz (fnd sz F ws i) F p) c = Wv sz F ws p c := by
  have : look (wgts sz (fnd sz F ws i) F p) c = some (wgt (fnd sz F ws i) (above F p) c) := look_mapF (fun c => c) (fun c => wgt (fnd sz F ws i) (above F p) c) (by rw [List.map_id']; exact X.cnd) hc
  unfold lk
  rw [this, wgt_prod]
  exact X.pw_eq hp hc
theorem Ctx.gsum {i : Nat} {p : List Int} (hp : (dn sz.length F)[i]? = some p) {g : List Int × List (List Int)} (hg : g ∈ groupsOf p (contents sz)) : g.2.map (lk (wgts sz (fnd sz F ws i) F p)) = g.2.map (Wv sz F ws p) := List.map_congr_left fun c hc => X.wts_eq hp (by
  rw [(X.grp_eq hg).2] at hc
  exact (List.mem_filter.mp hc).1)
theorem Ctx.qv_eq {i : Nat} {p : List Int} (hp : (dn sz.length F)[i]? = some p) {g : List Int × List (List Int)} (hg : g ∈ groupsOf p (contents sz)) : qv (shK ws) (wgts sz (fnd sz F ws i) F p) g = Qv sz F ws g.1 := by
  have hpF : p ∈ F := X.dnm.mp (List.mem_of_getElem? hp)
  obtain ⟨h1, h2⟩ := X.grp_eq hg
  obtain ⟨c, hc, e⟩ := mem_vsd.mp h1
  unfold qv
  rw [X.gsum hp hg, X.shl, h2, ← e, X.rec_ hpF hc]
  rfl
theorem Ctx.qall (i : Nat) : (qAll (shK ws) sz F ((dn sz.length F).take i)).1 = fnd sz F ws i ∧ ((qAll (shK ws) sz F ((dn sz.length F).take i)).2.map (·.1)).Nodup ∧ ∀ k : PK, look (qAll (shK ws) sz F ((dn sz.length F).take i)).2 k = if k.1 ∈ contents sz ∧ k.2 ∈ (dn sz.length F).take i then some (dV sz F ws k.1 k.2) else none := by
  induction i with
  | zero => exact ⟨rfl, List.nodup_nil, fun k => by rw [List.take_zero, if_neg (fun h => nomatch h.2)]; rfl⟩
  | succ i ih =>
    obtain ⟨i1, i2, i3⟩ := ih
    cases hp : (dn sz.length F)[i]? with
    | none =>
      have := List.getElem?_eq_none_iff.mp hp
      have e : (dn sz.length F).take (i + 1) = (dn sz.length F).take i := by rw [List.take_of_length_le (by omega), List.take_of_length_le (by omega)]
      show _ = lqAll (shOf ws) sz F ((dn sz.length F).take (i + 1)) ∧ _
      rw [e]
      exact ⟨i1, i2, i3⟩
    | some p =>
      have hpF : p ∈ F := X.dnm.mp (List.mem_of_getElem? hp)
      have hk : (groupsOf p (contents sz)).map (·.1) = vsd sz p := by rw [groups_acc, accF_keys]; rfl
      rw [take_snoc hp, qAll_snoc]
      unfold qStep
      rw [i1]
      obtain ⟨f1, f2⟩ := gr_fst (shK ws) p (wgts sz (fnd sz F ws i) F p) (groupsOf p (contents sz)) (qAll (shK ws) sz F ((dn sz.length F).take i))
      rw [f1, f2, i1]
      refine ⟨?_, ?_⟩
      · rw [X.block_eq hp]
        have hdis : ∀ g ∈ groupsOf p (contents sz), g.1 ∉ (fnd sz F ws i).map (·.1) := by
          intro g hg q
          have nd := X.ond
          obtain ⟨r, er⟩ := X.own_pre (i + 1)
          rw [er, X.block_eq hp, List.append_assoc, List.map_append, List.map_append] at nd
          refine (List.nodup_append.mp nd).2.2 _ q _ (List.mem_append.mpr (.inl ?_)) rfl
          rw [List.map_map]
          exact List.mem_map.mpr ⟨g.1, (X.grp_eq hg).1, rfl⟩
        rw [put_all (fun g : List Int × List (List Int) => g.1) (fun g => qv (shK ws) (wgts sz (fnd sz F ws i) F p) g) _ _ (by rw [hk]; exact nodup_dedup _) hdis, ← hk, List.map_map]
        congr 1
        exact List.map_congr_left fun g hg => by rw [X.qv_eq hp hg]; rfl
      · have e : (groupsOf p (contents sz)).foldl (fun s g => shrs p (qv (shK ws) (wgts sz (fnd sz F ws i) F p) g) (wgts sz (fnd sz F ws i) F p) g.2 s) (qAll (shK ws) sz F ((dn sz.length F).take i)).2 = ((groupsOf p (contents sz)).flatMap fun g => g.2.map fun c => (g, c)).foldl (fun s x => put s ((x.2, p) : PK) (qv (shK ws) (wgts sz (fnd sz F ws i) F p) x.1 * lk (wgts sz (fnd sz F ws i) F p) x.2)) (qAll (shK ws) sz F ((dn sz.length F).take i)).2 := by
          rw [foldl_fm]
          congr 1
          funext s g
          rw [List.foldl_map]
          rfl
        rw [e]
        refine ⟨?_, fun k => ?_⟩
        · rw [putf_keys (fun x : (List Int × List (List Int)) × List Int => ((x.2, p) : PK))]
          exact nodup_foldk i2
        · rw [put_look (fun x : (List Int × List (List Int)) × List Int => ((x.2, p) : PK)) (fun x => qv (shK ws) (wgts sz (fnd sz F ws i) F p) x.1 * lk (wgts sz (fnd sz F ws i) F p) x.2) (fun k => dV sz F ws k.1 k.2) k _ _ fun x hx => ?_]
          · have hmem : k ∈ ((groupsOf p (contents sz)).flatMap fun g => g.2.map fun c => (g, c)).map (fun x => ((x.2, p) : PK)) ↔ k.1 ∈ contents sz ∧ k.2 = p := by
              rw [List.mem_map]
              constructor
              · rintro ⟨x, hx, rfl⟩
                obtain ⟨g, hg, hx⟩ := List.mem_flatMap.mp hx
                obtain ⟨c, hc, rfl⟩ := List.mem_map.mp hx
                rw [(X.grp_eq hg).2] at hc
                exact ⟨(List.mem_filter.mp hc).1, rfl⟩
              · rintro ⟨h1, h2⟩
                have hv : view k.1 p ∈ vsd sz p := mem_vsd.mpr ⟨k.1, h1, rfl⟩
                rw [← hk] at hv
                obtain ⟨g, hg, eg⟩ := List.mem_map.mp hv
                refine ⟨(g, k.1), List.mem_flatMap.mpr ⟨g, hg, List.mem_map.mpr ⟨k.1, ?_, rfl⟩⟩, by rw [← h2]⟩
                rw [(X.grp_eq hg).2]
                exact List.mem_filter.mpr ⟨h1, by rw [eg]; simp⟩
            by_cases z : k.1 ∈ contents sz ∧ k.2 = p
            · rw [if_pos (hmem.mpr z), if_pos ⟨z.1, List.mem_append.mpr (.inr (by rw [z.2]; exact List.mem_singleton.mpr rfl))⟩]
            · rw [if_neg (fun q => z (hmem.mp q)), i3 k]
              by_cases y : k.1 ∈ contents sz ∧ k.2 ∈ (dn sz.length F).take i
              · rw [if_pos y, if_pos ⟨y.1, List.mem_append.mpr (.inl y.2)⟩]
              · rw [if_neg y, if_neg fun q => (List.mem_append.mp q.2).elim (fun h => y ⟨q.1, h⟩) fun h => z ⟨q.1, by simpa using h⟩]
          · obtain ⟨g, hg, hx⟩ := List.mem_flatMap.mp hx
            obtain ⟨c, hc, rfl⟩ := List.mem_map.mp hx
            have hgp := X.grp_eq hg
            rw [hgp.2] at hc
            obtain ⟨c1, c2⟩ := List.mem_filter.mp hc
            have c2 : view c p = g.1 := of_decide_eq_true c2
            show qv (shK ws) (wgts sz (fnd sz F ws i) F p) g * lk (wgts sz (fnd sz F ws i) F p) c = dV sz F ws c p
            rw [X.qv_eq hp hg, X.wts_eq hp c1, X.dV_eq hpF, c2]
theorem Ctx.qfin : (qAll (shK ws) sz F (ksort true F)).1 = ownK sz F ws ∧ ((qAll (shK ws) sz F (ksort true F)).2.map (·.1)).Nodup ∧ ∀ k : PK, look (qAll (shK ws) sz F (ksort true F)).2 k = if k ∈ PL sz F then some (dV sz F ws k.1 k.2) else none := by
  obtain ⟨h1, h2, h3⟩ := X.qall (dn sz.length F).length
  rw [List.take_length] at h1 h2 h3
  rw [X.hF.ks]
  refine ⟨?_, h2, fun k => ?_⟩
  · rw [h1, X.own_eq]
  · rw [h3 k]
    by_cases z : k ∈ PL sz F
    · rw [if_pos z, if_pos ⟨(mem_PL.mp z).1, X.dnm.mpr (mem_PL.mp z).2⟩]
    · rw [if_neg z, if_neg fun q => z (mem_PL.mpr ⟨q.1, X.dnm.mp q.2⟩)]
theorem Ctx.toldW : srt (qAll (shK ws) sz F (ksort true F)).2 = rowsG (dueK sz F ws) := by
  obtain ⟨h1, h2, h3⟩ := X.qfin
  refine srt_eq h2 X.dnd2 (fun k => ?_) (fun k hk => ?_) (fun k hk => ?_)
  · rw [X.dkeys]
    constructor
    · intro hk
      obtain ⟨v, e⟩ := look_some hk
      rw [h3] at e
      by_cases z : k ∈ PL sz F
      · exact z
      · rw [if_neg z] at e; cases e
    · intro hk
      refine Decidable.byContradiction fun z => ?_
      have := look_none z
      rw [h3, if_pos hk] at this
      cases this
  · rw [X.dkeys] at hk
    rw [h3, if_pos hk, X.dlk hk]
    rfl
  · rw [X.dkeys] at hk
    rw [X.dlk hk]
    exact X.dpos (mem_PL.mp hk).2 (mem_PL.mp hk).1
theorem Ctx.qok : QOk sz (shK ws) F := by
  refine ⟨X.hz, X.fam, X.shnd, by have := X.few; omega, fun p hp => X.short hp, fun i p hp => ?_⟩
  have hp := X.getc hp
  have hpF : p ∈ F := X.dnm.mp (List.mem_of_getElem? hp)
  have ef : (qAll (shK ws) sz F ((ksort true F).take i)).1 = fnd sz F ws i := by rw [X.hF.ks]; exact (X.qall i).1
  rw [ef]
  refine ⟨⟨X.hz, by have := X.few; omega, by have := X.pl hpF; omega, fun c hc o ho => (X.at_ hp hc ho).1, fun c hc j o ho => ?_⟩, fun g hg => ?_, fun g hg j a ha => ?_, fun g hg => ?_, fun g hg c hc => ?_⟩
  · rw [wgt_prod, (X.at_ hp hc (List.mem_of_getElem? ho)).2]
    have e : ((above F p).take j).map (fun o => lk (fnd sz F ws i) (view c o)) = ((above F p).take j).map fun o => Qv sz F ws (view c o) := List.map_congr_left fun o ho => (X.at_ hp hc (List.mem_of_mem_take ho)).2
    rw [e]
    exact ok2_of (n := 752) (m := 2007) ((X.wb hpF hc (List.take_sublist _ _)).bt (by decide)) ((X.qb' (List.mem_filter.mp (List.mem_of_getElem? ho)).1 hc).bt (by decide)) (by decide)
  · obtain ⟨c, hc, e⟩ := mem_vsd.mp (X.grp_eq hg).1
    rw [← e]
    exact X.shk.mpr (X.vk hpF hc)
  · obtain ⟨g1, g2⟩ := X.grp_eq hg
    obtain ⟨c, hc, e⟩ := mem_vsd.mp g1
    rw [X.gsum hp hg] at ha ⊢
    rw [List.getElem?_map] at ha
    obtain ⟨d, hd, ed⟩ := Option.map_eq_some_iff.mp ha
    rw [← List.map_take, ← ed]
    have mem : ∀ d ∈ g.2, d ∈ contents sz ∧ view d p = view c p := fun d hd => by
      rw [g2] at hd
      exact ⟨(List.mem_filter.mp hd).1, by rw [e]; exact of_decide_eq_true (List.mem_filter.mp hd).2⟩
    refine ok2_of (n := 2050) (m := 752) (X.gb hpF hc (fun d hd => mem d (List.mem_of_mem_take hd)) ?_) ((X.Wb hpF (mem d (List.mem_of_getElem? hd)).1).bt (by decide)) (by decide)
    have h1 : g.2.length ≤ 16 := by rw [g2]; exact Nat.le_trans (List.length_filter_le _ _) X.c16
    rw [List.length_take]
    omega
  · obtain ⟨g1, g2⟩ := X.grp_eq hg
    obtain ⟨c, hc, e⟩ := mem_vsd.mp g1
    rw [X.gsum hp hg, X.shl]
    have mem : ∀ d ∈ g.2, d ∈ contents sz ∧ view d p = view c p := fun d hd => by
      rw [g2] at hd
      exact ⟨(List.mem_filter.mp hd).1, by rw [e]; exact of_decide_eq_true (List.mem_filter.mp hd).2⟩
    have h1 : g.2.length ≤ 16 := by rw [g2]; exact Nat.le_trans (List.length_filter_le _ _) X.c16
    refine ⟨ok2_of (n := 38) (m := 2050) ?_ (X.gb hpF hc mem h1) (by decide), ?_⟩
    · rw [← e]
      exact (X.sbq (X.vk hpF hc)).bt (by decide)
    · rw [g2, ← e]
      exact num_pos.mp (X.gpos hc)
  · obtain ⟨g1, g2⟩ := X.grp_eq hg
    rw [g2] at hc
    obtain ⟨c1, c2⟩ := List.mem_filter.mp hc
    refine ⟨c1, ?_⟩
    have c2 : view c p = g.1 := of_decide_eq_true c2
    rw [X.qv_eq hp hg, X.wts_eq hp c1, ← c2]
    exact ok2_of (n := 2007) (m := 752) ((X.qb' hpF c1).bt (by decide)) ((X.Wb hpF c1).bt (by decide)) (by decide)
theorem Ctx.calmOk : CalmOk sz (shK ws) F := ⟨X.qok, X.told⟩
theorem Ctx.qf : QfOk sz (shK ws) F := by
  refine ⟨X.qok, fun v hv => ?_⟩
  rw [X.qfin.1] at hv
  have hv := X.okm.mp hv
  obtain ⟨p, hp, c, hc, e⟩ := mem_vkeys.mp hv
  refine ⟨?_, X.shk.mpr hv⟩
  rw [← e, view_len, X.cl hc]
  have := (sz_len sz X.hz).2
  omega
theorem Ctx.qof_eq : qof sz (shK ws) F = ownK sz F ws := by
  unfold qof
  rw [X.qfin.1]
  have e : dcf (fun v : List Int => v) (fun v => if CB.pat v = rgL 0 (sz.length : Int) then lk (shK ws) v else lk (ownK sz F ws) v) ((ownK sz F ws).map (·.1)) = ((ownK sz F ws).map (·.1)).map fun v => (v, if CB.pat v = rgL 0 (sz.length : Int) then lk (shK ws) v else lk (ownK sz F ws) v) := by
    unfold dcf
    have := put_all (fun v : List Int => v) (fun v => if CB.pat v = rgL 0 (sz.length : Int) then lk (shK ws) v else lk (ownK sz F ws) v) ((ownK sz F ws).map (·.1)) [] (by rw [List.map_id']; exact X.ond) fun a _ q => nomatch q
    rw [List.nil_append] at this
    exact this
  rw [e]
  conv => rhs; rw [← self_map X.ond]
  refine List.map_congr_left fun v hv => ?_
  obtain ⟨p, hp, c, hc, ev⟩ := mem_vkeys.mp (X.okm.mp hv)
  by_cases z : CB.pat v = rgL 0 (sz.length : Int)
  · rw [if_pos z]
    rw [← ev, X.pat hc hp] at z
    rw [X.shl, ← ev, z]
    show (_, lk (shOf ws) (view c (fullP sz))) = (_, lk (ownK sz F ws) (view c (fullP sz)))
    rw [← X.qfull hc]
  · rw [if_neg z]
    rfl
theorem Ctx.olen : (ownK sz F ws).length ≤ 9000 := by
  have h1 : (vkeys sz F).length = ((ownK sz F ws).map (·.1)).length := ((List.perm_ext_iff_of_nodup X.vk_nd X.ond).mpr fun v => X.okm.symm).length_eq
  rw [List.length_map] at h1
  have := X.vkl
  omega
theorem Ctx.qkey : ∀ v ∈ (ownK sz F ws).map (·.1), v ∈ (qof sz (shK ws) F).map (·.1) ∧ (v.length = sz.length ∧ (v.zip sz).all (fun p => decide (-1 ≤ p.1) && decide (p.1 ≤ p.2 - 1)) = true) ∧ CB.pat v ∈ F := by
  intro v hv
  rw [X.qof_eq]
  obtain ⟨p, hp, c, hc, e⟩ := mem_vkeys.mp (X.okm.mp hv)
  refine ⟨hv, ?_, ?_⟩
  · rw [← e]
    exact views_ok sz X.hz p (X.hF.sub p hp) (view c p) ((views_mem sz X.hz p (X.hF.sub p hp)).2 c hc)
  · rw [← e, X.pat hc hp]
    exact hp
end
end CB
end
section
set_option Elab.async false
set_option linter.all false
set_option maxRecDepth 100000
set_option maxHeartbeats 2000000
set_option exponentiation.threshold 100
/-! Plain law K: by hand. -/
namespace CB
open PySem PySem.Spec PyProof.Rows L2 Enc
theorem one_facts : ∀ sz ∈ allSz, sz.length = 1 → (contents sz).filter (fun c => decide (view c [] = [-1])) = contents sz ∧ ∀ w ∈ rgL 0 (sz.getD 0 0), [w] ∈ contents sz ∧ view [w] [] = [-1] ∧ view [w] [0] = [w] := by decide +kernel
theorem two_facts : ∀ sz ∈ allSz, sz.length = 2 → (contents sz).filter (fun c => decide (view c [] = [-1, -1])) = contents sz ∧ (∀ a ∈ rgL 0 (sz.getD 0 0), (contents sz).filter (fun c => decide (view c [0] = [a, -1])) = (rgL 0 (sz.getD 1 0)).map fun b => [a, b]) ∧
  (∀ b ∈ rgL 0 (sz.getD 1 0), (contents sz).filter (fun c => decide (view c [1] = [-1, b])) = (rgL 0 (sz.getD 0 0)).map fun a => [a, b]) ∧ ∀ a ∈ rgL 0 (sz.getD 0 0), ∀ b ∈ rgL 0 (sz.getD 1 0), [a, b] ∈ contents sz ∧ view [a, b] [] = [-1, -1] ∧ view [a, b] [0] = [a, -1] ∧ view [a, b] [1] = [-1, b] ∧ view [a, b] [0, 1] = [a, b] := by decide +kernel
section
variable {sz : List Int} {F : List (List Int)} {ws : List (List Int × Int)} (X : Ctx sz F ws)
include X
theorem Ctx.by_gen (l : List PK) (hl : ∀ k, k ∈ l ↔ k ∈ PL sz F) (res : List (PK × Rat)) (hk : (res.map (·.1)).Nodup) (hm : ∀ k, (k ∈ l → look res k = some (dV sz F ws k.1 k.2)) ∧ (k ∉ l → look res k = none)) : res.length = (dueK sz F ws).length ∧ ∀ p ∈ res, look (dueK sz F ws) p.1 = some p.2 := by
  have e : ∀ k, look res k = look (dueK sz F ws) k := by
    intro k
    by_cases z : k ∈ l
    · rw [(hm k).1 z, X.dlook ((hl k).mp z)]
    · rw [(hm k).2 z, look_none (by rw [X.dkeys]; exact fun q => z ((hl k).mpr q))]
  refine ⟨(perm_of_look hk X.dnd2 e).length_eq, fun p hp => ?_⟩
  rw [← e]
  exact look_of_mem hk hp
theorem Ctx.lkbt {l : List (List Int)} (hl : ∀ v ∈ l, v ∈ vkeys sz F) (h : l.length ≤ 128) : Bt 38 (rsum (l.map (lk (shOf ws)))) := by
  have e : l.map (lk (shOf ws)) = l.map (lkG (shOf ws)) := List.map_congr_left fun v hv => (X.slkG2 (hl v hv)).symm
  rw [e]
  exact X.sbt hl h
theorem Ctx.Fal (h : F.length = (al sz.length).length) : F = al sz.length := X.hF.sl.eq_of_length h
end
theorem put_dict {κ β : Type} [DecidableEq κ] (f : κ → β) (l : List κ) : ((l.foldl (fun m k => put m k (f k)) ([] : List (κ × β))).map (·.1)).Nodup ∧ ∀ k, look (l.foldl (fun m k => put m k (f k)) ([] : List (κ × β))) k = if k ∈ l then some (f k) else none := by
  refine ⟨?_, fun k => ?_⟩
  · rw [putf_keys (fun k : κ => k)]
    exact nodup_foldk List.nodup_nil
  · rw [put_look (fun k : κ => k) f f k l [] fun _ _ => rfl, List.map_id']
    rfl
theorem foldl_congr_mem {α β : Type} {f g : β → α → β} : ∀ {l : List α} (x : β), (∀ a ∈ l, ∀ x, f x a = g x a) → l.foldl f x = l.foldl g x
  | [], _, _ => rfl
  | a :: l, x, h => by
    rw [List.foldl_cons, List.foldl_cons, h a (List.mem_cons_self ..)]
    exact foldl_congr_mem _ fun b hb => h b (List.mem_cons_of_mem _ hb)
/-! ### one column -/
section
variable {s : Int} {F : List (List Int)} {ws : List (List Int × Int)} (X : Ctx [s] F ws)
include X
theorem Ctx.byOne (hF : F = [[], [0]]) : ∃ res, ByOk (shOf ws) [s] res ∧ res.length = (dueK [s] F ws).length ∧ ∀ p ∈ res, look (dueK [s] F ws) p.1 = some p.2 := by
  obtain ⟨o1, o2⟩ := one_facts [s] X.hz rfl
  have o2 : ∀ w ∈ rgL 0 s, [w] ∈ contents [s] ∧ view [w] [] = [-1] ∧ view [w] [0] = [w] := o2
  have hs := sz_all [s] X.hz s (List.mem_singleton.mpr rfl)
  have rl : (rgL 0 s).length ≤ 4 := by rw [rgL_len]; omega
  have f0 : ([] : List Int) ∈ F := by rw [hF]; decide
  have f1 : ([0] : List Int) ∈ F := by rw [hF]; decide
  have fp : fullP [s] = [0] := rfl
  have w1 : ∀ w ∈ rgL 0 s, [w] ∈ vkeys [s] F := fun w hw => by
    have := X.vk f1 (o2 w hw).1
    rwa [(o2 w hw).2.2] at this
  have z0 : (0 : Int) ∈ rgL 0 s := by unfold rgL; exact List.mem_map.mpr ⟨0, List.mem_range.mpr (by omega), by omega⟩
  have wz : [-1] ∈ vkeys [s] F := by
    have := X.vk f0 (o2 0 z0).1
    rwa [(o2 0 z0).2.1] at this
  have aN0 : aN [s] F [] = [] := by rw [hF]; rfl
  have W0 : ∀ w ∈ rgL 0 s, Wv [s] F ws [] [w] = lk (shOf ws) [w] := fun w hw => by
    rw [X.w_eq f0 (by rw [fp]; decide) (o2 w hw).1, aN0, fp, (o2 w hw).2.2]
    show _ * rprod [] = _
    rw [rprod_nil, Rat.mul_one]
  have Q1 : ∀ w ∈ rgL 0 s, Qv [s] F ws [w] = lk (shOf ws) [w] := fun w hw => by
    have := X.qfull (o2 w hw).1
    rwa [fp, (o2 w hw).2.2] at this
  have eT : sgm [s] [] (Wv [s] F ws []) [-1] = T1 (shOf ws) s := by
    unfold sgm T1
    rw [o1, contents_one, List.map_map]
    congr 1
    exact List.map_congr_left fun w hw => W0 w hw
  have Q0 : Qv [s] F ws [-1] = lk (shOf ws) [-1] / T1 (shOf ws) s := by
    have := X.rec_ f0 (o2 0 z0).1
    rwa [(o2 0 z0).2.1, eT] at this
  have Tp : 0 < T1 (shOf ws) s := by
    have := X.gpos (p := []) (o2 0 z0).1
    rwa [(o2 0 z0).2.1, eT] at this
  have wl : (rgL 0 s).map (fun w => lk (shOf ws) [w]) = ((rgL 0 s).map fun w => [w]).map (lk (shOf ws)) := by rw [List.map_map]; rfl
  have Tb : Bt 38 (T1 (shOf ws) s) := by
    unfold T1
    rw [wl]
    refine X.lkbt (fun v hv => ?_) (by rw [List.length_map]; omega)
    obtain ⟨w, hw, rfl⟩ := List.mem_map.mp hv
    exact w1 w hw
  have ok : ByOk1 (shOf ws) s := by
    refine ⟨by omega, fun w hw => by rw [X.skeys]; exact w1 w hw, by rw [X.skeys]; exact wz, fun i a ha => ?_, fun w hw => ⟨?_, ?_⟩, num_pos.mp Tp⟩
    · rw [List.getElem?_map] at ha
      obtain ⟨w, hw, e⟩ := Option.map_eq_some_iff.mp ha
      rw [wl, ← List.map_take, ← e]
      refine ok2_of (n := 38) (m := 38) (X.lkbt (fun v hv => ?_) ?_) ((X.sbq (w1 w (List.mem_of_getElem? hw))).bt (by decide)) (by decide)
      · obtain ⟨w, hw, rfl⟩ := List.mem_map.mp (List.mem_of_mem_take hv)
        exact w1 w hw
      · rw [List.length_take, List.length_map]; omega
    · exact ok2_of (n := 38) (m := 38) ((X.sbq wz).bt (by decide)) ((X.sbq (w1 w hw)).bt (by decide)) (by decide)
    · exact ok2_of (n := 75) (m := 38) ((bq_mul (X.sbq wz) (X.sbq (w1 w hw))).bt (by decide)) Tb (by decide)
  refine ⟨_, ByOk.one s ok X.hz, ?_⟩
  have e : by1 (shOf ws) (T1 (shOf ws) s) (rgL 0 s) = ((rgL 0 s).flatMap fun w => [(([w], [0]) : PK), ([w], [])]).foldl (fun m k => put m k (dV [s] F ws k.1 k.2)) [] := by
    rw [foldl_fm]
    unfold by1
    refine foldl_congr_mem _ fun w hw m => ?_
    show byS1 (shOf ws) (T1 (shOf ws) s) m w = put (put m ([w], [0]) (dV [s] F ws [w] [0])) ([w], []) (dV [s] F ws [w] [])
    unfold byS1
    rw [X.dV_eq f1, X.dV_eq f0, (o2 w hw).2.2, (o2 w hw).2.1, Q1 w hw, Q0, W0 w hw]
    have : Wv [s] F ws [0] [w] = 1 := X.wfull [w]
    rw [this, Rat.mul_one]
    congr 1
    have : T1 (shOf ws) s ≠ 0 := by grind
    grind
  obtain ⟨d1, d2⟩ := put_dict (fun k : PK => dV [s] F ws k.1 k.2) ((rgL 0 s).flatMap fun w => [(([w], [0]) : PK), ([w], [])])
  rw [e]
  refine X.by_gen _ (fun k => ?_) _ d1 fun k => ⟨fun h => by rw [d2, if_pos h], fun h => by rw [d2, if_neg h]⟩
  rw [List.mem_flatMap, mem_PL, contents_one, List.mem_map]
  constructor
  · rintro ⟨w, hw, h⟩
    rcases List.mem_cons.mp h with h | h
    · rw [h]; exact ⟨⟨w, hw, rfl⟩, f1⟩
    · rw [List.mem_singleton.mp h]; exact ⟨⟨w, hw, rfl⟩, f0⟩
  · rintro ⟨⟨w, hw, e1⟩, h2⟩
    rw [hF] at h2
    refine ⟨w, hw, ?_⟩
    obtain ⟨k1, k2⟩ := k
    have e1 : [w] = k1 := e1
    have hh : k2 = [] ∨ k2 = [0] := by
      have h2 : k2 ∈ [[], [0]] := h2
      simpa using h2
    rw [← e1]
    rcases hh with h | h <;> (rw [h]; simp)
end
/-! ### two columns -/
def fA (kvs : List (List Int × Rat)) (s t : Int) (k : PK) : Rat :=
  if k.2 = [0, 1] then lk kvs k.1 else if k.2 = [0] then byA kvs t (k.1.getD 0 0) * lk kvs k.1 else if k.2 = [1] then byB kvs s (k.1.getD 1 0) * lk kvs k.1 else byA kvs t (k.1.getD 0 0) * byB kvs s (k.1.getD 1 0) * lk kvs k.1
def l2 (s t : Int) : List PK := (pairsOf s t).flatMap fun p => [([p.1, p.2], [0, 1]), ([p.1, p.2], [0]), ([p.1, p.2], [1]), ([p.1, p.2], [])]
theorem by2_eq (kvs : List (List Int × Rat)) (s t : Int) : by2 kvs s t (pairsOf s t) = (l2 s t).foldl (fun m k => put m k (fA kvs s t k)) [] := by
  unfold l2
  rw [foldl_fm]
  unfold by2
  refine foldl_congr_mem _ fun p hp m => ?_
  obtain ⟨a, b⟩ := p
  rfl
theorem mem_l2 {s t : Int} {k : PK} : k ∈ l2 s t ↔ k.1 ∈ contents [s, t] ∧ k.2 ∈ [[], [0], [0, 1], [1]] := by
  unfold l2
  rw [List.mem_flatMap, contents_two, List.mem_map]
  constructor
  · rintro ⟨p, hp, h⟩
    simp only [List.mem_cons, List.not_mem_nil, or_false] at h
    rcases h with h | h | h | h <;> (rw [h]; exact ⟨⟨p, hp, rfl⟩, by simp⟩)
  · rintro ⟨⟨p, hp, e⟩, h⟩
    obtain ⟨k1, k2⟩ := k
    have e : [p.1, p.2] = k1 := e
    have h : k2 ∈ [[], [0], [0, 1], [1]] := h
    subst e
    refine ⟨p, hp, ?_⟩
    simp only [List.mem_cons, List.not_mem_nil, or_false] at h
    rcases h with h | h | h | h <;> (rw [h]; simp)
theorem by3_look (z T : Rat) : ∀ (l : List (List Int)) (m : List (PK × Rat)), l.Nodup → (∀ c ∈ l, (c, []) ∈ m.map (·.1)) → (by3 z T m l).map (·.1) = m.map (·.1) ∧ ∀ k : PK, look (by3 z T m l) k = if k.1 ∈ l ∧ k.2 = [] then some (lkG m k * z / T) else look m k
  | [], m, _, _ => ⟨rfl, fun k => by rw [if_neg fun h => nomatch h.1]; rfl⟩
  | c :: l, m, hn, hm => by
    rw [List.nodup_cons] at hn
    have hc := hm c (List.mem_cons_self ..)
    have e1 : (byS3 z T m c).map (·.1) = m.map (·.1) := by
      unfold byS3
      rw [keys_put, if_pos hc]
    obtain ⟨i1, i2⟩ := by3_look z T l (byS3 z T m c) hn.2 fun d hd => by rw [e1]; exact hm d (List.mem_cons_of_mem _ hd)
    refine ⟨i1.trans e1, fun k => ?_⟩
    show look (by3 z T (byS3 z T m c) l) k = _
    rw [i2 k]
    have lp : ∀ k, look (byS3 z T m c) k = if k = (c, []) then some (lkG m (c, []) * z / T) else look m k := fun k => look_put m (c, []) k _
    by_cases h : k.1 ∈ l ∧ k.2 = []
    · have hk : k ≠ (c, []) := fun q => hn.1 (by rw [q] at h; exact h.1)
      rw [if_pos h, if_pos ⟨List.mem_cons_of_mem _ h.1, h.2⟩]
      unfold lkG
      rw [lp k, if_neg hk]
    · rw [if_neg h, lp k]
      by_cases q : k = (c, [])
      · rw [if_pos q, if_pos ⟨by rw [q]; exact List.mem_cons_self .., by rw [q]⟩, q]
      · rw [if_neg q, if_neg fun w => ?_]
        rcases List.mem_cons.mp w.1 with w1 | w1
        · exact q (Prod.ext w1 w.2)
        · exact h ⟨w1, w.2⟩
section
variable {s t : Int} {F : List (List Int)} {ws : List (List Int × Int)} (X : Ctx [s, t] F ws)
include X
theorem Ctx.byTwo_ (hF : F = [[], [0], [0, 1], [1]]) : ∃ res, ByOk (shOf ws) [s, t] res ∧ res.length = (dueK [s, t] F ws).length ∧ ∀ p ∈ res, look (dueK [s, t] F ws) p.1 = some p.2 := by
  obtain ⟨o1, o2, o3, o4⟩ := two_facts [s, t] X.hz rfl
  have o2 : ∀ a ∈ rgL 0 s, (contents [s, t]).filter (fun c => decide (view c [0] = [a, -1])) = (rgL 0 t).map fun b => [a, b] := o2
  have o3 : ∀ b ∈ rgL 0 t, (contents [s, t]).filter (fun c => decide (view c [1] = [-1, b])) = (rgL 0 s).map fun a => [a, b] := o3
  have o4 : ∀ a ∈ rgL 0 s, ∀ b ∈ rgL 0 t, [a, b] ∈ contents [s, t] ∧ view [a, b] [] = [-1, -1] ∧ view [a, b] [0] = [a, -1] ∧ view [a, b] [1] = [-1, b] ∧ view [a, b] [0, 1] = [a, b] := o4
  have hs := sz_all [s, t] X.hz s (by simp)
  have ht := sz_all [s, t] X.hz t (by simp)
  have rs : (rgL 0 s).length ≤ 4 := by rw [rgL_len]; omega
  have rt : (rgL 0 t).length ≤ 4 := by rw [rgL_len]; omega
  have f0 : ([] : List Int) ∈ F := by rw [hF]; decide
  have fa : ([0] : List Int) ∈ F := by rw [hF]; decide
  have fb : ([1] : List Int) ∈ F := by rw [hF]; decide
  have fp : fullP [s, t] = [0, 1] := rfl
  have ff : ([0, 1] : List Int) ∈ F := by rw [hF]; decide
  have za : (0 : Int) ∈ rgL 0 s := by unfold rgL; exact List.mem_map.mpr ⟨0, List.mem_range.mpr (by omega), by omega⟩
  have zb : (0 : Int) ∈ rgL 0 t := by unfold rgL; exact List.mem_map.mpr ⟨0, List.mem_range.mpr (by omega), by omega⟩
  have kab : ∀ a ∈ rgL 0 s, ∀ b ∈ rgL 0 t, [a, b] ∈ vkeys [s, t] F := fun a ha b hb => by
    have := X.vk ff (o4 a ha b hb).1
    rwa [(o4 a ha b hb).2.2.2.2] at this
  have ka : ∀ a ∈ rgL 0 s, [a, -1] ∈ vkeys [s, t] F := fun a ha => by
    have := X.vk fa (o4 a ha 0 zb).1
    rwa [(o4 a ha 0 zb).2.2.1] at this
  have kb : ∀ b ∈ rgL 0 t, [-1, b] ∈ vkeys [s, t] F := fun b hb => by
    have := X.vk fb (o4 0 za b hb).1
    rwa [(o4 0 za b hb).2.2.2.1] at this
  have k0 : [-1, -1] ∈ vkeys [s, t] F := by
    have := X.vk f0 (o4 0 za 0 zb).1
    rwa [(o4 0 za 0 zb).2.1] at this
  have aNa : aN [s, t] F [0] = [] := by rw [hF]; rfl
  have aNb : aN [s, t] F [1] = [] := by rw [hF]; rfl
  have aN0 : aN [s, t] F [] = [[0], [1]] := by rw [hF]; rfl
  have Wa : ∀ a ∈ rgL 0 s, ∀ b ∈ rgL 0 t, Wv [s, t] F ws [0] [a, b] = lk (shOf ws) [a, b] := fun a ha b hb => by
    rw [X.w_eq fa (by rw [fp]; decide) (o4 a ha b hb).1, aNa, fp, (o4 a ha b hb).2.2.2.2]
    show _ * rprod [] = _
    rw [rprod_nil, Rat.mul_one]
  have Wb : ∀ a ∈ rgL 0 s, ∀ b ∈ rgL 0 t, Wv [s, t] F ws [1] [a, b] = lk (shOf ws) [a, b] := fun a ha b hb => by
    rw [X.w_eq fb (by rw [fp]; decide) (o4 a ha b hb).1, aNb, fp, (o4 a ha b hb).2.2.2.2]
    show _ * rprod [] = _
    rw [rprod_nil, Rat.mul_one]
  have ga : ∀ a ∈ rgL 0 s, sgm [s, t] [0] (Wv [s, t] F ws [0]) [a, -1] = fsA (shOf ws) t a := fun a ha => by
    unfold sgm fsA
    rw [o2 a ha, List.map_map]
    congr 1
    exact List.map_congr_left fun b hb => Wa a ha b hb
  have gb : ∀ b ∈ rgL 0 t, sgm [s, t] [1] (Wv [s, t] F ws [1]) [-1, b] = snB (shOf ws) s b := fun b hb => by
    unfold sgm snB
    rw [o3 b hb, List.map_map]
    congr 1
    exact List.map_congr_left fun a ha => Wb a ha b hb
  have Qa : ∀ a ∈ rgL 0 s, Qv [s, t] F ws [a, -1] = byA (shOf ws) t a := fun a ha => by
    have := X.rec_ fa (o4 a ha 0 zb).1
    rwa [(o4 a ha 0 zb).2.2.1, ga a ha] at this
  have Qb : ∀ b ∈ rgL 0 t, Qv [s, t] F ws [-1, b] = byB (shOf ws) s b := fun b hb => by
    have := X.rec_ fb (o4 0 za b hb).1
    rwa [(o4 0 za b hb).2.2.2.1, gb b hb] at this
  have Qf : ∀ a ∈ rgL 0 s, ∀ b ∈ rgL 0 t, Qv [s, t] F ws [a, b] = lk (shOf ws) [a, b] := fun a ha b hb => by
    have := X.qfull (o4 a ha b hb).1
    rwa [fp, (o4 a ha b hb).2.2.2.2] at this
  have W0 : ∀ a ∈ rgL 0 s, ∀ b ∈ rgL 0 t, Wv [s, t] F ws [] [a, b] = byA (shOf ws) t a * byB (shOf ws) s b * lk (shOf ws) [a, b] := fun a ha b hb => by
    rw [X.w_eq f0 (by rw [fp]; decide) (o4 a ha b hb).1, aN0, fp, (o4 a ha b hb).2.2.2.2]
    show _ * rprod [Qv [s, t] F ws (view [a, b] [0]), Qv [s, t] F ws (view [a, b] [1])] = _
    rw [rprod_cons, rprod_cons, rprod_nil, (o4 a ha b hb).2.2.1, (o4 a ha b hb).2.2.2.1, Qa a ha, Qb b hb]
    grind
  have cm : ∀ c ∈ contents [s, t], ∃ a ∈ rgL 0 s, ∃ b ∈ rgL 0 t, c = [a, b] := fun c hc => by
    rw [contents_two] at hc
    obtain ⟨p, hp, rfl⟩ := List.mem_map.mp hc
    obtain ⟨h1, h2⟩ := pairs_mem hp
    exact ⟨p.1, h1, p.2, h2, rfl⟩
  have fW : ∀ c ∈ contents [s, t], fA (shOf ws) s t (c, []) = Wv [s, t] F ws [] c := fun c hc => by
    obtain ⟨a, ha, b, hb, rfl⟩ := cm c hc
    rw [W0 a ha b hb]
    rfl
  have pa : ∀ a ∈ rgL 0 s, 0 < fsA (shOf ws) t a := fun a ha => by
    have := X.gpos (p := [0]) (o4 a ha 0 zb).1
    rwa [(o4 a ha 0 zb).2.2.1, ga a ha] at this
  have pb : ∀ b ∈ rgL 0 t, 0 < snB (shOf ws) s b := fun b hb => by
    have := X.gpos (p := [1]) (o4 0 za b hb).1
    rwa [(o4 0 za b hb).2.2.2.1, gb b hb] at this
  have bqa : ∀ a ∈ rgL 0 s, Bq 2006 (byA (shOf ws) t a) := fun a ha => by
    have := X.qb' fa (o4 a ha 0 zb).1
    rwa [(o4 a ha 0 zb).2.2.1, Qa a ha] at this
  have bqb : ∀ b ∈ rgL 0 t, Bq 2006 (byB (shOf ws) s b) := fun b hb => by
    have := X.qb' fb (o4 0 za b hb).1
    rwa [(o4 0 za b hb).2.2.2.1, Qb b hb] at this
  have rowA : ∀ a ∈ rgL 0 s, (rgL 0 t).map (fun b => lk (shOf ws) [a, b]) = ((rgL 0 t).map fun b => [a, b]).map (lk (shOf ws)) := fun a _ => by rw [List.map_map]; rfl
  have rowB : ∀ b ∈ rgL 0 t, (rgL 0 s).map (fun a => lk (shOf ws) [a, b]) = ((rgL 0 s).map fun a => [a, b]).map (lk (shOf ws)) := fun b _ => by rw [List.map_map]; rfl
  have sbA : ∀ a ∈ rgL 0 s, ∀ i, Bt 38 (rsum (((rgL 0 t).map fun b => lk (shOf ws) [a, b]).take i)) := fun a ha i => by
    rw [rowA a ha, ← List.map_take]
    refine X.lkbt (fun v hv => ?_) (by rw [List.length_take, List.length_map]; omega)
    obtain ⟨b, hb, rfl⟩ := List.mem_map.mp (List.mem_of_mem_take hv)
    exact kab a ha b hb
  have sbB : ∀ b ∈ rgL 0 t, ∀ i, Bt 38 (rsum (((rgL 0 s).map fun a => lk (shOf ws) [a, b]).take i)) := fun b hb i => by
    rw [rowB b hb, ← List.map_take]
    refine X.lkbt (fun v hv => ?_) (by rw [List.length_take, List.length_map]; omega)
    obtain ⟨a, ha, rfl⟩ := List.mem_map.mp (List.mem_of_mem_take hv)
    exact kab a ha b hb
  have fbA : ∀ a ∈ rgL 0 s, Bt 38 (fsA (shOf ws) t a) := fun a ha => by
    have := sbA a ha ((rgL 0 t).map fun b => lk (shOf ws) [a, b]).length
    rwa [List.take_length] at this
  have fbB : ∀ b ∈ rgL 0 t, Bt 38 (snB (shOf ws) s b) := fun b hb => by
    have := sbB b hb ((rgL 0 s).map fun a => lk (shOf ws) [a, b]).length
    rwa [List.take_length] at this
  have sb : ∀ v ∈ vkeys [s, t] F, Bt 38 (lk (shOf ws) v) := fun v hv => (X.sbq hv).bt (by decide)
  obtain ⟨d1, d2⟩ := put_dict (fA (shOf ws) s t) (l2 s t)
  rw [← by2_eq] at d1 d2
  have keys2 : ∀ k : PK, k ∈ (by2 (shOf ws) s t (pairsOf s t)).map (·.1) ↔ k ∈ l2 s t := fun k => by
    constructor
    · intro h
      obtain ⟨v, e⟩ := look_some h
      rw [d2] at e
      by_cases z : k ∈ l2 s t
      · exact z
      · rw [if_neg z] at e; cases e
    · intro h
      refine Decidable.byContradiction fun z => ?_
      have := look_none z
      rw [d2, if_pos h] at this
      cases this
  have m0 : ∀ c ∈ contents [s, t], ((c, []) : PK) ∈ l2 s t := fun c hc => mem_l2.mpr ⟨hc, by simp⟩
  have lk2 : ∀ c ∈ contents [s, t], lkG (by2 (shOf ws) s t (pairsOf s t)) (c, []) = Wv [s, t] F ws [] c := fun c hc => by
    unfold lkG
    rw [d2, if_pos (m0 c hc)]
    exact fW c hc
  have eT : T2 (by2 (shOf ws) s t (pairsOf s t)) (contents [s, t]) = sgm [s, t] [] (Wv [s, t] F ws []) [-1, -1] := by
    unfold T2 sgm
    rw [o1]
    congr 1
    exact List.map_congr_left fun c hc => lk2 c hc
  have Tp : 0 < T2 (by2 (shOf ws) s t (pairsOf s t)) (contents [s, t]) := by
    rw [eT]
    have := X.gpos (p := []) (o4 0 za 0 zb).1
    rwa [(o4 0 za 0 zb).2.1] at this
  have v0 : ∀ c ∈ contents [s, t], view c [] = view [0, 0] [] := fun c hc => by
    obtain ⟨a, ha, b, hb, rfl⟩ := cm c hc
    rw [(o4 a ha b hb).2.1, (o4 0 za 0 zb).2.1]
  have Tb : Bt 2050 (T2 (by2 (shOf ws) s t (pairsOf s t)) (contents [s, t])) := by
    rw [eT]
    unfold sgm
    rw [o1]
    exact X.gb f0 (o4 0 za 0 zb).1 (fun d hd => ⟨hd, v0 d hd⟩) X.c16
  have key2 : ∀ c ∈ contents [s, t], ((c, []) : PK) ∈ (by2 (shOf ws) s t (pairsOf s t)).map (·.1) := fun c hc => (keys2 _).mpr (m0 c hc)
  have ok : ByOk2 (shOf ws) s t := by
    refine ⟨by omega, by omega, fun a ha b hb => ⟨by rw [X.skeys]; exact kab a ha b hb, by rw [X.skeys]; exact ka a ha, by rw [X.skeys]; exact kb b hb⟩, by rw [X.skeys]; exact k0, fun x hx i a ha => ?_, fun y hy i a ha => ?_, fun a ha => ⟨ok2_of (sb _ (ka a ha)) (fbA a ha) (by decide), num_pos.mp (pa a ha)⟩, fun b hb => ⟨ok2_of (sb _ (kb b hb)) (fbB b hb) (by decide), num_pos.mp (pb b hb)⟩, fun a ha b hb => ⟨?_, ?_, ?_, ?_⟩, key2, fun i a ha => ?_, num_pos.mp Tp, fun i c hc m hm => ?_⟩
    · refine ok2_of (sbA x hx i) ?_ (by decide : 38 + 38 ≤ 8999)
      rw [List.getElem?_map] at ha
      obtain ⟨b, hb, e⟩ := Option.map_eq_some_iff.mp ha
      rw [← e]
      exact sb _ (kab x hx b (List.mem_of_getElem? hb))
    · refine ok2_of (sbB y hy i) ?_ (by decide : 38 + 38 ≤ 8999)
      rw [List.getElem?_map] at ha
      obtain ⟨b, hb, e⟩ := Option.map_eq_some_iff.mp ha
      rw [← e]
      exact sb _ (kab b (List.mem_of_getElem? hb) y hy)
    · exact ok2_of (n := 2007) ((bqa a ha).bt (by decide)) (sb _ (kab a ha b hb)) (by decide)
    · exact ok2_of (n := 2007) ((bqb b hb).bt (by decide)) (sb _ (kab a ha b hb)) (by decide)
    · exact ok2_of (n := 2007) (m := 2007) ((bqa a ha).bt (by decide)) ((bqb b hb).bt (by decide)) (by decide)
    · exact ok2_of (n := 4013) ((bq_mul (bqa a ha) (bqb b hb)).bt (by decide)) (sb _ (kab a ha b hb)) (by decide)
    · have e : (contents [s, t]).map (fun c => lkG (by2 (shOf ws) s t (pairsOf s t)) (c, [])) = (contents [s, t]).map (Wv [s, t] F ws []) := List.map_congr_left fun c hc => lk2 c hc
      rw [e] at ha ⊢
      rw [List.getElem?_map] at ha
      obtain ⟨c, hc, ec⟩ := Option.map_eq_some_iff.mp ha
      rw [← List.map_take, ← ec]
      refine ok2_of (n := 2050) (m := 752) (X.gb f0 (o4 0 za 0 zb).1 (fun d hd => ⟨List.mem_of_mem_take hd, v0 d (List.mem_of_mem_take hd)⟩) ?_) ((X.Wb f0 (List.mem_of_getElem? hc)).bt (by decide)) (by decide)
      rw [List.length_take]
      have := X.c16
      omega
    · have hcm := List.mem_of_getElem? hc
      obtain ⟨b1, b2⟩ := by3_look (lk (shOf ws) [-1, -1]) (T2 (by2 (shOf ws) s t (pairsOf s t)) (contents [s, t])) ((contents [s, t]).take i) (by2 (shOf ws) s t (pairsOf s t)) (X.cnd.sublist (List.take_sublist _ _)) fun d hd => key2 d (List.mem_of_mem_take hd)
      have hnt : c ∉ (contents [s, t]).take i := fun q => by
        obtain ⟨j, hj, ej⟩ := List.getElem_of_mem q
        rw [List.length_take] at hj
        rw [List.getElem_take] at ej
        obtain ⟨h3, h4⟩ := List.getElem?_eq_some_iff.mp hc
        have := (List.getElem_inj X.cnd).mp (ej.trans h4.symm)
        omega
      have el : lkG m (c, []) = Wv [s, t] F ws [] c := by
        rw [← lk2 c hcm, hm]
        unfold lkG
        rw [b2 (c, []), if_neg fun q => hnt q.1]
      rw [el]
      refine ⟨by rw [hm, b1]; exact key2 c hcm, ok2_of (n := 752) ((X.Wb f0 hcm).bt (by decide)) (sb _ k0) (by decide), ok2_of (n := 789) ((bq_mul (X.Wb f0 hcm) (X.sbq k0)).bt (by decide)) Tb (by decide)⟩
  refine ⟨_, ByOk.two s t ok X.hz, ?_⟩
  obtain ⟨b1, b2⟩ := by3_look (lk (shOf ws) [-1, -1]) (T2 (by2 (shOf ws) s t (pairsOf s t)) (contents [s, t])) (contents [s, t]) (by2 (shOf ws) s t (pairsOf s t)) X.cnd key2
  unfold byTwo
  have Q0 : Qv [s, t] F ws [-1, -1] = lk (shOf ws) [-1, -1] / T2 (by2 (shOf ws) s t (pairsOf s t)) (contents [s, t]) := by
    have := X.rec_ f0 (o4 0 za 0 zb).1
    rwa [(o4 0 za 0 zb).2.1, ← eT] at this
  have Tn : T2 (by2 (shOf ws) s t (pairsOf s t)) (contents [s, t]) ≠ 0 := by grind
  refine X.by_gen (l2 s t) (fun k => by rw [mem_l2, mem_PL, hF]) _ (by rw [b1]; exact d1) fun k => ⟨fun z => ?_, fun z => ?_⟩
  · rw [b2 k]
    obtain ⟨c, p⟩ := k
    obtain ⟨z1, z2⟩ := mem_l2.mp z
    have z1 : c ∈ contents [s, t] := z1
    have z2 : p ∈ [[], [0], [0, 1], [1]] := z2
    by_cases hpn : p = []
    · subst hpn
      rw [if_pos ⟨z1, rfl⟩, lk2 c z1, X.dV_eq f0]
      obtain ⟨a, ha, b, hb, rfl⟩ := cm c z1
      show _ = some (Qv [s, t] F ws (view [a, b] []) * Wv [s, t] F ws [] [a, b])
      rw [(o4 a ha b hb).2.1, Q0]
      congr 1
      grind
    · rw [if_neg fun q => hpn q.2, d2, if_pos z]
      congr 1
      obtain ⟨a, ha, b, hb, rfl⟩ := cm c z1
      simp only [List.mem_cons, List.not_mem_nil, or_false] at z2
      rcases z2 with e | e | e | e
      · exact absurd e hpn
      · subst e
        show _ = dV [s, t] F ws [a, b] [0]
        rw [X.dV_eq fa, (o4 a ha b hb).2.2.1, Qa a ha, Wa a ha b hb]
        rfl
      · subst e
        show _ = dV [s, t] F ws [a, b] [0, 1]
        rw [X.dV_eq ff, (o4 a ha b hb).2.2.2.2, Qf a ha b hb]
        have : Wv [s, t] F ws [0, 1] [a, b] = 1 := X.wfull [a, b]
        rw [this, Rat.mul_one]
        rfl
      · subst e
        show _ = dV [s, t] F ws [a, b] [1]
        rw [X.dV_eq fb, (o4 a ha b hb).2.2.2.1, Qb b hb, Wb a ha b hb]
        rfl
  · rw [b2 k, if_neg fun q => z (mem_l2.mpr ⟨q.1, by rw [q.2]; simp⟩), d2, if_neg z]
end
section
variable {sz : List Int} {F : List (List Int)} {ws : List (List Int × Int)}
theorem Ctx.by_ (X : Ctx sz F ws) (h3 : sz.length < 3) (hF : F.length = (if sz.length = 1 then 2 else 4)) : ∃ res, ByOk (shOf ws) sz res ∧ res.length = (dueK sz F ws).length ∧ ∀ p ∈ res, look (dueK sz F ws) p.1 = some p.2 := by
  match sz, X, h3, hF with
  | [], X, _, _ => exact absurd X.hz (by decide)
  | [s], X, _, hF => exact X.byOne (X.Fal hF)
  | [s, t], X, _, hF => exact X.byTwo_ (X.Fal hF)
  | _ :: _ :: _ :: _, _, h3, _ => exact absurd h3 (by simp)
/-- the plain law -/
theorem plain_law (hz : sz ∈ allSz) (hF : FamD sz.length F) (hw : WsOk (vkeys sz F) ws) : LawOk sz F ws := by
  have X : Ctx sz F ws := ⟨hz, famFacts (sz_facts sz hz).1 (famD_mem (sz_facts sz hz).1 hF), hw⟩
  exact {
    few := by have := X.few; omega
    short := fun p hp => X.short hp
    sh := X.shOk
    shl := by have := X.slen; omega
    seen := X.seen
    lq := X.lq
    due := X.due
    hl := X.hl
    hid1 := X.hid_perm.length_eq
    hid2 := X.hid2
    unc := X.unc
    by_ := fun h1 h2 => X.by_ h1 h2
    calm := X.calmOk
    whole := X.whole
    duel := by have := X.dlen; omega
    told := X.toldW
    hok := X.hok
    hide := X.hide
    qf := X.qf
    ownl := X.olen
    qrows := by rw [X.qof_eq]; rfl
    qkey := X.qkey
    qval := fun v _ => by rw [X.qof_eq] }
theorem fam_few (n : Nat) (hn : n ∈ Ns) (F : List (List Int)) (hF : FamD n F) : F.length ≤ 20 ∧ ∀ p ∈ F, p.length ≤ 100 := by
  have f := famFacts hn (famD_mem hn hF)
  refine ⟨?_, fun p hp => by have := al_lot n hn p (f.sub p hp); omega⟩
  have h1 := f.perm.length_eq
  have h3 : (dn n F).length ≤ (dl n).length := List.length_filter_le _ _
  have h4 := dl_len n hn
  omega
end
end CB
end
section
set_option Elab.async false
set_option linter.all false
set_option maxRecDepth 100000
set_option maxHeartbeats 2000000
/-! The head's facts, as the walk wants them. -/
namespace CB
open PySem PySem.Spec PyProof.Rows L2 Enc
namespace Hd
section
variable {K : PySem.W.Frag} {h : Heap} {mg : Str → Option Value} {w : World}
theorem fa_mem {f : He.Fa} : FA = fa → f ∈ fa → f ∈ FA := fun e m => by rw [e]; exact m
theorem m_glo {p : Str × Nat} (m : p ∈ dAll) : He.Fa.glo p.1 ∈ FA := by
  unfold FA fa
  simp only [List.mem_append]
  exact .inl (.inl (.inl (.inl (.inl (.inl (List.mem_map.mpr ⟨p, m, rfl⟩))))))
theorem m_globs {x : Str} (m : x ∈ globs) : He.Fa.glo x ∈ FA := by
  unfold FA fa
  simp only [List.mem_append]
  exact .inl (.inl (.inl (.inl (.inl (.inr (List.mem_map_of_mem m))))))
theorem m_free {x : Str} (m : x ∈ frees) : He.Fa.free x ∈ FA := by
  unfold FA fa
  simp only [List.mem_append]
  exact .inl (.inl (.inl (.inl (.inr (List.mem_map_of_mem m)))))
theorem m_free2 {x : Str} (m : x ∈ frees2) : He.Fa.free x ∈ FA := by
  unfold FA fa
  simp only [List.mem_append]
  exact .inl (.inl (.inl (.inr (List.mem_map_of_mem m))))
theorem m_int {f : He.Fa} (m : f ∈ ([.int "MOST_COLUMNS" 4, .int "MOST_WORTHS" 4, .int "MOST_CONTENTS" 64, .int "BLANK" (-1)] : List He.Fa)) : f ∈ FA := by
  unfold FA fa
  simp only [List.mem_append]
  exact .inl (.inl (.inr m))
theorem m_ofC {x : Str} {f : He.Fa} (hx : x = "Seen" ∨ x = "Whole") (m : f ∈ ofC x) : f ∈ FA := by
  unfold FA fa
  simp only [List.mem_append]
  rcases hx with rfl | rfl
  · exact .inl (.inr m)
  · exact .inr m
abbrev Facts (w : World) (h : Heap) (K : PySem.W.Frag) : Prop := He.SaysX FA FN [] TF EX w h K
theorem has_of (X : K.In h) (G : h.Ns mainGlobals mg) (c : Facts w h K) (x : Str) (i : Nat) (m : (x, i) ∈ dAll := by decide +kernel) : Has K mg i x := by
  obtain ⟨fd, F⟩ := c.t.d.defs (d := mkD (x, i)) (List.mem_append_left _ (List.mem_map_of_mem m))
  exact ⟨_, fd, He.glo_ok X G (c.t.d.facts (m_glo m)), F⟩
theorem hasC_of (X : K.In h) (G : h.Ns mainGlobals mg) (c : Facts w h K) (x : Str) (i : Nat) (m : (x, i) ∈ dAll := by decide +kernel) : HasC K mg i x (He.cT K (x, none)).1 := by
  obtain ⟨fd, F⟩ := c.t.d.defs (d := mkD (x, i)) (List.mem_append_left _ (List.mem_map_of_mem m))
  obtain ⟨oc, od, dV, kV, doc, pm, an, cdv, ct, osl, rfl, lk, hcd, hD, _⟩ := F.ex
  obtain ⟨cc, rfl⟩ := He.codeIn_ref hcd
  have ec : He.codeOf K (x, none) = cc := He.codeOf_eq lk rfl
  rcases hD with ⟨_, rfl⟩ | ⟨e, _⟩
  · exact ⟨_, oc, od, kV, doc, pm, an, ct, osl, He.glo_ok X G (c.t.d.facts (m_glo m)), by
      show K.lookup _ = some ⟨oc, od, .func (PySem.W.fnOf x x _ _ _ .none kV doc pm an (.ref (He.codeOf K (x, none))) ct), osl⟩
      rw [ec]
      exact lk, by
      show PySem.W.codeIn K (.ref (He.codeOf K (x, none))) x = true
      rw [ec]
      exact hcd, F.kp⟩
  · exact absurd rfl e
theorem hasM_of (c : Facts w h K) (C m q : Str) (st : Stmt) (hm : mkM C m q st ∈ dM) : HasM K (He.ma K (He.ga K C) m) st m q (He.cT K (C, some m)).1 := by
  obtain ⟨fd, F⟩ := c.t.d.defs (d := mkM C m q st) (List.mem_append_right _ hm)
  obtain ⟨oc, od, dV, kV, doc, pm, an, cdv, ct, osl, rfl, lk, hcd, hD, _⟩ := F.ex
  obtain ⟨cc, rfl⟩ := He.codeIn_ref hcd
  have ec : He.codeOf K (C, some m) = cc := He.codeOf_eq lk rfl
  rcases hD with ⟨_, rfl⟩ | ⟨e, _⟩
  · exact ⟨oc, od, kV, doc, pm, an, ct, osl, by
      show K.lookup _ = some ⟨oc, od, .func (PySem.W.fnOf m q _ _ _ .none kV doc pm an (.ref (He.codeOf K (C, some m))) ct), osl⟩
      rw [ec]
      exact lk, by
      show PySem.W.codeIn K (.ref (He.codeOf K (C, some m))) q = true
      rw [ec]
      exact hcd⟩
  · exact absurd rfl e
theorem bi_of (X : K.In h) (G : h.Ns mainGlobals mg) (c : Facts w h K) : Bi mg := by
  have f : ∀ x ∈ frees, mg x = none := fun x m => He.free_ok X G (c.t.d.facts (m_free m))
  have f2 : ∀ x ∈ frees2, mg x = none := fun x m => He.free_ok X G (c.t.d.facts (m_free2 m))
  exact ⟨f _ (by decide +kernel), f _ (by decide +kernel), f _ (by decide +kernel), f _ (by decide +kernel), f _ (by decide +kernel), f _ (by decide +kernel), f _ (by decide +kernel), f _ (by decide +kernel), f2 _ (by decide +kernel), f2 _ (by decide +kernel), f2 _ (by decide +kernel), f2 _ (by decide +kernel), f2 _ (by decide +kernel), f2 _ (by decide +kernel), f2 _ (by decide +kernel), f2 _ (by decide +kernel)⟩
theorem rat_of {x : Str} {n : Int} {d : Nat} {r : Rat} (h1 : r.num = n) (h2 : r.den = d) (e : He.tupB K x [.int n, .int (d : Int)] = true) (H : Hp) : rD K r H (.ref (He.ga K x)) := by
  refine ⟨_, _, rfl, He.tupB_ok e H, ?_⟩
  rw [h1, h2]
  exact ⟨_, _, rfl, rfl, _, _, rfl, rfl, rfl⟩
theorem ex_of (c : Facts w h K) : exC K "Seen" = true ∧ exC K "Whole" = true ∧ PySem.W.specialIn K (.builtin "object.__class__") "__get__" = some (some (.builtin "getset_descriptor.__get__")) ∧ PySem.W.takesIn K (.builtin "object.__class__") = some true ∧
    He.tupB K "ZERO" [.int 0, .int 1] = true ∧ He.tupB K "ONE" [.int 1, .int 1] = true ∧ (tf.map fun p => (He.cT K p).2).Nodup := by
  obtain ⟨a1, c1⟩ := He.ba (show ex K = true from c.more)
  obtain ⟨a2, c2⟩ := He.ba c1
  obtain ⟨a3, c3⟩ := He.ba c2
  obtain ⟨a4, c4⟩ := He.ba c3
  obtain ⟨a5, c5⟩ := He.ba c4
  obtain ⟨a6, c6⟩ := He.ba c5
  exact ⟨a1, a2, He.eqO_ok a3, of_decide_eq_true a4, a5, a6, of_decide_eq_true c6⟩
theorem glo_of (X : K.In h) (G : h.Ns mainGlobals mg) (c : Facts w h K) : Glo K mg := by
  obtain ⟨_, _, _, _, z, o, _⟩ := ex_of c
  exact { zero := ⟨_, He.glo_ok X G (c.t.d.facts (m_globs (by decide +kernel))), rat_of rfl rfl z⟩
          one := ⟨_, He.glo_ok X G (c.t.d.facts (m_globs (by decide +kernel))), rat_of rfl rfl o⟩
          columns := He.int_ok X G (c.t.d.facts (m_int (.head _)))
          worths := He.int_ok X G (c.t.d.facts (m_int (.tail _ (.head _))))
          contents := He.int_ok X G (c.t.d.facts (m_int (.tail _ (.tail _ (.head _)))))
          blank := He.int_ok X G (c.t.d.facts (m_int (.tail _ (.tail _ (.tail _ (.head _)))))) }
theorem cls_of (X : K.In h) (G : h.Ns mainGlobals mg) (c : Facts w h K) (x : Str) (hx : x = "Seen" ∨ x = "Whole") : ClsK K mg x (He.ga K x) (He.ma K (He.ga K x) "__init__") (He.ma K (He.ga K x) "__eq__") := by
  obtain ⟨s1, s2, g1, g2, _⟩ := ex_of c
  have e1 : exC K x = true := by rcases hx with rfl | rfl <;> assumption
  obtain ⟨b1, e2⟩ := He.ba e1
  obtain ⟨b2, e3⟩ := He.ba e2
  obtain ⟨b3, b4⟩ := He.ba e3
  have hg : x ∈ globs := by rcases hx with rfl | rfl <;> decide +kernel
  have me := He.meth_ok (c.t.d.facts (m_ofC (f := .meth x "__eq__") hx (.tail _ (.tail _ (.tail _ (.head _))))))
  exact { glo := He.glo_ok X G (c.t.d.facts (m_globs hg))
          cls := He.cls_ok (c.t.d.facts (m_ofC hx (.head _)))
          mkr := He.mkr_ok (c.t.d.facts (m_ofC hx (.tail _ (.tail _ (.tail _ (.tail _ (.head _)))))))
          sz := He.noat_ok (c.t.d.facts (m_ofC hx (.tail _ (.head _))))
          sh := He.noat_ok (c.t.d.facts (m_ofC hx (.tail _ (.tail _ (.head _)))))
          eq := me.at_
          fn := me.fn
          ne := He.eqO_ok b1
          mro := of_decide_eq_true b2
          ca := He.eqO_ok b3
          cg := g1
          ct := g2
          iso := of_decide_eq_true b4 }
/-! ### the tables -/
def qn : He.Defn → Str
  | (x, none) => x
  | (x, some m) => x ++ "." ++ m
def tbl (K : PySem.W.Frag) : List (Addr × Str) := tf.map fun p => ((He.cT K p).2, lamQ (qn p))
theorem uniq_of : ∀ {l : List (Addr × Str)} {P : Addr} {q : Str}, (l.map (·.1)).Nodup → (P, q) ∈ l → ∀ p ∈ l, p.1 = P → p.2 = q
  | a :: r, P, q, nd, m, p, hp, e => by
    have n2 := List.nodup_cons.mp nd
    rcases List.mem_cons.mp m with m | m
    · rcases List.mem_cons.mp hp with h | h
      · rw [h, ← m]
      · exact absurd (List.mem_map.mpr ⟨p, h, by rw [e, ← m]⟩) n2.1
    · rcases List.mem_cons.mp hp with h | h
      · exact absurd (List.mem_map.mpr ⟨(P, q), m, by rw [← h]; exact e.symm⟩) n2.1
      · exact uniq_of n2.2 m p h e
theorem lamK_of [Tbs] (hT : Tbs.T = tbl K) {base : Heap} (nd : (tf.map fun p => (He.cT K p).2).Nodup) (B : ∀ p ∈ tf.map (He.cT K), LamX.TabB base mg p.1 p.2) (p : He.Defn) (x : Str) (hx : qn p = x) (m : p ∈ tf) : LamK base mg x (He.cT K p).1 (He.cT K p).2 := by
  have mm : ((He.cT K p).2, lamQ x) ∈ tbl K := List.mem_map.mpr ⟨p, m, by rw [hx]⟩
  refine ⟨B _ (List.mem_map_of_mem m), by rw [hT]; exact mm, ?_⟩
  rw [hT]
  refine uniq_of ?_ mm
  unfold tbl
  rw [List.map_map]
  exact nd
end
end Hd
end CB
end
section
set_option Elab.async false
set_option linter.all false
set_option maxRecDepth 100000
set_option maxHeartbeats 2000000
/-! All defs knit together. -/
namespace CB
open PySem PySem.Spec PyProof.Rows L2 Enc
namespace Hd
theorem few3 {n : Nat} (h1 : 1 ≤ n) (h2 : n ≤ 3) : n ∈ Ns := by
  have e : n = 1 ∨ n = 2 ∨ n = 3 := by omega
  rcases e with rfl | rfl | rfl <;> decide
theorem law_ok [Tbs] {P : Program} {w : World} {K : PySem.W.Frag} {h base : Heap} {mg : Str → Option Value} {f : Addr} {fd : FuncData} (X : K.In h) (G : h.Ns mainGlobals mg) (c : Facts w h K) (hT : Tbs.T = tbl K)
    (B : ∀ p ∈ tf.map (He.cT K), LamX.TabB base mg p.1 p.2) (F : FnP K "law" (top 94) f fd) : FnOk P w K mg base CX0 15 f fd ["_law_script"] (spF (pLaw K)) := by
  have Bm := bi_of X G c
  have Gl := glo_of X G c
  have CS := cls_of X G c "Seen" (.inl rfl)
  have CW := cls_of X G c "Whole" (.inr rfl)
  obtain ⟨_, _, _, _, _, _, nd⟩ := ex_of c
  have q_is_integer := k_is_integer (P := P) (w := w) (base := base) (has_of X G c "is_integer" 1) Bm
  have q_is_within := k_is_within (P := P) (w := w) (base := base) (has_of X G c "is_within" 2) q_is_integer
  have q_divisor := k_divisor (P := P) (w := w) (base := base) (has_of X G c "divisor" 16)
  have q_lowest := k_lowest (P := P) (w := w) (base := base) (has_of X G c "lowest" 17) Bm q_divisor
  have q_plus := k_plus (P := P) (w := w) (base := base) (has_of X G c "plus" 19) q_lowest
  have q_times := k_times (P := P) (w := w) (base := base) (has_of X G c "times" 20) q_lowest
  have q_over := k_over (P := P) (w := w) (base := base) (has_of X G c "over" 21) q_lowest
  have q_is_pair := k_is_pair (P := P) (w := w) (base := base) (has_of X G c "is_pair" 4) Bm
  have q_is_fraction := k_is_fraction (P := P) (w := w) (base := base) (has_of X G c "is_fraction" 18) Bm q_is_pair q_is_integer q_divisor
  have q_add_all := k_add_all (P := P) (w := w) (base := base) (has_of X G c "add_all" 22) Gl.zero.choose_spec.1 Gl.zero.choose_spec.2 q_plus
  have q_is_sizes := k_is_sizes (P := P) (w := w) (base := base) (has_of X G c "is_sizes" 29) Bm Gl q_is_within
  have q_is_content := k_is_content (P := P) (w := w) (base := base) (has_of X G c "is_content" 30) Bm Gl q_is_within
  have q_is_view := k_is_view (P := P) (w := w) (base := base) (has_of X G c "is_view" 31) Bm Gl q_is_within
  have q_tuples_of := k_tuples_of (P := P) (w := w) (base := base) (has_of X G c "tuples_of" 32)
  have q__law_tuples := k__law_tuples (P := P) (w := w) (base := base) (has_of X G c "_law_tuples" 79)
  have q_contents_of := k_contents_of (P := P) (w := w) (base := base) (has_of X G c "contents_of" 33) Bm q_tuples_of
  have q__law_contents := k__law_contents (P := P) (w := w) (base := base) (has_of X G c "_law_contents" 80) Bm q__law_tuples
  have q_views_of := k_views_of (P := P) (w := w) (base := base) (has_of X G c "views_of" 35) Bm Gl q_tuples_of
  have q_view_of := k_view_of (P := P) (w := w) (base := base) (has_of X G c "view_of" 36) Bm Gl
  have q__law_view := k__law_view (P := P) (w := w) (base := base) (has_of X G c "_law_view" 82) Bm Gl
  have q_pattern_of := k_pattern_of (P := P) (w := w) (base := base) (has_of X G c "pattern_of" 37) Bm Gl
  have q_shows_more := k_shows_more (P := P) (w := w) (base := base) (has_of X G c "shows_more" 54) Bm
  have q__law_shows_more := k__law_shows_more (P := P) (w := w) (base := base) (has_of X G c "_law_shows_more" 83) Bm
  have q_even_tilts := k_even_tilts (P := P) (w := w) (base := base) (has_of X G c "even_tilts" 57) Bm Gl
  have q__law_even := k__law_even (P := P) (w := w) (base := base) (has_of X G c "_law_even" 92) Bm Gl
  have q__law_low := k__law_low (P := P) (w := w) (base := base) (has_of X G c "_law_low" 72) Bm
  have q__law_plus := k__law_plus (P := P) (w := w) (base := base) (has_of X G c "_law_plus" 73) q__law_low
  have q__law_times := k__law_times (P := P) (w := w) (base := base) (has_of X G c "_law_times" 74) q__law_low
  have q__law_over := k__law_over (P := P) (w := w) (base := base) (has_of X G c "_law_over" 75) q__law_low
  have q__law_sum := k__law_sum (P := P) (w := w) (base := base) (has_of X G c "_law_sum" 76) q__law_plus
  have q__law_all_times := k__law_all_times (P := P) (w := w) (base := base) (has_of X G c "_law_all_times" 77) q__law_times
  have q_is_lot := k_is_lot (P := P) (w := w) (base := base) (has_of X G c "is_lot" 3) Bm q_is_within
  have q_is_place := k_is_place (P := P) (w := w) (base := base) (has_of X G c "is_place" 41) Bm q_is_pair q_is_content q_is_lot
  have q_tilt_at := k_tilt_at (P := P) (w := w) (base := base) (has_of X G c "tilt_at" 58) Bm Gl q_times
  have q_all_lots := k_all_lots (P := P) (w := w) (base := base) (hasC_of X G c "all_lots" 5) (lamK_of hT nd B ("all_lots", none) "all_lots" (by decide +kernel) (by decide +kernel)) Bm
  have q__law_patterns := k__law_patterns (P := P) (w := w) (base := base) (has_of X G c "_law_patterns" 81) Bm
  have q_patterns_of := k_patterns_of (P := P) (w := w) (base := base) (has_of X G c "patterns_of" 34) Bm q_all_lots
  have q_down := k_down (P := P) (w := w) (base := base) (hasC_of X G c "down" 59) (lamK_of hT nd B ("down", none) "down" (by decide +kernel) (by decide +kernel)) Bm
  have q_first_wrong_I := k_first_wrong (P := P) (w := w) (base := base) (List Int) (by decide) (has_of X G c "first_wrong" 38) Bm q_is_pair q_is_fraction
  have q_first_wrong_P := k_first_wrong (P := P) (w := w) (base := base) (List Int × List Int) (by decide) (has_of X G c "first_wrong" 38) Bm q_is_pair q_is_fraction
  have q_first_bad_I := k_first_bad (P := P) (w := w) (base := base) (List Int) (has_of X G c "first_bad" 39) Bm Gl q_is_sizes q_first_wrong_I q_add_all
  have q_first_bad_P := k_first_bad (P := P) (w := w) (base := base) (List Int × List Int) (has_of X G c "first_bad" 39) Bm Gl q_is_sizes q_first_wrong_P q_add_all
  have q_Seen := k_Seen (P := P) (w := w) (base := base) (hasM_of c "Seen" "__init__" "Seen.__init__" (inClass (top 40) 0) (by unfold dM; exact .head _)) (lamK_of hT nd B ("Seen", some "__init__") "Seen.__init__" (by decide +kernel) (by decide +kernel)) CS.cls CS.sz CS.sh q_first_bad_I q_is_view
  have q_uneven_pattern := k_uneven_pattern (P := P) (w := w) (base := base) (has_of X G c "uneven_pattern" 42) Bm q_contents_of
  have q_Whole := k_Whole (P := P) (w := w) (base := base) (hasM_of c "Whole" "__init__" "Whole.__init__" (inClass (top 43) 0) (by unfold dM; exact .tail _ (.tail _ (.head _)))) (lamK_of hT nd B ("Whole", some "__init__") "Whole.__init__" (by decide +kernel) (by decide +kernel)) CW.cls CW.sz CW.sh q_first_bad_P q_is_place q_uneven_pattern
  have q_sorted_shares_I := k_sorted_shares (P := P) (w := w) (base := base) (List Int) (by decide) (has_of X G c "sorted_shares" 44) Bm
  have q_sorted_shares_P := k_sorted_shares (P := P) (w := w) (base := base) (List Int × List Int) (by decide) (has_of X G c "sorted_shares" 44) Bm
  have q_raw_seen := k_raw_seen (P := P) (w := w) (base := base) (has_of X G c "raw_seen" 45) Bm Gl CS q_Seen q_sorted_shares_I
  have q_raw_whole := k_raw_whole (P := P) (w := w) (base := base) (has_of X G c "raw_whole" 46) Bm Gl CW q_Whole q_sorted_shares_P
  have q_gathered_I := k_gathered (P := P) (w := w) (base := base) (List Int) (by decide) (has_of X G c "gathered" 23) Bm q_plus
  have q_shares_of := k_shares_of (P := P) (w := w) (base := base) (has_of X G c "shares_of" 47) Bm CS
  have q_pattern_at := k_pattern_at (P := P) (w := w) (base := base) (has_of X G c "pattern_at" 48) Bm q_is_pair q_pattern_of
  have q_family := k_family (P := P) (w := w) (base := base) (has_of X G c "family" 49) Bm CS q_pattern_at
  have q_hidden_of := k_hidden_of (P := P) (w := w) (base := base) (has_of X G c "hidden_of" 50) Bm CW q_view_of q_gathered_I
  have q_hidden := k_hidden (P := P) (w := w) (base := base) (has_of X G c "hidden" 51) Bm CW q_hidden_of q_raw_seen
  have q_lacking := k_lacking (P := P) (w := w) (base := base) (has_of X G c "lacking" 52) Bm CS q_shares_of q_family q_views_of
  have q_lacking_of := k_lacking_of (P := P) (w := w) (base := base) (has_of X G c "lacking_of" 55) Bm q_patterns_of q_shows_more
  have q_check_told := k_check_told (P := P) (w := w) (base := base) (has_of X G c "check_told" 56) Bm CS q_lacking q_family q_lacking_of
  have q_weights_at := k_weights_at (P := P) (w := w) (base := base) (has_of X G c "weights_at" 60) Bm Gl q_shows_more q_contents_of q_tilt_at q_view_of q_times
  have q_quotients_by := k_quotients_by (P := P) (w := w) (base := base) (has_of X G c "quotients_by" 61) Bm CS q_shares_of q_family q_down q_weights_at q_view_of q_over q_add_all q_times
  have q_calm_of := k_calm_of (P := P) (w := w) (base := base) (has_of X G c "calm_of" 62) CS q_even_tilts q_quotients_by q_raw_whole
  have q_calm_whole := k_calm_whole (P := P) (w := w) (base := base) (has_of X G c "calm_whole" 63) q_check_told q_calm_of
  have q_calm_part := k_calm_part (P := P) (w := w) (base := base) (has_of X G c "calm_part" 67) q_hidden q_calm_whole
  have q_quotients_of := k_quotients_of (P := P) (w := w) (base := base) (has_of X G c "quotients_of" 64) Bm CS q_even_tilts q_quotients_by q_shares_of q_pattern_of
  have q_quotients := k_quotients (P := P) (w := w) (base := base) (has_of X G c "quotients" 65) Bm q_check_told q_quotients_of
  have q_quotient := k_quotient (P := P) (w := w) (base := base) (has_of X G c "quotient" 66) Bm CS q_check_told q_is_view q_pattern_of q_family q_quotients_of
  have q_Seen_eq := k_Seen_eq (P := P) (w := w) (base := base) (hasM_of c "Seen" "__eq__" "Seen.__eq__" (inClass (top 40) 1) (by unfold dM; exact .tail _ (.head _))) Bm CS
  have q_Whole_eq := k_Whole_eq (P := P) (w := w) (base := base) (hasM_of c "Whole" "__eq__" "Whole.__eq__" (inClass (top 43) 1) (by unfold dM; exact .tail _ (.tail _ (.tail _ (.head _))))) Bm CW
  have q__law_rows_I := k__law_rows (P := P) (w := w) (base := base) (List Int) (by decide) (has_of X G c "_law_rows" 87) Bm
  have q__law_rows_P := k__law_rows (P := P) (w := w) (base := base) (List Int × List Int) (by decide) (has_of X G c "_law_rows" 87) Bm
  have q__law_calm := k__law_calm (P := P) (w := w) (base := base) (has_of X G c "_law_calm" 90) Bm q__law_contents q__law_shows_more q__law_view q__law_all_times
  have q__law_quotients := k__law_quotients (P := P) (w := w) (base := base) (hasC_of X G c "_law_quotients" 89) (lamK_of hT nd B ("_law_quotients", none) "_law_quotients" (by decide +kernel) (by decide +kernel)) Bm q__law_contents q__law_shows_more q__law_view q__law_all_times q__law_plus q__law_over
  have q__law_shares := k__law_shares (P := P) (w := w) (base := base) (has_of X G c "_law_shares" 86) Bm q__law_low
  have q__law_hidden := k__law_hidden (P := P) (w := w) (base := base) (has_of X G c "_law_hidden" 88) Bm q__law_view q__law_plus
  have q__law_tape := k__law_tape (P := P) (w := w) (base := base) (has_of X G c "_law_tape" 69) Bm
  have q__law_pick := k__law_pick (P := P) (w := w) (base := base) (has_of X G c "_law_pick" 70) Bm
  have q__law_any := k__law_any (P := P) (w := w) (base := base) (has_of X G c "_law_any" 71) Bm q__law_pick
  have q__law_sizes := k__law_sizes (P := P) (w := w) (base := base) (has_of X G c "_law_sizes" 78) Bm q__law_any q__law_contents
  have q__law_family := k__law_family (P := P) (w := w) (base := base) (hasC_of X G c "_law_family" 84) (lamK_of hT nd B ("_law_family", none) "_law_family" (by decide +kernel) (by decide +kernel)) Bm q__law_patterns q__law_shows_more q__law_pick
  have q__law_weights := k__law_weights (P := P) (w := w) (base := base) (has_of X G c "_law_weights" 85) Bm q__law_pick q__law_contents q__law_view
  have q__law_uncalm := k__law_uncalm (P := P) (w := w) (base := base) (has_of X G c "_law_uncalm" 91) Bm q__law_contents q__law_over
  have q__law_by_hand := k__law_by_hand (P := P) (w := w) (base := base) (has_of X G c "_law_by_hand" 93) Bm q__law_contents q__law_sum q__law_over q__law_times
  exact k_law (P := P) (w := w) (base := base) F Bm (fun n h1 h2 F hF => fam_few n (few3 h1 h2) F hF) (fun sz hz F hF ws hw => plain_law hz hF hw) CS CW q_Seen q_Whole q_Seen_eq q_Whole_eq q__law_tape q__law_sizes q__law_family q__law_weights q__law_shares q__law_rows_I q__law_rows_P q__law_quotients q__law_calm q__law_hidden q__law_uncalm q__law_even q__law_by_hand q_calm_whole q_hidden q_calm_part q_quotients q_quotient
end Hd
end CB
end
set_option Elab.async false
set_option linter.all false
set_option maxRecDepth 100000
set_option maxHeartbeats 0
namespace CB
open PySem PySem.Spec PyProof.Rows L2 Enc
namespace Hd
theorem law_at {w : World} {K : PySem.W.Frag} {h : Heap} {mg : Str → Option Value} {f : Addr} (X : K.In h) (G : h.Ns mainGlobals mg) (hfa : mg ("law" : Str) = some (.ref f)) (c : Facts w h K) : LamX.LawAtS RW w K CX0 15 63 "_law_script" mg f h := by
  letI : Tbs := ⟨tbl K⟩
  obtain ⟨fd, F⟩ := c.t.d.defs (d := mkD ("law", 94)) (List.mem_append_left _ (List.mem_map_of_mem (show (("law", 94) : PySem.Str × Nat) ∈ dAll by decide +kernel)))
  have e := hfa.symm.trans (He.glo_ok X G (c.t.d.facts (m_glo (p := ("law", 94)) (by decide +kernel))))
  cases e
  have b := FunD.bindsA (ps := ["_law_script"]) F fun _ _ _ _ _ _ us hl => match us, hl with | [_], _ => rfl
  refine ⟨fd, tf.map (He.cT K), spF (pLaw K), fun p hp => ?_, fun p hp => ?_, fun p hp => ?_, fun s u => b s [u] rfl, fun H a ns _ _ ht hS => ?_, fun base _ _ B => law_ok X G c rfl B F⟩
  · obtain ⟨q, hq, rfl⟩ := List.mem_map.mp hp
    exact c.empty q hq
  · obtain ⟨q, hq, rfl⟩ := List.mem_map.mp hp
    exact c.out q hq
  · obtain ⟨q, hq, rfl⟩ := List.mem_map.mp hp
    exact PySem.W.codeHd_of_K X (c.hd q hq)
  · refine ⟨[rLs K ns], _, ⟨ns, rfl, rfl⟩, ⟨_, _, rfl, rLs.of ⟨a, _, rfl, hS, ints_ims ns⟩, rfl⟩, fun p hp => ?_, fun v H' _ r => r⟩
    obtain ⟨q, hq, rfl⟩ := List.mem_map.mp (show p ∈ tbl K from hp)
    exact LamX.TabS.nil (ht _ (List.mem_map_of_mem hq))
end Hd
end CB
open PySem PySem.W PySem.Calls PyProof.Rows
theorem PySem.Challenge.cw_calmblanks_k25_whole_calm_wholes_of_draw_holds : PySem.Challenge.rw_calmblanks_k25_whole_calm_wholes_of_draw.Holds := by
  w_on; o_law
  refine HandSHeadRun.head_any (r := OpenLaw.row PySem.Challenge.rw_calmblanks_k25_whole_calm_wholes_of_draw) (q := view (OpenLaw.row PySem.Challenge.rw_calmblanks_k25_whole_calm_wholes_of_draw).prog [94]) (H := CB.Hd.hk) (ob := CB.Hd.ob) (M := 20000) (loose := CB.Hd.names) (d := HandSHeadRun.topDef (OpenLaw.row PySem.Challenge.rw_calmblanks_k25_whole_calm_wholes_of_draw).prog 94) (kwd := []) CB.Hd.ob_eq
    (by kernel_rfl) (fun s => by kernel_rfl) CB.Hd.run (by kernel_rfl) (by kernel_rfl) (by kernel_rfl) (by rfl) (by first | assumption | decide +kernel) (by decide +kernel) ⟨rfl, rfl, rfl, rfl, rfl, by decide +kernel⟩ ?hw ?hc
  case hw => w_witness2
  case hc =>
    refine LamX.walk_ofTsE (l := PySem.Challenge.rw_calmblanks_k25_whole_calm_wholes_of_draw) (n := 63) (k := 15) (x := "_law_script") (CX := fun _ => L2.CX0) rfl (by decide) (by kernel_rfl) ⟨rfl, by decide, by decide⟩ ?F (fun _ _ _ _ _ z => z)
    intro w mg fa h Y G hmg0
    obtain ⟨K, KX, c⟩ := Y
    have hmg : mg ("law" : PySem.Str) = some (.ref fa) := by
      have e : (HandSHeadRun.topDef (OpenLaw.row PySem.Challenge.rw_calmblanks_k25_whole_calm_wholes_of_draw).prog 94).name = ("law" : PySem.Str) := by kernel_rfl
      rw [← e]
      exact hmg0
    exact ⟨K, KX, CB.Hd.law_at KX G hmg c⟩
