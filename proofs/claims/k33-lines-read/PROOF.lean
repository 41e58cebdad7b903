import PyProof.Rows.All
import Wide.All
import OpenK.AllK
import Wide.FinOn
import HandS.ForMost
import HandS.ForExc
import HandS.Wide
import HandS.IsInst
import HandS.TryMany
import HandS.Zip
import HandS.Conv
import HandS.ExcOwn
import PyProof.ExcBaseAll.ValueError
import HandS.Comp
import PyProof.LongRange
import HandS.SortRule
import HandS.SortInts
import HandS.Iter
import HandS.TupLe
import HandS.More
import HandS.Text
import HandS.Style
import HandS.StrMore
import HandS.SetFor
import KE.OsHead
import HandS.Defaults
import HandS.Head0
import HandS.Head1
import HandS.Head2
import HandS.HeadEnd
import HandS.HeadHook1
import HandS.HeadHook2
import HandS.HeadHook3
import HandS.HeadHook4
import HandS.Deep
import HandS.ExcInit
import HandS.ExcField
import PySem.Challenge.RW_inkroot_k33_lines_read
set_option Elab.async false
set_option linter.all false
set_option maxRecDepth 100000
set_option maxHeartbeats 0
namespace PV
open PySem PySem.Spec PyProof.Rows L2
/-! ### the head's facts over few objects -/
def nsG (g : Addr → Option Obj) (ns : Addr) (x : Str) : Option Value := match g ns with
  | some ⟨_, _, .dict es _, _⟩ => (es.toList.find? (·.key.isStr x)).map (·.val)
  | _ => none
def codeG (g : Addr → Option Obj) (f : Addr) : List Addr := match g f with
  | some ⟨_, _, .func fd, _⟩ => He.refV fd.code
  | _ => []
def globG (g : Addr → Option Obj) (q : Str × List Str) : List Addr := match nsG g mainGlobals q.1 with
  | some (.ref a) => a :: (match g a with
    | some ⟨_, _, .func fd, _⟩ => He.refV fd.code
    | some ⟨_, _, .cls cd, _⟩ => cd.ns :: q.2.flatMap fun m => match nsG g cd.ns m with
      | some (.ref f) => f :: codeG g f
      | _ => []
    | _ => [])
  | _ => []
def asP (g : Addr → Option Obj) (gl : List (Str × List Str)) : List Addr := mainGlobals :: gl.flatMap (globG g)
/-- the list worked out -/
def frK {α : Type} : PySem.W.Frag → (PySem.W.Frag → α) → α
  | [], k => k []
  | (a, o) :: r, k => frK r fun r' => HandSHeadRun.frNat a fun a' => k ((a', o) :: r')
theorem frK_eq {α : Type} : ∀ (l : PySem.W.Frag) (k : PySem.W.Frag → α), frK l k = k l
  | [], k => rfl
  | (a, o) :: r, k => by
    unfold frK
    rw [frK_eq r, HandSHeadRun.frNat_eq]
abbrev AlP : Type := He.AlT × Bool
def obsP (gl : List (Str × List Str)) (fa : List He.Fa) (fn : List He.DefD) (ts : List He.Tab) (ex : PySem.W.Frag → Bool) (g : Addr → Option Obj) : AlP := frK (He.frG g (asP g gl)) fun K => (He.obsT fa fn ts K, ex K)
def valP (fn : List He.DefD) (ts : List He.Tab) (w : World) : AlP := (He.valT fn ts w, true)
structure SaysP (fa : List He.Fa) (fn : List He.DefD) (ts : List He.Tab) (ex : PySem.W.Frag → Bool) (w : World) (K : PySem.W.Frag) : Prop where
  t : He.SaysT fa fn ts w K
  more : ex K = true
def hookP (gl : List (Str × List Str)) (fa : List He.Fa) (fn : List He.DefD) (ts : List He.Tab) (ex : PySem.W.Frag → Bool) : PySem.W.Hook where
  α := AlP
  obs := fun s => obsP gl fa fn ts ex s.heap.get?
  val := fun w => valP fn ts w
  says := fun w h => ∃ K : PySem.W.Frag, K.In h ∧ SaysP fa fn ts ex w K
  of := fun w s e => ⟨_, He.frG_in, by
    have e : obsP gl fa fn ts ex s.heap.get? = valP fn ts w := e
    unfold obsP at e
    rw [frK_eq] at e
    exact ⟨congrArg (fun z : AlP => z.1) e, congrArg (fun z : AlP => z.2) e⟩⟩
  keeps := fun _ _ _ ⟨K, hK, c⟩ k => ⟨K, PySem.W.Frag.In.keeps hK k, c⟩
theorem obsP_eq {gl : List (Str × List Str)} {fa : List He.Fa} {fn : List He.DefD} {ts : List He.Tab} {ex : PySem.W.Frag → Bool} {g : Addr → Option Obj} {s : Shared} (h : ∀ a, g a = s.heap.get? a) : obsP gl fa fn ts ex g = (hookP gl fa fn ts ex).obs s := by
  have e : g = s.heap.get? := funext h
  rw [e] <;> rfl
end PV

namespace PV
open PySem L2
def oexB (K : PySem.W.Frag) (C : Addr) : Bool := match K.lookup C with
  | some ⟨.type "type", _, .cls cd, sl⟩ => (match cd.mro, sl.toList with
    | .ref C' :: bm, [_, _, _, _, some (.builtin n), _] => C' == C && n == "ValueError.__new__" && !cd.hasDel && cd.hasDict && PySem.HandSPX.refsVE bm
    | _, _ => false)
  | _ => false
def oexA (K : PySem.W.Frag) (C : Addr) : Bool := oexB K C && (decide (PySem.W.findIn K (.ref C) "__setattr__" = some (some (.builtin "object.__setattr__"))) && (decide (PySem.W.subIn K (.ref C) (.type "BaseException") = some true) && (decide (PySem.W.typeIn K (.ref C) = some (.type "type")) && PySem.W.keepIn K (.ref C))))
end PV
namespace Law
open PySem PySem.Spec PyProof.Rows L2 PV
def top (i : Nat) : Stmt := PySem.Challenge.pw_inkroot_k33_lines_read.main.body.getD i (.Pass ⟨0, 0, 0, 0⟩)
def tb_NUMBERS : List (Str × Int) := [("fresh", 0), ("cut", 3), ("move", 4), ("quote", 5), ("window", 3), ("fix", 1), ("back", 2), ("fork", 2), ("untie", 1), ("read", 1)]
def tb_ROWED : List (Str × Int) := [("put", 2), ("strike", 0), ("blot", 1), ("lift", 1)]
abbrev s__law_src : Stmt := top 15
abbrev s__law_next : Stmt := top 16
abbrev s__law_stretches : Stmt := top 25
abbrev s__law_line_of : Stmt := top 26
abbrev s__law_number : Stmt := top 21
abbrev s__law_plain_deed : Stmt := top 23
abbrev s__law_sign : Stmt := top 19
abbrev s__law_text : Stmt := top 20
abbrev s__law_ink_by : Stmt := top 22
abbrev s__law_deed_by : Stmt := top 24
abbrev s__law_odd : Stmt := top 33
abbrev s__law_spoilt : Stmt := top 28
abbrev s__law_line_by : Stmt := top 34
abbrev s__law_whole : Stmt := top 17
abbrev s__law_same : Stmt := top 18
abbrev s__law_reads : Stmt := top 27
abbrev s__law_due_pour : Stmt := top 30
abbrev s__law_words_row : Stmt := top 29
abbrev s__law_due_tie : Stmt := top 31
abbrev s__law_due : Stmt := top 32
abbrev s_number_of : Stmt := top 6
abbrev s_read_pour : Stmt := top 10
abbrev s_numbers_of : Stmt := top 7
abbrev s_stretch_of : Stmt := top 8
abbrev s_row_of : Stmt := top 9
abbrev s_read_tie : Stmt := top 11
abbrev s_read_other : Stmt := top 12
abbrev s_read_deed : Stmt := top 13
abbrev s__law_deed_or_none : Stmt := top 35
abbrev s_law : Stmt := top 36
abbrev Rw : PySem.W.OpenRow := PySem.W.OpenLaw.row PySem.Challenge.rw_inkroot_k33_lines_read
def dd__law_src : He.DefD := ⟨("_law_src", none), "_law_src", "_law_src", defArgs s__law_src, defBody s__law_src, defScope s__law_src, [], []⟩
def dd__law_next : He.DefD := ⟨("_law_next", none), "_law_next", "_law_next", defArgs s__law_next, defBody s__law_next, defScope s__law_next, [], []⟩
def dd__law_stretches : He.DefD := ⟨("_law_stretches", none), "_law_stretches", "_law_stretches", defArgs s__law_stretches, defBody s__law_stretches, defScope s__law_stretches, [], []⟩
def dd__law_line_of : He.DefD := ⟨("_law_line_of", none), "_law_line_of", "_law_line_of", defArgs s__law_line_of, defBody s__law_line_of, defScope s__law_line_of, [], []⟩
def dd__law_number : He.DefD := ⟨("_law_number", none), "_law_number", "_law_number", defArgs s__law_number, defBody s__law_number, defScope s__law_number, [], []⟩
def dd__law_plain_deed : He.DefD := ⟨("_law_plain_deed", none), "_law_plain_deed", "_law_plain_deed", defArgs s__law_plain_deed, defBody s__law_plain_deed, defScope s__law_plain_deed, [], []⟩
def dd__law_sign : He.DefD := ⟨("_law_sign", none), "_law_sign", "_law_sign", defArgs s__law_sign, defBody s__law_sign, defScope s__law_sign, [], []⟩
def dd__law_text : He.DefD := ⟨("_law_text", none), "_law_text", "_law_text", defArgs s__law_text, defBody s__law_text, defScope s__law_text, [], []⟩
def dd__law_ink_by : He.DefD := ⟨("_law_ink_by", none), "_law_ink_by", "_law_ink_by", defArgs s__law_ink_by, defBody s__law_ink_by, defScope s__law_ink_by, [], []⟩
def dd__law_deed_by : He.DefD := ⟨("_law_deed_by", none), "_law_deed_by", "_law_deed_by", defArgs s__law_deed_by, defBody s__law_deed_by, defScope s__law_deed_by, [], []⟩
def dd__law_odd : He.DefD := ⟨("_law_odd", none), "_law_odd", "_law_odd", defArgs s__law_odd, defBody s__law_odd, defScope s__law_odd, [], []⟩
def dd__law_spoilt : He.DefD := ⟨("_law_spoilt", none), "_law_spoilt", "_law_spoilt", defArgs s__law_spoilt, defBody s__law_spoilt, defScope s__law_spoilt, [], []⟩
def dd__law_line_by : He.DefD := ⟨("_law_line_by", none), "_law_line_by", "_law_line_by", defArgs s__law_line_by, defBody s__law_line_by, defScope s__law_line_by, [], []⟩
def dd__law_whole : He.DefD := ⟨("_law_whole", none), "_law_whole", "_law_whole", defArgs s__law_whole, defBody s__law_whole, defScope s__law_whole, [], []⟩
def dd__law_same : He.DefD := ⟨("_law_same", none), "_law_same", "_law_same", defArgs s__law_same, defBody s__law_same, defScope s__law_same, [], []⟩
def dd__law_reads : He.DefD := ⟨("_law_reads", none), "_law_reads", "_law_reads", defArgs s__law_reads, defBody s__law_reads, defScope s__law_reads, [], []⟩
def dd__law_due_pour : He.DefD := ⟨("_law_due_pour", none), "_law_due_pour", "_law_due_pour", defArgs s__law_due_pour, defBody s__law_due_pour, defScope s__law_due_pour, [], []⟩
def dd__law_words_row : He.DefD := ⟨("_law_words_row", none), "_law_words_row", "_law_words_row", defArgs s__law_words_row, defBody s__law_words_row, defScope s__law_words_row, [], []⟩
def dd__law_due_tie : He.DefD := ⟨("_law_due_tie", none), "_law_due_tie", "_law_due_tie", defArgs s__law_due_tie, defBody s__law_due_tie, defScope s__law_due_tie, [], []⟩
def dd__law_due : He.DefD := ⟨("_law_due", none), "_law_due", "_law_due", defArgs s__law_due, defBody s__law_due, defScope s__law_due, [], []⟩
def dd_number_of : He.DefD := ⟨("number_of", none), "number_of", "number_of", defArgs s_number_of, defBody s_number_of, defScope s_number_of, [], []⟩
def dd_read_pour : He.DefD := ⟨("read_pour", none), "read_pour", "read_pour", defArgs s_read_pour, defBody s_read_pour, defScope s_read_pour, [], []⟩
def dd_numbers_of : He.DefD := ⟨("numbers_of", none), "numbers_of", "numbers_of", defArgs s_numbers_of, defBody s_numbers_of, defScope s_numbers_of, [], []⟩
def dd_stretch_of : He.DefD := ⟨("stretch_of", none), "stretch_of", "stretch_of", defArgs s_stretch_of, defBody s_stretch_of, defScope s_stretch_of, [], []⟩
def dd_row_of : He.DefD := ⟨("row_of", none), "row_of", "row_of", defArgs s_row_of, defBody s_row_of, defScope s_row_of, [], []⟩
def dd_read_tie : He.DefD := ⟨("read_tie", none), "read_tie", "read_tie", defArgs s_read_tie, defBody s_read_tie, defScope s_read_tie, [], []⟩
def dd_read_other : He.DefD := ⟨("read_other", none), "read_other", "read_other", defArgs s_read_other, defBody s_read_other, defScope s_read_other, [], []⟩
def dd_read_deed : He.DefD := ⟨("read_deed", none), "read_deed", "read_deed", defArgs s_read_deed, defBody s_read_deed, defScope s_read_deed, [], []⟩
def dd__law_deed_or_none : He.DefD := ⟨("_law_deed_or_none", none), "_law_deed_or_none", "_law_deed_or_none", defArgs s__law_deed_or_none, defBody s__law_deed_or_none, defScope s__law_deed_or_none, [], []⟩
def dd_law : He.DefD := ⟨("law", none), "law", "law", defArgs s_law, defBody s_law, defScope s_law, [], []⟩
def fn : List He.DefD := [dd__law_src, dd__law_next, dd__law_stretches, dd__law_line_of, dd__law_number, dd__law_plain_deed, dd__law_sign, dd__law_text, dd__law_ink_by, dd__law_deed_by, dd__law_odd, dd__law_spoilt, dd__law_line_by, dd__law_whole, dd__law_same, dd__law_reads, dd__law_due_pour, dd__law_words_row, dd__law_due_tie, dd__law_due, dd_number_of, dd_read_pour, dd_numbers_of, dd_stretch_of, dd_row_of, dd_read_tie, dd_read_other, dd_read_deed, dd__law_deed_or_none, dd_law]
def fa0 : List He.Fa := [.glo "_law_src", .glo "_law_next", .glo "_law_stretches", .glo "_law_line_of", .glo "_law_number", .glo "_law_plain_deed", .glo "_law_sign", .glo "_law_text", .glo "_law_ink_by", .glo "_law_deed_by", .glo "_law_odd", .glo "_law_spoilt", .glo "_law_line_by", .glo "_law_whole", .glo "_law_same", .glo "_law_reads", .glo "_law_due_pour", .glo "_law_words_row", .glo "_law_due_tie", .glo "_law_due", .glo "number_of", .glo "read_pour", .glo "numbers_of", .glo "stretch_of", .glo "row_of", .glo "read_tie", .glo "read_other", .glo "read_deed", .glo "_law_deed_or_none", .glo "law"]
def fa1 : List He.Fa := [.free "bool", .free "int", .free "isinstance", .free "len", .free "list", .free "range", .free "str", .free "tuple", .free "zip", .glo "NoDeed", .glo "InkError", .glo "NUMBERS", .glo "ROWED", .exc "NoDeed", .exm "NoDeed" "InkError" true, .exm "NoDeed" "NoDeed" true]
def fa : List He.Fa := fa0 ++ fa1
def ts : List He.Tab := [(fun K => He.ga K "NUMBERS", ["fresh", "cut", "move", "quote", "window", "fix", "back", "fork", "untie", "read"]), (fun K => He.ga K "ROWED", ["put", "strike", "blot", "lift"])]
def exK : PySem.W.Frag → Bool := fun K => He.valsB K (He.ga K "NUMBERS") (tb_NUMBERS.map fun q => (q.1, He.Dv.int q.2)) && He.valsB K (He.ga K "ROWED") (tb_ROWED.map fun q => (q.1, He.Dv.int q.2))
def gl0 : List (Str × List Str) := [("_law_src", []), ("_law_next", []), ("_law_stretches", []), ("_law_line_of", []), ("_law_number", []), ("_law_plain_deed", []), ("_law_sign", []), ("_law_text", []), ("_law_ink_by", []), ("_law_deed_by", []), ("_law_odd", []), ("_law_spoilt", []), ("_law_line_by", []), ("_law_whole", []), ("_law_same", []), ("_law_reads", []), ("_law_due_pour", []), ("_law_words_row", []), ("_law_due_tie", []), ("_law_due", []), ("number_of", []), ("read_pour", []), ("numbers_of", []), ("stretch_of", []), ("row_of", []), ("read_tie", []), ("read_other", []), ("read_deed", []), ("_law_deed_or_none", []), ("law", [])]
def gl1 : List (Str × List Str) := [("NoDeed", []), ("InkError", []), ("NUMBERS", []), ("ROWED", [])]
def gl : List (Str × List Str) := gl0 ++ gl1
abbrev hk : PySem.W.Hook := hookP gl fa fn ts exK
def ob (s : PySem.W.SharedT) : AlP := obsP gl fa fn ts exK (HandSHeadRun.getT s)
theorem ob_eq (s : PySem.W.SharedT) : ob s = hk.obs s.abs := obsP_eq (HandSHeadRun.getT_eq s)
def names0 : List Str := ["InkError", "NoDeed", "NUMBERS", "ROWED", "number_of", "numbers_of", "stretch_of", "row_of", "read_pour", "read_tie", "read_other", "read_deed", "_law_src", "_law_next", "_law_whole", "_law_same", "_law_sign", "_law_text", "_law_number", "_law_ink_by", "_law_plain_deed", "_law_deed_by", "_law_stretches", "_law_line_of", "_law_reads", "_law_spoilt", "_law_words_row", "_law_due_pour", "_law_due_tie", "_law_due"]
def names1 : List Str := ["_law_odd", "_law_line_by", "_law_deed_or_none"]
def names : List Str := names0 ++ names1
theorem headF (w : World) : HandSHeadRun.RunEq Rw (PySem.W.view Rw.prog [36]) hk ob 12000 names (w.withFollow "special-get-raises" false) := by
  intro os
  kernel_rfl
theorem headT (w : World) : HandSHeadRun.RunEq Rw (PySem.W.view Rw.prog [36]) hk ob 12000 names (w.withFollow "special-get-raises" true) := by
  intro os
  kernel_rfl
end Law
namespace PV
open PySem L2
/-! ### trees -/
inductive Fl where | own | bor | fz
  deriving DecidableEq
/-- the kinds of nodes: a list, a tuple, a dict by its keys, an instance by its class and attributes -/
inductive Kd where | lst (f : Fl) | tup | dct (f : Fl) (ks : List Key) | ins (f : Fl) (c : Str) (ns : List Str)
  deriving DecidableEq
inductive D where | un | non | bl (b : Bool) | int (i : Int) | str (s : Str) | scr (ns : List Int) | nd (k : Kd) (xs : List D)
abbrev D.lst (f : Fl) (xs : List D) : D := .nd (.lst f) xs
abbrev D.tup (xs : List D) : D := .nd .tup xs
def Kd.fl : Kd → Option Fl
  | .lst f => some f
  | .tup => none
  | .dct f _ => some f
  | .ins f _ _ => some f
def Kd.with (g : Fl) : Kd → Kd
  | .lst _ => .lst g
  | .tup => .tup
  | .dct _ ks => .dct g ks
  | .ins _ c ns => .ins g c ns
/-! ### counts of addresses -/
abbrev Ct := Addr → Nat
def one (a : Addr) : Ct := fun b => if b = a then 1 else 0
theorem one_self (a : Addr) : one a a = 1 := if_pos rfl
theorem one_ne {a b : Addr} (h : b ≠ a) : one a b = 0 := if_neg h
/-- the ground: the written part, the classes, the heap, what may change, what the callers hold -/
structure Gd where
  K : PySem.W.Frag
  CA : Str → Option Addr
  H : Hp
  Z : Addr → Prop
  B : Addr → Prop
/-- a node of this kind stands at a, its items vs -/
def HoK (CA : Str → Option Addr) (H : Hp) (a : Addr) (vs : List V) : Kd → Prop
  | .lst _ => H a = some (.lst vs)
  | .tup => H a = some (.tup vs)
  | .dct _ ks => ks.length = vs.length ∧ H a = some (.dK (ks.zip vs))
  | .ins _ c ns => ns.length = vs.length ∧ ∃ C dx, CA c = some C ∧ H a = some (.ins C dx (ns.zip vs))
def NdOk (G : Gd) (a : Addr) (os os' : Ct) : Option Fl → Prop
  | none => ¬ G.Z a ∧ ∀ b, os b = os' b
  | some .own => G.Z a ∧ ¬ G.B a ∧ ∀ b, os b = one a b + os' b
  | some .bor => ¬ G.Z a ∧ (∀ b, os' b = 0) ∧ ∀ b, os b = 0
  | some .fz => ¬ G.Z a ∧ ¬ G.B a ∧ (∀ b, os' b = 0) ∧ ∀ b, os b = 0
/-! ### a tree stands in the heap -/
mutual
inductive Rp (G : Gd) : D → V → Ct → Prop
  | un {v : V} {os : Ct} : (∀ b, os b = 0) → Rp G .un v os
  | non {os : Ct} : (∀ b, os b = 0) → Rp G .non .non os
  | bl {x : Bool} {os : Ct} : (∀ b, os b = 0) → Rp G (.bl x) (.bl x) os
  | int {i : Int} {os : Ct} : (∀ b, os b = 0) → Rp G (.int i) (.int i) os
  | str {s : Str} {os : Ct} : (∀ b, os b = 0) → Rp G (.str s) (.str s) os
  | scr {ns : List Int} {a : Addr} {os : Ct} : ((Rd G.H a (.lst (ns.map V.int)) ∧ ¬ G.Z a) ∨ ∀ H, SqL G.K H a (ns.map V.int)) → (∀ b, os b = 0) → Rp G (.scr ns) (.ref a) os
  | nd {k : Kd} {xs : List D} {a : Addr} {vs : List V} {os os' : Ct} : HoK G.CA G.H a vs k → RpL G xs vs os' → NdOk G a os os' k.fl → Rp G (.nd k xs) (.ref a) os
inductive RpL (G : Gd) : List D → List V → Ct → Prop
  | nil {os : Ct} : (∀ b, os b = 0) → RpL G [] [] os
  | cons {d : D} {v : V} {xs : List D} {vs : List V} {os o1 o2 : Ct} : Rp G d v o1 → RpL G xs vs o2 → (∀ b, os b = o1 b + o2 b) → RpL G (d :: xs) (v :: vs) os
end
theorem Rp.ct {G : Gd} {d : D} {v : V} {os os' : Ct} (r : Rp G d v os) (h : ∀ b, os' b = os b) : Rp G d v os' := by
  have : os' = os := funext h
  rw [this]; exact r
theorem RpL.ct {G : Gd} {d : List D} {v : List V} {os os' : Ct} (r : RpL G d v os) (h : ∀ b, os' b = os b) : RpL G d v os' := by
  have : os' = os := funext h
  rw [this]; exact r
theorem RpL.len {G : Gd} : ∀ {xs : List D} {vs : List V} {os : Ct}, RpL G xs vs os → xs.length = vs.length
  | _, _, _, .nil _ => rfl
  | _, _, _, .cons _ r _ => by simp [RpL.len r]
theorem RpL.app {G : Gd} : ∀ {xs ys : List D} {vs ws : List V} {o1 o2 os : Ct}, RpL G xs vs o1 → RpL G ys ws o2 → (∀ b, os b = o1 b + o2 b) → RpL G (xs ++ ys) (vs ++ ws) os
  | _, _, _, _, o1, o2, os, .nil h0, r, h => r.ct fun b => by rw [h, h0]; (try dsimp only at *); omega
  | _, _, _, _, o1, o2, os, .cons (o1 := a) (o2 := c) r t h0, q, h => .cons (o2 := fun b => c b + o2 b) r (RpL.app t q fun _ => rfl) fun b => by rw [h, h0]; (try dsimp only at *); omega
theorem RpL.cut {G : Gd} : ∀ {xs ys : List D} {vs ws : List V} {os : Ct}, xs.length = vs.length → RpL G (xs ++ ys) (vs ++ ws) os → ∃ o1 o2, RpL G xs vs o1 ∧ RpL G ys ws o2 ∧ ∀ b, os b = o1 b + o2 b
  | [], _, [], _, os, _, r => ⟨fun _ => 0, os, .nil fun _ => rfl, r, fun b => by simp⟩
  | _ :: _, _, _ :: _, _, _, hl, .cons r t h => by
    obtain ⟨o1, o2, r1, r2, e⟩ := RpL.cut (by simpa using hl) t
    exact ⟨_, o2, .cons r r1 fun _ => rfl, r2, fun b => by rw [h, e]; (try dsimp only at *); omega⟩
theorem RpL.one {G : Gd} {d : D} {v : V} {os : Ct} (r : Rp G d v os) : RpL G [d] [v] os := .cons (o2 := fun _ => 0) r (.nil fun _ => rfl) fun b => by simp
theorem RpL.of1 {G : Gd} {d : D} {v : V} {os : Ct} (r : RpL G [d] [v] os) : Rp G d v os := by
  cases r with
  | cons r t h => cases t with | nil h0 => exact r.ct fun b => by rw [h, h0]; (try dsimp only at *); omega
/-- the item at a place, and another in its place -/
theorem RpL.at {G : Gd} : ∀ {xs : List D} {vs : List V} {os : Ct} {j : Nat} {d : D}, RpL G xs vs os → xs[j]? = some d → ∃ (v : V) (od orr : Ct), vs[j]? = some v ∧ Rp G d v od ∧ (∀ b, os b = od b + orr b) ∧
    ∀ (d' : D) (v' : V) (od' os' : Ct), Rp G d' v' od' → (∀ b, os' b = od' b + orr b) → RpL G (xs.set j d') (vs.set j v') os'
  | _, _, _, 0, _, .cons (o2 := o2) r t h, e => by
    simp at e; subst e
    exact ⟨_, _, o2, rfl, r, h, fun d' v' od' os' r' h' => .cons r' t h'⟩
  | _, _, _, j + 1, _, .cons (o1 := o1) r t h, e => by
    obtain ⟨v, od, orr, e1, r1, h1, k⟩ := RpL.at (j := j) t (by simpa using e)
    refine ⟨v, od, fun b => o1 b + orr b, by simpa using e1, r1, fun b => by rw [h, h1]; (try dsimp only at *); omega, fun d' v' od' os' r' h' => ?_⟩
    exact .cons (o2 := fun b => od' b + orr b) r (k d' v' od' _ r' fun _ => rfl) fun b => by rw [h']; (try dsimp only at *); omega
theorem list_set_same {α : Type} : ∀ {l : List α} {i : Nat} {a : α}, l[i]? = some a → l.set i a = l
  | [], _, _, h => by simp at h
  | _ :: _, 0, _, h => by simp at h; subst h; rfl
  | _ :: _, i + 1, _, h => by simp at h; simp [list_set_same h]
/-! ### another ground -/
structure Gd.To (G G' : Gd) (os : Ct) : Prop where
  k : G'.K = G.K
  ca : G'.CA = G.CA
  h : ∀ b o, G.H b = some o → (0 < os b ∨ ¬ G.Z b) → G'.H b = some o
  z : ∀ b o, G.H b = some o → ¬ G.Z b → ¬ G'.Z b
  o : ∀ b, 0 < os b → G'.Z b ∧ ¬ G'.B b
  b : ∀ b o, G.H b = some o → ¬ G.Z b → ¬ G.B b → ¬ G'.B b
theorem Gd.To.sub {G G' : Gd} {os os' : Ct} (t : Gd.To G G' os) (h : ∀ b, 0 < os' b → 0 < os b) : Gd.To G G' os' :=
  ⟨t.k, t.ca, fun b o e q => t.h b o e (q.imp (h b) id), t.z, fun b q => t.o b (h b q), t.b⟩
theorem HoK.dom {CA : Str → Option Addr} {H : Hp} {a : Addr} {vs : List V} {k : Kd} (h : HoK CA H a vs k) : ∃ o, H a = some o := by
  cases k with
  | lst f => exact ⟨_, h⟩
  | tup => exact ⟨_, h⟩
  | dct f ks => exact ⟨_, h.2⟩
  | ins f c ns => obtain ⟨_, _, _, _, e⟩ := h; exact ⟨_, e⟩
theorem HoK.to {CA : Str → Option Addr} {H H' : Hp} {a : Addr} {vs : List V} {k : Kd} (h : HoK CA H a vs k) (e : ∀ o, H a = some o → H' a = some o) : HoK CA H' a vs k := by
  cases k with
  | lst f => exact e _ h
  | tup => exact e _ h
  | dct f ks => exact ⟨h.1, e _ h.2⟩
  | ins f c ns => obtain ⟨l, C, dx, hc, q⟩ := h; exact ⟨l, C, dx, hc, e _ q⟩
mutual
theorem Rp.mono {G G' : Gd} : ∀ {d : D} {v : V} {os : Ct}, Rp G d v os → Gd.To G G' os → Rp G' d v os
  | _, _, _, .un h, _ => .un h
  | _, _, _, .non h, _ => .non h
  | _, _, _, .bl h, _ => .bl h
  | _, _, _, .int h, _ => .int h
  | _, _, _, .str h, _ => .str h
  | _, _, _, .scr (a := a) q h, t => by
    refine .scr ?_ h
    rcases q with ⟨q, z⟩ | q
    · refine .inl ⟨?_, ?_⟩
      · rcases q with q | ⟨o, q⟩
        · exact .inl (t.h a _ q (.inr z))
        · exact .inr ⟨o, t.h a _ q (.inr z)⟩
      · rcases q with q | ⟨o, q⟩
        · exact t.z a _ q z
        · exact t.z a _ q z
    · exact .inr fun H => by rw [t.k]; exact q H
  | _, _, _, .nd (k := k) (a := a) (os := os) (os' := os') hk r n, t => by
    obtain ⟨o, ho⟩ := hk.dom
    revert n
    generalize hfl : k.fl = f
    intro n
    match f, n with
    | none, n =>
      refine .nd (os' := os') (by rw [t.ca]; exact hk.to fun o e => t.h a o e (.inr n.1)) (RpL.mono r (t.sub fun b hb => by rw [n.2]; exact hb)) ?_
      rw [hfl]; exact ⟨t.z a o ho n.1, n.2⟩
    | some .own, n =>
      have p : 0 < os a := by rw [n.2.2, one_self]; (try dsimp only at *); omega
      refine .nd (os' := os') (by rw [t.ca]; exact hk.to fun o e => t.h a o e (.inl p)) (RpL.mono r (t.sub fun b hb => by rw [n.2.2]; (try dsimp only at *); omega)) ?_
      rw [hfl]; exact ⟨(t.o a p).1, (t.o a p).2, n.2.2⟩
    | some .bor, n =>
      refine .nd (os' := os') (by rw [t.ca]; exact hk.to fun o e => t.h a o e (.inr n.1)) (RpL.mono r (t.sub fun b hb => by have := n.2.1 b; (try dsimp only at *); omega)) ?_
      rw [hfl]; exact ⟨t.z a o ho n.1, n.2⟩
    | some .fz, n =>
      refine .nd (os' := os') (by rw [t.ca]; exact hk.to fun o e => t.h a o e (.inr n.1)) (RpL.mono r (t.sub fun b hb => by have := n.2.2.1 b; (try dsimp only at *); omega)) ?_
      rw [hfl]; exact ⟨t.z a o ho n.1, t.b a o ho n.1 n.2.1, n.2.2⟩
theorem RpL.mono {G G' : Gd} : ∀ {xs : List D} {vs : List V} {os : Ct}, RpL G xs vs os → Gd.To G G' os → RpL G' xs vs os
  | _, _, _, .nil h, _ => .nil h
  | _, _, _, .cons (o1 := o1) (o2 := o2) r t h, g => .cons (Rp.mono r (g.sub fun b hb => by rw [h]; (try dsimp only at *); omega)) (RpL.mono t (g.sub fun b hb => by rw [h]; (try dsimp only at *); omega)) h
end
mutual
/-- what a tree owns stands in the heap, may change, and is not the callers' -/
theorem Rp.dom {G : Gd} : ∀ {d : D} {v : V} {os : Ct}, Rp G d v os → ∀ b, 0 < os b → (∃ o, G.H b = some o) ∧ G.Z b ∧ ¬ G.B b
  | _, _, _, .un h, b, p | _, _, _, .non h, b, p | _, _, _, .bl h, b, p | _, _, _, .int h, b, p | _, _, _, .str h, b, p | _, _, _, .scr _ h, b, p => by rw [h] at p; (try dsimp only at *); omega
  | _, _, _, .nd (k := k) (a := a) (os := os) (os' := os') hk r n, b, p => by
    revert n
    generalize k.fl = f
    intro n
    match f, n with
    | none, n => exact RpL.dom r b (by rw [← n.2]; exact p)
    | some .own, n =>
      by_cases hb : b = a
      · subst hb; exact ⟨hk.dom, n.1, n.2.1⟩
      · exact RpL.dom r b (by have := n.2.2 b; rw [one_ne hb] at this; (try dsimp only at *); omega)
    | some .bor, n => have := n.2.2 b; (try dsimp only at *); omega
    | some .fz, n => have := n.2.2.2 b; (try dsimp only at *); omega
theorem RpL.dom {G : Gd} : ∀ {xs : List D} {vs : List V} {os : Ct}, RpL G xs vs os → ∀ b, 0 < os b → (∃ o, G.H b = some o) ∧ G.Z b ∧ ¬ G.B b
  | _, _, _, .nil h, b, p => by rw [h] at p; (try dsimp only at *); omega
  | _, _, _, .cons (o1 := o1) r t h, b, p => by
    by_cases q : 0 < o1 b
    · exact Rp.dom r b q
    · exact RpL.dom t b (by rw [h] at p; (try dsimp only at *); omega)
end
/-! ### changes of flags -/
mutual
/-- own lists frozen / lent -/
def D.set (g : Fl) : D → D
  | .nd k xs => .nd (if k.fl = some .own then k.with g else k) (D.setL g xs)
  | d => d
def D.setL (g : Fl) : List D → List D
  | [] => []
  | d :: r => D.set g d :: D.setL g r
end
abbrev D.frz : D → D := D.set .fz
abbrev D.len : D → D := D.set .bor
theorem D.setL_map (g : Fl) : ∀ xs : List D, D.setL g xs = xs.map (D.set g)
  | [] => rfl
  | d :: r => by simp [D.setL, D.setL_map g r]
theorem HoK.with {CA : Str → Option Addr} {H : Hp} {a : Addr} {vs : List V} {k : Kd} {g : Fl} (h : HoK CA H a vs k) : HoK CA H a vs (k.with g) := by
  cases k <;> exact h
theorem Kd.fl_with {k : Kd} {f g : Fl} (h : k.fl = some f) : (k.with g).fl = some g := by
  cases k <;> first | rfl | cases h
mutual
/-- nothing owned: nothing changes -/
theorem Rp.set_same {G : Gd} {g : Fl} : ∀ {d : D} {v : V} {os : Ct}, Rp G d v os → (∀ b, os b = 0) → D.set g d = d
  | _, _, _, .un _, _ | _, _, _, .non _, _ | _, _, _, .bl _, _ | _, _, _, .int _, _ | _, _, _, .str _, _ | _, _, _, .scr _ _, _ => by simp [D.set]
  | _, _, _, .nd (k := k) (a := a) (os := os) (os' := os') hk r n, h0 => by
    have hk' : k.fl ≠ some .own := fun e => by
      rw [e] at n
      have := n.2.2 a
      rw [h0, one_self] at this; (try dsimp only at *); omega
    have h1 : ∀ b, os' b = 0 := fun b => by
      revert n
      generalize k.fl = f
      intro n
      match f, n with
      | none, n => have := n.2 b; have := h0 b; (try dsimp only at *); omega
      | some .own, n => have := n.2.2 b; have := h0 b; (try dsimp only at *); omega
      | some .bor, n => exact n.2.1 b
      | some .fz, n => exact n.2.2.1 b
    simp [D.set, hk', RpL.set_same r h1]
theorem RpL.set_same {G : Gd} {g : Fl} : ∀ {xs : List D} {vs : List V} {os : Ct}, RpL G xs vs os → (∀ b, os b = 0) → D.setL g xs = xs
  | _, _, _, .nil h, _ => by simp [D.setL]
  | _, _, _, .cons r t h, h0 => by
    have e1 := Rp.set_same (g := g) r fun b => by have := h0 b; rw [h] at this; (try dsimp only at *); omega
    have e2 := RpL.set_same (g := g) t fun b => by have := h0 b; rw [h] at this; (try dsimp only at *); omega
    simp [D.setL, e1, e2]
end
/-- into a ground where what the tree owns may no longer change -/
structure Gd.Fr (G G' : Gd) (g : Fl) (os : Ct) : Prop where
  k : G'.K = G.K
  ca : G'.CA = G.CA
  h : ∀ b o, G.H b = some o → (0 < os b ∨ ¬ G.Z b) → G'.H b = some o
  z : ∀ b o, G.H b = some o → ¬ G.Z b → ¬ G'.Z b
  o : ∀ b, 0 < os b → ¬ G'.Z b ∧ (g = .fz → ¬ G'.B b)
  b : ∀ b o, G.H b = some o → ¬ G.Z b → ¬ G.B b → ¬ G'.B b
  n : g ≠ .own
theorem Gd.Fr.sub {G G' : Gd} {g : Fl} {os os' : Ct} (t : Gd.Fr G G' g os) (h : ∀ b, 0 < os' b → 0 < os b) : Gd.Fr G G' g os' :=
  ⟨t.k, t.ca, fun b o e q => t.h b o e (q.imp (h b) id), t.z, fun b q => t.o b (h b q), t.b, t.n⟩
mutual
theorem Rp.frz {G G' : Gd} {g : Fl} : ∀ {d : D} {v : V} {os : Ct}, Rp G d v os → Gd.Fr G G' g os → Rp G' (D.set g d) v (fun _ => 0)
  | _, _, _, .un h, _ => by simp only [D.set]; exact .un fun _ => rfl
  | _, _, _, .non h, _ => by simp only [D.set]; exact .non fun _ => rfl
  | _, _, _, .bl h, _ => by simp only [D.set]; exact .bl fun _ => rfl
  | _, _, _, .int h, _ => by simp only [D.set]; exact .int fun _ => rfl
  | _, _, _, .str h, _ => by simp only [D.set]; exact .str fun _ => rfl
  | _, _, _, .scr (a := a) q h, t => by
    simp only [D.set]
    refine .scr ?_ fun _ => rfl
    rcases q with ⟨q, z⟩ | q
    · refine .inl ⟨?_, ?_⟩
      · rcases q with q | ⟨o, q⟩
        · exact .inl (t.h a _ q (.inr z))
        · exact .inr ⟨o, t.h a _ q (.inr z)⟩
      · rcases q with q | ⟨o, q⟩
        · exact t.z a _ q z
        · exact t.z a _ q z
    · exact .inr fun H => by rw [t.k]; exact q H
  | _, _, _, .nd (k := k) (a := a) (os := os) (os' := os') hk r n, t => by
    obtain ⟨o, ho⟩ := hk.dom
    simp only [D.set]
    revert n
    generalize hfl : k.fl = f
    intro n
    match f, n with
    | none, n =>
      rw [if_neg (by simp)]
      refine .nd (os' := fun _ => 0) (by rw [t.ca]; exact hk.to fun o e => t.h a o e (.inr n.1)) (RpL.frz r (t.sub fun b hb => by rw [n.2]; exact hb)) ?_
      rw [hfl]; exact ⟨t.z a o ho n.1, fun _ => rfl⟩
    | some .own, n =>
      have p : 0 < os a := by rw [n.2.2, one_self]; (try dsimp only at *); omega
      rw [if_pos rfl]
      refine .nd (os' := fun _ => 0) (by rw [t.ca]; exact (hk.to fun o e => t.h a o e (.inl p)).with) (RpL.frz r (t.sub fun b hb => by rw [n.2.2]; (try dsimp only at *); omega)) ?_
      rw [Kd.fl_with hfl]
      match g, t with
      | .own, t => exact absurd rfl t.n
      | .bor, t => exact ⟨(t.o a p).1, fun _ => rfl, fun _ => rfl⟩
      | .fz, t => exact ⟨(t.o a p).1, (t.o a p).2 rfl, fun _ => rfl, fun _ => rfl⟩
    | some .bor, n =>
      rw [if_neg (by simp)]
      refine .nd (os' := fun _ => 0) (by rw [t.ca]; exact hk.to fun o e => t.h a o e (.inr n.1)) (RpL.frz r (t.sub fun b hb => by have := n.2.1 b; (try dsimp only at *); omega)) ?_
      rw [hfl]; exact ⟨t.z a o ho n.1, fun _ => rfl, fun _ => rfl⟩
    | some .fz, n =>
      rw [if_neg (by simp)]
      refine .nd (os' := fun _ => 0) (by rw [t.ca]; exact hk.to fun o e => t.h a o e (.inr n.1)) (RpL.frz r (t.sub fun b hb => by have := n.2.2.1 b; (try dsimp only at *); omega)) ?_
      rw [hfl]; exact ⟨t.z a o ho n.1, t.b a o ho n.1 n.2.1, fun _ => rfl, fun _ => rfl⟩
theorem RpL.frz {G G' : Gd} {g : Fl} : ∀ {xs : List D} {vs : List V} {os : Ct}, RpL G xs vs os → Gd.Fr G G' g os → RpL G' (D.setL g xs) vs (fun _ => 0)
  | _, _, _, .nil h, _ => by simp only [D.setL]; exact .nil fun _ => rfl
  | _, _, _, .cons (o1 := o1) (o2 := o2) r t h, q => by
    simp only [D.setL]
    exact .cons (Rp.frz r (q.sub fun b hb => by rw [h]; (try dsimp only at *); omega)) (RpL.frz t (q.sub fun b hb => by rw [h]; (try dsimp only at *); omega)) fun _ => rfl
end
/-! ### paths -/
abbrev Pth := List Nat
def getP : D → Pth → Option D
  | d, [] => some d
  | .nd _ xs, j :: p => match xs[j]? with
    | some x => getP x p
    | none => none
  | _, _ :: _ => none
def setP : D → Pth → D → D
  | _, [], e => e
  | .nd k xs, j :: p, e => match xs[j]? with
    | some x => .nd k (xs.set j (setP x p e))
    | none => .nd k xs
  | d, _ :: _, _ => d
/-- the items of what stands at an address -/
def hoVals : HO → List V
  | .lst xs => xs
  | .tup xs => xs
  | .dK kvs => kvs.map (·.2)
  | .ins _ _ fs => fs.map (·.2)
  | _ => []
def HPt (H : Hp) : V → Pth → V → Prop
  | v, [], u => v = u
  | v, j :: p, u => ∃ a o w, v = .ref a ∧ H a = some o ∧ (hoVals o)[j]? = some w ∧ HPt H w p u
theorem HPt.fn {H : Hp} : ∀ {p : Pth} {v u u' : V}, HPt H v p u → HPt H v p u' → u = u'
  | [], _, _, _, h, h' => h.symm.trans h'
  | j :: p, _, _, _, ⟨a, o, w, e, ho, hw, h⟩, ⟨a', o', w', e', ho', hw', h'⟩ => by
    subst e; cases e'
    rw [ho] at ho'; cases ho'
    rw [hw] at hw'; cases hw'
    exact HPt.fn h h'
theorem HPt.same {H H' : Hp} (s : Same H H') : ∀ {p : Pth} {v u : V}, HPt H v p u → HPt H' v p u
  | [], _, _, h => h
  | j :: p, _, _, ⟨a, o, w, e, ho, hw, h⟩ => ⟨a, o, w, e, s _ _ ho, hw, HPt.same s h⟩
theorem HPt.snoc {H : Hp} {j : Nat} {u : V} {a : Addr} {o : HO} (ho : H a = some o) (hj : (hoVals o)[j]? = some u) : ∀ {p : Pth} {v : V}, HPt H v p (.ref a) → HPt H v (p ++ [j]) u
  | [], _, h => ⟨a, o, u, h, ho, hj, rfl⟩
  | _ :: p, _, ⟨a', o', w, e, ho', hw, h⟩ => ⟨a', o', w, e, ho', hw, HPt.snoc ho hj h⟩
theorem HoK.vals {CA : Str → Option Addr} {H : Hp} {a : Addr} {vs : List V} {k : Kd} (h : HoK CA H a vs k) : ∃ o, H a = some o ∧ hoVals o = vs := by
  cases k with
  | lst f => exact ⟨_, h, rfl⟩
  | tup => exact ⟨_, h, rfl⟩
  | dct f ks => exact ⟨_, h.2, by simp [hoVals, List.map_snd_zip, h.1]⟩
  | ins f c ns => obtain ⟨l, C, dx, _, q⟩ := h; exact ⟨_, q, by simp [hoVals, List.map_snd_zip, l]⟩
/-- nothing frozen on the way -/
def spOk : D → Pth → Bool
  | _, [] => true
  | .nd k xs, j :: p => (k.fl == none || k.fl == some .own) && match xs[j]? with
    | some x => spOk x p
    | none => false
  | _, _ :: _ => false
/-- where a path leads; and another tree at its end -/
theorem Rp.path {G : Gd} : ∀ {p : Pth} {d e : D} {v : V} {os : Ct}, Rp G d v os → getP d p = some e → ∃ (u : V) (oe orr : Ct), HPt G.H v p u ∧ Rp G e u oe ∧ (∀ b, os b = oe b + orr b) ∧ ((∃ b, 0 < oe b) → spOk d p = true) ∧
    ∀ (e' : D) (oe' os' : Ct), Rp G e' u oe' → ((∀ b, oe' b = 0) ∨ spOk d p = true) → (∀ b, os' b = oe' b + orr b) → Rp G (setP d p e') v os'
  | [], d, e, v, os, r, h => by
    simp [getP] at h; subst h
    exact ⟨v, os, fun _ => 0, rfl, r, fun b => by simp, fun _ => by simp [spOk], fun e' oe' os' r' _ h' => by simp only [setP]; exact r'.ct fun b => by rw [h']; (try dsimp only at *); omega⟩
  | j :: p, d, e, v, os, r, h => by
    cases r with
    | un => simp [getP] at h
    | non => simp [getP] at h
    | bl => simp [getP] at h
    | int => simp [getP] at h
    | str => simp [getP] at h
    | scr => simp [getP] at h
    | nd hk rl n =>
      rename_i k xs a vs os'
      simp only [getP] at h
      cases q : xs[j]? with
      | none => rw [q] at h; simp at h
      | some x =>
        rw [q] at h; simp only at h
        obtain ⟨w, ox, oxr, hw, rx, hx, kx⟩ := rl.at q
        obtain ⟨u, oe, orr, hp, re, hoe, hsp, ke⟩ := Rp.path rx h
        obtain ⟨o, ho, hv⟩ := hk.vals
        have hp' : HPt G.H (.ref a) (j :: p) u := ⟨a, o, w, rfl, ho, by rw [hv]; exact hw, hp⟩
        have back : ∀ (e' : D) (oe' : Ct), Rp G e' u oe' → ((∀ b, oe' b = 0) ∨ spOk x p = true) → RpL G (xs.set j (setP x p e')) vs (fun b => oe' b + orr b + oxr b) := fun e' oe' re' c => by
          have rs := ke e' oe' (fun b => oe' b + orr b) re' c fun _ => rfl
          have := kx (setP x p e') w _ (fun b => oe' b + orr b + oxr b) rs fun b => rfl
          rwa [list_set_same hw] at this
        revert n
        generalize hfl : k.fl = f
        intro n
        match f, n with
        | none, n =>
          refine ⟨u, oe, fun b => orr b + oxr b, hp', re, fun b => by rw [n.2, hx, hoe]; (try dsimp only at *); omega, fun z => by simp [spOk, q, hfl, hsp z], fun e' oe' os'' re' c h' => ?_⟩
          simp only [setP, q]
          exact .nd hk (back e' oe' re' (c.imp id fun z => by simpa [spOk, q, hfl] using z)) (by rw [hfl]; exact ⟨n.1, fun b => by rw [h']; (try dsimp only at *); omega⟩)
        | some .own, n =>
          refine ⟨u, oe, fun b => one a b + orr b + oxr b, hp', re, fun b => by rw [n.2.2, hx, hoe]; (try dsimp only at *); omega, fun z => by simp [spOk, q, hfl, hsp z], fun e' oe' os'' re' c h' => ?_⟩
          simp only [setP, q]
          exact .nd hk (back e' oe' re' (c.imp id fun z => by simpa [spOk, q, hfl] using z)) (by rw [hfl]; exact ⟨n.1, n.2.1, fun b => by rw [h']; (try dsimp only at *); omega⟩)
        | some .bor, n =>
          have z : ∀ b, oe b = 0 ∧ orr b = 0 ∧ oxr b = 0 := fun b => by have := n.2.1 b; rw [hx, hoe] at this; (try dsimp only at *); omega
          refine ⟨u, oe, orr, hp', re, fun b => by rw [n.2.2, (z b).1, (z b).2.1], fun ⟨b, hb⟩ => by have := (z b).1; omega, fun e' oe' os'' re' c h' => ?_⟩
          have c0 : ∀ b, oe' b = 0 := c.elim id fun z => by simp [spOk, q, hfl] at z
          simp only [setP, q]
          exact .nd hk (back e' oe' re' (.inl c0)) (by rw [hfl]; exact ⟨n.1, fun b => by show oe' b + orr b + oxr b = 0; rw [c0, (z b).2.1, (z b).2.2], fun b => by rw [h', c0, (z b).2.1]⟩)
        | some .fz, n =>
          have z : ∀ b, oe b = 0 ∧ orr b = 0 ∧ oxr b = 0 := fun b => by have := n.2.2.1 b; rw [hx, hoe] at this; (try dsimp only at *); omega
          refine ⟨u, oe, orr, hp', re, fun b => by rw [n.2.2.2, (z b).1, (z b).2.1], fun ⟨b, hb⟩ => by have := (z b).1; omega, fun e' oe' os'' re' c h' => ?_⟩
          have c0 : ∀ b, oe' b = 0 := c.elim id fun z => by simp [spOk, q, hfl] at z
          simp only [setP, q]
          exact .nd hk (back e' oe' re' (.inl c0)) (by rw [hfl]; exact ⟨n.1, n.2.1, fun b => by show oe' b + orr b + oxr b = 0; rw [c0, (z b).2.1, (z b).2.2], fun b => by rw [h', c0, (z b).2.1]⟩)
end PV

namespace PV
open PySem L2
/-- what a body's run hangs on: the written part, the classes, the heap and the owned things at its entry, what the callers hold, the wish of exceptions -/
structure Cc where
  K : PySem.W.Frag
  CA : Str → Option Addr
  H0 : Hp
  os0 : Ct
  B : Addr → Prop
  W : WX
  fx : Nat → Option V
  n : Nat
def Cc.G (C : Cc) (Z : Addr → Prop) (H : Hp) : Gd := ⟨C.K, C.CA, H, Z, C.B⟩
abbrev gd : Option V → V := fun o => o.getD .non
/-- the state: the slots' trees st over σ, the temporaries' trees ds over vs -/
structure SR (C : Cc) (Z : Addr → Prop) (st ds : List D) (σ : St) (vs : List V) (H : Hp) (os : Ct) : Prop where
  rp : RpL (C.G Z H) (st ++ ds) (σ.map gd ++ vs) os
  nd : ∀ b, os b ≤ 1
  ln : st.length = σ.length
  sl : ∀ (i : Nat) (d : D), st[i]? = some d → d ≠ .un → ∃ v, σ[i]? = some (some v)
  kp : ∀ a o, C.H0 a = some o → C.os0 a = 0 → H a = some o
  fr : ∀ a, Z a → 0 < C.os0 a ∨ C.H0 a = none
  al : ∀ a, Z a → ∃ o, H a = some o ∧ ∀ xs, o ≠ .tup xs
  bb : ∀ a, C.B a → (∃ o, C.H0 a = some o) ∧ C.os0 a = 0
  fx : (∀ i v, C.fx i = some v → σ[i]? = some (some v)) ∧ σ.length = C.n
def SX (C : Cc) (st ds : List D) (σ : St) (vs : List V) (H : Hp) : Prop := ∃ Z os, SR C Z st ds σ vs H os
def getS (st : List D) (r : Nat) (p : Pth) : Option D := match st[r]? with
  | some d => getP d p
  | none => none
def setS (st : List D) (r : Nat) (p : Pth) (e : D) : List D := match st[r]? with
  | some d => st.set r (setP d p e)
  | none => st
def spS (st : List D) (r : Nat) (p : Pth) : Bool := match st[r]? with
  | some d => spOk d p
  | none => false
def HPs (H : Hp) (σ : St) (r : Nat) (p : Pth) (u : V) : Prop := ∃ v, σ[r]? = some (some v) ∧ HPt H v p u
mutual
def D.noOwn : D → Bool
  | .nd k xs => (k.fl != some .own) && D.noOwnL xs
  | _ => true
def D.noOwnL : List D → Bool
  | [] => true
  | d :: r => D.noOwn d && D.noOwnL r
end
mutual
theorem D.noOwn_set {g : Fl} (hg : g ≠ .own) : ∀ d : D, D.noOwn (D.set g d) = true
  | .un => rfl
  | .non => rfl
  | .bl _ => rfl
  | .int _ => rfl
  | .str _ => rfl
  | .scr _ => rfl
  | .nd k xs => by
    simp only [D.set, D.noOwn, D.noOwnL_set hg xs, Bool.and_true]
    by_cases h : k.fl = some .own
    · rw [if_pos h, Kd.fl_with h]; simpa using hg
    · rw [if_neg h]; simpa using h
theorem D.noOwnL_set {g : Fl} (hg : g ≠ .own) : ∀ xs : List D, D.noOwnL (D.setL g xs) = true
  | [] => rfl
  | d :: r => by simp only [D.setL, D.noOwnL, D.noOwn_set hg d, D.noOwnL_set hg r, Bool.and_self]
end
mutual
theorem Rp.zero {G : Gd} : ∀ {d : D} {v : V} {os : Ct}, Rp G d v os → D.noOwn d = true → ∀ b, os b = 0
  | _, _, _, .un h, _, b | _, _, _, .non h, _, b | _, _, _, .bl h, _, b | _, _, _, .int h, _, b | _, _, _, .str h, _, b | _, _, _, .scr _ h, _, b => h b
  | _, _, _, .nd (k := k) (a := a) (os := os) (os' := os') hk r n, h0, b => by
    simp only [D.noOwn, Bool.and_eq_true, bne_iff_ne] at h0
    have z := RpL.zero r h0.2 b
    revert n
    generalize hfl : k.fl = f
    intro n
    match f, n with
    | none, n => have := n.2 b; (try dsimp only at *); omega
    | some .own, n => exact absurd hfl h0.1
    | some .bor, n => exact n.2.2 b
    | some .fz, n => exact n.2.2.2 b
theorem RpL.zero {G : Gd} : ∀ {xs : List D} {vs : List V} {os : Ct}, RpL G xs vs os → D.noOwnL xs = true → ∀ b, os b = 0
  | _, _, _, .nil h, _, b => h b
  | _, _, _, .cons (o1 := o1) r t h, h0, b => by
    simp only [D.noOwnL, Bool.and_eq_true] at h0
    have := Rp.zero r h0.1 b
    have := RpL.zero t h0.2 b
    have := h b
    omega
end
/-- scalars -/
def vOf : D → Option V
  | .non => some .non
  | .bl b => some (.bl b)
  | .int i => some (.int i)
  | .str s => some (.str s)
  | _ => none
theorem rp_sc {G : Gd} {d : D} {v : V} (h : vOf d = some v) : Rp G d v (fun _ => 0) := by
  cases d <;> simp [vOf] at h <;> subst h
  · exact .non fun _ => rfl
  · exact .bl fun _ => rfl
  · exact .int fun _ => rfl
  · exact .str fun _ => rfl
theorem sc_of {G : Gd} {d : D} {v w : V} {os : Ct} (r : Rp G d v os) (h : vOf d = some w) : v = w := by
  cases d <;> simp [vOf] at h <;> subst h <;> cases r <;> rfl
theorem vOf_un {d : D} {v : V} (h : vOf d = some v) : d ≠ .un := by rintro rfl; simp [vOf] at h
theorem HPs.fn {H : Hp} {σ : St} {r : Nat} {p : Pth} {u u' : V} (h : HPs H σ r p u) (h' : HPs H σ r p u') : u = u' := by
  obtain ⟨v, e, h⟩ := h
  obtain ⟨v', e', h'⟩ := h'
  rw [e] at e'; cases e'
  exact h.fn h'
theorem HPs.same {H H' : Hp} {σ : St} {r : Nat} {p : Pth} {u : V} (s : Same H H') (h : HPs H σ r p u) : HPs H' σ r p u := by
  obtain ⟨v, e, h⟩ := h
  exact ⟨v, e, h.same s⟩
theorem getP_un {p : Pth} {e : D} (h : getP .un p = some e) : p = [] ∧ e = .un := by
  cases p with
  | nil => simp [getP] at h; exact ⟨rfl, h.symm⟩
  | cons j p => simp [getP] at h
section
variable {C : Cc} {Z Z' : Addr → Prop} {st ds : List D} {σ : St} {vs : List V} {H H' : Hp} {os os' : Ct}
theorem SR.sx (s : SR C Z st ds σ vs H os) : SX C st ds σ vs H := ⟨Z, os, s⟩
theorem SR.dn (s : SR C Z st ds σ vs H os) : ds.length = vs.length := by
  have := s.rp.len
  simp [s.ln] at this; exact this
theorem SR.cut (s : SR C Z st ds σ vs H os) : ∃ o1 o2, RpL (C.G Z H) st (σ.map gd) o1 ∧ RpL (C.G Z H) ds vs o2 ∧ ∀ b, os b = o1 b + o2 b :=
  RpL.cut (by simp [s.ln]) s.rp
/-- the same state over other slots, temporaries -/
theorem SR.mk2 (s : SR C Z st ds σ vs H os) {st' ds' : List D} {vs' : List V} {o1 o2 os' : Ct} (r1 : RpL (C.G Z H) st' (σ.map gd) o1) (r2 : RpL (C.G Z H) ds' vs' o2) (h : ∀ b, os' b = o1 b + o2 b) (hl : ∀ b, os' b ≤ os b)
    (sl : ∀ (i : Nat) (d : D), st'[i]? = some d → d ≠ .un → ∃ v, σ[i]? = some (some v)) : SR C Z st' ds' σ vs' H os' :=
  ⟨r1.app r2 h, fun b => Nat.le_trans (hl b) (s.nd b), by have := r1.len; simpa using this, sl, s.kp, s.fr, s.al, s.bb, s.fx⟩
theorem SX.pushc {d : D} {v : V} (s : SX C st ds σ vs H) (h : vOf d = some v) : SX C st (ds ++ [d]) σ (vs ++ [v]) H := by
  obtain ⟨Z, os, s⟩ := s
  obtain ⟨o1, o2, r1, r2, e⟩ := s.cut
  exact (s.mk2 r1 (r2.app (os := o2) (RpL.one (rp_sc h)) fun b => by simp) e (fun b => Nat.le_refl _) s.sl).sx
/-- nothing that stood is changed -/
theorem SR.ext (s : SR C Z st ds σ vs H os) (e : Same H H') : SR C Z st ds σ vs H' os :=
  ⟨s.rp.mono ⟨rfl, rfl, fun b o q _ => e b o q, fun _ _ _ z => z, fun b p => (s.rp.dom b p).2, fun _ _ _ _ z => z⟩, s.nd, s.ln, s.sl, fun a o q z => e a o (s.kp a o q z), s.fr, fun a z => let ⟨o, q, w⟩ := s.al a z; ⟨o, e a o q, w⟩, s.bb, s.fx⟩
theorem SX.ext (s : SX C st ds σ vs H) (e : Same H H') : SX C st ds σ vs H' := let ⟨Z, os, s⟩ := s; (s.ext e).sx
/-- temporaries dropped, kept -/
theorem SX.drop {ds' : List D} {vs' : List V} (s : SX C st (ds ++ ds') σ (vs ++ vs') H) (hl : ds.length = vs.length) : SX C st ds σ vs H := by
  obtain ⟨Z, os, s⟩ := s
  obtain ⟨o1, o2, r1, r2, e⟩ := s.cut
  obtain ⟨o3, o4, r3, r4, e'⟩ := RpL.cut hl r2
  exact (s.mk2 (os' := fun b => o1 b + o3 b) r1 r3 (fun _ => rfl) (fun b => by (try dsimp only); rw [e, e']; (try dsimp only at *); omega) s.sl).sx
theorem SX.pop {d : D} {v : V} (s : SX C st (ds ++ [d]) σ (vs ++ [v]) H) : SX C st ds σ vs H := by
  obtain ⟨Z, os, t⟩ := id s
  exact s.drop (by have := t.dn; simp at this; exact this)
/-- the last temporary as it lies -/
theorem SR.top {d : D} {v : V} (s : SR C Z st (ds ++ [d]) σ (vs ++ [v]) H os) : ∃ o1 o2 o3, RpL (C.G Z H) st (σ.map gd) o1 ∧ RpL (C.G Z H) ds vs o2 ∧ Rp (C.G Z H) d v o3 ∧ ∀ b, os b = o1 b + o2 b + o3 b := by
  obtain ⟨o1, o2, r1, r2, e⟩ := s.cut
  obtain ⟨o3, o4, r3, r4, e'⟩ := RpL.cut (by have := s.dn; simp at this; exact this) r2
  exact ⟨o1, o3, o4, r1, r3, r4.of1, fun b => by rw [e, e']; (try dsimp only at *); omega⟩
theorem map_set_gd (σ : St) (i : Nat) (v : V) : (σ.set i (some v)).map gd = (σ.map gd).set i v := by
  rw [List.map_set]; rfl
/-- the last temporary into a slot -/
theorem SX.toSlot {d : D} {v : V} {i : Nat} (s : SX C st (ds ++ [d]) σ (vs ++ [v]) H) (hi : i < st.length) (hx : C.fx i = none) : SX C (st.set i d) ds (σ.set i (some v)) vs H := by
  obtain ⟨Z, os, s⟩ := s
  obtain ⟨o1, o2, o3, r1, r2, r3, e⟩ := s.top
  obtain ⟨d0, h0⟩ : ∃ d0, st[i]? = some d0 := ⟨st[i], by simp [hi]⟩
  obtain ⟨w, od, orr, hw, rd, hod, k⟩ := r1.at h0
  have r1' := k d v o3 (fun b => o3 b + orr b) r3 fun _ => rfl
  refine ⟨Z, fun b => o3 b + orr b + o2 b, (r1'.app r2 fun _ => rfl : RpL _ _ _ _) |> fun z => ?_, ?_, by simp [s.ln], ?_, s.kp, s.fr, s.al, s.bb, ⟨fun j x hj => by
      have : j ≠ i := fun z => by subst z; rw [hx] at hj; cases hj
      rw [List.getElem?_set_ne (Ne.symm this)]; exact s.fx.1 j x hj, by rw [List.length_set]; exact s.fx.2⟩⟩
  · rw [map_set_gd]; exact z
  · intro b; have := s.nd b; rw [e, hod] at this; (try dsimp only); (try dsimp only at *); omega
  · intro j x hj hx
    by_cases q : j = i
    · subst q
      exact ⟨v, by rw [List.getElem?_set_self (by rw [← s.ln]; exact hi)]⟩
    · rw [List.getElem?_set_ne (Ne.symm q)] at hj
      rw [List.getElem?_set_ne (Ne.symm q)]
      exact s.sl j x hj hx
/-- a slot forgotten -/
theorem SX.unSlot {i : Nat} (s : SX C st ds σ vs H) : SX C (st.set i .un) ds σ vs H := by
  obtain ⟨Z, os, s⟩ := s
  obtain ⟨o1, o2, r1, r2, e⟩ := s.cut
  by_cases hi : i < st.length
  · obtain ⟨d0, h0⟩ : ∃ d0, st[i]? = some d0 := ⟨st[i], by simp [hi]⟩
    obtain ⟨w, od, orr, hw, rd, hod, k⟩ := r1.at h0
    have r1' := k .un w (fun _ => 0) orr (.un fun _ => rfl) fun b => by simp
    rw [list_set_same hw] at r1'
    refine (s.mk2 (os' := fun b => orr b + o2 b) r1' r2 (fun _ => rfl) (fun b => by (try dsimp only); rw [e, hod]; (try dsimp only at *); omega) fun j x hj hx => ?_).sx
    by_cases q : j = i
    · subst q
      rw [List.getElem?_set_self hi] at hj; cases hj; exact absurd rfl hx
    · rw [List.getElem?_set_ne (Ne.symm q)] at hj
      exact s.sl j x hj hx
  · rw [List.set_eq_of_length_le (Nat.le_of_not_lt hi)]; exact s.sx
/-- a slot's tree becomes a temporary -/
theorem SX.move {i : Nat} {d : D} {v : V} (s : SX C st ds σ vs H) (h : st[i]? = some d) (hv : σ[i]? = some (some v)) : SX C (st.set i .un) (ds ++ [d]) σ (vs ++ [v]) H := by
  obtain ⟨Z, os, s⟩ := s
  obtain ⟨o1, o2, r1, r2, e⟩ := s.cut
  obtain ⟨w, od, orr, hw, rd, hod, k⟩ := r1.at h
  have ew : w = v := by simp [hv] at hw; exact hw.symm
  subst ew
  have r1' := k .un w (fun _ => 0) orr (.un fun _ => rfl) fun b => by simp
  rw [list_set_same hw] at r1'
  refine (s.mk2 (os' := os) (o2 := fun b => o2 b + od b) r1' (r2.app (RpL.one rd) fun _ => rfl) (fun b => by rw [e, hod]; (try dsimp only at *); omega) (fun _ => Nat.le_refl _) fun j x hj hx => ?_).sx
  by_cases q : j = i
  · subst q; exact ⟨w, hv⟩
  · rw [List.getElem?_set_ne (Ne.symm q)] at hj
    exact s.sl j x hj hx
theorem SR.hv {r : Nat} {p : Pth} {e : D} (s : SR C Z st ds σ vs H os) (h : getS st r p = some e) (hu : e ≠ .un) : ∃ v, σ[r]? = some (some v) := by
  unfold getS at h
  cases h0 : st[r]? with
  | none => rw [h0] at h; simp at h
  | some d =>
    rw [h0] at h; simp only at h
    exact s.sl r d h0 fun z => hu (by subst z; exact (getP_un h).2)
/-- where a path of a slot leads -/
theorem SR.path {r : Nat} {p : Pth} {e : D} (s : SR C Z st ds σ vs H os) (h : getS st r p = some e) (hv : ∃ v, σ[r]? = some (some v)) : ∃ (u : V) (oe orr o2 : Ct), HPs H σ r p u ∧ Rp (C.G Z H) e u oe ∧ RpL (C.G Z H) ds vs o2 ∧ (∀ b, os b = oe b + orr b + o2 b) ∧ ((∃ b, 0 < oe b) → spS st r p = true) ∧
    ∀ (e' : D) (oe' o1' : Ct), Rp (C.G Z H) e' u oe' → ((∀ b, oe' b = 0) ∨ spS st r p = true) → (∀ b, o1' b = oe' b + orr b) → RpL (C.G Z H) (setS st r p e') (σ.map gd) o1' := by
  obtain ⟨o1, o2, r1, r2, e1⟩ := s.cut
  unfold getS at h
  cases h0 : st[r]? with
  | none => rw [h0] at h; simp at h
  | some d =>
    rw [h0] at h; simp only at h
    obtain ⟨w, od, orr, hw, rd, hod, k⟩ := r1.at h0
    obtain ⟨u, oe, or2, hp, re, hoe, hsp, ke⟩ := rd.path h
    obtain ⟨v, hv⟩ := hv
    have ew : w = v := by simp [hv] at hw; exact hw.symm
    subst ew
    have es : spS st r p = spOk d p := by unfold spS; rw [h0]
    refine ⟨u, oe, fun b => or2 b + orr b, o2, ⟨w, hv, hp⟩, re, r2, fun b => by rw [e1, hod, hoe]; (try dsimp only at *); omega, fun z => by rw [es]; exact hsp z, fun e' oe' o1' r' c h' => ?_⟩
    have := k (setP d p e') w _ o1' (ke e' oe' (fun b => oe' b + or2 b) r' (by rw [← es]; exact c) fun _ => rfl) fun b => by have := h' b; (try dsimp only at *); omega
    rw [list_set_same hw] at this
    unfold setS; rw [h0]; exact this
/-- slots keep their values -/
theorem SR.slS {r : Nat} {p : Pth} {e : D} (s : SR C Z st ds σ vs H os) (hv : ∃ v, σ[r]? = some (some v)) : ∀ (i : Nat) (d : D), (setS st r p e)[i]? = some d → d ≠ .un → ∃ v, σ[i]? = some (some v) := by
  intro i d hd hn
  unfold setS at hd
  cases h0 : st[r]? with
  | none => rw [h0] at hd; exact s.sl i d hd hn
  | some x =>
    rw [h0] at hd; simp only at hd
    by_cases q : i = r
    · subst q; exact hv
    · rw [List.getElem?_set_ne (Ne.symm q)] at hd
      exact s.sl i d hd hn
theorem getP_set : ∀ {p : Pth} {d e e' : D}, getP d p = some e → getP (setP d p e') p = some e'
  | [], d, e, e', h => by simp [setP, getP]
  | j :: p, d, e, e', h => by
    cases d with
    | nd k xs =>
      simp only [getP] at h
      cases q : xs[j]? with
      | none => rw [q] at h; simp at h
      | some x =>
        rw [q] at h; simp only at h
        have hj : j < xs.length := (List.getElem?_eq_some_iff.mp q).1
        simp only [setP, q, getP, List.getElem?_set_self hj]
        exact getP_set h
    | _ => simp [getP] at h
theorem getS_set {r : Nat} {p : Pth} {e e' : D} (h : getS st r p = some e) : getS (setS st r p e') r p = some e' := by
  unfold getS setS at *
  cases h0 : st[r]? with
  | none => rw [h0] at h; simp at h
  | some d =>
    rw [h0] at h; simp only at h ⊢
    rw [List.getElem?_set_self (List.getElem?_eq_some_iff.mp h0).1]
    exact getP_set h
theorem setP_set : ∀ {p : Pth} {d e e' e'' : D}, getP d p = some e → setP (setP d p e') p e'' = setP d p e''
  | [], d, e, e', e'', h => by simp [setP]
  | j :: p, d, e, e', e'', h => by
    cases d with
    | nd k xs =>
      simp only [getP] at h
      cases q : xs[j]? with
      | none => rw [q] at h; simp at h
      | some x =>
        rw [q] at h; simp only at h
        have hj : j < xs.length := (List.getElem?_eq_some_iff.mp q).1
        simp only [setP, q, List.getElem?_set_self hj, List.set_set]
        rw [setP_set h]
    | _ => simp [getP] at h
theorem setS_set {r : Nat} {p : Pth} {e e' e'' : D} (h : getS st r p = some e) : setS (setS st r p e') r p e'' = setS st r p e'' := by
  unfold getS at h
  unfold setS
  cases h0 : st[r]? with
  | none => rw [h0] at h; simp at h
  | some d =>
    rw [h0] at h; simp only at h ⊢
    simp only [List.getElem?_set_self (List.getElem?_eq_some_iff.mp h0).1, List.set_set]
    rw [setP_set h]
theorem spP_set : ∀ {p : Pth} {d e e' : D}, getP d p = some e → spOk (setP d p e') p = spOk d p
  | [], d, e, e', h => by simp [spOk]
  | j :: p, d, e, e', h => by
    cases d with
    | nd k xs =>
      simp only [getP] at h
      cases q : xs[j]? with
      | none => rw [q] at h; simp at h
      | some x =>
        rw [q] at h; simp only at h
        have hj : j < xs.length := (List.getElem?_eq_some_iff.mp q).1
        simp only [setP, q, spOk, List.getElem?_set_self hj, spP_set h]
    | _ => simp [getP] at h
theorem spS_set {r : Nat} {p : Pth} {e e' : D} (h : getS st r p = some e) : spS (setS st r p e') r p = spS st r p := by
  unfold getS at h
  unfold setS spS
  cases h0 : st[r]? with
  | none => rw [h0] at h; simp at h
  | some d =>
    rw [h0] at h; simp only at h ⊢
    simp only [List.getElem?_set_self (List.getElem?_eq_some_iff.mp h0).1]
    exact spP_set h
/-- with less that may change -/
theorem SR.lessZ (s : SR C Z st ds σ vs H os) (hz : ∀ a, Z' a → Z a) (ho : ∀ b, 0 < os b → Z' b) : SR C Z' st ds σ vs H os :=
  ⟨s.rp.mono ⟨rfl, rfl, fun _ _ q _ => q, fun _ _ _ z => fun q => z (hz _ q), fun b p => ⟨ho b p, (s.rp.dom b p).2.2⟩, fun _ _ _ _ z => z⟩, s.nd, s.ln, s.sl, s.kp, fun a z => s.fr a (hz a z), fun a z => s.al a (hz a z), s.bb, s.fx⟩
/-- what a path leads to, taken out: it is a temporary -/
theorem SR.take {r : Nat} {p : Pth} {e : D} {u : V} (s : SR C Z st ds σ vs H os) (h : getS st r p = some e) (hp : HPs H σ r p u) : SR C Z (setS st r p .un) (ds ++ [e]) σ (vs ++ [u]) H os := by
  have hv : ∃ v, σ[r]? = some (some v) := let ⟨v, e, _⟩ := hp; ⟨v, e⟩
  obtain ⟨u', oe, orr, o2, hp', re, r2, ho, hsp, k⟩ := s.path h hv
  have eu := hp.fn hp'
  subst eu
  exact s.mk2 (os' := os) (o2 := fun b => o2 b + oe b) (k .un (fun _ => 0) orr (.un fun _ => rfl) (.inl fun _ => rfl) fun b => by simp) (r2.app (RpL.one re) fun _ => rfl) (fun b => by rw [ho]; (try dsimp only at *); omega) (fun _ => Nat.le_refl _) (s.slS hv)
/-- the last temporary laid at a path, where there was nothing -/
theorem SR.lay {r : Nat} {p : Pth} {e : D} {u : V} (s : SR C Z st (ds ++ [e]) σ (vs ++ [u]) H os) (h : getS st r p = some .un) (hp : HPs H σ r p u) (hs : D.noOwn e = true ∨ spS st r p = true) : SR C Z (setS st r p e) ds σ vs H os := by
  have hv : ∃ v, σ[r]? = some (some v) := let ⟨v, e, _⟩ := hp; ⟨v, e⟩
  obtain ⟨u', oe, orr, o2, hp', re, r2, ho, hsp, k⟩ := s.path h hv
  have eu := hp.fn hp'
  subst eu
  have z : ∀ b, oe b = 0 := by cases re with | un z => exact z
  obtain ⟨o3, o4, r3, r4, e'⟩ := RpL.cut (by have := s.dn; simp at this; exact this) r2
  refine s.mk2 (os' := os) (o1 := fun b => o4 b + orr b) (k e o4 _ r4.of1 (hs.imp (fun q => r4.of1.zero q) id) fun _ => rfl) r3 (fun b => by rw [ho, z, e']; (try dsimp only at *); omega) (fun _ => Nat.le_refl _) (s.slS hv)
/-- what a path leads to, frozen there, its alias a temporary -/
theorem SX.share {r : Nat} {p : Pth} {e : D} {u : V} (s : SX C st ds σ vs H) (h : getS st r p = some e) (hp : HPs H σ r p u) : SX C (setS st r p e.frz) (ds ++ [e.frz]) σ (vs ++ [u]) H := by
  obtain ⟨Z, os, s⟩ := s
  have t := s.take h hp
  obtain ⟨o1, o2, o3, r1, r2, r3, e1⟩ := t.top
  have hz : ∀ b, 0 < o1 b + o2 b → Z b ∧ o3 b = 0 := fun b q => ⟨(t.rp.dom b (by rw [e1]; (try dsimp only at *); omega)).2.1, by have := t.nd b; rw [e1] at this; (try dsimp only at *); omega⟩
  have F : Gd.Fr (C.G Z H) (C.G (fun a => Z a ∧ o3 a = 0) H) .fz o3 := ⟨rfl, rfl, fun _ _ q _ => q, fun _ _ _ z => fun q => z q.1, fun b p => ⟨fun q => by have := q.2; (try dsimp only at *); omega, fun _ => (r3.dom b p).2.2⟩, fun _ _ _ _ z => z, by decide⟩
  have rf : Rp (C.G (fun a => Z a ∧ o3 a = 0) H) e.frz u (fun _ => 0) := r3.frz F
  have t0 : SR C Z (setS st r p .un) ds σ vs H (fun b => o1 b + o2 b) := t.mk2 r1 r2 (fun _ => rfl) (fun b => by rw [e1]; (try dsimp only at *); omega) t.sl
  have t1 := t0.lessZ (Z' := fun a => Z a ∧ o3 a = 0) (fun _ q => q.1) hz
  obtain ⟨p1, p2, q1, q2, q3⟩ := t1.cut
  have t2 : SR C (fun a => Z a ∧ o3 a = 0) (setS st r p .un) ((ds ++ [e.frz]) ++ [e.frz]) σ ((vs ++ [u]) ++ [u]) H (fun b => o1 b + o2 b) :=
    t1.mk2 (o2 := p2) q1 ((q2.app (os := p2) (RpL.one rf) fun b => by simp).app (RpL.one rf) fun b => by simp) q3 (fun _ => Nat.le_refl _) t1.sl
  have := t2.lay (getS_set h) hp (.inl (D.noOwn_set (by decide) e))
  rw [setS_set h] at this; exact this.sx
end
end PV

namespace PV
open PySem L2
theorem Rp.hpt {G G' : Gd} : ∀ {p : Pth} {d e : D} {v u : V} {os : Ct}, Rp G d v os → getP d p = some e → HPt G.H v p u → Gd.To G G' os → HPt G'.H v p u
  | [], _, _, _, _, _, _, _, h, _ => h
  | j :: p, d, e, v, u, os, r, h, hp, t => by
    cases r with
    | un => simp [getP] at h
    | non => simp [getP] at h
    | bl => simp [getP] at h
    | int => simp [getP] at h
    | str => simp [getP] at h
    | scr => simp [getP] at h
    | nd hk rl n =>
      rename_i k xs a vs os'
      simp only [getP] at h
      cases q : xs[j]? with
      | none => rw [q] at h; simp at h
      | some x =>
        rw [q] at h; simp only at h
        obtain ⟨a', o, w, e1, ho, hw, hp⟩ := hp
        cases e1
        obtain ⟨w', ox, oxr, hw', rx, hx, _⟩ := rl.at q
        obtain ⟨o', ho', hv⟩ := hk.vals
        rw [ho] at ho'; cases ho'
        rw [hv] at hw; rw [hw] at hw'; cases hw'
        have sub : ∀ b, 0 < ox b → 0 < os b := fun b hb => by
          revert n
          generalize k.fl = f
          intro n
          match f, n with
          | none, n => have := n.2 b; have := hx b; (try dsimp only at *); omega
          | some .own, n => have := n.2.2 b; have := hx b; (try dsimp only at *); omega
          | some .bor, n => have := n.2.1 b; have := hx b; (try dsimp only at *); omega
          | some .fz, n => have := n.2.2.1 b; have := hx b; (try dsimp only at *); omega
        have st : 0 < os a ∨ ¬ G.Z a := by
          revert n
          generalize k.fl = f
          intro n
          match f, n with
          | none, n => exact .inr n.1
          | some .own, n => exact .inl (by have := n.2.2 a; rw [one_self] at this; (try dsimp only at *); omega)
          | some .bor, n => exact .inr n.1
          | some .fz, n => exact .inr n.1
        exact ⟨a, o, w, rfl, t.h a o ho st, by rw [hv]; exact hw, Rp.hpt rx h hp (t.sub sub)⟩
theorem HoK.notup {CA : Str → Option Addr} {H : Hp} {a : Addr} {vs : List V} {k : Kd} {o : HO} (h : HoK CA H a vs k) (hf : k.fl = some .own) (e : H a = some o) : ∀ xs, o ≠ .tup xs := by
  intro xs z
  subst z
  cases k with
  | lst f => rw [show H a = some (.lst vs) from h] at e; cases e
  | tup => cases hf
  | dct f ks => rw [h.2] at e; cases e
  | ins f c ns => obtain ⟨_, _, _, _, q⟩ := h; rw [q] at e; cases e
section
variable {C : Cc} {Z Z' : Addr → Prop} {st ds : List D} {σ : St} {vs : List V} {H H' : Hp} {os os' : Ct}
theorem SR.to (s : SR C Z st ds σ vs H os) {G' : Gd} (k : G'.K = C.K) (ca : G'.CA = C.CA) (h : ∀ b o, H b = some o → (0 < os b ∨ ¬ Z b) → G'.H b = some o) (z : ∀ b o, H b = some o → ¬ Z b → ¬ G'.Z b) (o : ∀ b, 0 < os b → G'.Z b) (b : G'.B = C.B) : Gd.To (C.G Z H) G' os :=
  ⟨k, ca, h, z, fun x p => ⟨o x p, by rw [b]; exact (s.rp.dom x p).2.2⟩, fun _ _ _ _ q => by rw [b]; exact q⟩
/-- a new thing is laid, with the last temporaries as its items -/
theorem SX.alloc {k : Kd} {xs : List D} {ws : List V} {p : Addr} {o : HO} (s : SX C st (ds ++ xs) σ (vs ++ ws) H) (hl : ds.length = vs.length) (hp : H p = none) (hk : HoK C.CA (upd H p o) p ws k) (hf : k.fl = none ∨ k.fl = some .own) :
    SX C st (ds ++ [.nd k xs]) σ (vs ++ [.ref p]) (upd H p o) := by
  obtain ⟨Z, os, s⟩ := s
  have hne : ∀ b u, H b = some u → b ≠ p := fun b u e z => by rw [z, hp] at e; cases e
  have nz : ¬ Z p := fun z => by obtain ⟨u, e, _⟩ := s.al p z; exact hne p u e rfl
  have np : ∀ b, 0 < os b → b ≠ p := fun b q => by obtain ⟨u, e⟩ := (s.rp.dom b q).1; exact hne b u e
  obtain ⟨o1, o2, r1, r2, e⟩ := s.cut
  obtain ⟨o3, o4, r3, r4, e'⟩ := RpL.cut hl r2
  have nB : ¬ C.B p := fun z => by
    obtain ⟨⟨u, q⟩, q2⟩ := s.bb p z
    exact hne p u (s.kp p u q q2) rfl
  have keep : ∀ b u, H b = some u → upd H p o b = some u := fun b u q => by rw [upd_ne (hne b u q)]; exact q
  rcases hf with hf | hf
  · have T : Gd.To (C.G Z H) (C.G Z (upd H p o)) os := s.to rfl rfl (fun b u q _ => keep b u q) (fun _ _ _ z => z) (fun b q => (s.rp.dom b q).2.1) rfl
    refine ⟨Z, os, (r1.mono (T.sub fun b q => by rw [e]; omega)).app (o2 := fun b => o3 b + o4 b) ((r3.mono (T.sub fun b q => by rw [e, e']; omega)).app (RpL.one (.nd hk (r4.mono (T.sub fun b q => by rw [e, e']; omega)) (by rw [hf]; exact ⟨nz, fun _ => rfl⟩))) fun _ => rfl) (fun b => by rw [e, e']), s.nd, s.ln, s.sl, fun a u q z => keep a u (s.kp a u q z), s.fr, fun a z => let ⟨u, q, w⟩ := s.al a z; ⟨u, keep a u q, w⟩, s.bb, s.fx⟩
  · have T : Gd.To (C.G Z H) (C.G (fun b => Z b ∨ b = p) (upd H p o)) os := s.to rfl rfl (fun b u q _ => keep b u q) (fun b u q z => fun w => w.elim z (hne b u q)) (fun b q => .inl (s.rp.dom b q).2.1) rfl
    refine ⟨fun b => Z b ∨ b = p, fun b => os b + one p b, (r1.mono (T.sub fun b q => by rw [e]; omega)).app (o2 := fun b => o3 b + (one p b + o4 b)) ((r3.mono (T.sub fun b q => by rw [e, e']; omega)).app (RpL.one (.nd hk (r4.mono (T.sub fun b q => by rw [e, e']; omega)) (by rw [hf]; exact ⟨.inr rfl, nB, fun _ => rfl⟩))) fun _ => rfl) (fun b => by rw [e, e']; (try dsimp only); omega), ?_, s.ln, s.sl, fun a u q z => keep a u (s.kp a u q z), ?_, ?_, s.bb, s.fx⟩
    · intro b
      by_cases q : b = p
      · subst q
        have : os b = 0 := Nat.eq_zero_of_not_pos fun z => np b z rfl
        rw [this, one_self]; omega
      · rw [one_ne q]; exact s.nd b
    · rintro a (z | rfl)
      · exact s.fr a z
      · by_cases q2 : C.os0 a = 0
        · right
          cases q : C.H0 a with
          | none => rfl
          | some u => exact absurd rfl (hne a u (s.kp a u q q2))
        · left; omega
    · rintro a (z | rfl)
      · let ⟨u, q, w⟩ := s.al a z; exact ⟨u, keep a u q, w⟩
      · exact ⟨o, upd_same, hk.notup hf upd_same⟩
theorem SR.hps {G' : Gd} {r : Nat} {p : Pth} {e : D} {u : V} (s : SR C Z st ds σ vs H os) (h : getS st r p = some e) (hp : HPs H σ r p u) (t : Gd.To (C.G Z H) G' os) : HPs G'.H σ r p u := by
  obtain ⟨v, hv, hp⟩ := hp
  refine ⟨v, hv, ?_⟩
  obtain ⟨o1, o2, r1, r2, e1⟩ := s.cut
  unfold getS at h
  cases h0 : st[r]? with
  | none => rw [h0] at h; simp at h
  | some d =>
    rw [h0] at h; simp only at h
    obtain ⟨w, od, orr, hw, rd, hod, k⟩ := r1.at h0
    have ew : w = v := by simp [hv] at hw; exact hw.symm
    subst ew
    exact rd.hpt h hp (t.sub fun b q => by rw [e1, hod]; omega)
/-- an owned node at a path is changed: its new items come from its old ones and from the last temporaries -/
theorem SX.mut {k k' : Kd} {xs xs' new : List D} {ws ws' nw : List V} {r : Nat} {p : Pth} {a : Addr} {o' : HO} (s : SX C st (ds ++ new) σ (vs ++ nw) H) (hl : ds.length = vs.length) (h : getS st r p = some (.nd k xs)) (hf : k.fl = some .own) (hp : HPs H σ r p (.ref a)) (hk : HoK C.CA H a ws k)
    (hk' : HoK C.CA (upd H a o') a ws' k') (hf' : k'.fl = some .own)
    (build : ∀ (G : Gd) (ox on : Ct), RpL G xs ws ox → RpL G new nw on → ∃ ox', RpL G xs' ws' ox' ∧ ∀ b, ox' b ≤ ox b + on b) : SX C (setS st r p (.nd k' xs')) ds σ vs (upd H a o') := by
  obtain ⟨Z, os, s⟩ := s
  have hsp : spS st r p = true := by
    obtain ⟨u', oe, orr, o2, hp', re, r2, ho, hsp, _⟩ := s.path h (let ⟨v, e, _⟩ := hp; ⟨v, e⟩)
    have := hp.fn hp'; subst this
    cases re with
    | nd hk2 rl n =>
      rw [hf] at n
      exact hsp ⟨a, by have := n.2.2 a; rw [one_self] at this; omega⟩
  have t := s.take h hp
  obtain ⟨o1, o2, o3, r1, r2, r3, e⟩ := t.top
  obtain ⟨o4, o5, r4, r5, e'⟩ := RpL.cut hl r2
  cases r3 with
  | nd hk2 rl n =>
    rename_i ws2 ox
    have ew : ws2 = ws := by
      obtain ⟨q1, q2, q3⟩ := hk2.vals
      obtain ⟨q4, q5, q6⟩ := hk.vals
      have q2' : H a = some q1 := q2
      rw [q2'] at q5; cases q5; exact q3.symm.trans q6
    subst ew
    rw [hf] at n
    obtain ⟨nz, nb, on⟩ := n
    have eq : ∀ b, os b = o1 b + o4 b + o5 b + one a b + ox b := fun b => by rw [e, e', on]; omega
    have za : o1 a + o4 a + o5 a + ox a = 0 := by have := s.nd a; rw [eq, one_self] at this; omega
    have keep : ∀ b u, b ≠ a → H b = some u → upd H a o' b = some u := fun b u q z => by rw [upd_ne q]; exact z
    have T : Gd.To (C.G Z H) (C.G Z (upd H a o')) (fun b => o1 b + o4 b + o5 b + ox b) :=
      ⟨rfl, rfl, fun b u q z => keep b u (fun y => by
        subst y
        rcases z with z | z
        · (try dsimp only at z); omega
        · exact z nz) q, fun b u q z => z, fun b q => (s.rp.dom b (by rw [eq]; (try dsimp only at *); omega)).2, fun _ _ _ _ q => q⟩
    obtain ⟨ox', rx', hx'⟩ := build _ _ _ (rl.mono (T.sub fun b q => by (try dsimp only); omega)) (r5.mono (T.sub fun b q => by (try dsimp only); omega))
    have node : Rp (C.G Z (upd H a o')) (.nd k' xs') (.ref a) (fun b => one a b + ox' b) := .nd hk' rx' (by rw [hf']; exact ⟨nz, nb, fun _ => rfl⟩)
    have t2 : SR C Z (setS st r p .un) (ds ++ [.nd k' xs']) σ (vs ++ [.ref a]) (upd H a o') (fun b => o1 b + o4 b + (one a b + ox' b)) :=
      ⟨(r1.mono (T.sub fun b q => by (try dsimp only); omega)).app (o2 := fun b => o4 b + (one a b + ox' b)) ((r4.mono (T.sub fun b q => by (try dsimp only); omega)).app (RpL.one node) fun _ => rfl) (fun b => by (try dsimp only); omega),
        fun b => by have := s.nd b; rw [eq] at this; have := hx' b; (try dsimp only); omega, t.ln, t.sl, fun b u q z => keep b u (fun y => by
          subst y
          rcases s.fr b nz with w | w
          · omega
          · rw [q] at w; cases w) (s.kp b u q z), s.fr, fun b z => by
            by_cases q : b = a
            · subst q; exact ⟨o', upd_same, hk'.notup hf' upd_same⟩
            · obtain ⟨u, w, w2⟩ := s.al b z; exact ⟨u, keep b u q w, w2⟩, s.bb, s.fx⟩
    have t0 : SR C Z (setS st r p .un) ds σ vs H (fun b => o1 b + o4 b) := t.mk2 r1 r4 (fun _ => rfl) (fun b => by rw [eq]; (try dsimp only); omega) t.sl
    have hp2 : HPs (upd H a o') σ r p (.ref a) := t0.hps (G' := C.G Z (upd H a o')) (getS_set h) hp (T.sub fun b q => by (try dsimp only at *); omega)
    have := t2.lay (getS_set h) hp2 (.inr (by rw [spS_set h]; exact hsp))
    rw [setS_set h] at this; exact this.sx
/-- a node's items frozen, their aliases the last temporaries -/
theorem SX.shareK {k : Kd} {xs : List D} {ws : List V} {r : Nat} {p : Pth} {a : Addr} (s : SX C st ds σ vs H) (h : getS st r p = some (.nd k xs)) (hp : HPs H σ r p (.ref a)) (hk : HoK C.CA H a ws k) :
    SX C (setS st r p (.nd k (D.setL .fz xs))) (ds ++ D.setL .fz xs) σ (vs ++ ws) H := by
  obtain ⟨Z, os, s⟩ := s
  obtain ⟨u', oe, orr, oq, hp', re, rq, ho, hsp, kk⟩ := s.path h (let ⟨v, e, _⟩ := hp; ⟨v, e⟩)
  have := hp.fn hp'; subst this
  cases re with
  | nd hk2 rl n =>
    rename_i ws2 ox
    have ew : ws2 = ws := by
      obtain ⟨q1, q2, q3⟩ := hk2.vals
      obtain ⟨q4, q5, q6⟩ := hk.vals
      have q2' : H a = some q1 := q2
      rw [q2'] at q5; cases q5; exact q3.symm.trans q6
    subst ew
    -- what the node itself owns
    have sub : ∀ b, ox b ≤ oe b := fun b => by
      revert n
      generalize k.fl = f
      intro n
      match f, n with
      | none, n => have := n.2 b; omega
      | some .own, n => have := n.2.2 b; omega
      | some .bor, n => have := n.2.1 b; omega
      | some .fz, n => have := n.2.2.1 b; omega
    have t0 : SR C Z (setS st r p .un) ds σ vs H (fun b => orr b + oq b) := s.mk2 (kk .un (fun _ => 0) orr (.un fun _ => rfl) (.inl fun _ => rfl) fun b => by simp) rq (fun _ => rfl) (fun b => by rw [ho]; (try dsimp only); omega) (s.slS (let ⟨v, e, _⟩ := hp; ⟨v, e⟩))
    have hz : ∀ b, 0 < orr b + oq b → Z b ∧ ox b = 0 := fun b q => ⟨(s.rp.dom b (by rw [ho]; omega)).2.1, by have := s.nd b; rw [ho] at this; have := sub b; omega⟩
    have t1 := t0.lessZ (Z' := fun b => Z b ∧ ox b = 0) (fun _ q => q.1) hz
    have F : Gd.Fr (C.G Z H) (C.G (fun b => Z b ∧ ox b = 0) H) .fz ox := ⟨rfl, rfl, fun _ _ q _ => q, fun _ _ _ z => fun q => z q.1, fun b p => ⟨fun q => by have := q.2; omega, fun _ => (rl.dom b p).2.2⟩, fun _ _ _ _ z => z, by decide⟩
    have rf : RpL (C.G (fun b => Z b ∧ ox b = 0) H) (D.setL .fz xs) ws2 (fun _ => 0) := rl.frz F
    have node : ∃ on, Rp (C.G (fun b => Z b ∧ ox b = 0) H) (.nd k (D.setL .fz xs)) (.ref a) on ∧ (∀ b, on b ≤ oe b) ∧ (D.noOwn (.nd k (D.setL .fz xs)) = true ∨ spS st r p = true) := by
      revert n
      generalize hfl : k.fl = f
      intro n
      have nz := D.noOwnL_set (g := .fz) (by decide) xs
      match f, n with
      | none, n => exact ⟨fun _ => 0, .nd hk2 rf (by rw [hfl]; exact ⟨fun q => n.1 q.1, fun _ => rfl⟩), fun _ => Nat.zero_le _, .inl (by simp [D.noOwn, hfl, nz])⟩
      | some .own, n => exact ⟨one a, .nd hk2 rf (by rw [hfl]; exact ⟨⟨n.1, by have h1 := s.nd a; have h2 := n.2.2 a; have h3 := ho a; rw [one_self] at h2; omega⟩, n.2.1, fun b => by simp⟩), fun b => by have := n.2.2 b; omega, .inr (hsp ⟨a, by have := n.2.2 a; rw [one_self] at this; omega⟩)⟩
      | some .bor, n => exact ⟨fun _ => 0, .nd hk2 rf (by rw [hfl]; exact ⟨fun q => n.1 q.1, fun _ => rfl, fun _ => rfl⟩), fun _ => Nat.zero_le _, .inl (by simp [D.noOwn, hfl, nz])⟩
      | some .fz, n => exact ⟨fun _ => 0, .nd hk2 rf (by rw [hfl]; exact ⟨fun q => n.1 q.1, n.2.1, fun _ => rfl, fun _ => rfl⟩), fun _ => Nat.zero_le _, .inl (by simp [D.noOwn, hfl, nz])⟩
    obtain ⟨on, rn, hn, hs⟩ := node
    obtain ⟨p1, p2, q1, q2, q3⟩ := t1.cut
    have t2 : SR C (fun b => Z b ∧ ox b = 0) (setS st r p .un) ((ds ++ D.setL .fz xs) ++ [.nd k (D.setL .fz xs)]) σ ((vs ++ ws2) ++ [.ref a]) H (fun b => orr b + oq b + on b) :=
      ⟨q1.app (o2 := fun b => p2 b + on b) ((q2.app (os := p2) rf fun b => by simp).app (RpL.one rn) fun _ => rfl) (fun b => by have := q3 b; (try dsimp only at *); omega), fun b => by have := s.nd b; rw [ho] at this; have := hn b; (try dsimp only); omega, t1.ln, t1.sl, t1.kp, t1.fr, t1.al, t1.bb, t1.fx⟩
    have := t2.lay (getS_set h) hp (hs.imp id fun q => by rw [spS_set h]; exact q)
    rw [setS_set h] at this; exact this.sx
end
end PV

namespace PV
open PySem L2
/-- an exception: its class, and (where it has one) its field and what it holds -/
structure Ex where
  c : Str
  f : Str := ""
  p : Option D := none
def Ex.ds (e : Ex) : List D := match e.p with
  | some d => [d]
  | none => []
inductive R (α : Type) where | ok (a : α) (st : List D) | ex (e : Ex) (st : List D) | stuck
/-- how a parameter is handed: it may be changed | it is read | it is given away -/
inductive Md where | io | bo | fz
  deriving DecidableEq
/-- an argument: a value of its own, or what stands at a place -/
inductive AD where | val (d : D) | lnd (r : Nat) (p : Pth)
def AD.d : AD → D
  | .val d => d
  | .lnd _ _ => .un
inductive FR where | ok (d : D) (outs : List D) | ex (e : Ex) (outs : List D) | stuck
def takeA : List Md → List AD → List D → Option (List D × List D)
  | [], [], st => some (st, [])
  | m :: ms, .val d :: as, st => match takeA ms as st with
    | some (st', bs) => some (st', (if m = .fz then d.frz else d) :: bs)
    | none => none
  | .io :: ms, .lnd r p :: as, st => match getS st r p with
    | some e => match takeA ms as (setS st r p .un) with
      | some (st', bs) => some (st', e :: bs)
      | none => none
    | none => none
  | .fz :: ms, .lnd r p :: as, st => match getS st r p with
    | some e => match takeA ms as (setS st r p e.frz) with
      | some (st', bs) => some (st', e.frz :: bs)
      | none => none
    | none => none
  | .bo :: ms, .lnd r p :: as, st => match takeA ms as st with
    | some (st', bs) => some (st', .un :: bs)
    | none => none
  | _, _, _ => none
def argsOf : List Md → List AD → List D → List D → Option (List D)
  | [], [], [], _ => some []
  | .bo :: ms, .val _ :: as, b :: bs, st => match argsOf ms as bs st with
    | some l => some (b.len :: l)
    | none => none
  | .bo :: ms, .lnd r p :: as, b :: bs, st => match getS st r p with
    | some e => match argsOf ms as bs st with
      | some l => some (e.len :: l)
      | none => none
    | none => none
  | .io :: ms, .val _ :: as, b :: bs, st => match argsOf ms as bs st with
    | some l => some (b :: l)
    | none => none
  | .io :: ms, .lnd r p :: as, b :: bs, st => match getS st r p with
    | some _ => match argsOf ms as bs st with
      | some l => some (b :: l)
      | none => none
    | none => none
  | .fz :: ms, _ :: as, b :: bs, st => match argsOf ms as bs st with
    | some l => some (b :: l)
    | none => none
  | _, _, _, _ => none
def isUn : Option D → Bool
  | some .un => true
  | _ => false
def putA : List Md → List AD → List D → List D → Option (List D)
  | [], [], [], st => some st
  | .io :: ms, .lnd r p :: as, o :: os, st => match putA ms as os st with
    | some st' => if (isUn (getS st' r p) && (D.noOwn o || spS st' r p)) = true then some (setS st' r p o) else none
    | none => none
  | _ :: ms, _ :: as, _ :: os, st => putA ms as os st
  | _, _, _, _ => none
mutual
/-- no lent list in it -/
def D.noBor : D → Bool
  | .nd k xs => (k.fl != some .bor) && D.noBorL xs
  | .scr _ => false
  | _ => true
def D.noBorL : List D → Bool
  | [] => true
  | d :: r => D.noBor d && D.noBorL r
end
abbrev Fn := List D → FR
def callR (ms : List Md) (F : Fn) (as : List AD) (st : List D) : R D := match takeA ms as st with
  | none => .stuck
  | some (st1, bs) => match argsOf ms as bs st1 with
    | none => .stuck
    | some args => match F args with
      | .ok d outs => if D.noBorL (d :: outs) = true then match putA ms as outs st1 with
          | some st2 => .ok d st2
          | none => .stuck
        else .stuck
      | .ex e outs => if D.noBorL (e.ds ++ outs) = true then match putA ms as outs st1 with
          | some st2 => .ex e st2
          | none => .stuck
        else .stuck
      | .stuck => .stuck
/-- the places that are lent -/
inductive Lnd (H : Hp) (σ : St) : List AD → List V → Prop
  | nil : Lnd H σ [] []
  | val {d : D} {u : V} {as : List AD} {us : List V} : Lnd H σ as us → Lnd H σ (.val d :: as) (u :: us)
  | lnd {r : Nat} {p : Pth} {u : V} {as : List AD} {us : List V} : HPs H σ r p u → Lnd H σ as us → Lnd H σ (.lnd r p :: as) (u :: us)
theorem Lnd.len {H : Hp} {σ : St} : ∀ {as : List AD} {us : List V}, Lnd H σ as us → as.length = us.length
  | _, _, .nil => rfl
  | _, _, .val t => by simp [t.len]
  | _, _, .lnd _ t => by simp [t.len]
theorem Lnd.same {H H' : Hp} {σ : St} (s : Same H H') : ∀ {as : List AD} {us : List V}, Lnd H σ as us → Lnd H' σ as us
  | _, _, .nil => .nil
  | _, _, .val t => .val (t.same s)
  | _, _, .lnd h t => .lnd (h.same s) (t.same s)
section
variable {C : Cc} {Z Z' : Addr → Prop} {st ds : List D} {σ : St} {vs : List V} {H H' : Hp} {os os' : Ct}
theorem SX.rot {x : D} {v : V} {B : List D} {vB : List V} (s : SX C st (ds ++ (x :: B)) σ (vs ++ (v :: vB)) H) (hl : ds.length = vs.length) : SX C st (ds ++ (B ++ [x])) σ (vs ++ (vB ++ [v])) H := by
  obtain ⟨Z, os, s⟩ := s
  obtain ⟨o1, o2, r1, r2, e⟩ := s.cut
  obtain ⟨o3, o4, r3, r4, e'⟩ := RpL.cut hl r2
  cases r4 with
  | cons rx rB e2 =>
    rename_i o5 o6
    exact (s.mk2 (os' := os) (o2 := fun b => o3 b + (o6 b + o5 b)) r1 (r3.app (rB.app (RpL.one rx) fun _ => rfl) fun _ => rfl) (fun b => by rw [e, e', e2]; omega) (fun _ => Nat.le_refl _) s.sl).sx
/-- the first temporary behind ds dropped -/
theorem SX.drop1 {x : D} {v : V} {B : List D} {vB : List V} (s : SX C st (ds ++ (x :: B)) σ (vs ++ (v :: vB)) H) (hl : ds.length = vs.length) : SX C st (ds ++ B) σ (vs ++ vB) H := by
  have := s.rot hl
  rw [← List.append_assoc, ← List.append_assoc] at this
  exact this.pop
/-- the last temporary frozen -/
theorem SX.frzTop {x : D} {v : V} (s : SX C st (ds ++ [x]) σ (vs ++ [v]) H) : SX C st (ds ++ [x.frz]) σ (vs ++ [v]) H := by
  obtain ⟨Z, os, s⟩ := s
  obtain ⟨o1, o2, o3, r1, r2, r3, e⟩ := s.top
  have hz : ∀ b, 0 < o1 b + o2 b → Z b ∧ o3 b = 0 := fun b q => ⟨(s.rp.dom b (by rw [e]; omega)).2.1, by have := s.nd b; rw [e] at this; omega⟩
  have F : Gd.Fr (C.G Z H) (C.G (fun a => Z a ∧ o3 a = 0) H) .fz o3 := ⟨rfl, rfl, fun _ _ q _ => q, fun _ _ _ z => fun q => z q.1, fun b p => ⟨fun q => by have := q.2; omega, fun _ => (r3.dom b p).2.2⟩, fun _ _ _ _ z => z, by decide⟩
  have t0 : SR C Z st ds σ vs H (fun b => o1 b + o2 b) := s.mk2 r1 r2 (fun _ => rfl) (fun b => by rw [e]; omega) s.sl
  have t1 := t0.lessZ (Z' := fun a => Z a ∧ o3 a = 0) (fun _ q => q.1) hz
  obtain ⟨p1, p2, q1, q2, q3⟩ := t1.cut
  exact (t1.mk2 (o2 := p2) (os' := fun b => o1 b + o2 b) q1 (q2.app (os := p2) (RpL.one (r3.frz F)) fun b => by simp) q3 (fun _ => Nat.le_refl _) t1.sl).sx
/-- the first pass -/
theorem SX.takeA : ∀ {ms : List Md} {as : List AD} {us : List V} {st st1 bs done : List D} {dvs : List V}, SX C st (ds ++ (as.map AD.d ++ done)) σ (vs ++ (us ++ dvs)) H → ds.length = vs.length → Lnd H σ as us → PV.takeA ms as st = some (st1, bs) → SX C st1 (ds ++ (done ++ bs)) σ (vs ++ (dvs ++ us)) H
  | [], [], [], st, st1, bs, done, dvs, s, hl, hL, h => by
    simp [PV.takeA] at h
    obtain ⟨rfl, rfl⟩ := h
    simpa using s
  | m :: ms, .val d :: as, u :: us, st, st1, bs, done, dvs, s, hl, hL, h => by
    cases hL with
    | val hL =>
      simp only [PV.takeA] at h
      cases q : PV.takeA ms as st with
      | none => rw [q] at h; simp at h
      | some z =>
        obtain ⟨st', bs'⟩ := z
        rw [q] at h; simp at h
        obtain ⟨rfl, rfl⟩ := h
        have t := SX.rot (x := d) (v := u) (B := as.map AD.d ++ done) (vB := us ++ dvs) s hl
        have t2 : SX C st (ds ++ (as.map AD.d ++ (done ++ [if m = .fz then d.frz else d]))) σ (vs ++ (us ++ (dvs ++ [u]))) H := by
          by_cases hm : m = .fz
          · rw [if_pos hm]
            rw [← List.append_assoc ds, ← List.append_assoc vs] at t
            have := t.frzTop
            simpa [List.append_assoc] using this
          · rw [if_neg hm]; simpa [List.append_assoc] using t
        have := SX.takeA t2 hl hL q
        simpa [List.append_assoc] using this
  | .io :: ms, .lnd r p :: as, u :: us, st, st1, bs, done, dvs, s, hl, hL, h => by
    cases hL with
    | lnd hp hL =>
      simp only [PV.takeA] at h
      cases q0 : getS st r p with
      | none => rw [q0] at h; simp at h
      | some e =>
        rw [q0] at h; simp only at h
        cases q : PV.takeA ms as (setS st r p .un) with
        | none => rw [q] at h; simp at h
        | some z =>
          obtain ⟨st', bs'⟩ := z
          rw [q] at h; simp at h
          obtain ⟨rfl, rfl⟩ := h
          have t := SX.drop1 (x := .un) (v := u) (B := as.map AD.d ++ done) (vB := us ++ dvs) s hl
          obtain ⟨Z, os, t⟩ := t
          have t2 := (t.take q0 hp).sx
          have := SX.takeA (done := done ++ [e]) (dvs := dvs ++ [u]) (by simpa [List.append_assoc] using t2) hl hL q
          simpa [List.append_assoc] using this
  | .fz :: ms, .lnd r p :: as, u :: us, st, st1, bs, done, dvs, s, hl, hL, h => by
    cases hL with
    | lnd hp hL =>
      simp only [PV.takeA] at h
      cases q0 : getS st r p with
      | none => rw [q0] at h; simp at h
      | some e =>
        rw [q0] at h; simp only at h
        cases q : PV.takeA ms as (setS st r p e.frz) with
        | none => rw [q] at h; simp at h
        | some z =>
          obtain ⟨st', bs'⟩ := z
          rw [q] at h; simp at h
          obtain ⟨rfl, rfl⟩ := h
          have t := SX.drop1 (x := .un) (v := u) (B := as.map AD.d ++ done) (vB := us ++ dvs) s hl
          have t2 := t.share q0 hp
          have := SX.takeA (done := done ++ [e.frz]) (dvs := dvs ++ [u]) (by simpa [List.append_assoc] using t2) hl hL q
          simpa [List.append_assoc] using this
  | .bo :: ms, .lnd r p :: as, u :: us, st, st1, bs, done, dvs, s, hl, hL, h => by
    cases hL with
    | lnd hp hL =>
      simp only [PV.takeA] at h
      cases q : PV.takeA ms as st with
      | none => rw [q] at h; simp at h
      | some z =>
        obtain ⟨st', bs'⟩ := z
        rw [q] at h; simp at h
        obtain ⟨rfl, rfl⟩ := h
        have t := SX.rot (x := .un) (v := u) (B := as.map AD.d ++ done) (vB := us ++ dvs) s hl
        have := SX.takeA (done := done ++ [.un]) (dvs := dvs ++ [u]) (by simpa [List.append_assoc] using t) hl hL q
        simpa [List.append_assoc] using this
  | [], _ :: _, _, _, _, _, _, _, _, _, _, h => by simp [PV.takeA] at h
  | _ :: _, [], _, _, _, _, _, _, _, _, _, h => by simp [PV.takeA] at h
  | [], [], _ :: _, _, _, _, _, _, _, _, hL, _ => by cases hL
  | _ :: _, _ :: _, [], _, _, _, _, _, _, _, hL, _ => by cases hL
/-- the ground of a callee -/
structure Gd.In (G G' : Gd) (oI oR : Ct) : Prop where
  k : G'.K = G.K
  ca : G'.CA = G.CA
  h : G'.H = G.H
  z : ∀ b o, G.H b = some o → ¬ G.Z b → ¬ G'.Z b ∧ (¬ G.B b → ¬ G'.B b)
  i : ∀ b, 0 < oI b → G'.Z b ∧ ¬ G'.B b
  r : ∀ b, 0 < oR b → ¬ G'.Z b
theorem Gd.In.sub {G G' : Gd} {oI oR oI' oR' : Ct} (t : Gd.In G G' oI oR) (h1 : ∀ b, 0 < oI' b → 0 < oI b) (h2 : ∀ b, 0 < oR' b → 0 < oR b) : Gd.In G G' oI' oR' :=
  ⟨t.k, t.ca, t.h, t.z, fun b q => t.i b (h1 b q), fun b q => t.r b (h2 b q)⟩
theorem Gd.In.to {G G' : Gd} {oI oR : Ct} (t : Gd.In G G' oI oR) : Gd.To G G' oI :=
  ⟨t.k, t.ca, fun b o q _ => by rw [t.h]; exact q, fun b o q z => (t.z b o q z).1, t.i, fun b o q z => (t.z b o q z).2⟩
theorem Gd.In.fr {G G' : Gd} {oI oR : Ct} (t : Gd.In G G' oI oR) : Gd.Fr G G' .bor oR :=
  ⟨t.k, t.ca, fun b o q _ => by rw [t.h]; exact q, fun b o q z => (t.z b o q z).1, fun b q => ⟨t.r b q, fun z => by cases z⟩, fun b o q z => (t.z b o q z).2, by decide⟩
/-- the second pass: the arguments as the callee sees them -/
theorem args_to {G : Gd} {oS : Ct} : ∀ {ms : List Md} {as : List AD} {bs args : List D} {us : List V} {st : List D} {oB : Ct}, RpL G bs us oB →
    (∀ r p e u, getS st r p = some e → HPs G.H σ r p u → ∃ oe, Rp G e u oe ∧ ∀ b, 0 < oe b → 0 < oS b) → Lnd G.H σ as us → argsOf ms as bs st = some args →
    ∃ oI oR : Ct, (∀ b, oB b = oI b + oR b) ∧ ∀ G' : Gd, Gd.In G G' oI (fun b => oR b + oS b) → RpL G' args us oI
  | [], [], [], args, us, st, oB, r, hS, hL, h => by
    simp [argsOf] at h; subst h
    cases r with
    | nil z => exact ⟨fun _ => 0, fun _ => 0, fun b => by simp [z], fun G' _ => .nil fun _ => rfl⟩
  | .bo :: ms, .val d :: as, b :: bs, args, _, st, oB, .cons (o1 := o1) (o2 := o2) r t e, hS, .val hL, h => by
    simp only [argsOf] at h
    cases q : argsOf ms as bs st with
    | none => rw [q] at h; simp at h
    | some l =>
      rw [q] at h; simp at h; subst h
      obtain ⟨oI, oR, e2, k⟩ := args_to t hS hL q
      refine ⟨oI, fun b => o1 b + oR b, fun b => by rw [e, e2]; (try dsimp only); omega, fun G' c => ?_⟩
      exact .cons (o1 := fun _ => 0) (o2 := oI) (r.frz (c.sub (oI' := oI) (oR' := o1) (fun _ q => q) fun b q => by (try dsimp only); omega).fr) (k G' (c.sub (fun _ q => q) fun b q => by (try dsimp only at *); omega)) fun b => by simp
  | .bo :: ms, .lnd rr p :: as, b :: bs, args, _, st, oB, .cons (o1 := o1) (o2 := o2) r t e, hS, .lnd hp hL, h => by
    simp only [argsOf] at h
    cases q0 : getS st rr p with
    | none => rw [q0] at h; simp at h
    | some x =>
      rw [q0] at h; simp only at h
      cases q : argsOf ms as bs st with
      | none => rw [q] at h; simp at h
      | some l =>
        rw [q] at h; simp at h; subst h
        obtain ⟨oI, oR, e2, k⟩ := args_to t hS hL q
        obtain ⟨oe, re, he⟩ := hS _ _ _ _ q0 hp
        refine ⟨oI, fun b => o1 b + oR b, fun b => by rw [e, e2]; (try dsimp only); omega, fun G' c => ?_⟩
        exact .cons (o1 := fun _ => 0) (o2 := oI) (re.frz (c.sub (oI' := oI) (oR' := oe) (fun _ q => q) fun b q => by have := he b q; (try dsimp only); omega).fr) (k G' (c.sub (fun _ q => q) fun b q => by (try dsimp only at *); omega)) fun b => by simp
  | .io :: ms, .val d :: as, b :: bs, args, _, st, oB, .cons (o1 := o1) (o2 := o2) r t e, hS, .val hL, h => by
    simp only [argsOf] at h
    cases q : argsOf ms as bs st with
    | none => rw [q] at h; simp at h
    | some l =>
      rw [q] at h; simp at h; subst h
      obtain ⟨oI, oR, e2, k⟩ := args_to t hS hL q
      refine ⟨fun b => o1 b + oI b, oR, fun b => by rw [e, e2]; (try dsimp only); omega, fun G' c => ?_⟩
      exact .cons (o1 := o1) (o2 := oI) (r.mono (c.to.sub fun b q => by (try dsimp only); omega)) (k G' (c.sub (fun b q => by (try dsimp only at *); omega) fun b q => q)) fun b => rfl
  | .io :: ms, .lnd rr p :: as, b :: bs, args, _, st, oB, .cons (o1 := o1) (o2 := o2) r t e, hS, .lnd hp hL, h => by
    simp only [argsOf] at h
    cases q0 : getS st rr p with
    | none => rw [q0] at h; simp at h
    | some x =>
      rw [q0] at h; simp only at h
      cases q : argsOf ms as bs st with
      | none => rw [q] at h; simp at h
      | some l =>
        rw [q] at h; simp at h; subst h
        obtain ⟨oI, oR, e2, k⟩ := args_to t hS hL q
        refine ⟨fun b => o1 b + oI b, oR, fun b => by rw [e, e2]; (try dsimp only); omega, fun G' c => ?_⟩
        exact .cons (o1 := o1) (o2 := oI) (r.mono (c.to.sub fun b q => by (try dsimp only); omega)) (k G' (c.sub (fun b q => by (try dsimp only at *); omega) fun b q => q)) fun b => rfl
  | .fz :: ms, .val d :: as, b :: bs, args, _, st, oB, .cons (o1 := o1) (o2 := o2) r t e, hS, .val hL, h => by
    simp only [argsOf] at h
    cases q : argsOf ms as bs st with
    | none => rw [q] at h; simp at h
    | some l =>
      rw [q] at h; simp at h; subst h
      obtain ⟨oI, oR, e2, k⟩ := args_to t hS hL q
      refine ⟨fun b => o1 b + oI b, oR, fun b => by rw [e, e2]; (try dsimp only); omega, fun G' c => ?_⟩
      exact .cons (o1 := o1) (o2 := oI) (r.mono (c.to.sub fun b q => by (try dsimp only); omega)) (k G' (c.sub (fun b q => by (try dsimp only at *); omega) fun b q => q)) fun b => rfl
  | .fz :: ms, .lnd rr p :: as, b :: bs, args, _, st, oB, .cons (o1 := o1) (o2 := o2) r t e, hS, .lnd hp hL, h => by
    simp only [argsOf] at h
    cases q : argsOf ms as bs st with
    | none => rw [q] at h; simp at h
    | some l =>
      rw [q] at h; simp at h; subst h
      obtain ⟨oI, oR, e2, k⟩ := args_to t hS hL q
      refine ⟨fun b => o1 b + oI b, oR, fun b => by rw [e, e2]; (try dsimp only); omega, fun G' c => ?_⟩
      exact .cons (o1 := o1) (o2 := oI) (r.mono (c.to.sub fun b q => by (try dsimp only); omega)) (k G' (c.sub (fun b q => by (try dsimp only at *); omega) fun b q => q)) fun b => rfl
  | [], [], _ :: _, _, _, _, _, _, _, _, h => by simp [argsOf] at h
  | [], _ :: _, _, _, _, _, _, _, _, _, h => by simp [argsOf] at h
  | .bo :: _, [], _, _, _, _, _, _, _, _, h => by simp [argsOf] at h
  | .io :: _, [], _, _, _, _, _, _, _, _, h => by simp [argsOf] at h
  | .fz :: _, [], _, _, _, _, _, _, _, _, h => by simp [argsOf] at h
  | .bo :: _, .val _ :: _, [], _, _, _, _, _, _, _, h => by simp [argsOf] at h
  | .bo :: _, .lnd _ _ :: _, [], _, _, _, _, _, _, _, h => by simp [argsOf] at h
  | .io :: _, .val _ :: _, [], _, _, _, _, _, _, _, h => by simp [argsOf] at h
  | .io :: _, .lnd _ _ :: _, [], _, _, _, _, _, _, _, h => by simp [argsOf] at h
  | .fz :: _, _ :: _, [], _, _, _, _, _, _, _, h => by simp [argsOf] at h
/-- back from a callee: what is not lent -/
structure Gd.Bk (G G' : Gd) (os : Ct) : Prop where
  k : G'.K = G.K
  ca : G'.CA = G.CA
  h : G'.H = G.H
  o : ∀ b, 0 < os b → G'.Z b ∧ ¬ G'.B b
  f : ∀ b, ¬ G.Z b → ¬ G.B b → ¬ G'.Z b ∧ ¬ G'.B b
  t : ∀ b xs, G.H b = some (.tup xs) → ¬ G.Z b → ¬ G'.Z b
theorem Gd.Bk.sub {G G' : Gd} {os os' : Ct} (t : Gd.Bk G G' os) (h : ∀ b, 0 < os' b → 0 < os b) : Gd.Bk G G' os' := ⟨t.k, t.ca, t.h, fun b q => t.o b (h b q), t.f, t.t⟩
mutual
theorem Rp.back {G G' : Gd} : ∀ {d : D} {v : V} {os : Ct}, Rp G d v os → D.noBor d = true → Gd.Bk G G' os → Rp G' d v os
  | _, _, _, .un h, _, _ => .un h
  | _, _, _, .non h, _, _ => .non h
  | _, _, _, .bl h, _, _ => .bl h
  | _, _, _, .int h, _, _ => .int h
  | _, _, _, .str h, _, _ => .str h
  | _, _, _, .scr _ _, n, _ => by simp [D.noBor] at n
  | _, _, _, .nd (k := k) (a := a) (vs := ws) (os := os) (os' := os') hk r n, nb, t => by
    simp only [D.noBor, Bool.and_eq_true, bne_iff_ne] at nb
    have hk' : HoK G'.CA G'.H a ws k := by rw [t.ca, t.h]; exact hk
    revert n
    generalize hfl : k.fl = f
    intro n
    match f, n with
    | none, n =>
      refine .nd (os' := os') hk' (RpL.back r nb.2 (t.sub fun b hb => by rw [n.2]; exact hb)) ?_
      rw [hfl]
      refine ⟨?_, n.2⟩
      cases k with
      | tup => exact t.t a _ hk n.1
      | lst f => cases hfl
      | dct f ks => cases hfl
      | ins f c ns => cases hfl
    | some .own, n =>
      have p : 0 < os a := by rw [n.2.2, one_self]; omega
      refine .nd (os' := os') hk' (RpL.back r nb.2 (t.sub fun b hb => by rw [n.2.2]; omega)) ?_
      rw [hfl]; exact ⟨(t.o a p).1, (t.o a p).2, n.2.2⟩
    | some .bor, n => exact absurd hfl nb.1
    | some .fz, n =>
      refine .nd (os' := os') hk' (RpL.back r nb.2 (t.sub fun b hb => by have := n.2.2.1 b; omega)) ?_
      rw [hfl]; exact ⟨(t.f a n.1 n.2.1).1, (t.f a n.1 n.2.1).2, n.2.2⟩
theorem RpL.back {G G' : Gd} : ∀ {xs : List D} {vs : List V} {os : Ct}, RpL G xs vs os → D.noBorL xs = true → Gd.Bk G G' os → RpL G' xs vs os
  | _, _, _, .nil h, _, _ => .nil h
  | _, _, _, .cons (o1 := o1) (o2 := o2) r t h, n, g => by
    simp only [D.noBorL, Bool.and_eq_true] at n
    exact .cons (Rp.back r n.1 (g.sub fun b hb => by rw [h]; omega)) (RpL.back t n.2 (g.sub fun b hb => by rw [h]; omega)) h
end
theorem isUn_eq {o : Option D} (h : isUn o = true) : o = some .un := by
  unfold isUn at h
  split at h
  · rfl
  · cases h
def LndI (H : Hp) (σ : St) : List Md → List AD → List V → Prop
  | .io :: ms, .lnd r p :: as, u :: us => HPs H σ r p u ∧ LndI H σ ms as us
  | _ :: ms, _ :: as, _ :: us => LndI H σ ms as us
  | _, _, _ => True
theorem LndI.of {st : List D} (k : ∀ r p u e, getS st r p = some e → HPs H σ r p u → HPs H' σ r p u) : ∀ {ms : List Md} {as : List AD} {bs args : List D} {us : List V}, Lnd H σ as us → argsOf ms as bs st = some args → LndI H' σ ms as us
  | [], _, _, _, _, _, _ => by simp [LndI]
  | .io :: ms, .lnd r p :: as, b :: bs, args, u :: us, .lnd hp hL, h => by
    simp only [argsOf] at h
    cases q0 : getS st r p with
    | none => rw [q0] at h; simp at h
    | some x =>
      rw [q0] at h; simp only at h
      cases q : argsOf ms as bs st with
      | none => rw [q] at h; simp at h
      | some l => exact ⟨k _ _ _ _ q0 hp, LndI.of k hL q⟩
  | .io :: ms, .val d :: as, b :: bs, args, u :: us, .val hL, h => by
    simp only [argsOf] at h
    cases q : argsOf ms as bs st with
    | none => rw [q] at h; simp at h
    | some l => simp only [LndI]; exact LndI.of k hL q
  | .bo :: ms, .val d :: as, b :: bs, args, u :: us, .val hL, h => by
    simp only [argsOf] at h
    cases q : argsOf ms as bs st with
    | none => rw [q] at h; simp at h
    | some l => simp only [LndI]; exact LndI.of k hL q
  | .bo :: ms, .lnd r p :: as, b :: bs, args, u :: us, .lnd hp hL, h => by
    simp only [argsOf] at h
    cases q0 : getS st r p with
    | none => rw [q0] at h; simp at h
    | some x =>
      rw [q0] at h; simp only at h
      cases q : argsOf ms as bs st with
      | none => rw [q] at h; simp at h
      | some l => simp only [LndI]; exact LndI.of k hL q
  | .fz :: ms, .val d :: as, b :: bs, args, u :: us, .val hL, h => by
    simp only [argsOf] at h
    cases q : argsOf ms as bs st with
    | none => rw [q] at h; simp at h
    | some l => simp only [LndI]; exact LndI.of k hL q
  | .fz :: ms, .lnd r p :: as, b :: bs, args, u :: us, .lnd hp hL, h => by
    simp only [argsOf] at h
    cases q : argsOf ms as bs st with
    | none => rw [q] at h; simp at h
    | some l => simp only [LndI]; exact LndI.of k hL q
  | _ :: _, [], _, _, _, _, _ => by simp [LndI]
  | _ :: _, _ :: _, [], _, _, _, h => by
    rename_i m _ a _ _ _ _
    cases m <;> cases a <;> simp [argsOf] at h
/-- what was changed is laid back -/
theorem SX.putA : ∀ {ms : List Md} {as : List AD} {outs : List D} {us : List V} {st st2 : List D} {ds : List D} {vs : List V}, SX C st (ds ++ outs) σ (vs ++ us) H → ds.length = vs.length → LndI H σ ms as us → PV.putA ms as outs st = some st2 → SX C st2 ds σ vs H
  | [], [], [], us, st, st2, ds, vs, s, hl, _, h => by
    simp [PV.putA] at h; subst h
    obtain ⟨Z, os, z⟩ := id s
    have hd := z.dn
    simp at hd
    have : us = [] := List.length_eq_zero_iff.mp (by omega)
    subst this
    simpa using s
  | .io :: ms, .lnd r p :: as, o :: os, u :: us, st, st2, ds, vs, s, hl, ⟨hp, hL⟩, h => by
    simp only [PV.putA] at h
    cases q : PV.putA ms as os st with
    | none => rw [q] at h; simp at h
    | some st' =>
      rw [q] at h; simp only at h
      have s' : SX C st ((ds ++ [o]) ++ os) σ ((vs ++ [u]) ++ us) H := by simpa [List.append_assoc] using s
      have t := SX.putA s' (by simp [hl]) hL q
      split at h
      · rename_i c
        simp only [Option.some.injEq] at h; subst h
        simp only [Bool.and_eq_true, Bool.or_eq_true] at c
        obtain ⟨Z, o1, t⟩ := t
        exact (t.lay (isUn_eq c.1) hp c.2).sx
      · cases h
  | .io :: ms, .val d :: as, o :: os, u :: us, st, st2, ds, vs, s, hl, hL, h => by
    simp only [PV.putA] at h
    have s' : SX C st ((ds ++ [o]) ++ os) σ ((vs ++ [u]) ++ us) H := by simpa [List.append_assoc] using s
    exact (SX.putA s' (by simp [hl]) hL h).pop
  | .bo :: ms, a :: as, o :: os, u :: us, st, st2, ds, vs, s, hl, hL, h => by
    have hL' : LndI H σ ms as us := hL
    simp only [PV.putA] at h
    have s' : SX C st ((ds ++ [o]) ++ os) σ ((vs ++ [u]) ++ us) H := by simpa [List.append_assoc] using s
    exact (SX.putA s' (by simp [hl]) hL' h).pop
  | .fz :: ms, a :: as, o :: os, u :: us, st, st2, ds, vs, s, hl, hL, h => by
    have hL' : LndI H σ ms as us := hL
    simp only [PV.putA] at h
    have s' : SX C st ((ds ++ [o]) ++ os) σ ((vs ++ [u]) ++ us) H := by simpa [List.append_assoc] using s
    exact (SX.putA s' (by simp [hl]) hL' h).pop
  | [], [], _ :: _, _, _, _, _, _, _, _, _, h => by simp [PV.putA] at h
  | [], _ :: _, _, _, _, _, _, _, _, _, _, h => by simp [PV.putA] at h
  | .io :: _, [], _, _, _, _, _, _, _, _, _, h => by simp [PV.putA] at h
  | .bo :: _, [], _, _, _, _, _, _, _, _, _, h => by simp [PV.putA] at h
  | .fz :: _, [], _, _, _, _, _, _, _, _, _, h => by simp [PV.putA] at h
  | .io :: _, .lnd _ _ :: _, [], _, _, _, _, _, _, _, _, h => by simp [PV.putA] at h
  | .io :: _, .val _ :: _, [], _, _, _, _, _, _, _, _, h => by simp [PV.putA] at h
  | .bo :: _, _ :: _, [], _, _, _, _, _, _, _, _, h => by simp [PV.putA] at h
  | .fz :: _, _ :: _, [], _, _, _, _, _, _, _, _, h => by simp [PV.putA] at h
  | _ :: _, _ :: _, _ :: _, [], _, _, _, _, s, hl, _, _ => by
    obtain ⟨Z, os, z⟩ := s
    have := z.dn
    simp at this; omega
/-- what a callee wants and gives -/
structure Pre (K : PySem.W.Frag) (CA : Str → Option Addr) (H : Hp) (args : List D) (us : List V) (os : Ct) (B : Addr → Prop) : Prop where
  rp : RpL ⟨K, CA, H, fun a => 0 < os a, B⟩ args us os
  nd : ∀ b, os b ≤ 1
  al : ∀ a, 0 < os a → ∃ o, H a = some o ∧ ∀ xs, o ≠ .tup xs
  bb : ∀ a, B a → (∃ o, H a = some o) ∧ os a = 0
structure Post (K : PySem.W.Frag) (CA : Str → Option Addr) (H : Hp) (os : Ct) (B : Addr → Prop) (outs : List D) (us : List V) (H' : Hp) (Z' : Addr → Prop) (os' : Ct) : Prop where
  rp : RpL ⟨K, CA, H', Z', B⟩ outs us os'
  nd : ∀ b, os' b ≤ 1
  kp : ∀ a o, H a = some o → os a = 0 → H' a = some o
  fr : ∀ a, Z' a → 0 < os a ∨ H a = none
  al : ∀ a, Z' a → ∃ o, H' a = some o ∧ ∀ xs, o ≠ .tup xs
/-- THE CALL -/
theorem SX.call0 {ms : List Md} {as : List AD} {us : List V} {st1 bs args : List D} (s : SX C st (ds ++ as.map AD.d) σ (vs ++ us) H) (hl : ds.length = vs.length) (hL : Lnd H σ as us) (h1 : PV.takeA ms as st = some (st1, bs)) (h2 : argsOf ms as bs st1 = some args) :
    ∃ (os : Ct) (B : Addr → Prop), Pre C.K C.CA H args us os B ∧
      ∀ (xs : List D) (ws : List V) (outs : List D) (H' : Hp) (Z' : Addr → Prop) (os' : Ct), xs.length = ws.length → Post C.K C.CA H os B (xs ++ outs) (ws ++ us) H' Z' os' → D.noBorL (xs ++ outs) = true → SX C st1 (ds ++ (xs ++ outs)) σ (vs ++ (ws ++ us)) H' ∧ LndI H' σ ms as us := by
  have t := SX.takeA (done := []) (dvs := []) (by simpa using s) hl hL h1
  obtain ⟨Z, ot, t⟩ := t
  rw [List.nil_append, List.nil_append] at t
  obtain ⟨oS, o2, rS, r2, e⟩ := t.cut
  obtain ⟨oD, oB, rD, rB, e'⟩ := RpL.cut hl r2
  have hS : ∀ r p x u, getS st1 r p = some x → HPs (C.G Z H).H σ r p u → ∃ oe, Rp (C.G Z H) x u oe ∧ ∀ b, 0 < oe b → 0 < oS b := fun r p x u q hp => by
    have t0 : SR C Z st1 [] σ [] H oS := t.mk2 (o2 := fun _ => 0) rS (.nil fun _ => rfl) (fun _ => rfl) (fun b => by rw [e]; omega) t.sl
    obtain ⟨u', oe, orr, oq, hp', re, rq, ho, _, _⟩ := t0.path q (let ⟨v, w, _⟩ := hp; ⟨v, w⟩)
    have hp0 : HPs H σ r p u := hp
    have := hp0.fn hp'; subst this
    exact ⟨oe, re, fun b z => by rw [ho]; omega⟩
  obtain ⟨oI, oR, eB, k⟩ := args_to (oS := oS) rB hS hL h2
  have eT : ∀ b, ot b = oS b + oD b + oI b + oR b := fun b => by rw [e, e', eB]; omega
  have zI : ∀ b, 0 < oI b → Z b := fun b q => (t.rp.dom b (by rw [eT]; omega)).2.1
  have bI : ∀ b, 0 < oI b → ¬ C.B b := fun b q => (t.rp.dom b (by rw [eT]; omega)).2.2
  have bAl : ∀ a, C.B a → ∃ o, H a = some o := fun a z => by obtain ⟨⟨o, q⟩, w⟩ := t.bb a z; exact ⟨o, t.kp a o q w⟩
  refine ⟨oI, fun a => C.B a ∨ (Z a ∧ oI a = 0), ⟨k ⟨C.K, C.CA, H, fun a => 0 < oI a, fun a => C.B a ∨ (Z a ∧ oI a = 0)⟩ ⟨rfl, rfl, rfl, fun b o q z => ⟨fun w => z (zI b w), fun w => fun w2 => w2.elim w fun w3 => z w3.1⟩, fun b q => ⟨q, fun w => w.elim (bI b q) fun w3 => by omega⟩, fun b q => fun w => ?_⟩, ?_, ?_, ?_⟩, ?_⟩
  · have := t.nd b; rw [eT] at this; (try dsimp only at *); omega
  · intro b; have := t.nd b; rw [eT] at this; omega
  · intro a q; exact t.al a (zI a q)
  · rintro a (z | z)
    · exact ⟨bAl a z, Nat.eq_zero_of_not_pos fun q => bI a q z⟩
    · obtain ⟨o, q, _⟩ := t.al a z.1; exact ⟨⟨o, q⟩, z.2⟩
  · intro xs ws outs H' Z' os' hxs P nb
    have nI : ∀ b, 0 < oS b + oD b → oI b = 0 := fun b q => by have := t.nd b; rw [eT] at this; omega
    have T : Gd.To (C.G Z H) (C.G (fun a => (Z a ∧ oI a = 0) ∨ Z' a) H') (fun b => oS b + oD b) := by
      refine ⟨rfl, rfl, fun b o q w => P.kp b o q ?_, fun b o q z => ?_, fun b q => ⟨.inl ⟨(t.rp.dom b (by rw [eT]; (try dsimp only at *); omega)).2.1, nI b q⟩, (t.rp.dom b (by rw [eT]; (try dsimp only at *); omega)).2.2⟩, fun _ _ _ _ z => z⟩
      · rcases w with w | w
        · exact nI b w
        · exact Nat.eq_zero_of_not_pos fun z => w (zI b z)
      · rintro (w | w)
        · exact z w.1
        · rcases P.fr b w with w | w
          · exact z (zI b w)
          · have q' : H b = some o := q
            rw [w] at q'; cases q'
    have K : Gd.Bk ⟨C.K, C.CA, H', Z', fun a => C.B a ∨ (Z a ∧ oI a = 0)⟩ (C.G (fun a => (Z a ∧ oI a = 0) ∨ Z' a) H') os' := by
      refine ⟨rfl, rfl, rfl, fun b q => ?_, fun b z w => ?_, fun b ys q z => ?_⟩
      · obtain ⟨_, z, w⟩ := P.rp.dom b q
        exact ⟨.inr z, fun q => w (.inl q)⟩
      · exact ⟨fun y => y.elim (fun y => w (.inr y)) z, fun y => w (.inl y)⟩
      · rintro (w | w)
        · obtain ⟨o, h3, h4⟩ := t.al b w.1
          have h5 : H' b = some o := P.kp b o h3 w.2
          have h6 : H' b = some (.tup ys) := q
          rw [h5] at h6; cases h6
          exact h4 ys rfl
        · exact z w
    have rB' := P.rp.back nb K
    have S2 : SR C (fun a => (Z a ∧ oI a = 0) ∨ Z' a) st1 (ds ++ (xs ++ outs)) σ (vs ++ (ws ++ us)) H' (fun b => oS b + oD b + os' b) := by
      refine ⟨(rS.mono (T.sub fun b q => by (try dsimp only); omega)).app (o2 := fun b => oD b + os' b) ((rD.mono (T.sub fun b q => by (try dsimp only); omega)).app rB' fun _ => rfl) (fun b => by (try dsimp only); omega), fun b => ?_, t.ln, t.sl, fun a o q z => ?_, ?_, ?_, t.bb, t.fx⟩
      · have h1 := t.nd b; rw [eT] at h1
        have h2 := P.nd b
        by_cases q : 0 < os' b
        · have z := (P.rp.dom b q).2.1
          rcases P.fr b z with w | w
          · (try dsimp only); omega
          · have : ot b = 0 := Nat.eq_zero_of_not_pos fun y => by
              obtain ⟨⟨o, h3⟩, _⟩ := t.rp.dom b y
              have h4 : H b = some o := h3
              rw [w] at h4; cases h4
            rw [eT] at this; (try dsimp only); omega
        · (try dsimp only); omega
      · refine P.kp a o (t.kp a o q z) (Nat.eq_zero_of_not_pos fun w => ?_)
        rcases t.fr a (zI a w) with y | y
        · omega
        · rw [q] at y; cases y
      · rintro a (w | w)
        · exact t.fr a w.1
        · rcases P.fr a w with y | y
          · exact t.fr a (zI a y)
          · by_cases q2 : C.os0 a = 0
            · right
              cases q : C.H0 a with
              | none => rfl
              | some o => have := t.kp a o q q2; rw [y] at this; cases this
            · left; omega
      · rintro a (w | w)
        · obtain ⟨o, h3, h4⟩ := t.al a w.1; exact ⟨o, P.kp a o h3 w.2, h4⟩
        · exact P.al a w
    have hL' : LndI H' σ ms as us := by
      have t0 : SR C Z st1 ds σ vs H (fun b => oS b + oD b) := t.mk2 rS rD (fun _ => rfl) (fun b => by rw [eT]; (try dsimp only); omega) t.sl
      exact LndI.of (fun r p u e q hp => t0.hps (G' := C.G (fun a => (Z a ∧ oI a = 0) ∨ Z' a) H') q hp T) hL h2
    exact ⟨S2.sx, hL'⟩
theorem SX.call {ms : List Md} {as : List AD} {us : List V} {st1 bs args : List D} (s : SX C st (ds ++ as.map AD.d) σ (vs ++ us) H) (hl : ds.length = vs.length) (hL : Lnd H σ as us) (h1 : PV.takeA ms as st = some (st1, bs)) (h2 : argsOf ms as bs st1 = some args) :
    ∃ (os : Ct) (B : Addr → Prop), Pre C.K C.CA H args us os B ∧
      ∀ (xs : List D) (ws : List V) (outs st2 : List D) (H' : Hp) (Z' : Addr → Prop) (os' : Ct), xs.length = ws.length → Post C.K C.CA H os B (xs ++ outs) (ws ++ us) H' Z' os' → D.noBorL (xs ++ outs) = true → PV.putA ms as outs st1 = some st2 → SX C st2 (ds ++ xs) σ (vs ++ ws) H' := by
  obtain ⟨os, B, P, k⟩ := s.call0 hl hL h1 h2
  exact ⟨os, B, P, fun xs ws outs st2 H' Z' os' hxs Po nb hput => by
    obtain ⟨S2, hL'⟩ := k xs ws outs H' Z' os' hxs Po nb
    exact SX.putA (ds := ds ++ xs) (vs := vs ++ ws) (by simpa [List.append_assoc] using S2) (by simp [hl, hxs]) hL' hput⟩
end
end PV

namespace L2
open PySem PySem.Spec PyProof.Rows
theorem PE.impV {X : Cx} {e : Expr} {t t' : TE} (h : PE X e t) (k : ∀ σ H Q, t' σ H Q → t σ H Q) : PE X e t' := ⟨fun pins s σ H Q I h' => h.run pins s σ H Q I (k _ _ _ h')⟩
theorem PT.impV {X : Cx} {e : Expr} {t t' : TT} (h : PT X e t) (k : ∀ σ H Q, t' σ H Q → t σ H Q) : PT X e t' := ⟨fun pins s σ H Q I h' => h.run pins s σ H Q I (k _ _ _ h')⟩
theorem PW.impV {X : Cx} {e : Expr} {t t' : TT} (h : PW X e t) (k : ∀ σ H Q, t' σ H Q → t σ H Q) : PW X e t' := ⟨fun wh pins s σ H Q I h' => h.run wh pins s σ H Q I (k _ _ _ h')⟩
theorem PA.impV {X : Cx} {e : List Expr} {t t' : TA} (h : PA X e t) (k : ∀ σ H Q, t' σ H Q → t σ H Q) : PA X e t' := ⟨fun pos pins s σ H Q I h' => h.run pos pins s σ H Q I (k _ _ _ h')⟩
theorem PS.impV {X : Cx} {e : Stmt} {t t' : TS} (h : PS X e t) (k : ∀ D σ H, t' D σ H → t D σ H) : PS X e t' := ⟨fun pins s σ H Q I h' => h.run pins s σ H Q I (k _ _ _ h')⟩
theorem PSs.impV {X : Cx} {e : List Stmt} {t t' : TS} (h : PSs X e t) (k : ∀ D σ H, t' D σ H → t D σ H) : PSs X e t' := ⟨fun pins s σ H Q I h' => h.run pins s σ H Q I (k _ _ _ h')⟩
end L2
namespace PV
open PySem L2
/-! ### the judgements -/
/-- the context of a body: what the rules ask of it -/
structure COk (X : Cx) (C : Cc) : Prop where
  k : C.K = X.K
  tk : Takes X C.W
/-- how an exception lies -/
def ExOk (C : Cc) (e : Ex) (cls : Value) (dx : Option Addr) (H : Hp) (us : List V) : Prop := ∃ a, C.CA e.c = some a ∧ cls = .ref a ∧ match e.p with
  | none => dx = none ∧ us = []
  | some _ => ∃ x v, dx = some x ∧ H x = some (.xd [(e.f, v)]) ∧ us = [v]
def rX (C : Cc) (ds : List D) (vs : List V) (σ : St) (e : Ex) (st : List D) : Prop := ∀ cls dx us H', SX C st (ds ++ e.ds) σ (vs ++ us) H' → ExOk C e cls dx H' us → C.W cls dx σ H'
def rE (C : Cc) (sm : Bool) (ds : List D) (vs : List V) (σ : St) (H : Hp) (Q : VK) : R D → Prop
  | .ok d st => ∀ v H', (sm = true → Same H H') → SX C st (ds ++ [d]) σ (vs ++ [v]) H' → Q v H'
  | .ex e st => rX C ds vs σ e st
  | .stuck => False
def trE (C : Cc) (sm : Bool) (m : List D → R D) : TE := fun σ H Q => ∃ st ds vs, SX C st ds σ vs H ∧ ds.length = vs.length ∧ rE C sm ds vs σ H Q (m st)
def VE (X : Cx) (C : Cc) (sm : Bool) (e : Expr) (m : List D → R D) : Prop := PE X e (trE C sm m)
/-- quiet: a place, or a scalar; nothing changes -/
inductive PL where | pth (r : Nat) (p : Pth) | sc (d : D)
def rQ (σ : St) (H : Hp) (Q : VK) : Option PL → Prop
  | some (.pth r p) => ∀ u, HPs H σ r p u → Q u H
  | some (.sc d) => ∀ v, vOf d = some v → Q v H
  | none => False
/-- a place's tree is a node -/
def PLok (C : Cc) (st : List D) : PL → Prop
  | .pth r p => ∃ k xs, getS st r p = some (.nd k xs)
  | .sc d => ∃ v, vOf d = some v
def trQ (C : Cc) (q : List D → Option PL) : TE := fun σ H Q => ∃ st ds vs, SX C st ds σ vs H ∧ rQ σ H Q (q st)
structure VQ (X : Cx) (C : Cc) (e : Expr) (q : List D → Option PL) : Prop where
  pe : PE X e (trQ C q)
  ok : ∀ st pl, q st = some pl → PLok C st pl
/-- a test -/
def rT (C : Cc) (ds : List D) (vs : List V) (σ : St) (Q : Bool → Hp → Prop) : R Bool → Prop
  | .ok b st => ∀ H', SX C st ds σ vs H' → Q b H'
  | .ex e st => rX C ds vs σ e st
  | .stuck => False
def trT (C : Cc) (m : List D → R Bool) : TT := fun σ H Q => ∃ st ds vs, SX C st ds σ vs H ∧ ds.length = vs.length ∧ rT C ds vs σ Q (m st)
def VT (X : Cx) (C : Cc) (e : Expr) (m : List D → R Bool) : Prop := PT X e (trT C m)
def VW (X : Cx) (C : Cc) (e : Expr) (m : List D → R Bool) : Prop := PW X e (trT C m)
/-- arguments -/
def rA (C : Cc) (sm : Bool) (ds : List D) (vs : List V) (σ : St) (H : Hp) (Q : List V → Hp → Prop) : R (List AD) → Prop
  | .ok as st => ∀ us H', (sm = true → Same H H') → SX C st (ds ++ as.map AD.d) σ (vs ++ us) H' → Lnd H' σ as us → Q us H'
  | .ex e st => rX C ds vs σ e st
  | .stuck => False
def trA (C : Cc) (sm : Bool) (m : List D → R (List AD)) : TA := fun σ H Q => ∃ st ds vs, SX C st ds σ vs H ∧ ds.length = vs.length ∧ rA C sm ds vs σ H Q (m st)
def VA (X : Cx) (C : Cc) (sm : Bool) (es : List Expr) (m : List D → R (List AD)) : Prop := PA X es (trA C sm m)
def R.bind {α β : Type} (m : R α) (f : α → List D → R β) : R β := match m with
  | .ok a st => f a st
  | .ex e st => .ex e st
  | .stuck => .stuck
@[simp] theorem R.bind_ok {α β : Type} (a : α) (st : List D) (f : α → List D → R β) : (R.ok a st).bind f = f a st := rfl
@[simp] theorem R.bind_ex {α β : Type} (e : Ex) (st : List D) (f : α → List D → R β) : (R.ex e st : R α).bind f = .ex e st := rfl
@[simp] theorem R.bind_stuck {α β : Type} (f : α → List D → R β) : (R.stuck : R α).bind f = .stuck := rfl
section
variable {X : Cx} {C : Cc} {st ds : List D} {σ : St} {vs : List V} {H H' : Hp}
theorem SX.dn (s : SX C st ds σ vs H) : ds.length = vs.length := let ⟨_, _, s⟩ := s; s.dn
/-- temporaries dropped from between -/
theorem SX.dropMid {d' tl : List D} {v' tlv : List V} (s : SX C st ((ds ++ d') ++ tl) σ ((vs ++ v') ++ tlv) H) (hl : ds.length = vs.length) (hl' : d'.length = v'.length) : SX C st (ds ++ tl) σ (vs ++ tlv) H := by
  obtain ⟨Z, os, s⟩ := s
  obtain ⟨o1, o2, r1, r2, e⟩ := s.cut
  obtain ⟨o3, o4, r3, r4, e3⟩ := RpL.cut (by simp [hl, hl']) r2
  obtain ⟨o5, o6, r5, r6, e5⟩ := RpL.cut hl r3
  exact (s.mk2 (os' := fun b => o1 b + (o5 b + o4 b)) (o2 := fun b => o5 b + o4 b) r1 (r5.app r4 fun _ => rfl) (fun _ => rfl) (fun b => by rw [e, e3, e5]; (try dsimp only); omega) s.sl).sx
theorem rX.up {d' : List D} {v' : List V} {e : Ex} {st : List D} (h : rX C ds vs σ e st) (hl : ds.length = vs.length) (hl' : d'.length = v'.length) : rX C (ds ++ d') (vs ++ v') σ e st :=
  fun cls dx us H' s k => h cls dx us H' (s.dropMid hl hl') k
/-- a slot's place -/
theorem SX.place {r : Nat} {p : Pth} {e : D} (s : SX C st ds σ vs H) (h : getS st r p = some e) (hu : e ≠ .un) : ∃ u, HPs H σ r p u := by
  obtain ⟨Z, os, s⟩ := s
  obtain ⟨u, _, _, _, hp, _⟩ := s.path h (s.hv h hu)
  exact ⟨u, hp⟩
/-- what stands at a node's place -/
theorem SX.node {r : Nat} {p : Pth} {k : Kd} {xs : List D} {u : V} (s : SX C st ds σ vs H) (h : getS st r p = some (.nd k xs)) (hp : HPs H σ r p u) :
    ∃ (a : Addr) (ws : List V) (Z : Addr → Prop) (os : Ct), u = .ref a ∧ HoK C.CA H a ws k ∧ RpL (C.G Z H) xs ws os := by
  obtain ⟨Z, os, s⟩ := s
  obtain ⟨u', oe, _, _, hp', re, _⟩ := s.path h (let ⟨v, e, _⟩ := hp; ⟨v, e⟩)
  have := hp.fn hp'; subst this
  cases re with
  | nd hk rl n => exact ⟨_, _, Z, _, rfl, hk, rl⟩
theorem SX.scal {r : Nat} {p : Pth} {d : D} {u v : V} (s : SX C st ds σ vs H) (h : getS st r p = some d) (hv : vOf d = some v) (hp : HPs H σ r p u) : u = v := by
  obtain ⟨Z, os, s⟩ := s
  obtain ⟨u', oe, _, _, hp', re, _⟩ := s.path h (let ⟨v, e, _⟩ := hp; ⟨v, e⟩)
  have := hp.fn hp'; subst this
  exact sc_of re hv
/-- the last temporary is a scalar -/
theorem SX.scTop {d : D} {u v : V} (s : SX C st (ds ++ [d]) σ (vs ++ [u]) H) (hv : vOf d = some v) : u = v := by
  obtain ⟨Z, os, s⟩ := s
  obtain ⟨_, _, _, _, _, r, _⟩ := s.top
  exact sc_of r hv
theorem SX.ndTop {k : Kd} {xs : List D} {u : V} (s : SX C st (ds ++ [.nd k xs]) σ (vs ++ [u]) H) : ∃ (a : Addr) (ws : List V) (Z : Addr → Prop) (os : Ct), u = .ref a ∧ HoK C.CA H a ws k ∧ RpL (C.G Z H) xs ws os := by
  obtain ⟨Z, os, s⟩ := s
  obtain ⟨_, _, _, _, _, r, _⟩ := s.top
  cases r with
  | nd hk rl n => exact ⟨_, _, Z, _, rfl, hk, rl⟩
/-! ### quiet things -/
/-- a place, or its scalar -/
def plOf (st : List D) (r : Nat) (p : Pth) : Option PL := match getS st r p with
  | some d => match vOf d with
    | some _ => some (.sc d)
    | none => match d with
      | .nd _ _ => some (.pth r p)
      | _ => none
  | none => none
theorem plOf_ok {r : Nat} {p : Pth} {pl : PL} (h : plOf st r p = some pl) : PLok C st pl := by
  unfold plOf at h
  cases q : getS st r p with
  | none => rw [q] at h; simp at h
  | some d =>
    rw [q] at h; simp only at h
    cases w : vOf d with
    | some v => rw [w] at h; simp at h; subst h; exact ⟨v, w⟩
    | none =>
      rw [w] at h
      cases d <;> simp at h
      subst h; exact ⟨_, _, q⟩
/-- from a place's value to its reading -/
theorem rQ_pl {r : Nat} {p : Pth} {Q : VK} {u : V} (s : SX C st ds σ vs H) (hp : HPs H σ r p u) (h : rQ σ H Q (plOf st r p)) : Q u H := by
  unfold plOf at h
  cases q : getS st r p with
  | none => rw [q] at h; exact h.elim
  | some d =>
    rw [q] at h; simp only at h
    cases w : vOf d with
    | some v =>
      rw [w] at h
      rw [s.scal q w hp]; exact h v w
    | none =>
      rw [w] at h
      cases d <;> first | exact h u hp | exact h.elim
def qV (i : Nat) : List D → Option PL := fun st => plOf st i []
theorem vq_v (i : Nat) {x : Str} {pos : Pos} (hN : X.N[i]? = some x := by rfl) (hv : Vis X.env.scope x := by first | exact Or.inl rfl | exact Or.inr (Or.inl rfl) | exact Or.inr (Or.inr rfl)) (hd : (x == ("__debug__" : Str)) = false := by decide)
    (hcd : (x == ("__classdict__" : Str)) = false := by decide) : VQ X C (.Name x pos) (qV i) := by
  refine ⟨(pv i hN hv hd hcd).impV ?_, fun st pl h => plOf_ok h⟩
  rintro σ H Q ⟨st, ds, vs, s, h⟩
  unfold qV at h
  cases q : getS st i [] with
  | none => unfold plOf at h; rw [q] at h; exact h.elim
  | some d =>
    have hu : d ≠ .un := by
      rintro rfl
      unfold plOf at h; rw [q] at h; exact h.elim
    obtain ⟨u, hp⟩ := s.place q hu
    obtain ⟨v, e, e2⟩ := id hp
    have e2 : v = u := e2
    subst e2
    exact ⟨v, e, rQ_pl s hp h⟩
def qC (d : D) : List D → Option PL := fun _ => some (.sc d)
theorem vq_int {i : Int} {j : Nat} {pos : Pos} : VQ X C (.Constant (.int i) j pos) (qC (.int i)) := ⟨pe_int.impV (by rintro σ H Q ⟨st, ds, vs, s, h⟩; exact h _ rfl), by rintro st pl h; simp [qC] at h; subst h; exact ⟨_, rfl⟩⟩
theorem vq_bl {b : Bool} {j : Nat} {pos : Pos} : VQ X C (.Constant (.bool b) j pos) (qC (.bl b)) := ⟨pe_bl.impV (by rintro σ H Q ⟨st, ds, vs, s, h⟩; exact h _ rfl), by rintro st pl h; simp [qC] at h; subst h; exact ⟨_, rfl⟩⟩
theorem vq_non {j : Nat} {pos : Pos} : VQ X C (.Constant .none j pos) (qC .non) := ⟨pe_non.impV (by rintro σ H Q ⟨st, ds, vs, s, h⟩; exact h _ rfl), by rintro st pl h; simp [qC] at h; subst h; exact ⟨_, rfl⟩⟩
theorem vq_str {x : Str} {j : Nat} {pos : Pos} : VQ X C (.Constant (.str x) j pos) (qC (.str x)) := ⟨pe_str.impV (by rintro σ H Q ⟨st, ds, vs, s, h⟩; exact h _ rfl), by rintro st pl h; simp [qC] at h; subst h; exact ⟨_, rfl⟩⟩
/-- o.f -/
def qF (c f : Str) (qa : List D → Option PL) : List D → Option PL := fun st => match qa st with
  | some (.pth r p) => match getS st r p with
    | some (.nd (.ins _ c' ns) _) => if c' = c then match ns.findIdx? (· == f) with
        | some j => plOf st r (p ++ [j])
        | none => none
      else none
    | _ => none
  | _ => none
theorem rQ_next {r : Nat} {p : Pth} {k : Kd} {xs : List D} {j : Nat} {a : Addr} {ws : List V} {w : V} {Q : VK} (s : SX C st ds σ vs H) (h : getS st r p = some (.nd k xs)) (hp : HPs H σ r p (.ref a)) (hk : HoK C.CA H a ws k) (hw : ws[j]? = some w) (q : rQ σ H Q (plOf st r (p ++ [j]))) : Q w H := by
  obtain ⟨o, ho, hv⟩ := hk.vals
  obtain ⟨v, e, hp⟩ := hp
  exact rQ_pl s ⟨v, e, hp.snoc ho (by rw [hv]; exact hw)⟩ q
theorem getS_len {r : Nat} {p : Pth} {k : Kd} {xs : List D} {j : Nat} {Q : VK} (h : getS st r p = some (.nd k xs)) (q : rQ σ H Q (plOf st r (p ++ [j]))) : j < xs.length := by
  unfold plOf at q
  cases e : getS st r (p ++ [j]) with
  | none => rw [e] at q; exact q.elim
  | some d =>
    unfold getS at h e
    cases h0 : st[r]? with
    | none => rw [h0] at h; simp at h
    | some x =>
      rw [h0] at h e; simp only at h e
      clear q h0
      induction p generalizing x with
      | nil =>
        simp [getP] at h; subst h
        simp only [List.nil_append, getP] at e
        cases q : xs[j]? with
        | none => rw [q] at e; simp at e
        | some y => exact (List.getElem?_eq_some_iff.mp q).1
      | cons i p ih =>
        cases x with
        | nd k' ys =>
          simp only [getP, List.cons_append] at h e
          cases q : ys[i]? with
          | none => rw [q] at h; simp at h
          | some y => rw [q] at h e; exact ih y (by simpa using e) (by simpa using h)
        | _ => simp [getP] at h
/-- the facts of an own class that its fields ask -/
structure ClsF (K : PySem.W.Frag) (C : Addr) (fs : List Str) : Prop where
  cl : Cls K C
  no : ∀ f ∈ fs, NoAttr K C f
/-- classes: each known one by its name -/
def ClsOk (K : PySem.W.Frag) (CA : Str → Option Addr) (c f : Str) : Prop := ∀ a, CA c = some a → Cls K a ∧ NoAttr K a f
/-- xs[i] of a list, a tuple, a text -/
def qIx (qa qb : List D → Option PL) : List D → Option PL := fun st => match qa st, qb st with
  | some (.pth r p), some (.sc (.int i)) => match getS st r p with
    | some (.nd (.lst _) xs) => match ixN xs.length i with
      | some j => plOf st r (p ++ [j])
      | none => none
    | some (.nd .tup xs) => match ixN xs.length i with
      | some j => plOf st r (p ++ [j])
      | none => none
    | _ => none
  | some (.sc (.str z)), some (.sc (.int i)) => if z.length ≤ sizeLine then match atI z.cps.toList i with
      | some c => some (.sc (.str ⟨#[c]⟩))
      | none => none
    else none
  | _, _ => none
theorem atI_of {α : Type} {xs : List α} {i : Int} {j : Nat} {v : α} (h : ixN xs.length i = some j) (hv : xs[j]? = some v) : atI xs i = some v := by
  unfold atI; rw [h]; exact hv
theorem vq_ix {a b : Expr} {pos : Pos} {qa qb : List D → Option PL} (O : COk X C) (ha : VQ X C a qa) (hb : VQ X C b qb) (hs : PlainIx b := by exact fun _ _ => rfl) : VQ X C (.Subscript a b pos) (qIx qa qb) := by
  refine ⟨(pe_ix ix_seq ha.pe hb.pe hs).impV ?_, fun st pl h => ?_⟩
  · rintro σ H Q ⟨st, ds, vs, s, h⟩
    refine ⟨st, ds, vs, s, ?_⟩
    unfold qIx at h
    cases q : qa st with
    | none => rw [q] at h; exact h.elim
    | some pl =>
      cases q2 : qb st with
      | none => rw [q, q2] at h; cases pl with
        | pth r p => exact h.elim
        | sc d => cases d <;> exact h.elim
      | some pl2 =>
        rw [q, q2] at h
        cases pl2 with
        | pth r2 p2 =>
          cases pl with
          | pth r p => exact h.elim
          | sc d => cases d <;> exact h.elim
        | sc d2 =>
          cases d2 with
          | int i =>
            cases pl with
            | pth r p =>
              simp only at h
              obtain ⟨k, xs, hg⟩ := ha.ok _ _ q
              rw [hg] at h
              intro u hp
              refine ⟨st, ds, vs, s, ?_⟩
              rw [q2]
              rintro v2 hv2
              simp [vOf] at hv2; subst hv2
              obtain ⟨a', ws, Z, os, rfl, hk, rl⟩ := s.node hg hp
              have hl := rl.len
              cases k with
              | lst f =>
                simp only at h
                cases w : ixN xs.length i with
                | none => rw [w] at h; exact h.elim
                | some j =>
                  rw [w] at h
                  have hj := getS_len hg h
                  obtain ⟨v, hv⟩ : ∃ v, ws[j]? = some v := ⟨ws[j], by simp [← hl, hj]⟩
                  exact .inl ⟨a', ws, i, v, rfl, rfl, SqL.of hk, atI_of (by rw [← hl]; exact w) hv, rQ_next s hg hp hk hv h⟩
              | tup =>
                simp only at h
                cases w : ixN xs.length i with
                | none => rw [w] at h; exact h.elim
                | some j =>
                  rw [w] at h
                  have hj := getS_len hg h
                  obtain ⟨v, hv⟩ : ∃ v, ws[j]? = some v := ⟨ws[j], by simp [← hl, hj]⟩
                  exact .inr (.inl ⟨a', ws, i, v, rfl, rfl, SqT.of hk, atI_of (by rw [← hl]; exact w) hv, rQ_next s hg hp hk hv h⟩)
              | _ => exact h.elim
            | sc d =>
              cases d with
              | str z =>
                simp only at h
                rintro v1 hv1
                simp [vOf] at hv1; subst hv1
                refine ⟨st, ds, vs, s, ?_⟩
                rw [q2]
                rintro v2 hv2
                simp [vOf] at hv2; subst hv2
                split at h
                · rename_i hz
                  cases w : atI z.cps.toList i with
                  | none => rw [w] at h; exact h.elim
                  | some c =>
                    rw [w] at h
                    exact .inr (.inr ⟨z, i, c, rfl, rfl, hz, w, h _ rfl⟩)
                · exact h.elim
              | _ => exact h.elim
          | _ => cases pl with
            | pth r p => exact h.elim
            | sc d => cases d <;> exact h.elim
  · unfold qIx at h
    split at h
    · split at h
      · split at h
        · exact plOf_ok h
        · cases h
      · split at h
        · exact plOf_ok h
        · cases h
      · cases h
    · split at h
      · split at h
        · simp at h; subst h; exact ⟨_, rfl⟩
        · cases h
      · cases h
    · cases h
end
end PV

namespace PV
open PySem L2
/-! ### scalar operations -/
abbrev G2 := D → D → Option D
def rS (g : G2) : R2 := fun v u H Q => ∃ x y d w, vOf x = some v ∧ vOf y = some u ∧ g x y = some d ∧ vOf d = some w ∧ Q w H
def ScG (g : G2) : Prop := ∀ x y d, g x y = some d → (∃ v, vOf x = some v) ∧ (∃ v, vOf y = some v) ∧ ∃ w, vOf d = some w
def qOp (g : G2) (qa qb : List D → Option PL) : List D → Option PL := fun st => match qa st, qb st with
  | some (.sc x), some (.sc y) => match g x y with
    | some d => some (.sc d)
    | none => none
  | _, _ => none
def mOp (g : G2) (ma mb : List D → R D) : List D → R D := fun st => (ma st).bind fun x st1 => (mb st1).bind fun y st2 => match g x y with
  | some d => .ok d st2
  | none => .stuck
section
variable {X : Cx} {C : Cc} {st ds : List D} {σ : St} {vs : List V} {H H' : Hp} {a b : Expr} {pos : Pos} {qa qb : List D → Option PL} {ma mb : List D → R D} {sa sb : Bool}
theorem q_two {g : G2} (hg : ScG g) (ha : VQ X C a qa) (hb : VQ X C b qb) {r : R2} (hr : ∀ x y d v u w H Q, vOf x = some v → vOf y = some u → g x y = some d → vOf d = some w → Q w H → r v u H Q) :
    ∀ σ H Q, trQ C (qOp g qa qb) σ H Q → tOp r (trQ C qa) (trQ C qb) σ H Q := by
  rintro σ H Q ⟨st, ds, vs, s, h⟩
  refine ⟨st, ds, vs, s, ?_⟩
  unfold qOp at h
  cases q : qa st with
  | none => rw [q] at h; exact h.elim
  | some pl =>
    cases q2 : qb st with
    | none => rw [q, q2] at h; cases pl <;> exact h.elim
    | some pl2 =>
      rw [q, q2] at h
      cases pl with
      | pth r p => exact h.elim
      | sc x =>
        cases pl2 with
        | pth r p => exact h.elim
        | sc y =>
          simp only at h
          cases e : g x y with
          | none => rw [e] at h; exact h.elim
          | some d =>
            rw [e] at h
            obtain ⟨_, _, w, hw⟩ := hg _ _ _ e
            intro v hv
            refine ⟨st, ds, vs, s, ?_⟩
            rw [q2]
            intro u hu
            exact hr x y d v u w H Q hv hu e hw (h w hw)
theorem qOp_ok {g : G2} (hg : ScG g) : ∀ st pl, qOp g qa qb st = some pl → PLok C st pl := by
  intro st pl h
  unfold qOp at h
  split at h
  · split at h
    · rename_i e
      simp at h; subst h
      exact (hg _ _ _ e).2.2
    · cases h
  · cases h
/-- two expressions in a row, their values the last temporaries -/
theorem seq2 {f : D → D → List D → R D} {sm : Bool} {R' : V → V → Hp → Prop} {Q : VK} (s : SX C st ds σ vs H) (hl : ds.length = vs.length)
    (hM : rE C sm ds vs σ H Q ((ma st).bind fun x st1 => (mb st1).bind fun y st2 => f x y st2))
    (hf : ∀ x y st2 v u H2, ((sa && sb) = true → Same H H2) → SX C st2 ((ds ++ [x]) ++ [y]) σ ((vs ++ [v]) ++ [u]) H2 → rE C sm ds vs σ H Q (f x y st2) → R' v u H2) :
    trE C sa ma σ H fun v H1 => trE C sb mb σ H1 (R' v) := by
  refine ⟨st, ds, vs, s, hl, ?_⟩
  cases e : ma st with
  | stuck => rw [e] at hM; exact hM.elim
  | ex x st' => rw [e] at hM; exact hM
  | ok x st1 =>
    rw [e] at hM
    intro v H1 sm1 s1
    refine ⟨st1, ds ++ [x], vs ++ [v], s1, by simp [hl], ?_⟩
    simp only [R.bind_ok] at hM
    cases e2 : mb st1 with
    | stuck => rw [e2] at hM; exact hM.elim
    | ex y st' => rw [e2] at hM; exact rX.up hM hl rfl
    | ok y st2 =>
      rw [e2] at hM
      intro u H2 sm2 s2
      refine hf x y st2 v u H2 (fun z => ?_) s2 hM
      simp only [Bool.and_eq_true] at z
      exact (sm1 z.1).trans (sm2 z.2)
theorem seq1 {f : D → List D → R D} {sm : Bool} {R' : V → Hp → Prop} {Q : VK} (s : SX C st ds σ vs H) (hl : ds.length = vs.length)
    (hM : rE C sm ds vs σ H Q ((ma st).bind f)) (hf : ∀ x st1 v H1, (sa = true → Same H H1) → SX C st1 (ds ++ [x]) σ (vs ++ [v]) H1 → rE C sm ds vs σ H Q (f x st1) → R' v H1) : trE C sa ma σ H R' := by
  refine ⟨st, ds, vs, s, hl, ?_⟩
  cases e : ma st with
  | stuck => rw [e] at hM; exact hM.elim
  | ex x st' => rw [e] at hM; exact hM
  | ok x st1 =>
    rw [e] at hM
    intro v H1 sm1 s1
    exact hf x st1 v H1 sm1 s1 hM
theorem e_two {g : G2} (hg : ScG g) {r : R2} (hr : ∀ x y d v u w H Q, vOf x = some v → vOf y = some u → g x y = some d → vOf d = some w → Q w H → r v u H Q) :
    ∀ σ H Q, trE C (sa && sb) (mOp g ma mb) σ H Q → tOp r (trE C sa ma) (trE C sb mb) σ H Q := by
  rintro σ H Q ⟨st, ds, vs, s, hl, h⟩
  refine seq2 (sm := sa && sb) s hl h fun x y st2 v u H2 sm s2 h2 => ?_
  cases e : g x y with
  | none => rw [e] at h2; exact h2.elim
  | some d =>
    rw [e] at h2
    obtain ⟨⟨v', hv⟩, ⟨u', hu⟩, w, hw⟩ := hg _ _ _ e
    have e2 : u = u' := s2.scTop hu
    subst e2
    have s3 := s2.pop
    have e1 : v = v' := s3.scTop hv
    subst e1
    exact hr x y d v u w H2 Q hv hu e hw (h2 w H2 (fun z => sm z) (s3.pop.pushc hw))
theorem vq_bin {op : Operator} {r : R2} {g : G2} (ho : OpR X (binaryOp op) r) (hg : ScG g) (hr : ∀ x y d v u w H Q, vOf x = some v → vOf y = some u → g x y = some d → vOf d = some w → Q w H → r v u H Q) (ha : VQ X C a qa) (hb : VQ X C b qb) : VQ X C (.BinOp a op b pos) (qOp g qa qb) :=
  ⟨(pe_op ho ha.pe hb.pe).impV (q_two hg ha hb hr), qOp_ok hg⟩
theorem ve_bin {op : Operator} {r : R2} {g : G2} (ho : OpR X (binaryOp op) r) (hg : ScG g) (hr : ∀ x y d v u w H Q, vOf x = some v → vOf y = some u → g x y = some d → vOf d = some w → Q w H → r v u H Q) (ha : VE X C sa a ma) (hb : VE X C sb b mb) : VE X C (sa && sb) (.BinOp a op b pos) (mOp g ma mb) :=
  (pe_op ho ha hb).impV (e_two hg hr)
theorem vq_cmp {op : CmpOp} {r : R2} {g : G2} (ho : OpR X (compareOp op) r) (hn : behindInMarks op b = false) (hg : ScG g) (hr : ∀ x y d v u w H Q, vOf x = some v → vOf y = some u → g x y = some d → vOf d = some w → Q w H → r v u H Q) (ha : VQ X C a qa) (hb : VQ X C b qb) : VQ X C (.Compare a [op] [b] pos) (qOp g qa qb) :=
  ⟨(pe_cmpR ho ha.pe hb.pe hn).impV (q_two hg ha hb hr), qOp_ok hg⟩
theorem ve_cmp {op : CmpOp} {r : R2} {g : G2} (ho : OpR X (compareOp op) r) (hn : behindInMarks op b = false) (hg : ScG g) (hr : ∀ x y d v u w H Q, vOf x = some v → vOf y = some u → g x y = some d → vOf d = some w → Q w H → r v u H Q) (ha : VE X C sa a ma) (hb : VE X C sb b mb) : VE X C (sa && sb) (.Compare a [op] [b] pos) (mOp g ma mb) :=
  (pe_cmpR ho ha hb hn).impV (e_two hg hr)
end
/-! ### the operations as functions -/
def gAdd : G2
  | .int i, .int j => some (.int (i + j))
  | .str x, .str y => if x.length + y.length ≤ sizeLine then some (.str (x ++ y)) else none
  | _, _ => none
def gI (f : Int → Int → D) (c : Int → Int → Bool) : G2
  | .int i, .int j => if c i j = true then some (f i j) else none
  | _, _ => none
instance (i j : Int) : Decidable (CMul i j) := by unfold CMul; infer_instance
abbrev gSub : G2 := gI (fun i j => .int (i - j)) fun _ _ => true
abbrev gMul : G2 := gI (fun i j => .int (i * j)) fun i j => decide (CMul i j)
abbrev gDiv : G2 := gI (fun i j => .int (i / j)) fun i j => decide (0 < j ∧ j.natAbs.log2 < 9000)
abbrev gMod : G2 := gI (fun i j => .int (i % j)) fun _ j => decide (0 < j)
abbrev gPow : G2 := gI (fun i j => .int (i ^ j.toNat)) fun i j => decide (0 ≤ j ∧ j ≤ 1000000 ∧ i.natAbs < 2 ^ 64)
abbrev gLt : G2 := gI (fun i j => .bl (decide (i < j))) fun _ _ => true
abbrev gLe : G2 := gI (fun i j => .bl (decide (i ≤ j))) fun _ _ => true
abbrev gGt : G2 := gI (fun i j => .bl (decide (j < i))) fun _ _ => true
abbrev gGe : G2 := gI (fun i j => .bl (decide (j ≤ i))) fun _ _ => true
theorem scg_I {f : Int → Int → D} {c : Int → Int → Bool} (h : ∀ i j, ∃ w, vOf (f i j) = some w) : ScG (gI f c) := by
  intro x y d e
  unfold gI at e
  split at e
  · split at e
    · simp at e; subst e; exact ⟨⟨_, rfl⟩, ⟨_, rfl⟩, h _ _⟩
    · cases e
  · cases e
theorem scg_add : ScG gAdd := by
  intro x y d e
  unfold gAdd at e
  split at e
  · simp at e; subst e; exact ⟨⟨_, rfl⟩, ⟨_, rfl⟩, ⟨_, rfl⟩⟩
  · split at e
    · simp at e; subst e; exact ⟨⟨_, rfl⟩, ⟨_, rfl⟩, ⟨_, rfl⟩⟩
    · cases e
  · cases e
theorem r_I {f : Int → Int → D} {c : Int → Int → Bool} {x y d : D} {v u w : V} (hv : vOf x = some v) (hu : vOf y = some u) (e : gI f c x y = some d) (hw : vOf d = some w) : ∃ i j, v = .int i ∧ u = .int j ∧ c i j = true ∧ vOf (f i j) = some w := by
  unfold gI at e
  split at e
  · rename_i i j
    split at e
    · rename_i hc
      simp at e; subst e
      simp [vOf] at hv hu; subst hv; subst hu
      exact ⟨i, j, rfl, rfl, hc, hw⟩
    · cases e
  · cases e
theorem OpR.or {X : Cx} {f : Value → Value → Sem Value} {r r' : R2} (h : OpR X f r) (h' : OpR X f r') : OpR X f (fun x y H Q => r x y H Q ∨ r' x y H Q) := by
  intro pins s σ H x y v u Q I rx ry q
  rcases q with q | q
  · exact h pins s σ H x y v u Q I rx ry q
  · exact h' pins s σ H x y v u Q I rx ry q
section
variable {X : Cx} {C : Cc} {a b : Expr} {pos : Pos} {qa qb : List D → Option PL} {ma mb : List D → R D} {sa sb : Bool}
theorem add_r : ∀ x y d v u w (H : Hp) (Q : VK), vOf x = some v → vOf y = some u → gAdd x y = some d → vOf d = some w → Q w H →
    ((rI0 fun i j => .int (i + j)) v u H Q ∨ ∃ i j, v = .str i ∧ u = .str j ∧ i.length + j.length ≤ sizeLine ∧ Q (.str (i ++ j)) H) := by
  intro x y d v u w H Q hv hu e hw q
  unfold gAdd at e
  split at e
  · simp at e; subst e
    simp [vOf] at hv hu hw; subst hv; subst hu; subst hw
    exact .inl ⟨_, _, rfl, rfl, q⟩
  · split at e
    · rename_i hz
      simp at e; subst e
      simp [vOf] at hv hu hw; subst hv; subst hu; subst hw
      exact .inr ⟨_, _, rfl, rfl, hz, q⟩
    · cases e
  · cases e
theorem vq_add (ha : VQ X C a qa) (hb : VQ X C b qb) : VQ X C (.BinOp a .Add b pos) (qOp gAdd qa qb) := vq_bin (OpR.or op_add op_add_str) scg_add add_r ha hb
theorem rI0_r {f : Int → Int → D} {g : Int → Int → V} (hg : ∀ i j, vOf (f i j) = some (g i j)) : ∀ x y d v u w (H : Hp) (Q : VK), vOf x = some v → vOf y = some u → gI f (fun _ _ => true) x y = some d → vOf d = some w → Q w H → rI0 g v u H Q := by
  intro x y d v u w H Q hv hu e hw q
  obtain ⟨i, j, rfl, rfl, _, h⟩ := r_I hv hu e hw
  rw [hg] at h; cases h
  exact ⟨i, j, rfl, rfl, q⟩
theorem rI_r {f : Int → Int → D} {g : Int → Int → V} {c : Int → Int → Bool} {P : Int → Int → Prop} (hg : ∀ i j, vOf (f i j) = some (g i j)) (hc : ∀ i j, c i j = true → P i j) : ∀ x y d v u w (H : Hp) (Q : VK), vOf x = some v → vOf y = some u → gI f c x y = some d → vOf d = some w → Q w H → rI P g v u H Q := by
  intro x y d v u w H Q hv hu e hw q
  obtain ⟨i, j, rfl, rfl, h1, h⟩ := r_I hv hu e hw
  rw [hg] at h; cases h
  exact ⟨i, j, rfl, rfl, hc i j h1, q⟩
theorem vq_mul (ha : VQ X C a qa) (hb : VQ X C b qb) : VQ X C (.BinOp a .Mult b pos) (qOp gMul qa qb) := vq_bin op_mul (scg_I fun _ _ => ⟨_, rfl⟩) (rI_r (fun _ _ => rfl) fun _ _ h => of_decide_eq_true h) ha hb
theorem vq_div (ha : VQ X C a qa) (hb : VQ X C b qb) : VQ X C (.BinOp a .FloorDiv b pos) (qOp gDiv qa qb) := vq_bin op_fdivW (scg_I fun _ _ => ⟨_, rfl⟩) (rI_r (fun _ _ => rfl) fun i j h => of_decide_eq_true (p := 0 < j ∧ j.natAbs.log2 < 9000) h) ha hb
theorem vq_mod (ha : VQ X C a qa) (hb : VQ X C b qb) : VQ X C (.BinOp a .Mod b pos) (qOp gMod qa qb) := vq_bin op_mod (scg_I fun _ _ => ⟨_, rfl⟩) (rI_r (fun _ _ => rfl) fun _ _ h => of_decide_eq_true h) ha hb
theorem vq_pow (ha : VQ X C a qa) (hb : VQ X C b qb) : VQ X C (.BinOp a .Pow b pos) (qOp gPow qa qb) := vq_bin op_pow (scg_I fun _ _ => ⟨_, rfl⟩) (rI_r (fun _ _ => rfl) fun i j h => of_decide_eq_true (p := 0 ≤ j ∧ j ≤ 1000000 ∧ i.natAbs < 2 ^ 64) h) ha hb
theorem ve_sub (ha : VE X C sa a ma) (hb : VE X C sb b mb) : VE X C (sa && sb) (.BinOp a .Sub b pos) (mOp gSub ma mb) := ve_bin op_sub (scg_I fun _ _ => ⟨_, rfl⟩) (rI0_r fun _ _ => rfl) ha hb
theorem ve_div (ha : VE X C sa a ma) (hb : VE X C sb b mb) : VE X C (sa && sb) (.BinOp a .FloorDiv b pos) (mOp gDiv ma mb) := ve_bin op_fdivW (scg_I fun _ _ => ⟨_, rfl⟩) (rI_r (fun _ _ => rfl) fun i j h => of_decide_eq_true (p := 0 < j ∧ j.natAbs.log2 < 9000) h) ha hb
theorem vq_lt (ha : VQ X C a qa) (hb : VQ X C b qb) : VQ X C (.Compare a [.Lt] [b] pos) (qOp gLt qa qb) := vq_cmp op_lt (nomark _) (scg_I fun _ _ => ⟨_, rfl⟩) (rI0_r fun _ _ => rfl) ha hb
theorem vq_le (ha : VQ X C a qa) (hb : VQ X C b qb) : VQ X C (.Compare a [.LtE] [b] pos) (qOp gLe qa qb) := vq_cmp op_le (nomark _) (scg_I fun _ _ => ⟨_, rfl⟩) (rI0_r fun _ _ => rfl) ha hb
theorem vq_gt (ha : VQ X C a qa) (hb : VQ X C b qb) : VQ X C (.Compare a [.Gt] [b] pos) (qOp gGt qa qb) := vq_cmp op_gt (nomark _) (scg_I fun _ _ => ⟨_, rfl⟩) (rI0_r fun _ _ => rfl) ha hb
theorem vq_ge (ha : VQ X C a qa) (hb : VQ X C b qb) : VQ X C (.Compare a [.GtE] [b] pos) (qOp gGe qa qb) := vq_cmp op_ge (nomark _) (scg_I fun _ _ => ⟨_, rfl⟩) (rI0_r fun _ _ => rfl) ha hb
theorem ve_lt (ha : VE X C sa a ma) (hb : VE X C sb b mb) : VE X C (sa && sb) (.Compare a [.Lt] [b] pos) (mOp gLt ma mb) := ve_cmp op_lt (nomark _) (scg_I fun _ _ => ⟨_, rfl⟩) (rI0_r fun _ _ => rfl) ha hb
theorem ve_gt (ha : VE X C sa a ma) (hb : VE X C sb b mb) : VE X C (sa && sb) (.Compare a [.Gt] [b] pos) (mOp gGt ma mb) := ve_cmp op_gt (nomark _) (scg_I fun _ _ => ⟨_, rfl⟩) (rI0_r fun _ _ => rfl) ha hb
/-- -a -/
def qNeg (qa : List D → Option PL) : List D → Option PL := fun st => match qa st with
  | some (.sc (.int i)) => some (.sc (.int (-i)))
  | _ => none
theorem vq_neg (ha : VQ X C a qa) : VQ X C (.UnaryOp .USub a pos) (qNeg qa) := by
  refine ⟨(pe_un un_neg ha.pe).impV ?_, fun st pl h => ?_⟩
  · rintro σ H Q ⟨st, ds, vs, s, h⟩
    refine ⟨st, ds, vs, s, ?_⟩
    unfold qNeg at h
    cases q : qa st with
    | none => rw [q] at h; exact h.elim
    | some pl =>
      rw [q] at h
      cases pl with
      | pth r p => exact h.elim
      | sc d =>
        cases d with
        | int i =>
          intro v hv
          simp [vOf] at hv; subst hv
          exact ⟨i, rfl, h _ rfl⟩
        | _ => exact h.elim
  · unfold qNeg at h
    split at h
    · simp at h; subst h; exact ⟨_, rfl⟩
    · cases h
/-! ### quiet things used -/
/-- as a value: a node is frozen where it stands -/
def mQ (q : List D → Option PL) : List D → R D := fun st => match q st with
  | some (.sc d) => .ok d st
  | some (.pth r p) => match getS st r p with
    | some e => .ok e.frz (setS st r p e.frz)
    | none => .stuck
  | none => .stuck
theorem VQ.e (ha : VQ X C a qa) : VE X C true a (mQ qa) := by
  refine ha.pe.impV ?_
  rintro σ H Q ⟨st, ds, vs, s, hl, h⟩
  refine ⟨st, ds, vs, s, ?_⟩
  unfold mQ at h
  cases q : qa st with
  | none => rw [q] at h; exact h.elim
  | some pl =>
    rw [q] at h
    cases pl with
    | sc d =>
      intro v hv
      exact h v H (fun _ => Same.refl H) (s.pushc hv)
    | pth r p =>
      simp only at h
      intro u hp
      cases e : getS st r p with
      | none => rw [e] at h; exact h.elim
      | some d =>
        rw [e] at h
        exact h u H (fun _ => Same.refl H) (s.share e hp)
/-- a local name given up -/
def mMove (i : Nat) : List D → R D := fun st => match st[i]? with
  | some .un => .stuck
  | some d => .ok d (st.set i .un)
  | none => .stuck
theorem ve_move (i : Nat) {x : Str} {pos : Pos} (hN : X.N[i]? = some x := by rfl) (hv : Vis X.env.scope x := by first | exact Or.inl rfl | exact Or.inr (Or.inl rfl) | exact Or.inr (Or.inr rfl)) (hd : (x == ("__debug__" : Str)) = false := by decide)
    (hcd : (x == ("__classdict__" : Str)) = false := by decide) : VE X C true (.Name x pos) (mMove i) := by
  refine (pv i hN hv hd hcd).impV ?_
  rintro σ H Q ⟨st, ds, vs, s, hl, h⟩
  unfold mMove at h
  cases q : st[i]? with
  | none => rw [q] at h; exact h.elim
  | some d =>
    have hu : d ≠ .un := by rintro rfl; rw [q] at h; exact h.elim
    have h : rE C true ds vs σ H Q (.ok d (st.set i .un)) := by
      rw [q] at h
      cases d <;> first | exact h | exact absurd rfl hu
    obtain ⟨v, hv⟩ : ∃ v, σ[i]? = some (some v) := by
      obtain ⟨Z, os, t⟩ := id s
      exact t.sl i d q hu
    exact ⟨v, hv, h v H (fun _ => Same.refl H) (s.move q hv)⟩
/-! ### tests -/
def mTQ (q : List D → Option PL) : List D → R Bool := fun st => match q st with
  | some (.sc (.bl b)) => .ok b st
  | _ => .stuck
def mTE (m : List D → R D) : List D → R Bool := fun st => (m st).bind fun d st' => match d with
  | .bl b => .ok b st'
  | _ => .stuck
theorem VQ.t (ha : VQ X C a qa) (he : ∀ whole, isTrue a X.env whole = (do let v ← whole; standAt a.pos; holding [v] (truthy v)) := by intro _; rfl) : VT X C a (mTQ qa) := by
  refine (pt_val ha.pe he).impV ?_
  rintro σ H Q ⟨st, ds, vs, s, hl, h⟩
  refine ⟨st, ds, vs, s, ?_⟩
  unfold mTQ at h
  cases q : qa st with
  | none => rw [q] at h; exact h.elim
  | some pl =>
    rw [q] at h
    cases pl with
    | pth r p => exact h.elim
    | sc d =>
      cases d with
      | bl b =>
        intro v hv
        simp [vOf] at hv; subst hv
        exact ⟨b, rfl, h H s⟩
      | _ => exact h.elim
theorem VE.t (ha : VE X C sa a ma) (he : ∀ whole, isTrue a X.env whole = (do let v ← whole; standAt a.pos; holding [v] (truthy v)) := by intro _; rfl) : VT X C a (mTE ma) := by
  refine (pt_val ha he).impV ?_
  rintro σ H Q ⟨st, ds, vs, s, hl, h⟩
  refine ⟨st, ds, vs, s, hl, ?_⟩
  unfold mTE at h
  cases q : ma st with
  | stuck => rw [q] at h; exact h.elim
  | ex e st' => rw [q] at h; exact h
  | ok d st' =>
    rw [q] at h
    cases d with
    | bl b =>
      intro v H1 _ s1
      have : v = .bl b := s1.scTop rfl
      subst this
      exact ⟨b, rfl, h H1 s1.pop⟩
    | _ => exact h.elim
theorem isTrue_cmp1 {M : Model} {A : Around} {l r : Expr} {op : CmpOp} {env : Env} {s : Shared} {whole : Sem Value} {Q : Bool → Shared → Prop} {E : Value → Shared → Prop}
    (h : wpAny M A (eval (.Compare l [op] [r] pos) env) (fun v s₂ => wpAny M A (truthy v) Q E s₂) E s) : wpAny M A (isTrue (.Compare l [op] [r] pos) env whole) Q E s := fun Γ p hΓ => by
  have h' := h Γ p hΓ
  simp only [eval_Compare1, isTrue_Compare1, Sem.wp_bind', Sem.wp_holding, Sem.wp_cmd_standAt, Sem.wp_operate] at h' ⊢
  exact Sem.wp_mono M Γ _ (fun a p₁ s₁ h₁ => Sem.wp_mono M Γ _ (fun b _ s₂ h₂ => Sem.wp_mono M Γ _ (fun c p₃ s₃ h₃ => h₃ Γ p₃ hΓ) (fun _ _ _ h' => h') _ _ h₂) (fun _ _ _ h' => h') _ _ h₁) (fun _ _ _ h' => h') _ _ h'
theorem pt_cmpV {op : CmpOp} {t : TE} (h : PE X (.Compare a [op] [b] pos) t) : PT X (.Compare a [op] [b] pos) (tB t) := by
  refine ⟨fun pins s σ H Q I hw => ?_⟩
  refine isTrue_cmp1 (thn (h.run pins s σ H _ I hw) fun v s1 ⟨x, H1, I1, r1, q1⟩ => ?_)
  obtain ⟨d, rfl, q⟩ := q1
  cases r1
  exact wpAny_truthy_bool ⟨H1, I1, q⟩
theorem VQ.t_red : ∀ σ H Q, trT C (mTQ qa) σ H Q → tB (trQ C qa) σ H Q := by
  rintro σ H Q ⟨st, ds, vs, s, hl, h⟩
  refine ⟨st, ds, vs, s, ?_⟩
  unfold mTQ at h
  cases q : qa st with
  | none => rw [q] at h; exact h.elim
  | some pl =>
    rw [q] at h
    cases pl with
    | pth r p => exact h.elim
    | sc d =>
      cases d with
      | bl b =>
        intro v hv
        simp [vOf] at hv; subst hv
        exact ⟨b, rfl, h H s⟩
      | _ => exact h.elim
theorem VE.t_red : ∀ σ H Q, trT C (mTE ma) σ H Q → tB (trE C sa ma) σ H Q := by
  rintro σ H Q ⟨st, ds, vs, s, hl, h⟩
  refine ⟨st, ds, vs, s, hl, ?_⟩
  unfold mTE at h
  cases q : ma st with
  | stuck => rw [q] at h; exact h.elim
  | ex e st' => rw [q] at h; exact h
  | ok d st' =>
    rw [q] at h
    cases d with
    | bl b =>
      intro v H1 _ s1
      have : v = .bl b := s1.scTop rfl
      subst this
      exact ⟨b, rfl, h H1 s1.pop⟩
    | _ => exact h.elim
theorem VQ.tc {op : CmpOp} (ha : VQ X C (.Compare a [op] [b] pos) qa) : VT X C (.Compare a [op] [b] pos) (mTQ qa) := (pt_cmpV ha.pe).impV VQ.t_red
theorem VE.tc {op : CmpOp} (ha : VE X C sa (.Compare a [op] [b] pos) ma) : VT X C (.Compare a [op] [b] pos) (mTE ma) := (pt_cmpV ha).impV VE.t_red
end
end PV

namespace PV
open PySem L2
section
variable {X : Cx} {C : Cc} {st ds : List D} {σ : St} {vs : List V} {H H' : Hp} {a b : Expr} {pos : Pos} {qa qb : List D → Option PL} {ma mb : List D → R D} {ta tb : List D → R Bool} {sa sb : Bool} {rest : List Expr}
/-! ### tests: not, and, or -/
def mNotT (t : List D → R Bool) : List D → R Bool := fun st => (t st).bind fun b st' => .ok (!b) st'
def mAndT (t u : List D → R Bool) : List D → R Bool := fun st => (t st).bind fun b st' => if b = true then u st' else .ok false st'
def mOrT (t u : List D → R Bool) : List D → R Bool := fun st => (t st).bind fun b st' => if b = true then .ok true st' else u st'
theorem VT.not (ha : VT X C a ta) : VT X C (.UnaryOp .Not a pos) (mNotT ta) := by
  refine (pt_not ha).impV ?_
  rintro σ H Q ⟨st, ds, vs, s, hl, h⟩
  refine ⟨st, ds, vs, s, hl, ?_⟩
  unfold mNotT at h
  cases q : ta st with
  | stuck => rw [q] at h; exact h.elim
  | ex e st' => rw [q] at h; exact h
  | ok c st' => rw [q] at h; intro H1 s1; exact h H1 s1
theorem VT.and1 (ha : VT X C a ta) : VW X C (.BoolOp .And [a] pos) ta := pw_and1 ha
theorem VT.or1 (ha : VT X C a ta) : VW X C (.BoolOp .Or [a] pos) ta := pw_or1 ha
theorem VT.and (ha : VT X C a ta) (hb : VW X C (.BoolOp .And (b :: rest) pos) tb) : VW X C (.BoolOp .And (a :: b :: rest) pos) (mAndT ta tb) := by
  refine (pw_and ha hb).impV ?_
  rintro σ H Q ⟨st, ds, vs, s, hl, h⟩
  refine ⟨st, ds, vs, s, hl, ?_⟩
  unfold mAndT at h
  cases q : ta st with
  | stuck => rw [q] at h; exact h.elim
  | ex e st' => rw [q] at h; exact h
  | ok c st' =>
    rw [q] at h
    intro H1 s1
    cases c with
    | true => rw [if_pos rfl]; exact ⟨st', ds, vs, s1, hl, h⟩
    | false => rw [if_neg (by decide)]; exact h H1 s1
theorem VT.or (ha : VT X C a ta) (hb : VW X C (.BoolOp .Or (b :: rest) pos) tb) : VW X C (.BoolOp .Or (a :: b :: rest) pos) (mOrT ta tb) := by
  refine (pw_or ha hb).impV ?_
  rintro σ H Q ⟨st, ds, vs, s, hl, h⟩
  refine ⟨st, ds, vs, s, hl, ?_⟩
  unfold mOrT at h
  cases q : ta st with
  | stuck => rw [q] at h; exact h.elim
  | ex e st' => rw [q] at h; exact h
  | ok c st' =>
    rw [q] at h
    intro H1 s1
    cases c with
    | true => rw [if_pos rfl]; exact h H1 s1
    | false => rw [if_neg (by decide)]; exact ⟨st', ds, vs, s1, hl, h⟩
theorem VW.t (ha : VW X C a ta) : VT X C a ta := ha.pt
/-! ### not, and, or as values -/
def mNotV (m : List D → R D) : List D → R D := fun st => (m st).bind fun d st' => match d with
  | .bl b => .ok (.bl (!b)) st'
  | _ => .stuck
def mAndV (m n : List D → R D) : List D → R D := fun st => (m st).bind fun d st' => match d with
  | .bl true => n st'
  | .bl false => .ok (.bl false) st'
  | _ => .stuck
def mOrV (m n : List D → R D) : List D → R D := fun st => (m st).bind fun d st' => match d with
  | .bl true => .ok (.bl true) st'
  | .bl false => n st'
  | _ => .stuck
theorem rE.sm {Q : VK} : ∀ {r : R D}, rE C sa ds vs σ H Q r → (sb = true → sa = true) → rE C sb ds vs σ H Q r → True := fun _ _ _ => trivial
theorem rE.weak {Q : VK} {H1 : Hp} (s : sa = true → Same H H1) : ∀ {r : R D}, rE C (sa && sb) ds vs σ H Q r → rE C sb ds vs σ H1 Q r
  | .ok d st, h => fun v H' e k => h v H' (fun z => by simp only [Bool.and_eq_true] at z; exact (s z.1).trans (e z.2)) k
  | .ex _ _, h => h
  | .stuck, h => h
theorem ve_not (ha : VE X C sa a ma) : VE X C sa (.UnaryOp .Not a pos) (mNotV ma) := by
  refine (pe_not ha).impV ?_
  rintro σ H Q ⟨st, ds, vs, s, hl, h⟩
  refine seq1 (sm := sa) s hl h fun x st1 v H1 sm s1 h1 => ?_
  cases x with
  | bl b =>
    have : v = .bl b := s1.scTop rfl
    subst this
    exact ⟨b, rfl, h1 _ H1 sm (s1.pop.pushc rfl)⟩
  | _ => exact h1.elim
theorem ve_one {op : BoolOp} (ha : VE X C sa a ma) : VE X C sa (.BoolOp op [a] pos) ma := pe_one ha
theorem ve_and (ha : VE X C sa a ma) (hb : VE X C sb (.BoolOp .And (b :: rest) pos) mb) : VE X C (sa && sb) (.BoolOp .And (a :: b :: rest) pos) (mAndV ma mb) := by
  refine (pe_and ha hb).impV ?_
  rintro σ H Q ⟨st, ds, vs, s, hl, h⟩
  refine seq1 (sm := sa && sb) s hl h fun x st1 v H1 sm s1 h1 => ?_
  cases x with
  | bl c =>
    have : v = .bl c := s1.scTop rfl
    subst this
    refine ⟨c, rfl, ?_⟩
    cases c with
    | true => rw [if_pos rfl]; exact ⟨st1, ds, vs, s1.pop, hl, h1.weak sm⟩
    | false => rw [if_neg (by decide)]; exact h1 _ H1 (fun z => by simp only [Bool.and_eq_true] at z; exact sm z.1) (s1.pop.pushc rfl)
  | _ => exact h1.elim
/-! ### data: ==, in -/
mutual
def toPy : D → Option PyData
  | .non => some .none
  | .bl b => some (.bool b)
  | .int i => some (.int i)
  | .str s => some (.str s)
  | .nd (.lst _) xs => match toPyL xs with
    | some l => some (.list l)
    | none => none
  | .nd .tup xs => match toPyL xs with
    | some l => some (.tuple l)
    | none => none
  | _ => none
def toPyL : List D → Option (List PyData)
  | [] => some []
  | d :: r => match toPy d, toPyL r with
    | some x, some l => some (x :: l)
    | _, _ => none
end
mutual
theorem Rp.dp {G : Gd} : ∀ {d : D} {v : V} {os : Ct} {p : PyData}, Rp G d v os → toPy d = some p → Dp G.K G.H v p
  | _, _, _, _, .non _, e => by simp [toPy] at e; subst e; exact .non
  | _, _, _, _, .bl _, e => by simp [toPy] at e; subst e; exact .bl _
  | _, _, _, _, .int _, e => by simp [toPy] at e; subst e; exact .int _
  | _, _, _, _, .str _, e => by simp [toPy] at e; subst e; exact .str _
  | _, _, _, _, .un _, e => by simp [toPy] at e
  | _, _, _, _, .scr _ _, e => by simp [toPy] at e
  | _, _, _, _, .nd (k := k) (xs := xs) hk r n, e => by
    cases k with
    | lst f =>
      simp only [toPy] at e
      cases q : toPyL xs with
      | none => rw [q] at e; simp at e
      | some l => rw [q] at e; simp at e; subst e; exact .lst (SqL.of hk) (RpL.dp r q)
    | tup =>
      simp only [toPy] at e
      cases q : toPyL xs with
      | none => rw [q] at e; simp at e
      | some l => rw [q] at e; simp at e; subst e; exact .tup (SqT.of hk) (RpL.dp r q)
    | dct f ks => simp [toPy] at e
    | ins f c ns => simp [toPy] at e
theorem RpL.dp {G : Gd} : ∀ {xs : List D} {vs : List V} {os : Ct} {l : List PyData}, RpL G xs vs os → toPyL xs = some l → DpAll G.K G.H vs l
  | _, _, _, _, .nil _, e => by simp [toPyL] at e; subst e; exact .nil
  | _, _, _, _, .cons (d := d) (xs := xs) r t h, e => by
    simp only [toPyL] at e
    cases q : toPy d with
    | none => rw [q] at e; simp at e
    | some x =>
      cases q2 : toPyL xs with
      | none => rw [q, q2] at e; simp at e
      | some l => rw [q, q2] at e; simp at e; subst e; exact .cons (Rp.dp r q) (RpL.dp t q2)
end
def isTx : PyData → Bool
  | .str _ => true
  | _ => false
/-- == of data that can be laid, and of texts of any signs -/
def eqb (p q : PyData) : Bool := (SeqAt.shaped p && SeqAt.shaped q) || (isTx p && isTx q)
def eqD (x y : D) : Option Bool := match toPy x, toPy y with
  | some p, some q => if eqb p q = true then some (PyData.eqv p q) else none
  | _, _ => none
def rEqE (K : PySem.W.Frag) : R2 := fun x y H Q => ∃ d e, Dp K H x d ∧ Dp K H y e ∧ eqb d e = true ∧ Q (.bl (PyData.eqv d e)) H
def rNeE (K : PySem.W.Frag) : R2 := fun x y H Q => ∃ d e, Dp K H x d ∧ Dp K H y e ∧ eqb d e = true ∧ Q (.bl (!PyData.eqv d e)) H
theorem isTx_of {p : PyData} (h : isTx p = true) : ∃ s, p = .str s := by
  cases p <;> first | exact ⟨_, rfl⟩ | simp [isTx] at h
theorem op_eqE {X : Cx} (hu : X.A.units + 64 < cLine) : OpR X (compareOp .Eq) (rEqE X.K) := by
  intro pins s σ H x y v u Q I rx ry h
  obtain ⟨d, e, h1, h2, h3, q⟩ := h
  by_cases c : (SeqAt.shaped d && SeqAt.shaped e) = true
  · rw [Bool.and_eq_true] at c
    exact op_eqD hu pins s σ H x y v u Q I rx ry ⟨d, e, h1, h2, c.1, c.2, q⟩
  · have h4 : (isTx d && isTx e) = true := by
      unfold eqb at h3
      rw [Bool.or_eq_true] at h3
      exact h3.resolve_left c
    rw [Bool.and_eq_true] at h4
    obtain ⟨a, rfl⟩ := isTx_of h4.1
    obtain ⟨b, rfl⟩ := isTx_of h4.2
    cases h1
    cases h2
    refine op_eq pins s σ H _ _ v u Q I rx ry ⟨rfl, ?_⟩
    rw [dec_str]
    simpa [PyData.eqv] using q
theorem op_neE {X : Cx} (hu : X.A.units + 64 < cLine) : OpR X (compareOp .NotEq) (rNeE X.K) := by
  intro pins s σ H x y v u Q I rx ry h
  obtain ⟨d, e, h1, h2, h3, q⟩ := h
  by_cases c : (SeqAt.shaped d && SeqAt.shaped e) = true
  · rw [Bool.and_eq_true] at c
    exact op_neD hu pins s σ H x y v u Q I rx ry ⟨d, e, h1, h2, c.1, c.2, q⟩
  · have h4 : (isTx d && isTx e) = true := by
      unfold eqb at h3
      rw [Bool.or_eq_true] at h3
      exact h3.resolve_left c
    rw [Bool.and_eq_true] at h4
    obtain ⟨a, rfl⟩ := isTx_of h4.1
    obtain ⟨b, rfl⟩ := isTx_of h4.2
    cases h1
    cases h2
    refine op_ne pins s σ H _ _ v u Q I rx ry ⟨rfl, ?_⟩
    rw [dec_str]
    simpa [PyData.eqv] using q
def plD (st : List D) : PL → Option D
  | .sc d => some d
  | .pth r p => getS st r p
/-- a quiet thing's value and its tree -/
theorem SX.pl {Q : VK} {pl : PL} {d : D} (s : SX C st ds σ vs H) (hd : plD st pl = some d) (h : ∀ v (Z : Addr → Prop) (os : Ct), Rp (C.G Z H) d v os → Q v H) : rQ σ H Q (some pl) := by
  cases pl with
  | sc x =>
    simp [plD] at hd; subst hd
    intro v hv
    exact h v (fun _ => True) _ (rp_sc hv)
  | pth r p =>
    intro u hp
    obtain ⟨Z, os, s⟩ := s
    obtain ⟨u', oe, _, _, hp', re, _⟩ := s.path hd (let ⟨v, e, _⟩ := hp; ⟨v, e⟩)
    have := hp.fn hp'; subst this
    exact h u Z oe re
def qEq (neg : Bool) (qa qb : List D → Option PL) : List D → Option PL := fun st => match qa st, qb st with
  | some p, some q => match plD st p, plD st q with
    | some x, some y => match eqD x y with
      | some b => some (.sc (.bl (if neg = true then !b else b)))
      | none => none
    | _, _ => none
  | _, _ => none
def mEq (neg : Bool) (ma mb : List D → R D) : List D → R D := fun st => (ma st).bind fun x st1 => (mb st1).bind fun y st2 => match eqD x y with
  | some b => .ok (.bl (if neg = true then !b else b)) st2
  | none => .stuck
theorem eqD_dp {x y : D} {b : Bool} (h : eqD x y = some b) : ∃ p q, toPy x = some p ∧ toPy y = some q ∧ eqb p q = true ∧ b = PyData.eqv p q := by
  unfold eqD at h
  split at h
  · rename_i p q h1 h2
    split at h
    · rename_i hs
      exact ⟨p, q, h1, h2, hs, (Option.some.inj h).symm⟩
    · cases h
  · cases h
theorem qEq_red {Q : VK} {neg : Bool} {r : R2} (O : COk X C) (hr : ∀ v u p q (H : Hp) (Q : VK), Dp X.K H v p → Dp X.K H u q → eqb p q = true → Q (.bl (if neg = true then !(PyData.eqv p q) else PyData.eqv p q)) H → r v u H Q) :
    ∀ σ H Q, trQ C (qEq neg qa qb) σ H Q → tOp r (trQ C qa) (trQ C qb) σ H Q := by
  rintro σ H Q ⟨st, ds, vs, s, h⟩
  refine ⟨st, ds, vs, s, ?_⟩
  unfold qEq at h
  cases q : qa st with
  | none => rw [q] at h; exact h.elim
  | some pl =>
    cases q2 : qb st with
    | none => rw [q, q2] at h; exact h.elim
    | some pl2 =>
      rw [q, q2] at h
      simp only at h
      cases w : plD st pl with
      | none => rw [w] at h; exact h.elim
      | some x =>
        cases w2 : plD st pl2 with
        | none => rw [w, w2] at h; exact h.elim
        | some y =>
          rw [w, w2] at h
          simp only at h
          cases e : eqD x y with
          | none => rw [e] at h; exact h.elim
          | some b =>
            rw [e] at h
            obtain ⟨p, p2, e1, e2, s1, rfl⟩ := eqD_dp e
            refine SX.pl s w fun v Z os rv => ⟨st, ds, vs, s, ?_⟩
            rw [q2]
            refine SX.pl s w2 fun u Z2 os2 ru => ?_
            exact hr v u p p2 H Q (by rw [← O.k]; exact rv.dp e1) (by rw [← O.k]; exact ru.dp e2) s1 (h _ rfl)
theorem qEq_ok {neg : Bool} : ∀ st pl, qEq neg qa qb st = some pl → PLok C st pl := by
  intro st pl h
  unfold qEq at h
  split at h
  · split at h
    · split at h
      · simp at h; subst h; exact ⟨_, rfl⟩
      · cases h
    · cases h
  · cases h
theorem vq_eq (O : COk X C) (hu : X.A.units + 64 < cLine) (ha : VQ X C a qa) (hb : VQ X C b qb) : VQ X C (.Compare a [.Eq] [b] pos) (qEq false qa qb) :=
  ⟨(pe_cmpR (op_eqE hu) ha.pe hb.pe (nomark _)).impV (qEq_red (Q := fun _ _ => True) O fun v u p q H Q h1 h2 h3 k => ⟨p, q, h1, h2, h3, k⟩), qEq_ok⟩
theorem vq_ne (O : COk X C) (hu : X.A.units + 64 < cLine) (ha : VQ X C a qa) (hb : VQ X C b qb) : VQ X C (.Compare a [.NotEq] [b] pos) (qEq true qa qb) :=
  ⟨(pe_cmpR (op_neE hu) ha.pe hb.pe (nomark _)).impV (qEq_red (Q := fun _ _ => True) O fun v u p q H Q h1 h2 h3 k => ⟨p, q, h1, h2, h3, k⟩), qEq_ok⟩
theorem SX.topR {d : D} {v : V} (s : SX C st (ds ++ [d]) σ (vs ++ [v]) H) : ∃ (Z : Addr → Prop) (os : Ct), Rp (C.G Z H) d v os := by
  obtain ⟨Z, os, s⟩ := s
  obtain ⟨_, _, o3, _, _, r, _⟩ := s.top
  exact ⟨Z, o3, r⟩
theorem mEq_red {neg : Bool} {r : R2} (O : COk X C) (hr : ∀ v u p q (H : Hp) (Q : VK), Dp X.K H v p → Dp X.K H u q → eqb p q = true → Q (.bl (if neg = true then !(PyData.eqv p q) else PyData.eqv p q)) H → r v u H Q) :
    ∀ σ H Q, trE C (sa && sb) (mEq neg ma mb) σ H Q → tOp r (trE C sa ma) (trE C sb mb) σ H Q := by
  rintro σ H Q ⟨st, ds, vs, s, hl, h⟩
  refine seq2 (sm := sa && sb) s hl h fun x y st2 v u H2 sm s2 h2 => ?_
  cases e : eqD x y with
  | none => rw [e] at h2; exact h2.elim
  | some b =>
    rw [e] at h2
    obtain ⟨p, q, e1, e2, h3, rfl⟩ := eqD_dp e
    obtain ⟨Z, os, ru⟩ := s2.topR
    obtain ⟨Z', os', rv⟩ := s2.pop.topR
    exact hr v u p q H2 Q (by rw [← O.k]; exact rv.dp e1) (by rw [← O.k]; exact ru.dp e2) h3 (h2 _ H2 sm (s2.pop.pop.pushc rfl))
theorem ve_eq (O : COk X C) (hu : X.A.units + 64 < cLine) (ha : VE X C sa a ma) (hb : VE X C sb b mb) : VE X C (sa && sb) (.Compare a [.Eq] [b] pos) (mEq false ma mb) :=
  (pe_cmpR (op_eqE hu) ha hb (nomark _)).impV (mEq_red O fun v u p q H Q h1 h2 h3 k => ⟨p, q, h1, h2, h3, k⟩)
theorem ve_ne (O : COk X C) (hu : X.A.units + 64 < cLine) (ha : VE X C sa a ma) (hb : VE X C sb b mb) : VE X C (sa && sb) (.Compare a [.NotEq] [b] pos) (mEq true ma mb) :=
  (pe_cmpR (op_neE hu) ha hb (nomark _)).impV (mEq_red O fun v u p q H Q h1 h2 h3 k => ⟨p, q, h1, h2, h3, k⟩)
/-- x is None -/
def isNonD : D → Bool
  | .non => true
  | _ => false
def qIsN (neg : Bool) (qa : List D → Option PL) : List D → Option PL := fun st => match qa st with
  | some (.sc d) => some (.sc (.bl (if neg = true then !(isNonD d) else isNonD d)))
  | some (.pth _ _) => some (.sc (.bl neg))
  | none => none
def mIsN (neg : Bool) (ma : List D → R D) : List D → R D := fun st => (ma st).bind fun d st' => match d with
  | .un => .stuck
  | .scr _ => .stuck
  | d => .ok (.bl (if neg = true then !(isNonD d) else isNonD d)) st'
theorem isNon_of {G : Gd} {d : D} {v : V} {os : Ct} (r : Rp G d v os) (h : d ≠ .un) : decide (v = .non) = isNonD d := by
  cases r <;> first | rfl | exact absurd rfl h | simp [isNonD]
theorem qIsN_ok {neg : Bool} : ∀ st pl, qIsN neg qa st = some pl → PLok C st pl := by
  intro st pl h
  unfold qIsN at h
  split at h
  · simp at h; subst h; exact ⟨_, rfl⟩
  · simp at h; subst h; exact ⟨_, rfl⟩
  · cases h
theorem qIsN_red {neg : Bool} (ha : VQ X C a qa) : ∀ σ H Q, trQ C (qIsN neg qa) σ H Q → trQ C qa σ H fun x H1 => Q (.bl (if neg = true then !decide (x = .non) else decide (x = .non))) H1 := by
  rintro σ H Q ⟨st, ds, vs, s, h⟩
  refine ⟨st, ds, vs, s, ?_⟩
  unfold qIsN at h
  cases q : qa st with
  | none => rw [q] at h; exact h.elim
  | some pl =>
    rw [q] at h
    cases pl with
    | sc d =>
      intro v hv
      simp only at h
      rw [isNon_of (G := C.G (fun _ => True) H) (rp_sc hv) (vOf_un hv)]
      exact h _ rfl
    | pth r p =>
      intro u hp
      obtain ⟨k, xs, hg⟩ := ha.ok _ _ q
      obtain ⟨a', ws, Z, os, rfl, _⟩ := s.node hg hp
      have := h _ rfl
      cases neg <;> simpa using this
theorem vq_isN {j : Nat} {p' : Pos} (ha : VQ X C a qa) : VQ X C (.Compare a [.Is] [.Constant .none j p'] pos) (qIsN false qa) :=
  ⟨(pe_cmp (pc_isN ha.pe) rfl).impV (by intro σ H Q h; exact qIsN_red ha σ H Q h), qIsN_ok⟩
end
end PV

namespace PV
open PySem L2
section
variable {X : Cx} {C : Cc} {st ds : List D} {σ : St} {vs : List V} {H H' : Hp} {a b e : Expr} {es : List Expr} {pos : Pos} {qa qb : List D → Option PL} {ma mb : List D → R D} {sa sb : Bool}
/-! ### values in a row -/
def rL (C : Cc) (sm : Bool) (ds : List D) (vs : List V) (σ : St) (H : Hp) (Q : List V → Hp → Prop) : R (List D) → Prop
  | .ok xs st => ∀ us H', (sm = true → Same H H') → SX C st (ds ++ xs) σ (vs ++ us) H' → xs.length = us.length → Q us H'
  | .ex e st => rX C ds vs σ e st
  | .stuck => False
def trL (C : Cc) (sm : Bool) (m : List D → R (List D)) : TA := fun σ H Q => ∃ st ds vs, SX C st ds σ vs H ∧ ds.length = vs.length ∧ rL C sm ds vs σ H Q (m st)
def VL (X : Cx) (C : Cc) (sm : Bool) (es : List Expr) (m : List D → R (List D)) : Prop := PA X es (trL C sm m)
def mNil : List D → R (List D) := fun st => .ok [] st
def mCons (m : List D → R D) (ms : List D → R (List D)) : List D → R (List D) := fun st => (m st).bind fun d st1 => (ms st1).bind fun xs st2 => .ok (d :: xs) st2
theorem vl_nil : VL X C true [] mNil := by
  refine pa_nil.impV ?_
  rintro σ H Q ⟨st, ds, vs, s, hl, h⟩
  exact h [] H (fun _ => Same.refl H) (by simpa using s) rfl
theorem vl_cons {ms : List D → R (List D)} (ha : VE X C sa e ma) (hr : VL X C sb es ms) (hs : starEach (e :: es) X.env = (false, eval e X.env) :: starEach es X.env := by rfl) : VL X C (sa && sb) (e :: es) (mCons ma ms) := by
  refine (pa_cons ha hr hs).impV ?_
  rintro σ H Q ⟨st, ds, vs, s, hl, h⟩
  refine ⟨st, ds, vs, s, hl, ?_⟩
  unfold mCons at h
  cases q : ma st with
  | stuck => rw [q] at h; exact h.elim
  | ex x st' => rw [q] at h; exact h
  | ok x st1 =>
    rw [q] at h
    intro v H1 sm1 s1
    refine ⟨st1, ds ++ [x], vs ++ [v], s1, by simp [hl], ?_⟩
    simp only [R.bind_ok] at h
    cases q2 : ms st1 with
    | stuck => rw [q2] at h; exact h.elim
    | ex y st' => rw [q2] at h; exact rX.up h hl rfl
    | ok xs st2 =>
      rw [q2] at h
      intro us H2 sm2 s2 l2
      exact h (v :: us) H2 (fun z => by simp only [Bool.and_eq_true] at z; exact (sm1 z.1).trans (sm2 z.2)) (by simpa [List.append_assoc] using s2) (by simp [l2])
/-- [a, b], (a, b) -/
def mLst (ml : List D → R (List D)) : List D → R D := fun st => (ml st).bind fun xs st1 => if xs.length ≤ sizeLine then .ok (.nd (.lst .own) xs) st1 else .stuck
def mTup (ml : List D → R (List D)) : List D → R D := fun st => (ml st).bind fun xs st1 => if xs.length ≤ sizeLine then .ok (.nd .tup xs) st1 else .stuck
theorem same_new {H : Hp} {p : Addr} {o : HO} (hp : H p = none) : Same H (upd H p o) := fun b u q => by rw [upd_ne (ne_of_none q hp)]; exact q
theorem ve_lst {ml : List D → R (List D)} (h : VL X C sa es ml) : VE X C sa (.List es pos) (mLst ml) := by
  refine (pe_lst h).impV ?_
  rintro σ H Q ⟨st, ds, vs, s, hl, h⟩
  refine ⟨st, ds, vs, s, hl, ?_⟩
  unfold mLst at h
  cases q : ml st with
  | stuck => rw [q] at h; exact h.elim
  | ex x st' => rw [q] at h; exact h
  | ok xs st1 =>
    rw [q] at h
    intro us H1 sm s1 hxs
    simp only [R.bind_ok] at h
    split at h
    · rename_i hz
      refine ⟨by rw [← hxs]; exact hz, fun p hp => h _ _ (fun z => (sm z).trans (same_new hp)) (s1.alloc hl hp (show (upd H1 p (.lst us)) p = some (.lst us) from upd_same) (.inr rfl))⟩
    · exact h.elim
theorem ve_tup {ml : List D → R (List D)} {j : Nat} (h : VL X C sa es ml) : VE X C sa (.Tuple es j pos) (mTup ml) := by
  refine (pe_tup h).impV ?_
  rintro σ H Q ⟨st, ds, vs, s, hl, h⟩
  refine ⟨st, ds, vs, s, hl, ?_⟩
  unfold mTup at h
  cases q : ml st with
  | stuck => rw [q] at h; exact h.elim
  | ex x st' => rw [q] at h; exact h
  | ok xs st1 =>
    rw [q] at h
    intro us H1 sm s1 hxs
    simp only [R.bind_ok] at h
    split at h
    · rename_i hz
      refine ⟨by rw [← hxs]; exact hz, fun p hp => h _ _ (fun z => (sm z).trans (same_new hp)) (s1.alloc hl hp (show (upd H1 p (.tup us)) p = some (.tup us) from upd_same) (.inl rfl))⟩
    · exact h.elim
/-! ### arguments -/
def aNil : List D → R (List AD) := fun st => .ok [] st
/-- a value of its own -/
def aVal (m : List D → R D) (ms : List D → R (List AD)) : List D → R (List AD) := fun st => (m st).bind fun d st1 => (ms st1).bind fun xs st2 => .ok (.val d :: xs) st2
/-- a name: what it holds is lent -/
def aVar (i : Nat) (ms : List D → R (List AD)) : List D → R (List AD) := fun st => match plOf st i [] with
  | some (.sc d) => (ms st).bind fun xs st2 => .ok (.val d :: xs) st2
  | some (.pth r p) => (ms st).bind fun xs st2 => .ok (.lnd r p :: xs) st2
  | none => .stuck
/-- a place: what stands there is lent -/
def aPth (q : List D → Option PL) (ms : List D → R (List AD)) : List D → R (List AD) := fun st => match q st with
  | some (.sc d) => (ms st).bind fun xs st2 => .ok (.val d :: xs) st2
  | some (.pth r p) => (ms st).bind fun xs st2 => .ok (.lnd r p :: xs) st2
  | none => .stuck
theorem va_nil : VA X C true [] aNil := by
  refine pa_nil.impV ?_
  rintro σ H Q ⟨st, ds, vs, s, hl, h⟩
  exact h [] H (fun _ => Same.refl H) (by simpa using s) .nil
theorem va_val {ms : List D → R (List AD)} (ha : VE X C sa e ma) (hr : VA X C sb es ms) (hs : starEach (e :: es) X.env = (false, eval e X.env) :: starEach es X.env := by rfl) : VA X C (sa && sb) (e :: es) (aVal ma ms) := by
  refine (pa_cons ha hr hs).impV ?_
  rintro σ H Q ⟨st, ds, vs, s, hl, h⟩
  refine ⟨st, ds, vs, s, hl, ?_⟩
  unfold aVal at h
  cases q : ma st with
  | stuck => rw [q] at h; exact h.elim
  | ex x st' => rw [q] at h; exact h
  | ok x st1 =>
    rw [q] at h
    intro v H1 sm1 s1
    refine ⟨st1, ds ++ [x], vs ++ [v], s1, by simp [hl], ?_⟩
    simp only [R.bind_ok] at h
    cases q2 : ms st1 with
    | stuck => rw [q2] at h; exact h.elim
    | ex y st' => rw [q2] at h; exact rX.up h hl rfl
    | ok xs st2 =>
      rw [q2] at h
      intro us H2 sm2 s2 l2
      exact h (v :: us) H2 (fun z => by simp only [Bool.and_eq_true] at z; exact (sm1 z.1).trans (sm2 z.2)) (by simpa [List.append_assoc, AD.d] using s2) (.val l2)
/-- a place ahead of arguments that let it stand -/
theorem va_plc {ms : List D → R (List AD)} {q : List D → Option PL} (ha : VQ X C e q) (hr : VA X C sb es ms) (hk : sb = true ∨ ∀ st r p, q st = some (.pth r p) → p = []) (hs : starEach (e :: es) X.env = (false, eval e X.env) :: starEach es X.env := by rfl) : VA X C sb (e :: es) (aPth q ms) := by
  refine (pa_cons ha.pe hr hs).impV ?_
  rintro σ H Q ⟨st, ds, vs, s, hl, h⟩
  refine ⟨st, ds, vs, s, ?_⟩
  unfold aPth at h
  cases w : q st with
  | none => rw [w] at h; exact h.elim
  | some pl =>
    rw [w] at h
    cases pl with
    | sc d =>
      intro v hv
      refine ⟨st, ds ++ [d], vs ++ [v], s.pushc hv, by simp [hl], ?_⟩
      simp only at h
      cases q2 : ms st with
      | stuck => rw [q2] at h; exact h.elim
      | ex y st' => rw [q2] at h; exact rX.up h hl rfl
      | ok xs st2 =>
        rw [q2] at h
        intro us H2 sm2 s2 l2
        exact h (v :: us) H2 sm2 (by simpa [List.append_assoc, AD.d] using s2) (.val l2)
    | pth r p =>
      intro u hp
      have s1 : SX C st (ds ++ [.un]) σ (vs ++ [u]) H := by
        obtain ⟨Z, os, t⟩ := id s
        obtain ⟨o1, o2, r1, r2, e⟩ := t.cut
        exact (t.mk2 r1 (r2.app (os := o2) (RpL.one (.un fun _ => rfl)) fun b => by simp) e (fun b => Nat.le_refl _) t.sl).sx
      refine ⟨st, ds ++ [.un], vs ++ [u], s1, by simp [hl], ?_⟩
      simp only at h
      cases q2 : ms st with
      | stuck => rw [q2] at h; exact h.elim
      | ex y st' => rw [q2] at h; exact rX.up h hl rfl
      | ok xs st2 =>
        rw [q2] at h
        intro us H2 sm2 s2 l2
        refine h (u :: us) H2 sm2 (by simpa [List.append_assoc, AD.d] using s2) (.lnd ?_ l2)
        rcases hk with hk | hk
        · exact hp.same (sm2 hk)
        · have := hk _ _ _ w
          subst this
          obtain ⟨v, e1, e2⟩ := hp
          exact ⟨v, e1, e2⟩
theorem qV_pth {i : Nat} : ∀ st r p, qV i st = some (.pth r p) → p = [] := by
  intro st r p h
  unfold qV plOf at h
  split at h
  · split at h
    · simp at h
    · split at h
      · simp at h; exact h.2
      · cases h
  · cases h
theorem va_var (i : Nat) {x : Str} {p : Pos} {ms : List D → R (List AD)} (hr : VA X C sb es ms) (hN : X.N[i]? = some x := by rfl) (hv : Vis X.env.scope x := by first | exact Or.inl rfl | exact Or.inr (Or.inl rfl) | exact Or.inr (Or.inr rfl)) (hd : (x == ("__debug__" : Str)) = false := by decide)
    (hcd : (x == ("__classdict__" : Str)) = false := by decide) (hs : starEach (.Name x p :: es) X.env = (false, eval (.Name x p) X.env) :: starEach es X.env := by rfl) : VA X C sb (.Name x p :: es) (aPth (qV i) ms) :=
  va_plc (vq_v i hN hv hd hcd) hr (.inr qV_pth) hs
/-! ### calls of own defs -/
/-- a def's promise: F of the arguments' trees -/
def spF (K : PySem.W.Frag) (CA : Str → Option Addr) (n : Nat) (F : Fn) : Sp := fun us H Q E => us.length = n ∧ ∃ (args : List D) (os : Ct) (B : Addr → Prop), Pre K CA H args us os B ∧ match F args with
  | .ok d outs => ∀ v H' Z' os', Post K CA H os B (d :: outs) (v :: us) H' Z' os' → Q v H'
  | .ex e outs => ∀ cls dx ws H' Z' os', Post K CA H os B (e.ds ++ outs) (ws ++ us) H' Z' os' → e.ds.length = ws.length → (∃ a, CA e.c = some a ∧ cls = .ref a ∧ match e.p with
      | none => dx = none ∧ ws = []
      | some _ => ∃ x v, dx = some x ∧ H' x = some (.xd [(e.f, v)]) ∧ ws = [v]) → E cls dx H'
  | .stuck => False
/-- may nothing that stood change? (no argument is handed to be changed) -/
def noIo (ms : List Md) : Bool := ms.all (· != .io)
theorem pre_noIo : ∀ {ms : List Md} {as : List AD} {bs args : List D} {st : List D}, noIo ms = true → argsOf ms as bs st = some args → (∀ (i : Nat) (d : D), bs[i]? = some d → ms[i]? = some Md.fz → D.noOwn d = true) → D.noOwnL args = true := by
  intro ms
  induction ms with
  | nil =>
    intro as bs args st hn h hz
    cases as <;> cases bs <;> simp [argsOf] at h
    subst h; rfl
  | cons m ms ih =>
    intro as bs args st hn h hz
    simp [noIo] at hn
    have hn' : noIo ms = true := by simp [noIo]; exact hn.2
    cases m with
    | io => exact absurd rfl hn.1
    | bo =>
      cases as with
      | nil => cases bs <;> simp [argsOf] at h
      | cons a as =>
        cases bs with
        | nil => cases a <;> simp [argsOf] at h
        | cons b bs =>
          have ih' := fun l (q : argsOf ms as bs st = some l) => ih hn' q fun i d h1 h2 => hz (i + 1) d (by simpa using h1) (by simpa using h2)
          cases a with
          | val d =>
            simp only [argsOf] at h
            cases q : argsOf ms as bs st with
            | none => rw [q] at h; simp at h
            | some l => rw [q] at h; simp at h; subst h; simp [D.noOwnL, D.noOwn_set (g := .bor) (by decide), ih' l q]
          | lnd r p =>
            simp only [argsOf] at h
            cases q0 : getS st r p with
            | none => rw [q0] at h; simp at h
            | some x =>
              rw [q0] at h; simp only at h
              cases q : argsOf ms as bs st with
              | none => rw [q] at h; simp at h
              | some l => rw [q] at h; simp at h; subst h; simp [D.noOwnL, D.noOwn_set (g := .bor) (by decide), ih' l q]
    | fz =>
      cases as with
      | nil => cases bs <;> simp [argsOf] at h
      | cons a as =>
        cases bs with
        | nil => simp [argsOf] at h
        | cons b bs =>
          have ih' := fun l (q : argsOf ms as bs st = some l) => ih hn' q fun i d h1 h2 => hz (i + 1) d (by simpa using h1) (by simpa using h2)
          simp only [argsOf] at h
          cases q : argsOf ms as bs st with
          | none => rw [q] at h; simp at h
          | some l => rw [q] at h; simp at h; subst h; simp [D.noOwnL, hz 0 b rfl rfl, ih' l q]
theorem takeA_fz : ∀ {ms : List Md} {as : List AD} {st st1 bs : List D}, takeA ms as st = some (st1, bs) → ∀ (i : Nat) (d : D), bs[i]? = some d → ms[i]? = some Md.fz → D.noOwn d = true := by
  intro ms
  induction ms with
  | nil =>
    intro as st st1 bs h i d hb hm
    simp at hm
  | cons m ms ih =>
    intro as st st1 bs h i d hb hm
    cases as with
    | nil => simp [takeA] at h
    | cons a as =>
      cases a with
      | val x =>
        simp only [takeA] at h
        cases q : takeA ms as st with
        | none => rw [q] at h; simp at h
        | some z =>
          obtain ⟨st', bs'⟩ := z
          rw [q] at h; simp at h
          obtain ⟨_, rfl⟩ := h
          cases i with
          | zero =>
            simp at hb hm
            subst hm; subst hb
            simp; exact D.noOwn_set (by decide) x
          | succ i => exact ih q i d (by simpa using hb) (by simpa using hm)
      | lnd r p =>
        cases m with
        | io =>
          simp only [takeA] at h
          cases q0 : getS st r p with
          | none => rw [q0] at h; simp at h
          | some x =>
            rw [q0] at h; simp only at h
            cases q : takeA ms as (setS st r p .un) with
            | none => rw [q] at h; simp at h
            | some z =>
              obtain ⟨st', bs'⟩ := z
              rw [q] at h; simp at h
              obtain ⟨_, rfl⟩ := h
              cases i with
              | zero => simp at hm
              | succ i => exact ih q i d (by simpa using hb) (by simpa using hm)
        | fz =>
          simp only [takeA] at h
          cases q0 : getS st r p with
          | none => rw [q0] at h; simp at h
          | some x =>
            rw [q0] at h; simp only at h
            cases q : takeA ms as (setS st r p x.frz) with
            | none => rw [q] at h; simp at h
            | some z =>
              obtain ⟨st', bs'⟩ := z
              rw [q] at h; simp at h
              obtain ⟨_, rfl⟩ := h
              cases i with
              | zero =>
                simp at hb; subst hb
                exact D.noOwn_set (by decide) x
              | succ i => exact ih q i d (by simpa using hb) (by simpa using hm)
        | bo =>
          simp only [takeA] at h
          cases q : takeA ms as st with
          | none => rw [q] at h; simp at h
          | some z =>
            obtain ⟨st', bs'⟩ := z
            rw [q] at h; simp at h
            obtain ⟨_, rfl⟩ := h
            cases i with
            | zero => simp at hm
            | succ i => exact ih q i d (by simpa using hb) (by simpa using hm)
/-- from the arguments to the promise -/
theorem call_red {ms : List Md} {F : Fn} {as : List AD} {us : List V} {Q : VK} {n : Nat} (hn : ms.length = n) (O : COk X C) (s : SX C st (ds ++ as.map AD.d) σ (vs ++ us) H) (hl : ds.length = vs.length) (hL : Lnd H σ as us) (h : rE C (noIo ms) ds vs σ H Q (callR ms F as st)) :
    spF X.K C.CA n F us H Q (fun cls d H' => C.W cls d σ H') := by
  unfold callR at h
  cases h1 : takeA ms as st with
  | none => rw [h1] at h; exact h.elim
  | some z =>
    obtain ⟨st1, bs⟩ := z
    rw [h1] at h
    simp only at h
    cases h2 : argsOf ms as bs st1 with
    | none => rw [h2] at h; exact h.elim
    | some args =>
      rw [h2] at h
      simp only at h
      obtain ⟨os, B, P, K⟩ := s.call hl hL h1 h2
      have hK : C.K = X.K := O.k
      have hlen : us.length = n := by
        have e1 : ∀ {ms : List Md} {as : List AD} {st st1 bs : List D}, takeA ms as st = some (st1, bs) → as.length = ms.length := by
          intro ms
          induction ms with
          | nil => intro as st st1 bs h; cases as with
            | nil => rfl
            | cons a as => simp [takeA] at h
          | cons m ms ih =>
            intro as st st1 bs h
            cases as with
            | nil => simp [takeA] at h
            | cons a as =>
              cases a with
              | val x =>
                simp only [takeA] at h
                cases q : takeA ms as st with
                | none => rw [q] at h; simp at h
                | some z => simp [ih q]
              | lnd r p =>
                cases m <;> simp only [takeA] at h
                · cases q0 : getS st r p with
                  | none => rw [q0] at h; simp at h
                  | some x =>
                    rw [q0] at h; simp only at h
                    cases q : takeA ms as (setS st r p .un) with
                    | none => rw [q] at h; simp at h
                    | some z => simp [ih q]
                · cases q : takeA ms as st with
                  | none => rw [q] at h; simp at h
                  | some z => simp [ih q]
                · cases q0 : getS st r p with
                  | none => rw [q0] at h; simp at h
                  | some x =>
                    rw [q0] at h; simp only at h
                    cases q : takeA ms as (setS st r p x.frz) with
                    | none => rw [q] at h; simp at h
                    | some z => simp [ih q]
        rw [← hL.len, e1 h1, hn]
      have hio : noIo ms = true → ∀ b, os b = 0 := fun z => P.rp.zero (pre_noIo z h2 (takeA_fz h1))
      refine ⟨hlen, args, os, B, hK ▸ P, ?_⟩
      cases hF : F args with
      | stuck => rw [hF] at h; exact h.elim
      | ok d outs =>
        rw [hF] at h
        simp only at h ⊢
        intro v H' Z' os' Po
        split at h
        · rename_i nb
          cases h3 : putA ms as outs st1 with
          | none => rw [h3] at h; exact h.elim
          | some st2 =>
            rw [h3] at h
            exact h v H' (fun z b o q => Po.kp b o q (hio z b)) (K [d] [v] outs st2 H' Z' os' rfl (hK ▸ Po) nb h3)
        · exact h.elim
      | ex e outs =>
        rw [hF] at h
        simp only at h ⊢
        intro cls dx ws H' Z' os' Po hw hx
        split at h
        · rename_i nb
          cases h3 : putA ms as outs st1 with
          | none => rw [h3] at h; exact h.elim
          | some st2 =>
            rw [h3] at h
            exact h cls dx ws H' (K e.ds ws outs st2 H' Z' os' hw (hK ▸ Po) nb h3) hx
        · exact h.elim
def mCall (ms : List Md) (F : Fn) (ma : List D → R (List AD)) : List D → R D := fun st => (ma st).bind fun as st1 => callR ms F as st1
variable {k : Nat} {f : Addr} {fd : FuncData} {ps : List Str} {x m : Str} {p apos : Pos} {ms : List Md} {F : Fn} {am : List D → R (List AD)}
theorem args_red {n : Nat} (hn : ms.length = n) (O : COk X C) : ∀ σ H Q, trE C (sa && noIo ms) (mCall ms F am) σ H Q → tCallS (spF X.K C.CA n F) (WE C.W) (trA C sa am) σ H Q := by
  rintro σ H Q ⟨st, ds, vs, s, hl, h⟩
  refine ⟨st, ds, vs, s, hl, ?_⟩
  unfold mCall at h
  cases q : am st with
  | stuck => rw [q] at h; exact h.elim
  | ex x st' => rw [q] at h; exact h
  | ok as st1 =>
    rw [q] at h
    intro us H1 sm s1 hL
    exact call_red hn O s1 hl hL (h.weak sm)
theorem ve_call (O : COk X C) (G : FnOk X.prog X.w X.K X.mg X.base (L2.CX X.prog X.w) k f fd ps (spF X.K C.CA ps.length F)) (hn : ms.length = ps.length) (hr : Room k X.A) (hg : Gl X x) (hm : X.mg x = some (.ref f)) (hk : PySem.W.keepIn X.K (.ref f) = true) (hb : Binds X.K fd ps [])
    (ha : VA X C sa (e :: es) am) (hdb : (x == ("__debug__" : Str)) = false := by decide) (he : starEach (e :: es) X.env = (false, eval e X.env) :: starEach es X.env := by rfl) (hpl : (backTo pos (starEach es X.env)).any (·.1) = false := by rfl) :
    VE X C (sa && noIo ms) (.Call (.Name x p) (e :: es) [] pos) (mCall ms F am) :=
  (pe_callS G hr hg hm hk hb (fun σ => passAt O.tk σ) ha hdb he hpl).impV (args_red hn O)
end
end PV

namespace L2
open PySem PySem.Spec
theorem PG.impV {X : Cx} {e : Expr} {t t' : TG} (h : PG X e t) (k : ∀ v σ H Q, t' v σ H Q → t v σ H Q) : PG X e t' := ⟨fun pins s σ H v u Q I r h' => h.run pins s σ H v u Q I r (k _ _ _ _ h')⟩
theorem PGs.impV {X : Cx} {e : List Expr} {t t' : TGs} (h : PGs X e t) (k : ∀ v σ H Q, t' v σ H Q → t v σ H Q) : PGs X e t' := ⟨fun pins s σ H v u Q I r h' => h.run pins s σ H v u Q I r (k _ _ _ _ h')⟩
end L2
namespace PV
open PySem L2
inductive RS where | nx (st : List D) | rt (d : D) (st : List D) | bk (st : List D) | ct (st : List D) | ex (e : Ex) (st : List D) | stuck
def rZ (C : Cc) (ds : List D) (vs : List V) (Dn : Ends) : RS → Prop
  | .nx st => ∀ σ' H', SX C st ds σ' vs H' → Dn.nx σ' H'
  | .rt d st => ∀ v σ' H', SX C st (ds ++ [d]) σ' (vs ++ [v]) H' → Dn.rt v H'
  | .bk st => ∀ σ' H', SX C st ds σ' vs H' → Dn.bk σ' H'
  | .ct st => ∀ σ' H', SX C st ds σ' vs H' → Dn.ct σ' H'
  | .ex e st => ∀ σ', rX C ds vs σ' e st
  | .stuck => False
abbrev MS := List D → RS
def trS (C : Cc) (m : MS) : TS := fun Dn σ H => ∃ st ds vs, SX C st ds σ vs H ∧ ds.length = vs.length ∧ rZ C ds vs Dn (m st)
def VS (X : Cx) (C : Cc) (s : Stmt) (m : MS) : Prop := PS X s (trS C m)
def VB (X : Cx) (C : Cc) (s : List Stmt) (m : MS) : Prop := PSs X s (trS C m)
/-- a target -/
abbrev MG := D → List D → Option (List D)
def trG (C : Cc) (g : MG) : TG := fun v σ H Q => ∃ st ds vs d, SX C st (ds ++ [d]) σ (vs ++ [v]) H ∧ ds.length = vs.length ∧ match g d st with
  | some st' => ∀ σ' H', SX C st' ds σ' vs H' → Q σ' H'
  | none => False
def VG (X : Cx) (C : Cc) (t : Expr) (g : MG) : Prop := PG X t (trG C g)
abbrev MGs := List D → List D → Option (List D)
def trGs (C : Cc) (g : MGs) : TGs := fun us σ H Q => ∃ st ds vs xs, SX C st (ds ++ xs) σ (vs ++ us) H ∧ ds.length = vs.length ∧ match g xs st with
  | some st' => ∀ σ' H', SX C st' ds σ' vs H' → Q σ' H'
  | none => False
def VGs (X : Cx) (C : Cc) (t : List Expr) (g : MGs) : Prop := PGs X t (trGs C g)
section
variable {X : Cx} {C : Cc} {st ds : List D} {σ : St} {vs : List V} {H H' : Hp} {a b e tg : Expr} {es : List Expr} {pos : Pos} {qa qb : List D → Option PL} {ma mb : List D → R D} {sa sb : Bool} {s1 : Stmt} {ss ss' : List Stmt} {m n : MS} {Dn : Ends}
/-! ### blocks -/
def mSkip : MS := fun st => .nx st
def mSeq (m n : MS) : MS := fun st => match m st with
  | .nx st' => n st'
  | r => r
theorem vb_nil : VB X C [] mSkip := pss_nil.impV (by rintro Dn σ H ⟨st, ds, vs, s, hl, h⟩; exact h σ H s)
theorem vb_cons (h1 : VS X C s1 m) (h2 : VB X C ss n) : VB X C (s1 :: ss) (mSeq m n) := by
  refine (pss_cons h1 h2).impV ?_
  rintro Dn σ H ⟨st, ds, vs, s, hl, h⟩
  refine ⟨st, ds, vs, s, hl, ?_⟩
  unfold mSeq at h
  cases q : m st with
  | nx st' => rw [q] at h; intro σ' H' s'; exact ⟨st', ds, vs, s', hl, h⟩
  | rt d st' => rw [q] at h; exact h
  | bk st' => rw [q] at h; exact h
  | ct st' => rw [q] at h; exact h
  | ex e st' => rw [q] at h; exact h
  | stuck => rw [q] at h; exact h.elim
def mBreak : MS := fun st => .bk st
def mCont : MS := fun st => .ct st
/-- from an expression's end to a statement's -/
def R.s {α : Type} (r : R α) (f : α → List D → RS) : RS := match r with
  | .ok a st => f a st
  | .ex e st => .ex e st
  | .stuck => .stuck
@[simp] theorem R.s_ok {α : Type} (a : α) (st : List D) (f : α → List D → RS) : (R.ok a st).s f = f a st := rfl
@[simp] theorem R.s_ex {α : Type} (e : Ex) (st : List D) (f : α → List D → RS) : (R.ex e st : R α).s f = .ex e st := rfl
@[simp] theorem R.s_stuck {α : Type} (f : α → List D → RS) : (R.stuck : R α).s f = .stuck := rfl
theorem seqS {f : D → List D → RS} {R' : V → Hp → Prop} (s : SX C st ds σ vs H) (hl : ds.length = vs.length) (hM : rZ C ds vs Dn ((ma st).s f))
    (hf : ∀ x st1 v H1, SX C st1 (ds ++ [x]) σ (vs ++ [v]) H1 → rZ C ds vs Dn (f x st1) → R' v H1) : trE C sa ma σ H R' := by
  refine ⟨st, ds, vs, s, hl, ?_⟩
  cases e : ma st with
  | stuck => rw [e] at hM; exact hM.elim
  | ex x st' => rw [e] at hM; exact hM σ
  | ok x st1 =>
    rw [e] at hM
    intro v H1 sm1 s1
    exact hf x st1 v H1 s1 hM
def mExpr (ma : List D → R D) : MS := fun st => (ma st).s fun _ st' => .nx st'
theorem vs_expr (ha : VE X C sa e ma) (hs : swapsWith e none pos.line X.env = pure false := by rfl) : VS X C (.Expr e pos) (mExpr ma) := by
  refine (ps_expr ha hs).impV ?_
  rintro Dn σ H ⟨st, ds, vs, s, hl, h⟩
  exact seqS s hl h fun x st1 v H1 s1 h1 => h1 σ H1 s1.pop
def mRet (ma : List D → R D) : MS := fun st => (ma st).s fun d st' => .rt d st'
theorem vs_ret (ha : VE X C sa e ma) : VS X C (.Return (some e) pos) (mRet ma) := by
  refine (ps_ret ha).impV ?_
  rintro Dn σ H ⟨st, ds, vs, s, hl, h⟩
  exact seqS s hl h fun x st1 v H1 s1 h1 => h1 v σ H1 s1
def mRetN : MS := fun st => .rt .non st
def mIf (t : List D → R Bool) (m n : MS) : MS := fun st => (t st).s fun b st' => if b = true then m st' else n st'
theorem vs_if {tc : List D → R Bool} (hc : VT X C e tc) (ha : VB X C ss m) (hb : VB X C ss' n) : VS X C (.If e ss ss' pos) (mIf tc m n) := by
  refine (ps_if hc ha hb).impV ?_
  rintro Dn σ H ⟨st, ds, vs, s, hl, h⟩
  refine ⟨st, ds, vs, s, hl, ?_⟩
  unfold mIf at h
  cases q : tc st with
  | stuck => rw [q] at h; exact h.elim
  | ex e st' => rw [q] at h; exact h σ
  | ok c st' =>
    rw [q] at h
    intro H1 s1
    simp only [R.s_ok] at h
    cases c with
    | true => exact ⟨st', ds, vs, s1, hl, h⟩
    | false => exact ⟨st', ds, vs, s1, hl, h⟩
/-! ### targets, assignments -/
def gNm (i : Nat) : MG := fun d st => if i < st.length then some (st.set i d) else none
theorem vg_name {i : Nat} {x : Str} {p : Pos} (hN : X.N.Nodup) (hfx : C.fx i = none := by rfl) (hi : X.N[i]? = some x := by rfl) (hx : Loc X.env.scope x := by first | exact Or.inl rfl | exact Or.inr rfl) (hf : X.fn x = true ∨ X.env.scope.names.lookup x = some .local := by first | exact .inl rfl | exact .inr rfl | assumption) : VG X C (.Name x p) (gNm i) := by
  refine (pg_name hN hi hx hf).impV ?_
  rintro v σ H Q ⟨st, ds, vs, d, s, hl, h⟩
  unfold gNm at h
  split at h
  · rename_i st' e
    split at e
    · rename_i hlt
      simp at e; subst e
      exact h _ H (s.toSlot hlt hfx)
    · cases e
  · exact h.elim
def gN0 : MGs := fun xs st => match xs with
  | [] => some st
  | _ => none
def gC1 (g : MG) (gs : MGs) : MGs := fun xs st => match xs with
  | x :: r => match g x st with
    | some st1 => gs r st1
    | none => none
  | [] => none
theorem vgs_nil : VGs X C [] gN0 := by
  refine pgs_nil.impV ?_
  rintro us σ H Q ⟨st, ds, vs, xs, s, hl, h⟩
  cases xs with
  | nil =>
    have hd := s.dn
    simp at hd
    have : us = [] := List.length_eq_zero_iff.mp (by omega)
    subst this
    exact ⟨rfl, h σ H (by simpa using s)⟩
  | cons x xs => exact h.elim
theorem vgs_cons {g : MG} {gs : MGs} (h1 : VG X C e g) (h2 : VGs X C es gs) (hs : (assignEach (e :: es) X.env).map (·.2) = assign e X.env :: (assignEach es X.env).map (·.2) := by rfl) : VGs X C (e :: es) (gC1 g gs) := by
  refine (pgs_cons h1 h2 hs).impV ?_
  rintro us σ H Q ⟨st, ds, vs, xs, s, hl, h⟩
  cases xs with
  | nil => exact h.elim
  | cons x xs =>
    have hd := s.dn
    cases us with
    | nil => simp at hd; omega
    | cons u us =>
      refine ⟨u, us, rfl, st, ds ++ xs, vs ++ us, x, ?_, by simp at hd ⊢; omega, ?_⟩
      · have := s.rot hl; simpa [List.append_assoc] using this
      · unfold gC1 at h
        simp only at h
        cases q : g x st with
        | none => rw [q] at h; exact h.elim
        | some st1 =>
          rw [q] at h
          intro σ' H' s'
          exact ⟨st1, ds, vs, xs, s', hl, h⟩
/-- the items of a tree on top -/
theorem SX.open {k : Kd} {xs : List D} {u : V} (s : SX C st (ds ++ [.nd k xs]) σ (vs ++ [u]) H) : ∃ (a : Addr) (ws : List V), u = .ref a ∧ HoK C.CA H a ws k ∧ xs.length = ws.length ∧ SX C st (ds ++ xs) σ (vs ++ ws) H := by
  obtain ⟨Z, os, s⟩ := s
  obtain ⟨o1, o2, o3, r1, r2, r3, e⟩ := s.top
  cases r3 with
  | nd hk rl n =>
    rename_i a ws ox
    have sub : ∀ b, ox b ≤ o3 b := fun b => by
      revert n
      generalize k.fl = f
      intro n
      match f, n with
      | none, n => have := n.2 b; omega
      | some .own, n => have := n.2.2 b; omega
      | some .bor, n => have := n.2.1 b; omega
      | some .fz, n => have := n.2.2.1 b; omega
    exact ⟨a, ws, rfl, hk, rl.len, (s.mk2 (os' := fun b => o1 b + (o2 b + ox b)) (o2 := fun b => o2 b + ox b) r1 (r2.app rl fun _ => rfl) (fun _ => rfl) (fun b => by rw [e]; have := sub b; (try dsimp only); omega) s.sl).sx⟩
def gTu (n : Nat) (gs : MGs) : MG := fun d st => match d with
  | .nd .tup xs => if xs.length = n then gs xs st else none
  | _ => none
theorem vg_tup {gs : MGs} {j n : Nat} (O : COk X C) (hc : X.calm = true) (h : VGs X C es gs) (hn : (assignEach es X.env).length = n := by rfl) (hst : (assignEach es X.env).findIdx? (·.1) = none := by rfl) : VG X C (.Tuple es j pos) (gTu n gs) := by
  refine (pg_tup hc h hn hst).impV ?_
  rintro v σ H Q ⟨st, ds, vs, d, s, hl, h⟩
  unfold gTu at h
  cases d with
  | nd k xs =>
    cases k with
    | tup =>
      simp only at h
      split at h
      · rename_i st' hq
        split at hq
        · rename_i hlen
          obtain ⟨a, ws, rfl, hk, hw, s2⟩ := s.open
          refine ⟨a, ws, rfl, SqT.of hk, by rw [← hw]; exact hlen, st, ds, vs, xs, s2, hl, ?_⟩
          rw [hq]; exact h
        · cases hq
      · exact h.elim
    | _ => exact h.elim
  | _ => exact h.elim
def mAsg (ma : List D → R D) (g : MG) : MS := fun st => (ma st).s fun d st' => match g d st' with
  | some st2 => .nx st2
  | none => .stuck
theorem vs_asg {g : MG} (he : VE X C sa e ma) (hg : VG X C tg g) (hs : swapsWithSole [tg] e pos.line X.env = pure false := by rfl) (hw : swappedStores [tg] e X.env = pure none := by rfl)
    (h1 : (assignEach [tg] X.env).map (·.2) = [assign tg X.env] := by rfl) : VS X C (.Assign [tg] e pos) (mAsg ma g) := by
  refine (ps_asg he hg hs hw h1).impV ?_
  rintro Dn σ H ⟨st, ds, vs, s, hl, h⟩
  refine seqS s hl h fun x st1 v H1 s1 h1 => ⟨st1, ds, vs, x, s1, hl, ?_⟩
  cases q : g x st1 with
  | none => rw [q] at h1; exact h1.elim
  | some st2 => rw [q] at h1; exact h1
theorem asg_red {i : Nat} {te : TE} (hfx : C.fx i = none) (k : ∀ σ H Q, trE C sa ma σ H Q → te σ H Q) : ∀ Dn σ H, trS C (mAsg ma (gNm i)) Dn σ H → tAsg te (gName i) Dn σ H := by
  rintro Dn σ H ⟨st, ds, vs, s, hl, h⟩
  refine k σ H _ (seqS s hl h fun x st1 v H1 s1 h1 => ?_)
  unfold gNm at h1
  by_cases q : i < st1.length
  · rw [if_pos q] at h1
    exact h1 _ H1 (s1.toSlot q hfx)
  · rw [if_neg q] at h1; exact h1.elim
theorem vs_set {i : Nat} {x : Str} {p : Pos} (hN : X.N.Nodup) (he : VE X C sa e ma) (hfx : C.fx i = none := by rfl) (hi : X.N[i]? = some x := by rfl) (hx : Loc X.env.scope x := by first | exact Or.inl rfl | exact Or.inr rfl) (hs : swapsWith e (some (.Name x p)) pos.line X.env = pure false := by rfl)
    (hf : X.fn x = true ∨ X.env.scope.names.lookup x = some .local := by first | exact .inl rfl | exact .inr rfl | assumption) : VS X C (.Assign [.Name x p] e pos) (mAsg ma (gNm i)) :=
  (ps_set hN hi hx he hs hf).impV (asg_red hfx fun _ _ _ h => h)
/-! ### for -/
def forL (g : MG) (body : MS) : List D → List D → RS
  | [], st => .nx st
  | x :: r, st => match g x st with
    | some st1 => match body st1 with
      | .nx st2 => forL g body r st2
      | .ct st2 => forL g body r st2
      | .bk st2 => .nx st2
      | .rt d st2 => .rt d st2
      | .ex e st2 => .ex e st2
      | .stuck => .stuck
    | none => .stuck
/-- an end behind dropped temporaries -/
theorem rZ.up {d' : List D} {v' : List V} (hl : ds.length = vs.length) (hl' : d'.length = v'.length) : ∀ {r : RS}, rZ C ds vs Dn r → rZ C (ds ++ d') (vs ++ v') Dn r
  | .nx _, h => fun σ' H' s => h σ' H' (s.drop hl)
  | .bk _, h => fun σ' H' s => h σ' H' (s.drop hl)
  | .ct _, h => fun σ' H' s => h σ' H' (s.drop hl)
  | .rt _ _, h => fun v σ' H' s => h v σ' H' (s.dropMid hl hl')
  | .ex _ _, h => fun σ' => (h σ').up hl hl'
  | .stuck, h => h
/-- a turn's end -/
theorem rZ.turn {r : RS} {f : List D → RS} {Dn' : Ends} (hn : ∀ st σ H, SX C st ds σ vs H → rZ C ds vs Dn (f st) → Dn'.nx σ H) (hc : ∀ st σ H, SX C st ds σ vs H → rZ C ds vs Dn (f st) → Dn'.ct σ H) (hb : ∀ σ H, Dn.nx σ H → Dn'.bk σ H) (hr : Dn'.rt = Dn.rt)
    (h : rZ C ds vs Dn (match r with
      | .nx st2 => f st2
      | .ct st2 => f st2
      | .bk st2 => .nx st2
      | .rt d st2 => .rt d st2
      | .ex e st2 => .ex e st2
      | .stuck => .stuck)) : rZ C ds vs Dn' r := by
  cases r with
  | nx st => exact fun σ' H' s => hn st σ' H' s h
  | ct st => exact fun σ' H' s => hc st σ' H' s h
  | bk st => exact fun σ' H' s => hb σ' H' (h σ' H' s)
  | rt d st => exact fun v σ' H' s => by rw [hr]; exact h v σ' H' s
  | ex e st => exact h
  | stuck => exact h
def mForL (ma : List D → R D) (g : MG) (body : MS) : MS := fun st => (ma st).s fun d st1 => match d.frz with
  | .nd (.lst _) xs => forL g body xs st1
  | _ => .stuck
/-- a frozen list's item, pushed -/
theorem SX.item {f : Fl} {xs : List D} {a : Addr} {j : Nat} {x : D} {w : V} {ws : List V} (hf : f ≠ .own) (s : SX C st (ds ++ [.nd (.lst f) xs]) σ (vs ++ [.ref a]) H) (hx : xs[j]? = some x) (hk : H a = some (.lst ws)) (hw : ws[j]? = some w) :
    SX C st (ds ++ [.nd (.lst f) xs] ++ [x]) σ (vs ++ [.ref a] ++ [w]) H := by
  obtain ⟨Z, os, s⟩ := s
  obtain ⟨o1, o2, o3, r1, r2, r3, e⟩ := s.top
  cases r3 with
  | nd hk' rl n =>
    rename_i ws' ox
    have ew : ws' = ws := by
      have : H a = some (.lst ws') := hk'
      rw [hk] at this; cases this; rfl
    subst ew
    have z3 : ∀ b, ox b = 0 := fun b => by
      revert n
      show NdOk _ _ _ _ (some f) → _
      intro n
      match f, n with
      | .own, n => exact absurd rfl hf
      | .bor, n => exact n.2.1 b
      | .fz, n => exact n.2.2.1 b
    obtain ⟨w', od, orr, hw', rd, hod, _⟩ := rl.at hx
    rw [hw] at hw'; cases hw'
    have zd : ∀ b, od b = 0 := fun b => by have := z3 b; rw [hod] at this; omega
    have node : Rp (C.G Z H) (.nd (.lst f) xs) (.ref a) o3 := .nd hk' rl n
    exact (s.mk2 (os' := os) (o2 := fun b => o2 b + o3 b) r1 ((r2.app (RpL.one node) fun _ => rfl).app (os := fun b => o2 b + o3 b) (RpL.one rd) fun b => by (try dsimp only); rw [zd]; omega) (fun b => by rw [e]; omega) (fun _ => Nat.le_refl _) s.sl).sx
theorem kd_frz {d : D} {xs : List D} {f : Fl} (h : d.frz = .nd (.lst f) xs) : f ≠ .own := by
  intro e; subst e
  have := D.noOwn_set (g := .fz) (by decide) d
  rw [show D.set .fz d = d.frz from rfl, h] at this
  simp [D.noOwn, Kd.fl] at this
theorem for_listV {K : PySem.W.Frag} {a : Addr} {n : Nat} {g : TG} {tb : TS} {D : Ends} {σ : St} {H : Hp} (Pv : Nat → St → Hp → Prop) (h0 : Pv 0 σ H) (hl : ∀ i σ H, i ≤ n → Pv i σ H → ∃ ws, ws.length = n ∧ H a = some (.lst ws))
    (hs : ∀ i x ws σ H, H a = some (.lst ws) → ws[i]? = some x → i < n → Pv i σ H → g x σ H fun σ2 H2 => tb { D with nx := Pv (i + 1), ct := Pv (i + 1), bk := D.nx } σ2 H2) (hd : ∀ σ H, Pv n σ H → D.nx σ H) :
    ∃ W : Nat → Nat → St → Hp → Prop, (∃ m, W 0 m σ H) ∧ ∀ i m σ H, W i m σ H →
      ((Itl K a).stop i H ∧ D.nx σ H) ∨ ((Itl K a).go i H ∧ ∃ N : St → Hp → Prop, (∀ σ' H', N σ' H' → ∃ m', m' < m ∧ W (i + 1) m' σ' H') ∧ ∀ x H', (Itl K a).yld i H x H' → g x σ H' fun σ2 H2 => tb { D with nx := N, ct := N, bk := D.nx } σ2 H2) := by
  refine ⟨fun i m σ H => m = n - i ∧ i ≤ n ∧ Pv i σ H, ⟨n, by simp, Nat.zero_le _, h0⟩, ?_⟩
  rintro i m σ H ⟨rfl, hi, p⟩
  obtain ⟨ws, hw, q⟩ := hl i σ H hi p
  by_cases hlt : i < n
  · refine .inr ⟨⟨ws, ws[i], SqL.of q, by simp [hw, hlt]⟩, Pv (i + 1), fun σ' H' p' => ⟨n - (i + 1), by omega, rfl, hlt, p'⟩, fun x H' y => ?_⟩
    obtain ⟨e, y⟩ := y
    subst e
    exact hs i x ws σ _ q (y ws (SqL.of q)) hlt p
  · have e : i = n := by omega
    subst e
    exact .inl ⟨⟨ws, SqL.of q, by omega⟩, hd σ H p⟩
theorem vs_forL {g : MG} (O : COk X C) (hp : PassesOwn (model X.prog X.w) X.A X.env X.xe) (hc : X.calm = true) (ha : VE X C sa e ma) (hg : VG X C tg g) (hb : VB X C ss m) (hs : ∀ x, foldedSetIterable e X.env x = pure x := by intro _; rfl) : VS X C (.For tg e ss [] pos) (mForL ma g m) := by
  refine (ps_for hp hc (pi_list ha) hg hb hs).impV ?_
  rintro Dn σ H ⟨st, ds, vs, s, hl, h⟩
  refine seqS s hl h fun d st1 v H1 s1 h1 => ?_
  have s2 := s1.frzTop
  generalize hd : d.frz = df at h1 s2
  match df, h1 with
  | .nd (.lst f) xs, h1 =>
    have hf := kd_frz hd
    obtain ⟨a, ws, Z, os, rfl, hk, rl⟩ := s2.ndTop
    have hk1 : H1 a = some (.lst ws) := hk
    have hlen := rl.len
    refine ⟨a, rfl, ⟨ws, SqL.of hk⟩, for_listV (K := X.K) (a := a) (n := xs.length) (fun j σ' H' => ∃ st', SX C st' (ds ++ [.nd (.lst f) xs]) σ' (vs ++ [.ref a]) H' ∧ rZ C (ds ++ [.nd (.lst f) xs]) (vs ++ [.ref a]) Dn (forL g m (xs.drop j) st')) ⟨st1, s2, rZ.up hl rfl h1⟩ (fun j σ' H' _ ⟨_, s', _⟩ => ?_) ?_ ?_⟩
    · obtain ⟨a', ws', Z', os', e', hk', rl'⟩ := s'.ndTop
      cases e'
      exact ⟨ws', rl'.len.symm, hk'⟩
    · rintro j w ws' σ' H' hq hw hj ⟨st', s', h'⟩
      have hx : xs[j]? = some xs[j] := by simp [hj]
      rw [List.drop_eq_getElem_cons hj] at h'
      obtain ⟨a', ws2, Z', os', e', hk', rl'⟩ := s'.ndTop
      cases e'
      have hk2 : H' a = some (.lst ws2) := hk'
      have e2 : ws' = ws2 := by rw [hk2] at hq; cases hq; rfl
      subst e2
      have s3 := s'.item hf hx hk2 hw
      refine ⟨st', ds ++ [.nd (.lst f) xs], vs ++ [.ref a], xs[j], s3, by simp [hl], ?_⟩
      simp only [forL] at h'
      cases q : g xs[j] st' with
      | none => rw [q] at h'; exact h'.elim
      | some st2 =>
        rw [q] at h'
        intro σ2 H2 s4
        refine ⟨st2, ds ++ [.nd (.lst f) xs], vs ++ [.ref a], s4, by simp [hl], ?_⟩
        exact rZ.turn (f := forL g m (xs.drop (j + 1))) (fun st'' σ'' H'' s'' q => ⟨st'', s'', q⟩) (fun st'' σ'' H'' s'' q => ⟨st'', s'', q⟩) (fun _ _ q => q) rfl h'
    · rintro σ' H' ⟨st', s', h'⟩
      rw [List.drop_length] at h'
      exact h' σ' H' s'
  | .un, h1 => exact h1.elim
  | .non, h1 => exact h1.elim
  | .bl _, h1 => exact h1.elim
  | .int _, h1 => exact h1.elim
  | .str _, h1 => exact h1.elim
  | .scr _, h1 => exact h1.elim
  | .nd .tup _, h1 => exact h1.elim
  | .nd (.dct _ _) _, h1 => exact h1.elim
  | .nd (.ins _ _ _) _, h1 => exact h1.elim
end
end PV

namespace PV
open PySem L2
/-! ### a def by its body -/
def outsOf : List Md → List D → List D
  | [], _ => []
  | _ :: _, [] => []
  | m :: ms, d :: st => (if m = .io then d else .un) :: outsOf ms st
def runF (ms : List Md) (n : Nat) (m : MS) : Fn := fun args => match m (args ++ List.replicate (n - args.length) .un) with
  | .nx st => .ok .non (outsOf ms st)
  | .rt d st => .ok d (outsOf ms st)
  | .ex e st => .ex e (outsOf ms st)
  | _ => .stuck
/-- the parameters that may be changed keep their slots -/
def fxOf : List Md → List V → Nat → Option V
  | .io :: _, u :: _, 0 => some u
  | _ :: ms, _ :: us, i + 1 => fxOf ms us i
  | _, _, _ => none
/-- no parameter to be changed at that place -/
def noFx : List Md → Nat → Bool
  | .io :: _, 0 => false
  | _ :: ms, i + 1 => noFx ms i
  | _, _ => true
theorem fx_none : ∀ {ms : List Md} {us : List V} {i : Nat}, noFx ms i = true → fxOf ms us i = none
  | [], us, i, _ => by simp [fxOf]
  | m :: ms, [], i, _ => by cases m <;> simp [fxOf]
  | m :: ms, u :: us, 0, h => by cases m <;> simp [noFx] at h <;> simp [fxOf]
  | m :: ms, u :: us, i + 1, h => by
    have : noFx ms i = true := by cases m <;> simpa [noFx] using h
    cases m <;> simpa [fxOf] using fx_none this
theorem outs_rp {G : Gd} : ∀ {ms : List Md} {st : List D} {ws us : List V} {o : Ct}, RpL G st ws o → us.length = ms.length → ms.length ≤ st.length → (∀ i v, fxOf ms us i = some v → ws[i]? = some v) → ∃ o', RpL G (outsOf ms st) us o' ∧ ∀ b, o' b ≤ o b
  | [], st, ws, us, o, r, h1, h2, h3 => by
    have : us = [] := List.length_eq_zero_iff.mp (by simpa using h1)
    subst this
    exact ⟨fun _ => 0, by simp only [outsOf]; exact .nil fun _ => rfl, fun _ => Nat.zero_le _⟩
  | m :: ms, [], _, _, _, _, _, h2, _ => by simp at h2
  | m :: ms, d :: st, _, [], _, _, h1, _, _ => by simp at h1
  | m :: ms, d :: st, _, u :: us, _, .cons (v := w) (vs := ws) (o1 := o1) (o2 := o2) r t e, h1, h2, h3 => by
    obtain ⟨o', q, l⟩ := outs_rp (us := us) t (by simpa using h1) (by simpa using h2) fun i v hi => by
      have := h3 (i + 1) v (by cases m <;> simpa [fxOf] using hi)
      simpa using this
    by_cases hm : m = .io
    · subst hm
      have := h3 0 u rfl
      simp at this; subst this
      exact ⟨fun b => o1 b + o' b, by simp only [outsOf, if_pos]; exact .cons r q fun _ => rfl, fun b => by have := l b; rw [e]; (try dsimp only); omega⟩
    · exact ⟨o', by simp only [outsOf, if_neg hm]; exact .cons (o1 := fun _ => 0) (.un fun _ => rfl) q fun b => by simp, fun b => by have := l b; rw [e]; omega⟩
theorem rp_uns {G : Gd} : ∀ n : Nat, RpL G (List.replicate n .un) (List.replicate n V.non) (fun _ => 0)
  | 0 => .nil fun _ => rfl
  | n + 1 => .cons (o1 := fun _ => 0) (.un fun _ => rfl) (rp_uns n) fun b => by simp
section
variable {P : Program} {w : World} {K : PySem.W.Frag} {mg : Str → Option Value} {base : Heap} {CA : Str → Option Addr}
theorem start_gd (N : List Str) (us : List V) : (L2.start N us).map gd = us ++ List.replicate (N.length - us.length) V.non := by
  unfold L2.start
  rw [List.map_append, List.map_map, List.map_replicate]
  congr 1
  induction us with
  | nil => rfl
  | cons u us ih => simp; exact ih
/-- the run of a body from a call, and what it hands back -/
theorem run_sp {ms : List Md} {N : List Str} {n : Nat} {m : MS} {us : List V} {H : Hp} {Q : VK} {E : XK} (hN : n ≤ N.length) (hn : ms.length = n) (h : spF K CA n (runF ms N.length m) us H Q E) :
    ∃ (os : Ct) (B : Addr → Prop), trS ⟨K, CA, H, os, B, fun cls d _ H' => E cls d H', fxOf ms us, N.length⟩ m { nx := fun _ H' => Q .non H', rt := Q } (L2.start N us) H := by
  obtain ⟨hl, args, os, B, P, h⟩ := h
  refine ⟨os, B, args ++ List.replicate (N.length - args.length) .un, [], [], ?_, rfl, ?_⟩
  · have hlen := P.rp.len
    refine ⟨fun a => 0 < os a, os, ?_, P.nd, ?_, ?_, fun a o q _ => q, fun a z => .inl z, P.al, P.bb, ?_⟩
    · rw [List.append_nil, List.append_nil, start_gd, ← hlen]
      exact P.rp.app (rp_uns _) fun b => by simp
    · unfold L2.start
      simp [hlen]
    · intro i d hd hu
      have hi : i < args.length := by
        by_cases q : i < args.length
        · exact q
        · rw [List.getElem?_append_right (by omega), List.getElem?_replicate] at hd
          split at hd
          · simp at hd; exact absurd hd.symm hu
          · cases hd
      unfold L2.start
      rw [List.getElem?_append_left (by simp; omega)]
      exact ⟨us[i]'(by omega), by simp⟩
    · refine ⟨fun i v hf => ?_, by unfold L2.start; simp; omega⟩
      have : us[i]? = some v := by
        clear hlen P h hl hn hN
        induction ms generalizing us i with
        | nil => simp [fxOf] at hf
        | cons m ms ih =>
          cases us with
          | nil => cases m <;> simp [fxOf] at hf
          | cons u us =>
            cases i with
            | zero => cases m <;> simp [fxOf] at hf; simp [hf]
            | succ i => have := ih (us := us) (i := i) (by cases m <;> simpa [fxOf] using hf); simpa using this
      unfold L2.start
      have hi : i < us.length := (List.getElem?_eq_some_iff.mp this).1
      rw [List.getElem?_append_left (by simpa using hi)]
      simp [this]
  · have fin : ∀ {st : List D} {ds : List D} {vs : List V} {σ' : L2.St} {H' : Hp}, SX ⟨K, CA, H, os, B, fun cls d _ H' => E cls d H', fxOf ms us, N.length⟩ st ds σ' vs H' → ∃ Z' os', Post K CA H os B (ds ++ outsOf ms st) (vs ++ us) H' Z' os' := by
      rintro st ds vs σ' H' ⟨Z, o, s⟩
      obtain ⟨o1, o2, r1, r2, e⟩ := s.cut
      have hst : n ≤ st.length := by
        rw [s.ln, s.fx.2]; exact hN
      obtain ⟨o3, r3, l3⟩ := outs_rp (us := us) r1 (by rw [hl, hn]) (by rw [hn]; exact hst) fun i v q => by
        have := s.fx.1 i v q
        simp [this]
      exact ⟨Z, fun b => o2 b + o3 b, r2.app r3 fun _ => rfl, fun b => by have := s.nd b; rw [e] at this; have := l3 b; (try dsimp only); omega, s.kp, s.fr, s.al⟩
    unfold runF at h
    cases q : m (args ++ List.replicate (N.length - args.length) .un) with
    | nx st =>
      rw [q] at h
      intro σ' H' s'
      obtain ⟨Z', os', P'⟩ := fin (s'.pushc (d := .non) rfl)
      exact h _ _ _ _ P'
    | rt d st =>
      rw [q] at h
      intro v σ' H' s'
      obtain ⟨Z', os', P'⟩ := fin s'
      exact h _ _ _ _ P'
    | ex e st =>
      rw [q] at h
      intro σ' cls dx ws H' s' hx
      obtain ⟨Z', os', P'⟩ := fin s'
      exact h _ _ _ _ _ _ P' (by have := s'.dn; simpa using this) hx
    | bk st => rw [q] at h; exact h.elim
    | ct st => rw [q] at h; exact h.elim
    | stuck => rw [q] at h; exact h.elim
/-- THE DEF: its body's walk gives its promise -/
theorem fn_ok {x qual : Str} {sd : Stmt} {f : Addr} {fd : FuncData} {N ps : List Str} {k : Nat} {ms : List Md} {m : MS} (F : L2.Fun K x qual sd f fd) (S : FnScope N ps (defScope sd)) (hn : ms.length = ps.length)
    (hb : ∀ (cdv : Value) (A : Around) (outer : List Env) (s : Shared) (H : Hp) (E : XK) (H0 : Hp) (os0 : Ct) (B : Addr → Prop) (fx : Nat → Option V), (∀ i, noFx ms i = true → fx i = none) → Room k (A.deeper (PyProof.Rows.envOfC qual (defScope sd) s.heap.objs.size f cdv)) →
      VB (cxOf (L2.CX P w) P w K mg base N qual (defScope sd) f cdv A outer s H E) ⟨K, CA, H0, os0, B, fun cls d _ H' => E cls d H', fx, N.length⟩ (defBody sd) m) :
    FnOk P w K mg base (L2.CX P w) (k + 1) f fd ps (spF K CA ps.length (runF ms N.length m)) := by
  refine F.okX S (fun vs H Q E h => h.1) (fun cdv A outer s H vs Q E hr h => ?_)
  obtain ⟨os, B, h⟩ := run_sp (ms := ms) (N := N) (by have := congrArg List.length S.pre; rw [List.length_take] at this; omega) hn h
  exact ⟨_, hb cdv A outer s H E _ _ _ _ (fun i z => fx_none z) hr, h⟩
end
section
variable {X : Cx} {C : Cc} {st ds : List D} {σ : L2.St} {vs : List V} {H H' : Hp} {a b e tg : Expr} {es : List Expr} {pos p : Pos} {qa qb : List D → Option PL} {ma mb : List D → R D} {sa sb : Bool} {ss : List Stmt} {m : MS} {Dn : Ends}
/-! ### built-ins of quiet things -/
theorem ca1 {r : List V → Hp → VK → Prop} {q' : List D → Option PL} (k : ∀ st ds vs σ H Q pl v, SX C st ds σ vs H → qa st = some pl → (∀ d, pl = .sc d → vOf d = some v) → (∀ r p, pl = .pth r p → HPs H σ r p v) → rQ σ H Q (q' st) → r [v] H Q) (hq : ∀ st, qa st = none → q' st = none) :
    ∀ σ H Q, trQ C q' σ H Q → tCB r (tCons (trQ C qa) tNil) σ H Q := by
  rintro σ H Q ⟨st, ds, vs, s, h⟩
  refine ⟨st, ds, vs, s, ?_⟩
  cases q : qa st with
  | none => rw [hq st q] at h; exact h.elim
  | some pl =>
    cases pl with
    | sc d => exact fun v hv => k st ds vs σ H Q _ v s q (fun d' e => by cases e; exact hv) (fun r p e => by cases e) h
    | pth r p => exact fun u hp => k st ds vs σ H Q _ u s q (fun d e => by cases e) (fun r' p' e => by cases e; exact hp) h
/-- len -/
def qLen (qa : List D → Option PL) : List D → Option PL := fun st => match qa st with
  | some (.pth r p) => match getS st r p with
    | some (.nd (.lst _) xs) => some (.sc (.int xs.length))
    | some (.nd .tup xs) => some (.sc (.int xs.length))
    | _ => none
  | some (.sc (.str z)) => if z.length ≤ sizeLine then some (.sc (.int z.length)) else none
  | _ => none
theorem vq_len (O : COk X C) (ha : VQ X C a qa) (hg : Gl X "len") (hm : X.mg "len" = none) (he : starEach [a] X.env = (false, eval a X.env) :: starEach [] X.env := by rfl) : VQ X C (.Call (.Name "len" p) [a] [] pos) (qLen qa) := by
  refine ⟨(pe_callB (CallR.or call_len_seq call_len_str) hg hm PySem.boot_len (pa_cons ha.pe pa_nil he) (by decide) (by decide) he).impV (ca1 (fun st ds vs σ H Q pl v s q h1 h2 h => ?_) fun st q => by unfold qLen; rw [q]), fun st pl h => ?_⟩
  · unfold qLen at h
    rw [q] at h
    cases pl with
    | pth r p =>
      simp only at h
      obtain ⟨k, xs, hk⟩ := ha.ok _ _ q
      rw [hk] at h
      obtain ⟨a', ws, Z, os, rfl, hn, rl⟩ := s.node hk (h2 _ _ rfl)
      cases k with
      | lst f => exact .inl ⟨a', ws, rfl, .inl (SqL.of hn), by rw [← rl.len]; exact h _ rfl⟩
      | tup => exact .inl ⟨a', ws, rfl, .inr (SqT.of hn), by rw [← rl.len]; exact h _ rfl⟩
      | _ => exact h.elim
    | sc d =>
      have hv := h1 d rfl
      cases d with
      | str z =>
        simp [vOf] at hv; subst hv
        simp only at h
        split at h
        · rename_i hz; exact .inr ⟨z, rfl, hz, h _ rfl⟩
        · exact h.elim
      | _ => exact h.elim
  · unfold qLen at h
    split at h
    · split at h
      · simp at h; subst h; exact ⟨_, rfl⟩
      · simp at h; subst h; exact ⟨_, rfl⟩
      · cases h
    · split at h
      · simp at h; subst h; exact ⟨_, rfl⟩
      · cases h
    · cases h
/-- len of a value -/
def mLen (ma : List D → R D) : List D → R D := fun st => (ma st).bind fun d st' => match d with
  | .nd (.lst _) xs => .ok (.int xs.length) st'
  | .nd .tup xs => .ok (.int xs.length) st'
  | .str z => if z.length ≤ sizeLine then .ok (.int z.length) st' else .stuck
  | _ => .stuck
theorem ve_len (O : COk X C) (ha : VE X C sa a ma) (hg : Gl X "len") (hm : X.mg "len" = none) (he : starEach [a] X.env = (false, eval a X.env) :: starEach [] X.env := by rfl) : VE X C sa (.Call (.Name "len" p) [a] [] pos) (mLen ma) := by
  refine (pe_callB (CallR.or call_len_seq call_len_str) hg hm PySem.boot_len (pa_cons ha pa_nil he) (by decide) (by decide) he).impV ?_
  rintro σ H Q ⟨st, ds, vs, s, hl, h⟩
  refine seq1 (sm := sa) s hl h fun x st1 v H1 sm s1 h1 => ?_
  cases x with
  | nd k xs =>
    obtain ⟨a', ws, Z, os, rfl, hn, rl⟩ := s1.ndTop
    cases k with
    | lst f => exact .inl ⟨a', ws, rfl, .inl (SqL.of hn), by rw [← rl.len]; exact h1 _ H1 sm (s1.pop.pushc rfl)⟩
    | tup => exact .inl ⟨a', ws, rfl, .inr (SqT.of hn), by rw [← rl.len]; exact h1 _ H1 sm (s1.pop.pushc rfl)⟩
    | _ => exact h1.elim
  | str z =>
    have : v = .str z := s1.scTop rfl
    subst this
    simp only at h1
    split at h1
    · rename_i hz; exact .inr ⟨z, rfl, hz, h1 _ H1 sm (s1.pop.pushc rfl)⟩
    · exact h1.elim
  | _ => exact h1.elim
/-- max, min of two -/
def gMax : G2 := gI (fun i j => .int (max i j)) fun _ _ => true
def gMin : G2 := gI (fun i j => .int (min i j)) fun _ _ => true
/-! ### ranges -/
def rangeD (lo hi : Int) : List D := (List.range (hi - lo).toNat).map fun i => D.int (lo + (i : Nat))
theorem rangeD_len (lo hi : Int) : (rangeD lo hi).length = (hi - lo).toNat := by simp [rangeD]
theorem rangeD_get {lo hi : Int} {j : Nat} (h : j < (hi - lo).toNat) : (rangeD lo hi)[j]? = some (.int (lo + (j : Nat))) := by simp [rangeD, h]
def mForR (ma mb : List D → R D) (g : MG) (body : MS) : MS := fun st => (ma st).s fun x st1 => (mb st1).s fun y st2 => match x, y with
  | .int i, .int j => if -(2 ^ 62) ≤ i ∧ i < 2 ^ 62 ∧ -(2 ^ 62) ≤ j ∧ j < 2 ^ 62 then forL g body (rangeD i j) st2 else .stuck
  | _, _ => .stuck
def mK (d : D) : List D → R D := fun st => .ok d st
def mForR1 (ma : List D → R D) (g : MG) (body : MS) : MS := mForR (mK (.int 0)) ma g body
end
end PV

namespace PV
open PySem L2
section
variable {X : Cx} {C : Cc} {st ds : List D} {σ : L2.St} {vs : List V} {H H' : Hp} {a b e o tg : Expr} {es : List Expr} {pos p apos : Pos} {qa qb qo : List D → Option PL} {ma mb : List D → R D} {sa sb : Bool} {ss : List Stmt} {m : MS} {Dn : Ends}
/-! ### lists grow -/
/-- the receiver is a place whose value stays -/
def qPin (q : List D → Option PL) : Prop := ∀ st r p, q st = some (.pth r p) → p = []
/-- x.append(e) -/
def mAppend (qo : List D → Option PL) (mb : List D → R D) : List D → R D := fun st => match qo st with
  | some (.pth r p) => match getS st r p with
    | some (.nd (.lst _) _) => (mb st).bind fun d st1 => match getS st1 r p with
      | some (.nd (.lst .own) xs) => if xs.length < sizeLine then .ok .non (setS st1 r p (.nd (.lst .own) (xs ++ [d]))) else .stuck
      | _ => .stuck
    | _ => .stuck
  | _ => .stuck
theorem HPs.keep {q : List D → Option PL} {r : Nat} {pp : Pth} {u : V} (hk : sb = true ∨ qPin q) (h : q st = some (.pth r pp)) (sm : sb = true → Same H H') (hp : HPs H σ r pp u) : HPs H' σ r pp u := by
  rcases hk with hk | hk
  · exact hp.same (sm hk)
  · have := hk _ _ _ h
    subst this
    obtain ⟨v, e1, e2⟩ := hp
    exact ⟨v, e1, e2⟩
theorem ve_append (O : COk X C) (ho : VQ X C o qo) (hb : VE X C sb e mb) (hk : sb = true ∨ qPin qo)
    (hbase : attributeBase o "append" X.env (eval o X.env) = eval o X.env := by rfl)
    (hfew : ((backTo pos (starEach [e] X.env)).all (fun x => !x.1) && (backToKw pos (keywordEach [] X.env)).all (fun x => x.1.isSome)
      && decide ([e].length + ([] : List Keyword).length + (if ([] : List Keyword).isEmpty then 0 else 1) < 30)) = true := by rfl)
    (hline : (apos.endLine == pos.line) = true := by rfl) (hs : starEach [e] X.env = (false, eval e X.env) :: starEach [] X.env := by rfl) (hplain : (backTo pos (starEach [] X.env)).any (·.1) = false := by rfl) :
    VE X C false (.Call (.Attribute o "append" apos) [e] [] pos) (mAppend qo mb) := by
  refine (pe_bm PySem.F.plainAttrs_list PySem.F.slot_list_append PySem.F.type_list_append mt_append ho.pe (pa_cons hb pa_nil hs) hbase hfew hline hs hplain).impV ?_
  rintro σ H Q ⟨st, ds, vs, s, hl, h⟩
  refine ⟨st, ds, vs, s, ?_⟩
  unfold mAppend at h
  cases q : qo st with
  | none => rw [q] at h; exact h.elim
  | some pl =>
    rw [q] at h
    cases pl with
    | sc d => exact h.elim
    | pth r pp =>
      simp only at h
      intro u hp
      obtain ⟨k, xs0, hg⟩ := ho.ok _ _ q
      rw [hg] at h
      obtain ⟨a', ws, Z, os, rfl, hn, rl⟩ := s.node hg hp
      cases k with
      | lst f =>
        simp only at h
        refine ⟨.inl ⟨rfl, _, SqL.of hn⟩, st, ds, vs, s, hl, ?_⟩
        cases q2 : mb st with
        | stuck => rw [q2] at h; exact h.elim
        | ex x st' => rw [q2] at h; exact h
        | ok d st1 =>
          rw [q2] at h
          intro v H1 sm s1
          have hp1 := HPs.keep hk q sm hp
          simp only [R.bind_ok] at h
          cases hg1 : getS st1 r pp with
          | none => rw [hg1] at h; exact h.elim
          | some x =>
            rw [hg1] at h
            match x, h with
            | .nd (.lst .own) xs, h =>
              simp only at h
              split at h
              · rename_i hz
                obtain ⟨a2, ws2, Z2, os2, e2, hn2, rl2⟩ := s1.node hg1 hp1
                cases e2
                refine ⟨a', ws2, v, rfl, rfl, hn2, by rw [← rl2.len]; exact hz, h .non _ (fun z => nomatch z) (SX.pushc ?_ rfl)⟩
                exact s1.mut hl hg1 rfl hp1 hn2 (show (upd H1 a' (.lst (ws2 ++ [v]))) a' = some (.lst (ws2 ++ [v])) from upd_same) rfl fun G ox on r1 r2 => ⟨fun b => ox b + on b, r1.app r2 fun _ => rfl, fun _ => Nat.le_refl _⟩
              · exact h.elim
      | _ => exact h.elim
/-- x.extend(e), e a list -/
def mExtend (qo : List D → Option PL) (mb : List D → R D) : List D → R D := fun st => match qo st with
  | some (.pth r p) => match getS st r p with
    | some (.nd (.lst _) _) => (mb st).bind fun d st1 => match d, getS st1 r p with
      | .nd (.lst _) ys, some (.nd (.lst .own) xs) => if xs.length + ys.length ≤ sizeLine then .ok .non (setS st1 r p (.nd (.lst .own) (xs ++ ys))) else .stuck
      | _, _ => .stuck
    | _ => .stuck
  | _ => .stuck
theorem Rp.kids {G : Gd} {k : Kd} {xs : List D} {a : Addr} {ws : List V} {os : Ct} (r : Rp G (.nd k xs) (.ref a) os) (hk : HoK G.CA G.H a ws k) : ∃ ox, RpL G xs ws ox ∧ ∀ b, ox b ≤ os b := by
  cases r with
  | nd hk' rl n =>
    rename_i ws' ox
    obtain ⟨q1, q2, q3⟩ := hk'.vals
    obtain ⟨q4, q5, q6⟩ := hk.vals
    rw [q2] at q5; cases q5
    have ew : ws' = ws := q3.symm.trans q6
    subst ew
    refine ⟨ox, rl, fun b => ?_⟩
    revert n
    generalize k.fl = f
    intro n
    match f, n with
    | none, n => have := n.2 b; omega
    | some .own, n => have := n.2.2 b; omega
    | some .bor, n => have := n.2.1 b; omega
    | some .fz, n => have := n.2.2.1 b; omega
/-- o[i] = value, o a list at a place -/
def gIx (qo qi : List D → Option PL) : MG := fun d st => match qo st, qi st with
  | some (.pth r p), some (.sc (.int i)) => match getS st r p with
    | some (.nd (.lst .own) xs) => match ixN xs.length i with
      | some j => some (setS st r p (.nd (.lst .own) (xs.set j d)))
      | none => none
    | _ => none
  | _, _ => none
theorem vg_ix {i : Expr} {qi : List D → Option PL} (ho : VQ X C o qo) (hi : VQ X C i qi) (ha : ∀ v, assign (.Subscript o i pos) X.env v = (do
      let ov ← holding [v] (eval o X.env)
      let iv ← holding [v, ov] (eval i X.env)
      standAt pos
      holding [v, ov, iv] (setItem ov iv v)
      release [v, ov, iv] []) := by intro _; rfl) : VG X C (.Subscript o i pos) (gIx qo qi) := by
  refine (pg_sub ho.pe hi.pe set_list ha).impV ?_
  rintro v σ H Q ⟨st, ds, vs, d, s, hl, h⟩
  refine ⟨st, ds ++ [d], vs ++ [v], s, ?_⟩
  unfold gIx at h
  cases q : qo st with
  | none => rw [q] at h; exact h.elim
  | some pl =>
    cases q2 : qi st with
    | none => rw [q, q2] at h; cases pl <;> exact h.elim
    | some pl2 =>
      rw [q, q2] at h
      match pl, pl2, q, q2, h with
      | .pth r pp, .sc (.int k), q, q2, h =>
        simp only at h
        intro u hp
        refine ⟨st, ds ++ [d], vs ++ [v], s, ?_⟩
        rw [q2]
        intro w hw
        simp [vOf] at hw; subst hw
        cases hg : getS st r pp with
        | none => rw [hg] at h; exact h.elim
        | some x =>
          rw [hg] at h
          match x, h with
          | .nd (.lst .own) xs, h =>
            simp only at h
            cases hj : ixN xs.length k with
            | none => rw [hj] at h; exact h.elim
            | some j =>
              rw [hj] at h
              obtain ⟨a', ws, Z, os, rfl, hn, rl⟩ := s.node hg hp
              refine ⟨a', ws, k, j, rfl, rfl, hn, by rw [← rl.len]; exact hj, h σ _ ?_⟩
              refine s.mut hl hg rfl hp hn (show (upd H a' (.lst (ws.set j v))) a' = some (.lst (ws.set j v)) from upd_same) rfl fun G ox on r1 r2 => ?_
              have rd := r2.of1
              by_cases hlt : j < xs.length
              · obtain ⟨w, od, orr, hw, _, ho, k'⟩ := r1.at (j := j) (d := xs[j]) (by simp [hlt])
                exact ⟨fun b => on b + orr b, k' d v on _ rd fun _ => rfl, fun b => by rw [ho]; (try dsimp only); omega⟩
              · rw [List.set_eq_of_length_le (by omega), List.set_eq_of_length_le (by rw [← r1.len]; omega)]
                exact ⟨ox, r1, fun b => by omega⟩
      | .pth _ _, .pth _ _, _, _, h => exact h.elim
      | .pth _ _, .sc .un, _, _, h => exact h.elim
      | .pth _ _, .sc .non, _, _, h => exact h.elim
      | .pth _ _, .sc (.bl _), _, _, h => exact h.elim
      | .pth _ _, .sc (.str _), _, _, h => exact h.elim
      | .pth _ _, .sc (.scr _), _, _, h => exact h.elim
      | .pth _ _, .sc (.nd _ _), _, _, h => exact h.elim
      | .sc _, _, _, _, h => exact h.elim
/-! ### copies -/
/-- list(x) of what stands at a place: its items are shared -/
def mListQ (qa : List D → Option PL) : List D → R D := fun st => match qa st with
  | some (.pth r p) => match getS st r p with
    | some (.nd (.lst f) xs) => .ok (.nd (.lst .own) (D.setL .fz xs)) (setS st r p (.nd (.lst f) (D.setL .fz xs)))
    | some (.nd .tup xs) => .ok (.nd (.lst .own) (D.setL .fz xs)) (setS st r p (.nd .tup (D.setL .fz xs)))
    | _ => .stuck
  | _ => .stuck
/-- list(x) of a value -/
def mListE (ma : List D → R D) : List D → R D := fun st => (ma st).bind fun d st1 => match d with
  | .nd (.lst _) xs => .ok (.nd (.lst .own) xs) st1
  | .nd .tup xs => .ok (.nd (.lst .own) xs) st1
  | _ => .stuck
theorem ve_listE (O : COk X C) (ha : VE X C sa a ma) (hg : Gl X "list") (hm : X.mg "list" = none) (he : starEach [a] X.env = (false, eval a X.env) :: starEach [] X.env := by rfl) : VE X C sa (.Call (.Name "list" p) [a] [] pos) (mListE ma) := by
  refine (pe_callTy call_list_of hg hm PyProof.Rows.boot_list (pa_cons ha pa_nil he) (by decide) (by decide) he).impV ?_
  rintro σ H Q ⟨st, ds, vs, s, hl, h⟩
  refine seq1 (sm := sa) s hl h fun x st1 v H1 sm s1 h1 => ?_
  cases x with
  | nd k xs =>
    obtain ⟨a', ws, rfl, hn, hlen, s2⟩ := s1.open
    cases k with
    | lst f => exact ⟨a', ws, rfl, .inl (SqL.of hn), fun l hl' => h1 _ _ (fun z => (sm z).trans (same_new hl')) (s2.alloc hl hl' (show (upd H1 l (.lst ws)) l = some (.lst ws) from upd_same) (.inr rfl))⟩
    | tup => exact ⟨a', ws, rfl, .inr (SqT.of hn), fun l hl' => h1 _ _ (fun z => (sm z).trans (same_new hl')) (s2.alloc hl hl' (show (upd H1 l (.lst ws)) l = some (.lst ws) from upd_same) (.inr rfl))⟩
    | _ => exact h1.elim
  | _ => exact h1.elim
theorem SX.pushL {xs : List D} {ws : List V} (s : SX C st ds σ vs H) (h : ∀ G, RpL G xs ws (fun _ => 0)) : SX C st (ds ++ xs) σ (vs ++ ws) H := by
  obtain ⟨Z, os, s⟩ := s
  obtain ⟨o1, o2, r1, r2, e⟩ := s.cut
  exact (s.mk2 r1 (r2.app (os := o2) (h _) fun b => by simp) e (fun b => Nat.le_refl _) s.sl).sx
/-- list(range(i, j)) -/
instance (a b : Int) : Decidable (RgOk a b) := by unfold RgOk; infer_instance
def mListR (ma mb : List D → R D) : List D → R D := fun st => (ma st).bind fun x st1 => (mb st1).bind fun y st2 => match x, y with
  | .int i, .int j => if RgOk i j then .ok (.nd (.lst .own) (rangeD i j)) st2 else .stuck
  | _, _ => .stuck
/-! ### slices -/
def cutL {α : Type} (xs : List α) (lo hi : Option Int) : List α := (xs.drop (HT.sIx xs.length 0 lo)).take (HT.sIx xs.length xs.length hi - HT.sIx xs.length 0 lo)
/-- a bound -/
def trO (C : Cc) (q : List D → Option (Option Int)) : TO := fun σ H Q => ∃ st ds vs, SX C st ds σ vs H ∧ match q st with
  | some i => Q i H
  | none => False
def VO (X : Cx) (C : Cc) (e : Option Expr) (q : List D → Option (Option Int)) : Prop := PO X e (trO C q)
def oNo : List D → Option (Option Int) := fun _ => some none
def oQ (qa : List D → Option PL) : List D → Option (Option Int) := fun st => match qa st with
  | some (.sc (.int i)) => some (some i)
  | _ => none
theorem _root_.L2.PO.impV {X : Cx} {e : Option Expr} {t t' : TO} (h : PO X e t) (k : ∀ σ H Q, t' σ H Q → t σ H Q) : PO X e t' := ⟨fun pins s σ H Q I h' => h.run pins s σ H Q I (k _ _ _ h')⟩
theorem vo_no : VO X C none oNo := po_none.impV (by rintro σ H Q ⟨st, ds, vs, s, h⟩; exact h)
theorem vo_q (ha : VQ X C a qa) : VO X C (some a) (oQ qa) := by
  refine (po_some ha.pe).impV ?_
  rintro σ H Q ⟨st, ds, vs, s, h⟩
  refine ⟨st, ds, vs, s, ?_⟩
  unfold oQ at h
  cases q : qa st with
  | none => rw [q] at h; exact h.elim
  | some pl =>
    rw [q] at h
    match pl, h with
    | .sc (.int i), h => intro v hv; simp [vOf] at hv; subst hv; exact ⟨i, rfl, h⟩
/-- x[lo:hi] of what stands at a place, of a text, of the script -/
def mSlQ (qa : List D → Option PL) (ql qh : List D → Option (Option Int)) : List D → R D := fun st => match ql st, qh st with
  | some lo, some hi => match qa st with
    | some (.pth r p) => match getS st r p with
      | some (.nd (.lst f) xs) => .ok (.nd (.lst .own) (cutL (D.setL .fz xs) lo hi)) (setS st r p (.nd (.lst f) (D.setL .fz xs)))
      | some (.nd .tup xs) => if HT.sIx xs.length 0 lo = 0 ∧ HT.sIx xs.length xs.length hi = xs.length then .stuck else .ok (.nd .tup (cutL (D.setL .fz xs) lo hi)) (setS st r p (.nd .tup (D.setL .fz xs)))
      | _ => .stuck
    | some (.sc (.str z)) => if z.length ≤ sizeLine then .ok (.str (cutS z lo hi)) st else .stuck
    | _ => .stuck
  | _, _ => .stuck
theorem RpL.drop {G : Gd} : ∀ {xs : List D} {ws : List V} {o : Ct} (n : Nat), RpL G xs ws o → ∃ o', RpL G (xs.drop n) (ws.drop n) o' ∧ ∀ b, o' b ≤ o b
  | _, _, o, 0, r => ⟨o, by simpa using r, fun _ => Nat.le_refl _⟩
  | _, _, o, n + 1, .nil h => ⟨o, by simpa using .nil h, fun _ => Nat.le_refl _⟩
  | _, _, o, n + 1, .cons r t e => by
    obtain ⟨o', q, l⟩ := RpL.drop n t
    exact ⟨o', by simpa using q, fun b => by have := l b; rw [e]; omega⟩
theorem RpL.take {G : Gd} : ∀ {xs : List D} {ws : List V} {o : Ct} (n : Nat), RpL G xs ws o → ∃ o', RpL G (xs.take n) (ws.take n) o' ∧ ∀ b, o' b ≤ o b
  | _, _, o, 0, r => ⟨fun _ => 0, by simpa using .nil fun _ => rfl, fun _ => Nat.zero_le _⟩
  | _, _, o, n + 1, .nil h => ⟨o, by simpa using .nil h, fun _ => Nat.le_refl _⟩
  | _, _, o, n + 1, .cons (o1 := o1) r t e => by
    obtain ⟨o', q, l⟩ := RpL.take n t
    exact ⟨fun b => o1 b + o' b, by simpa using .cons r q fun _ => rfl, fun b => by have := l b; rw [e]; (try dsimp only); omega⟩
theorem RpL.cutL {G : Gd} {xs : List D} {ws : List V} {o : Ct} (lo hi : Option Int) (r : RpL G xs ws o) : ∃ o', RpL G (PV.cutL xs lo hi) (cutV ws lo hi) o' ∧ ∀ b, o' b ≤ o b := by
  have hl := r.len
  unfold PV.cutL cutV
  rw [hl]
  obtain ⟨o1, r1, l1⟩ := r.drop (HT.sIx ws.length 0 lo)
  obtain ⟨o2, r2, l2⟩ := r1.take (HT.sIx ws.length ws.length hi - HT.sIx ws.length 0 lo)
  exact ⟨o2, r2, fun b => Nat.le_trans (l2 b) (l1 b)⟩
/-- the temporaries thinned out -/
theorem SX.thin {xs xs' : List D} {ws ws' : List V} (s : SX C st (ds ++ xs) σ (vs ++ ws) H) (hl : ds.length = vs.length) (k : ∀ G o, RpL G xs ws o → ∃ o', RpL G xs' ws' o' ∧ ∀ b, o' b ≤ o b) : SX C st (ds ++ xs') σ (vs ++ ws') H := by
  obtain ⟨Z, os, s⟩ := s
  obtain ⟨o1, o2, r1, r2, e⟩ := s.cut
  obtain ⟨o3, o4, r3, r4, e'⟩ := RpL.cut hl r2
  obtain ⟨o5, r5, l5⟩ := k _ _ r4
  exact (s.mk2 (os' := fun b => o1 b + (o3 b + o5 b)) (o2 := fun b => o3 b + o5 b) r1 (r3.app r5 fun _ => rfl) (fun _ => rfl) (fun b => by rw [e, e']; have := l5 b; (try dsimp only); omega) s.sl).sx
theorem ve_slQ {p2 : Pos} {lo hi : Option Expr} {ql qh : List D → Option (Option Int)} (O : COk X C) (ha : VQ X C a qa) (hlo : VO X C lo ql) (hhi : VO X C hi qh) : VE X C true (.Subscript a (.Slice lo hi none p2) pos) (mSlQ qa ql qh) := by
  refine (pe_slice (sl_list.or (sl_tup.or sl_str)) ha.pe hlo hhi).impV ?_
  rintro σ H Q ⟨st, ds, vs, s, hl, h⟩
  refine ⟨st, ds, vs, s, ?_⟩
  unfold mSlQ at h
  cases e1 : ql st with
  | none => rw [e1] at h; exact h.elim
  | some l =>
    cases e2 : qh st with
    | none => rw [e1, e2] at h; exact h.elim
    | some u =>
      rw [e1, e2] at h
      simp only at h
      cases q : qa st with
      | none => rw [q] at h; exact h.elim
      | some pl =>
        rw [q] at h
        cases pl with
        | pth r pp =>
          simp only at h
          intro w hp
          refine ⟨st, ds, vs, s, ?_⟩
          rw [e1]
          refine ⟨st, ds, vs, s, ?_⟩
          rw [e2]
          obtain ⟨k, xs, hk⟩ := ha.ok _ _ q
          rw [hk] at h
          obtain ⟨a', ws, Z, os, rfl, hn, rl⟩ := s.node hk hp
          have s2 := (s.shareK hk hp hn).thin hl (xs' := cutL (D.setL .fz xs) l u) (ws' := cutV ws l u) fun G o r => r.cutL l u
          have hlx : (D.setL Fl.fz xs).length = xs.length := by rw [D.setL_map]; simp
          cases k with
          | lst f => exact .inl ⟨a', ws, rfl, SqL.of hn, fun q hq => h _ _ (fun _ => same_new hq) (s2.alloc hl hq (show (upd H q (.lst (cutV ws l u))) q = some (.lst (cutV ws l u)) from upd_same) (.inr rfl))⟩
          | tup =>
            simp only at h
            split at h
            · exact h.elim
            · rename_i hw
              exact .inr (.inl ⟨a', ws, rfl, SqT.of hn, by rw [← rl.len]; exact hw, fun q hq => h _ _ (fun _ => same_new hq) (s2.alloc hl hq (show (upd H q (.tup (cutV ws l u))) q = some (.tup (cutV ws l u)) from upd_same) (.inl rfl))⟩)
          | _ => exact h.elim
        | sc d =>
          match d, h with
          | .str z, h =>
            simp only at h
            split at h
            · rename_i hz
              intro v hv
              simp [vOf] at hv; subst hv
              refine ⟨st, ds, vs, s, ?_⟩
              rw [e1]
              refine ⟨st, ds, vs, s, ?_⟩
              rw [e2]
              exact .inr (.inr ⟨z, rfl, hz, h _ _ (fun _ => Same.refl H) (s.pushc rfl)⟩)
            · exact h.elim
/-! ### + -/
def mAddR (x y : D) (st : List D) : R D := match x, y with
  | .nd (.lst _) xs, .nd (.lst _) ys => if xs.length + ys.length ≤ sizeLine then .ok (.nd (.lst .own) (xs ++ ys)) st else .stuck
  | .nd .tup xs, .nd .tup ys => if xs.length + ys.length ≤ sizeLine ∧ xs ≠ [] ∧ ys ≠ [] then .ok (.nd .tup (xs ++ ys)) st else .stuck
  | x, y => match gAdd x y with
    | some d => .ok d st
    | none => .stuck
def mAdd (ma mb : List D → R D) : List D → R D := fun st => (ma st).bind fun x st1 => (mb st1).bind fun y st2 => mAddR x y st2
theorem ve_add (O : COk X C) (ha : VE X C sa a ma) (hb : VE X C sb b mb) : VE X C (sa && sb) (.BinOp a .Add b pos) (mAdd ma mb) := by
  refine (pe_op (OpR.or (OpR.or op_add op_add_str) (OpR.or op_cat op_catT)) ha hb).impV ?_
  rintro σ H Q ⟨st, ds, vs, s, hl, h⟩
  refine seq2 (sm := sa && sb) s hl h fun x y st2 v u H2 sm s2 h2 => ?_
  have sc : rE C (sa && sb) ds vs σ H Q (match gAdd x y with
      | some d => .ok d st2
      | none => .stuck) → (((rI0 fun i j => .int (i + j)) v u H2 Q ∨ ∃ i j, v = .str i ∧ u = .str j ∧ i.length + j.length ≤ sizeLine ∧ Q (.str (i ++ j)) H2)) := fun h3 => by
    cases e : gAdd x y with
    | none => rw [e] at h3; exact h3.elim
    | some d =>
      rw [e] at h3
      obtain ⟨⟨v', hv⟩, ⟨u', hu⟩, w, hw⟩ := scg_add _ _ _ e
      have e2 : u = u' := s2.scTop hu
      subst e2
      have e1 : v = v' := s2.pop.scTop hv
      subst e1
      exact add_r x y d v u w H2 Q hv hu e hw (h3 w H2 sm (s2.pop.pop.pushc hw))
  cases x with
  | nd k xs =>
    cases y with
    | nd k2 ys =>
      obtain ⟨b', zs, rfl, hn2, hl2, s3⟩ := s2.open
      have s4 := s2.pop
      obtain ⟨a', ws, rfl, hn1, hl1, _⟩ := s4.open
      -- the items of both as temporaries
      have s5 : SX C st2 (ds ++ (xs ++ ys)) σ (vs ++ (ws ++ zs)) H2 := by
        obtain ⟨Z, os, t⟩ := id s3
        obtain ⟨o1, o2, r1, r2, e⟩ := t.cut
        obtain ⟨o3, o4, r3, r4, e'⟩ := RpL.cut (by simp [hl]) r2
        obtain ⟨o5, o6, r5, r6, e6⟩ := RpL.cut hl r3
        obtain ⟨ox, rx, lx⟩ := r6.of1.kids (ws := ws) hn1
        exact (t.mk2 (os' := fun b => o1 b + (o5 b + (ox b + o4 b))) (o2 := fun b => o5 b + (ox b + o4 b)) r1 (r5.app (o2 := fun b => ox b + o4 b) (rx.app r4 fun _ => rfl) fun _ => rfl) (fun _ => rfl) (fun b => by rw [e, e', e6]; have := lx b; (try dsimp only); omega) t.sl).sx
      cases k with
      | lst f =>
        cases k2 with
        | lst g =>
          simp only [mAddR] at h2
          split at h2
          · rename_i hz
            exact .inr (.inl ⟨a', b', ws, zs, rfl, rfl, hn1, hn2, by rw [← hl1, ← hl2]; exact hz, fun q hq => h2 _ _ (fun z => (sm z).trans (same_new hq)) (s5.alloc hl hq (show (upd H2 q (.lst (ws ++ zs))) q = some (.lst (ws ++ zs)) from upd_same) (.inr rfl))⟩)
          · exact h2.elim
        | _ => simp [mAddR, gAdd] at h2; exact h2.elim
      | tup =>
        cases k2 with
        | tup =>
          simp only [mAddR] at h2
          split at h2
          · rename_i hz
            have hx : ws ≠ [] := by intro z; subst z; exact hz.2.1 (List.length_eq_zero_iff.mp (by simpa using hl1))
            have hy : zs ≠ [] := by intro z; subst z; exact hz.2.2 (List.length_eq_zero_iff.mp (by simpa using hl2))
            exact .inr (.inr ⟨a', b', ws, zs, rfl, rfl, SqT.of hn1, SqT.of hn2, hx, by rw [← hl1, ← hl2]; exact hz.1, fun z => absurd z hy, fun _ q hq => h2 _ _ (fun z => (sm z).trans (same_new hq)) (s5.alloc hl hq (show (upd H2 q (.tup (ws ++ zs))) q = some (.tup (ws ++ zs)) from upd_same) (.inl rfl))⟩)
          · exact h2.elim
        | _ => simp [mAddR, gAdd] at h2; exact h2.elim
      | dct f ks => cases k2 <;> (simp [mAddR, gAdd] at h2; exact h2.elim)
      | ins f c ns => cases k2 <;> (simp [mAddR, gAdd] at h2; exact h2.elim)
    | _ => cases k <;> (simp [mAddR, gAdd] at h2; exact h2.elim)
  | _ => cases y with
    | nd k ys => cases k <;> exact .inl (sc (by simpa [mAddR] using h2))
    | _ => exact .inl (sc (by simpa [mAddR] using h2))
/-! ### isinstance -/
def tyD : D → Option String
  | .non => some "NoneType"
  | .bl _ => some "bool"
  | .int _ => some "int"
  | .str _ => some "str"
  | .nd (.lst _) _ => some "list"
  | .nd .tup _ => some "tuple"
  | .nd (.dct _ _) _ => some "dict"
  | _ => none
def isiD (n : String) (d : D) : Option Bool := match tyD d with
  | some t => kitB t n
  | none => none
theorem tyD_of {G : Gd} {d : D} {v : V} {os : Ct} {t : String} (r : Rp G d v os) (h : tyD d = some t) : TyX G.K G.H v (.type t) := by
  cases r with
  | un _ => simp [tyD] at h
  | non _ => simp [tyD] at h; subst h; exact .base .non
  | bl _ => simp [tyD] at h; subst h; exact .base (.bl _)
  | int _ => simp [tyD] at h; subst h; exact .base (.int _)
  | str _ => simp [tyD] at h; subst h; exact .base (.str _)
  | scr _ _ => simp [tyD] at h
  | nd hk rl n =>
    rename_i k xs a vs os'
    cases k with
    | lst f => simp [tyD] at h; subst h; exact .base (.lst hk)
    | tup => simp [tyD] at h; subst h; exact .base (.tup hk)
    | dct f ks => simp [tyD] at h; subst h; exact .base (.dK hk.2)
    | ins f c ns => simp [tyD] at h
def qIsi (n : String) (qa : List D → Option PL) : List D → Option PL := fun st => match qa st with
  | some pl => match plD st pl with
    | some d => match isiD n d with
      | some b => some (.sc (.bl b))
      | none => none
    | none => none
  | none => none
theorem vq_isi (O : COk X C) (n : String) {x : Str} {px : Pos} (ha : VQ X C a qa) (hx : bootBuiltins x = some (.type n)) (hgx : Gl X x) (hmx : X.mg x = none) (hg : Gl X "isinstance") (hm : X.mg "isinstance" = none)
    (he : starEach [a, .Name x px] X.env = (false, eval a X.env) :: starEach [.Name x px] X.env := by rfl) (he2 : starEach [.Name x px] X.env = (false, eval (.Name x px) X.env) :: starEach [] X.env := by rfl) (hpl : (backTo pos (starEach [.Name x px] X.env)).any (·.1) = false := by rfl)
    (hn : x ≠ "__name__" := by decide) (hd : (x == ("__debug__" : Str)) = false := by decide) : VQ X C (.Call (.Name "isinstance" p) [a, .Name x px] [] pos) (qIsi n qa) := by
  refine ⟨(pe_callB call_isi hg hm (by decide +kernel) (pa_cons ha.pe (pa_cons (pe_bltn (v := .ty n) hgx hmx hx rfl hn hd) pa_nil he2) he) (by decide) (by decide) he hpl).impV ?_, fun st pl h => ?_⟩
  · rintro σ H Q ⟨st, ds, vs, s, h⟩
    refine ⟨st, ds, vs, s, ?_⟩
    unfold qIsi at h
    cases q : qa st with
    | none => rw [q] at h; exact h.elim
    | some pl =>
      rw [q] at h
      simp only at h
      cases w : plD st pl with
      | none => rw [w] at h; exact h.elim
      | some d =>
        rw [w] at h
        simp only at h
        unfold isiD at h
        cases t : tyD d with
        | none => rw [t] at h; exact h.elim
        | some tn =>
          rw [t] at h
          simp only at h
          cases kb : kitB tn n with
          | none => rw [kb] at h; exact h.elim
          | some b =>
            rw [kb] at h
            refine SX.pl s w fun v Z os rv => ?_
            have ty := tyD_of rv t
            rw [show (C.G Z H).K = X.K from O.k] at ty
            exact ⟨v, .ty n, .type tn, .type n, b, rfl, .ty n, ty, kit_ty kb, h _ rfl⟩
  · unfold qIsi at h
    split at h
    · split at h
      · split at h
        · simp at h; subst h; exact ⟨_, rfl⟩
        · cases h
      · cases h
    · cases h
end
end PV

namespace PV
open PySem L2

theorem for_zipVL {K : PySem.W.Frag} {a b : Addr} {n : Nat} {g : TG} {tb : TS} {D : Ends} {σ : L2.St} {H : Hp} (Pv : Nat → L2.St → Hp → Prop) (h0 : Pv 0 σ H) (hl : ∀ i σ H, i ≤ n → Pv i σ H → ∃ ws zs, ws.length = n ∧ zs.length = n ∧ H a = some (.lst ws) ∧ H b = some (.lst zs))
    (hs : ∀ i x y T ws zs σ H, H a = some (.lst ws) → H b = some (.lst zs) → ws[i]? = some x → zs[i]? = some y → i < n → Pv i σ H → H T = none → g (.ref T) σ (upd H T (.tup [x, y])) fun σ2 H2 => tb { D with nx := Pv (i + 1), ct := Pv (i + 1), bk := D.nx } σ2 H2) (hd : ∀ σ H, Pv n σ H → D.nx σ H) :
    ∃ W : Nat → Nat → L2.St → Hp → Prop, (∃ m, W 0 m σ H) ∧ ∀ i m σ H, W i m σ H →
      ((Itz K a b).stop i H ∧ D.nx σ H) ∨ ((Itz K a b).go i H ∧ ∃ N : L2.St → Hp → Prop, (∀ σ' H', N σ' H' → ∃ m', m' < m ∧ W (i + 1) m' σ' H') ∧ ∀ x H', (Itz K a b).yld i H x H' → g x σ H' fun σ2 H2 => tb { D with nx := N, ct := N, bk := D.nx } σ2 H2) := by
  refine ⟨fun i m σ H => m = n - i ∧ i ≤ n ∧ Pv i σ H, ⟨n, by simp, Nat.zero_le _, h0⟩, ?_⟩
  rintro i m σ H ⟨rfl, hi, p⟩
  obtain ⟨ws, zs, hw, hz, qa, qb⟩ := hl i σ H hi p
  by_cases hlt : i < n
  · refine .inr ⟨⟨ws, zs, ws[i], zs[i], SqL.of qa, SqL.of qb, by simp [hw, hlt], by simp [hz, hlt]⟩, Pv (i + 1), fun σ' H' p' => ⟨n - (i + 1), by omega, rfl, hlt, p'⟩, fun v H' y => ?_⟩
    obtain ⟨T, x', y', rfl, hT, rfl, f1, f2⟩ := y
    exact hs i x' y' T ws zs σ H qa qb (f1 ws (SqL.of qa)) (f2 zs (SqL.of qb)) hlt p hT
  · have e : i = n := by omega
    subst e
    exact .inl ⟨⟨ws, zs, SqL.of qa, SqL.of qb, .inl (by omega)⟩, hd σ H p⟩

theorem for_zipVT {K : PySem.W.Frag} {a b : Addr} {n : Nat} {g : TG} {tb : TS} {D : Ends} {σ : L2.St} {H : Hp} (Pv : Nat → L2.St → Hp → Prop) (h0 : Pv 0 σ H) (hl : ∀ i σ H, i ≤ n → Pv i σ H → ∃ ws zs, ws.length = n ∧ zs.length = n ∧ H a = some (.tup ws) ∧ H b = some (.tup zs))
    (hs : ∀ i x y T ws zs σ H, H a = some (.tup ws) → H b = some (.tup zs) → ws[i]? = some x → zs[i]? = some y → i < n → Pv i σ H → H T = none → g (.ref T) σ (upd H T (.tup [x, y])) fun σ2 H2 => tb { D with nx := Pv (i + 1), ct := Pv (i + 1), bk := D.nx } σ2 H2) (hd : ∀ σ H, Pv n σ H → D.nx σ H) :
    ∃ W : Nat → Nat → L2.St → Hp → Prop, (∃ m, W 0 m σ H) ∧ ∀ i m σ H, W i m σ H →
      ((RZ.ItzT K a b).stop i H ∧ D.nx σ H) ∨ ((RZ.ItzT K a b).go i H ∧ ∃ N : L2.St → Hp → Prop, (∀ σ' H', N σ' H' → ∃ m', m' < m ∧ W (i + 1) m' σ' H') ∧ ∀ x H', (RZ.ItzT K a b).yld i H x H' → g x σ H' fun σ2 H2 => tb { D with nx := N, ct := N, bk := D.nx } σ2 H2) := by
  refine ⟨fun i m σ H => m = n - i ∧ i ≤ n ∧ Pv i σ H, ⟨n, by simp, Nat.zero_le _, h0⟩, ?_⟩
  rintro i m σ H ⟨rfl, hi, p⟩
  obtain ⟨ws, zs, hw, hz, qa, qb⟩ := hl i σ H hi p
  by_cases hlt : i < n
  · refine .inr ⟨⟨ws, zs, ws[i], zs[i], SqT.of qa, SqT.of qb, by simp [hw, hlt], by simp [hz, hlt]⟩, Pv (i + 1), fun σ' H' p' => ⟨n - (i + 1), by omega, rfl, hlt, p'⟩, fun v H' y => ?_⟩
    obtain ⟨T, x', y', rfl, hT, rfl, f1, f2⟩ := y
    exact hs i x' y' T ws zs σ H qa qb (f1 ws (SqT.of qa)) (f2 zs (SqT.of qb)) hlt p hT
  · have e : i = n := by omega
    subst e
    exact .inl ⟨⟨ws, zs, SqT.of qa, SqT.of qb, .inl (by omega)⟩, hd σ H p⟩

section
variable {X : Cx} {C : Cc} {st ds : List D} {σ : L2.St} {vs : List V} {H H' : Hp} {a b e o tg : Expr} {es : List Expr} {pos p apos : Pos} {qa qb qo : List D → Option PL} {ma mb : List D → R D} {sa sb : Bool} {ss : List Stmt} {m : MS} {Dn : Ends}
/-- an item of a frozen node, twice -/
theorem SX.item2 {kA kB : Kd} {xs ys : List D} {a b : Addr} {j : Nat} {x y : D} {w z : V} {ws zs : List V} (nA : D.noOwn (.nd kA xs) = true) (nB : D.noOwn (.nd kB ys) = true) (s : SX C st (ds ++ [.nd kA xs] ++ [.nd kB ys]) σ (vs ++ [.ref a] ++ [.ref b]) H) (hl : ds.length = vs.length)
    (hx : xs[j]? = some x) (hy : ys[j]? = some y) (hkA : HoK C.CA H a ws kA) (hkB : HoK C.CA H b zs kB) (hw : ws[j]? = some w) (hz : zs[j]? = some z) :
    SX C st (ds ++ [.nd kA xs] ++ [.nd kB ys] ++ [x, y]) σ (vs ++ [.ref a] ++ [.ref b] ++ [w, z]) H := by
  obtain ⟨Z, os, s⟩ := s
  obtain ⟨o1, o2, o3, r1, r2, r3, e⟩ := s.top
  obtain ⟨o4, o5, r4, r5, e'⟩ := RpL.cut hl r2
  have rA := r5.of1
  have zA := rA.zero nA
  have zB := r3.zero nB
  obtain ⟨ox, rx, lx⟩ := rA.kids hkA
  obtain ⟨oy, ry, ly⟩ := r3.kids hkB
  obtain ⟨w', od, orr, hw', rd, hod, _⟩ := rx.at hx
  rw [hw] at hw'; cases hw'
  obtain ⟨z', od2, orr2, hz', rd2, hod2, _⟩ := ry.at hy
  rw [hz] at hz'; cases hz'
  have z1 : ∀ b, od b = 0 := fun b => by have := hod b; have := lx b; have := zA b; omega
  have z2 : ∀ b, od2 b = 0 := fun b => by have := hod2 b; have := ly b; have := zB b; omega
  have two : RpL (C.G Z H) [x, y] [w, z] (fun _ => 0) := .cons rd (RpL.one rd2) fun b => by rw [z1, z2]
  exact (s.mk2 (os' := os) (o2 := fun b => o2 b + o3 b) r1 (((r4.app r5 e').app (RpL.one r3) fun _ => rfl).app (os := fun b => o2 b + o3 b) two fun b => by simp) (fun b => by rw [e]; omega) (fun _ => Nat.le_refl _) s.sl).sx
def zipD : List D → List D → List D
  | x :: xs, y :: ys => .nd .tup [x, y] :: zipD xs ys
  | _, _ => []
/-- for .. in zip(a, b): two lists or two tuples of one length -/
def mForZ (ma mb : List D → R D) (g : MG) (body : MS) : MS := fun st => (ma st).s fun x st1 => (mb st1).s fun y st2 => match x.frz, y.frz with
  | .nd (.lst _) xs, .nd (.lst _) ys => if xs.length = ys.length then forL g body (zipD xs ys) st2 else .stuck
  | .nd .tup xs, .nd .tup ys => if xs.length = ys.length then forL g body (zipD xs ys) st2 else .stuck
  | _, _ => .stuck
theorem zip_drop : ∀ {xs ys : List D} {j : Nat} (h1 : j < xs.length) (h2 : j < ys.length), (zipD xs ys).drop j = .nd .tup [xs[j], ys[j]] :: (zipD xs ys).drop (j + 1)
  | x :: xs, y :: ys, 0, _, _ => rfl
  | x :: xs, y :: ys, j + 1, h1, h2 => by simpa [zipD] using zip_drop (xs := xs) (ys := ys) (j := j) (by simpa using h1) (by simpa using h2)
theorem zip_end : ∀ {xs ys : List D}, xs.length = ys.length → (zipD xs ys).drop xs.length = []
  | [], [], _ => rfl
  | x :: xs, y :: ys, h => by simpa [zipD] using zip_end (xs := xs) (ys := ys) (by simpa using h)
  | [], y :: ys, h => by simp at h
  | x :: xs, [], h => by simp at h
theorem forZ_turn {g : MG} {kA kB : Kd} {xs ys : List D} {a b : Addr} {j : Nat} {σ' : L2.St} {H' : Hp} {st' : List D} {T : Addr} {x y : V} {ws zs : List V} {Dn' : Ends} (hl : ds.length = vs.length) (nA : D.noOwn (.nd kA xs) = true) (nB : D.noOwn (.nd kB ys) = true) (s' : SX C st' (ds ++ [.nd kA xs] ++ [.nd kB ys]) σ' (vs ++ [.ref a] ++ [.ref b]) H')
    (h' : rZ C (ds ++ [.nd kA xs] ++ [.nd kB ys]) (vs ++ [.ref a] ++ [.ref b]) Dn (forL g m ((zipD xs ys).drop j) st')) (hjx : j < xs.length) (hjy : j < ys.length) (hkA : HoK C.CA H' a ws kA) (hkB : HoK C.CA H' b zs kB) (hw : ws[j]? = some x) (hz : zs[j]? = some y) (hT : H' T = none)
    (hn : ∀ σ'' H'', (∃ st'', SX C st'' (ds ++ [.nd kA xs] ++ [.nd kB ys]) σ'' (vs ++ [.ref a] ++ [.ref b]) H'' ∧ rZ C (ds ++ [.nd kA xs] ++ [.nd kB ys]) (vs ++ [.ref a] ++ [.ref b]) Dn (forL g m ((zipD xs ys).drop (j + 1)) st'')) → Dn'.nx σ'' H'' ∧ Dn'.ct σ'' H'') (hb : ∀ σ H, Dn.nx σ H → Dn'.bk σ H) (hr : Dn'.rt = Dn.rt) :
    trG C g (.ref T) σ' (upd H' T (.tup [x, y])) fun σ2 H2 => trS C m Dn' σ2 H2 := by
  have s3 := s'.item2 nA nB hl (x := xs[j]) (y := ys[j]) (by simp [hjx]) (by simp [hjy]) hkA hkB hw hz
  have s4 := SX.alloc s3 (by simp [hl]) hT (show (upd H' T (.tup [x, y])) T = some (.tup [x, y]) from upd_same) (k := .tup) (.inl rfl)
  refine ⟨st', ds ++ [.nd kA xs] ++ [.nd kB ys], vs ++ [.ref a] ++ [.ref b], _, s4, by simp [hl], ?_⟩
  rw [zip_drop hjx hjy] at h'
  simp only [forL] at h'
  cases q : g (.nd .tup [xs[j], ys[j]]) st' with
  | none => rw [q] at h'; exact h'.elim
  | some st2 =>
    rw [q] at h'
    intro σ2 H2 s5
    refine ⟨st2, ds ++ [.nd kA xs] ++ [.nd kB ys], vs ++ [.ref a] ++ [.ref b], s5, by simp [hl], ?_⟩
    exact rZ.turn (f := forL g m ((zipD xs ys).drop (j + 1))) (fun st'' σ'' H'' s'' q => (hn _ _ ⟨st'', s'', q⟩).1) (fun st'' σ'' H'' s'' q => (hn _ _ ⟨st'', s'', q⟩).2) hb hr h'
theorem frz_no (d : D) : D.noOwn d.frz = true := D.noOwn_set (by decide) d
/-- the temporary ahead of the last one frozen -/
theorem SX.frzTop2 {x y : D} {v u : V} (s : SX C st (ds ++ [x] ++ [y]) σ (vs ++ [v] ++ [u]) H) (hl : ds.length = vs.length) : SX C st (ds ++ [x.frz] ++ [y.frz]) σ (vs ++ [v] ++ [u]) H := by
  have s1 := SX.rot (x := x) (v := v) (B := [y]) (vB := [u]) (by simpa [List.append_assoc] using s) hl
  have s2 : SX C st (ds ++ [y] ++ [x.frz]) σ (vs ++ [u] ++ [v]) H := SX.frzTop (by simpa [List.append_assoc] using s1)
  have s3 := SX.rot (x := y) (v := u) (B := [x.frz]) (vB := [v]) (by simpa [List.append_assoc] using s2) hl
  have s4 : SX C st (ds ++ [x.frz] ++ [y.frz]) σ (vs ++ [v] ++ [u]) H := SX.frzTop (by simpa [List.append_assoc] using s3)
  exact s4
theorem SX.nd2 {kA kB : Kd} {xs ys : List D} {v u : V} (s : SX C st (ds ++ [.nd kA xs] ++ [.nd kB ys]) σ (vs ++ [v] ++ [u]) H) (hl : ds.length = vs.length) : ∃ (a b : Addr) (ws zs : List V), v = .ref a ∧ u = .ref b ∧ HoK C.CA H a ws kA ∧ HoK C.CA H b zs kB ∧ xs.length = ws.length ∧ ys.length = zs.length := by
  obtain ⟨b, zs, Z, os, e1, h1, r1⟩ := s.ndTop
  obtain ⟨a, ws, Z', os', e2, h2, r2⟩ := s.pop.ndTop
  exact ⟨a, b, ws, zs, e2, e1, h2, h1, r2.len, r1.len⟩
theorem vs_forZ {g : MG} {elts : List Expr} {kk : Nat} {tpos fpos : Pos} (O : COk X C) (hp : PassesOwn (model X.prog X.w) X.A X.env X.xe) (hc : X.calm = true) (ha : VE X C sa a ma) (hb' : VE X C sb b mb) (hg : VG X C (.Tuple elts kk tpos) g) (hb : VB X C ss m) (hgz : Gl X "zip") (hmz : X.mg "zip" = none)
    (hs1 : starEach [a, b] X.env = (false, eval a X.env) :: starEach [b] X.env := by rfl) (hs2 : starEach [b] X.env = (false, eval b X.env) :: starEach [] X.env := by rfl) (hpl : (backTo pos (starEach [b] X.env)).any (·.1) = false := by rfl)
    (hs : ∀ x, foldedSetIterable (.Call (.Name "zip" p) [a, b] [] pos) X.env x = pure x := by intro _; rfl) : VS X C (.For (.Tuple elts kk tpos) (.Call (.Name "zip" p) [a, b] [] pos) ss [] fpos) (mForZ ma mb g m) := by
  refine (ps_for hp hc (RZ.pi_zipA hgz hmz (pa_cons ha (pa_cons hb' pa_nil hs2) hs1) hs1 hpl) hg hb hs).impV ?_
  rintro Dn σ H ⟨st, ds, vs, s, hl, h⟩
  refine seqS s hl h fun x st1 v H1 s1 h1 => ?_
  refine ⟨st1, ds ++ [x], vs ++ [v], s1, by simp [hl], ?_⟩
  cases q : mb st1 with
  | stuck => rw [q] at h1; exact h1.elim
  | ex y st' => rw [q] at h1; exact (h1 σ).up hl rfl
  | ok y st2 =>
    rw [q] at h1
    intro u H2 _ s2
    simp only [R.s_ok] at h1
    have s3 := s2.frzTop2 hl
    have nA := frz_no x
    have nB := frz_no y
    generalize x.frz = fx at h1 s3 nA
    generalize y.frz = fy at h1 s3 nB
    match fx, fy, h1 with
    | .nd (.lst f) xs, .nd (.lst f2) ys, h1 =>
      simp only at h1
      split at h1
      · rename_i hlen
        obtain ⟨a', b', ws, zs, rfl, rfl, hA, hB, l1, l2⟩ := s3.nd2 hl
        refine ⟨a', b', ws, zs, rfl, .inl ⟨SqL.of hA, SqL.of hB, for_zipVL (K := X.K) (a := a') (b := b') (n := xs.length) (fun j σ' H' => ∃ st', SX C st' (ds ++ [.nd (.lst f) xs] ++ [.nd (.lst f2) ys]) σ' (vs ++ [.ref a'] ++ [.ref b']) H' ∧ rZ C (ds ++ [.nd (.lst f) xs] ++ [.nd (.lst f2) ys]) (vs ++ [.ref a'] ++ [.ref b']) Dn (forL g m ((zipD xs ys).drop j) st')) ⟨st2, s3, rZ.up (by simp [hl]) rfl (rZ.up hl rfl h1)⟩ (fun j σ' H' _ ⟨_, s', _⟩ => ?_) ?_ ?_⟩⟩
        · obtain ⟨a2, b2, ws', zs', e1, e2, h3, h4, l3, l4⟩ := s'.nd2 hl
          cases e1; cases e2
          exact ⟨ws', zs', l3.symm, by rw [← l4, hlen], h3, h4⟩
        · rintro j x' y' T ws' zs' σ' H' hq hq2 hw hz hj ⟨st', s', h'⟩ hT
          exact forZ_turn hl nA nB s' h' hj (by omega) hq hq2 hw hz hT (fun σ'' H'' z => ⟨z, z⟩) (fun _ _ q => q) rfl
        · rintro σ' H' ⟨st', s', h'⟩
          rw [zip_end hlen] at h'
          exact h' σ' H' s'
      · exact h1.elim
    | .nd .tup xs, .nd .tup ys, h1 =>
      simp only at h1
      split at h1
      · rename_i hlen
        obtain ⟨a', b', ws, zs, rfl, rfl, hA, hB, l1, l2⟩ := s3.nd2 hl
        refine ⟨a', b', ws, zs, rfl, .inr ⟨SqT.of hA, SqT.of hB, for_zipVT (K := X.K) (a := a') (b := b') (n := xs.length) (fun j σ' H' => ∃ st', SX C st' (ds ++ [.nd .tup xs] ++ [.nd .tup ys]) σ' (vs ++ [.ref a'] ++ [.ref b']) H' ∧ rZ C (ds ++ [.nd .tup xs] ++ [.nd .tup ys]) (vs ++ [.ref a'] ++ [.ref b']) Dn (forL g m ((zipD xs ys).drop j) st')) ⟨st2, s3, rZ.up (by simp [hl]) rfl (rZ.up hl rfl h1)⟩ (fun j σ' H' _ ⟨_, s', _⟩ => ?_) ?_ ?_⟩⟩
        · obtain ⟨a2, b2, ws', zs', e1, e2, h3, h4, l3, l4⟩ := s'.nd2 hl
          cases e1; cases e2
          exact ⟨ws', zs', l3.symm, by rw [← l4, hlen], h3, h4⟩
        · rintro j x' y' T ws' zs' σ' H' hq hq2 hw hz hj ⟨st', s', h'⟩ hT
          exact forZ_turn hl nA nB s' h' hj (by omega) hq hq2 hw hz hT (fun σ'' H'' z => ⟨z, z⟩) (fun _ _ q => q) rfl
        · rintro σ' H' ⟨st', s', h'⟩
          rw [zip_end hlen] at h'
          exact h' σ' H' s'
      · exact h1.elim
end
end PV

namespace PV
open PySem L2
section
variable {X : Cx} {C : Cc} {st ds : List D} {σ : L2.St} {vs : List V} {H H' : Hp} {a b e o tg : Expr} {es : List Expr} {pos p apos : Pos} {qa qb qo : List D → Option PL} {ma mb : List D → R D} {sa sb : Bool} {ss : List Stmt} {m : MS} {Dn : Ends}
/-! ### the script -/
def mScr (i : Nat) : List D → R D := fun st => match st[i]? with
  | some (.scr ns) => .ok (.scr ns) st
  | _ => .stuck
theorem SX.scrAt {i : Nat} {ns : List Int} (s : SX C st ds σ vs H) (h : st[i]? = some (.scr ns)) : ∃ a, σ[i]? = some (some (.ref a)) ∧ SqL C.K H a (ns.map V.int) ∧ SX C st (ds ++ [.scr ns]) σ (vs ++ [.ref a]) H := by
  obtain ⟨Z, os, s⟩ := s
  obtain ⟨o1, o2, r1, r2, e⟩ := s.cut
  obtain ⟨w, od, orr, hw, rd, hod, k⟩ := r1.at h
  obtain ⟨v, hv⟩ := s.sl i _ h (by simp)
  have ew : w = v := by simp [hv] at hw; exact hw.symm
  subst ew
  have z : ∀ b, od b = 0 := rd.zero rfl
  have s' := (s.mk2 (os' := os) (o2 := fun b => o2 b + od b) r1 (r2.app (RpL.one rd) fun _ => rfl) (fun b => by rw [e, z]; omega) (fun _ => Nat.le_refl _) s.sl).sx
  cases rd with
  | scr q hz =>
    rename_i a
    refine ⟨a, hv, ?_, s'⟩
    rcases q with ⟨q, _⟩ | q
    · exact .inl q
    · exact q H
theorem ve_scr (i : Nat) {x : Str} {pos : Pos} (hN : X.N[i]? = some x := by rfl) (hv : Vis X.env.scope x := by first | exact Or.inl rfl | exact Or.inr (Or.inl rfl) | exact Or.inr (Or.inr rfl)) (hd : (x == ("__debug__" : Str)) = false := by decide)
    (hcd : (x == ("__classdict__" : Str)) = false := by decide) : VE X C true (.Name x pos) (mScr i) := by
  refine (pv i hN hv hd hcd).impV ?_
  rintro σ H Q ⟨st, ds, vs, s, hl, h⟩
  unfold mScr at h
  cases q : st[i]? with
  | none => rw [q] at h; exact h.elim
  | some d =>
    rw [q] at h
    match d, q, h with
    | .scr ns, q, h =>
      obtain ⟨a, hv, _, s'⟩ := s.scrAt q
      exact ⟨.ref a, hv, h _ H (fun _ => Same.refl H) s'⟩
theorem SX.scrTop {ns : List Int} {v : V} (s : SX C st (ds ++ [.scr ns]) σ (vs ++ [v]) H) : ∃ a : Addr, v = .ref a ∧ SqL C.K H a (ns.map V.int) := by
  obtain ⟨Z, os, r⟩ := s.topR
  cases r with
  | scr q hz =>
    refine ⟨_, rfl, ?_⟩
    rcases q with ⟨q, _⟩ | q
    · exact .inl q
    · exact q H
/-- script[lo:hi] -/
def mSlScr (ma : List D → R D) (ql qh : List D → Option (Option Int)) : List D → R D := fun st => (ma st).bind fun d st1 => match d, ql st1, qh st1 with
  | .scr ns, some lo, some hi => .ok (.nd (.lst .own) (cutL (ns.map D.int) lo hi)) st1
  | _, _, _ => .stuck
theorem ints_rp {G : Gd} : ∀ ns : List Int, RpL G (ns.map D.int) (ns.map V.int) (fun _ => 0)
  | [] => .nil fun _ => rfl
  | n :: ns => .cons (o1 := fun _ => 0) (.int fun _ => rfl) (ints_rp ns) fun b => by simp
theorem ve_slScr {p2 : Pos} {lo hi : Option Expr} {ql qh : List D → Option (Option Int)} (O : COk X C) (ha : VE X C sa a ma) (hlo : VO X C lo ql) (hhi : VO X C hi qh) : VE X C sa (.Subscript a (.Slice lo hi none p2) pos) (mSlScr ma ql qh) := by
  refine (pe_slice sl_list ha hlo hhi).impV ?_
  rintro σ H Q ⟨st, ds, vs, s, hl, h⟩
  refine seq1 (sm := sa) s hl h fun x st1 v H1 sm s1 h1 => ?_
  match x, s1, h1 with
  | .scr ns, s1, h1 =>
    cases e1 : ql st1 with
    | none => rw [e1] at h1; exact h1.elim
    | some l =>
      cases e2 : qh st1 with
      | none => rw [e1, e2] at h1; exact h1.elim
      | some u =>
        rw [e1, e2] at h1
        refine ⟨st1, _, _, s1, ?_⟩
        rw [e1]
        refine ⟨st1, _, _, s1, ?_⟩
        rw [e2]
        obtain ⟨l0, rfl, sq⟩ := s1.scrTop
        rw [O.k] at sq
        refine ⟨l0, _, rfl, sq, fun q hq => h1 _ _ (fun z => (sm z).trans (same_new hq)) ?_⟩
        exact ((s1.pop.pushL fun G => ints_rp ns).thin hl (xs' := cutL (ns.map D.int) l u) (ws' := cutV (ns.map V.int) l u) fun G o r => r.cutL l u).alloc hl hq (show (upd H1 q (.lst (cutV (ns.map V.int) l u))) q = some (.lst (cutV (ns.map V.int) l u)) from upd_same) (.inr rfl)
  | .un, _, h1 => exact h1.elim
  | .non, _, h1 => exact h1.elim
  | .bl _, _, h1 => exact h1.elim
  | .int _, _, h1 => exact h1.elim
  | .str _, _, h1 => exact h1.elim
  | .nd _ _, _, h1 => exact h1.elim
/-! ### items of values -/
/-- x[i] of a value -/
def mIxE (ma mb : List D → R D) : List D → R D := fun st => (ma st).bind fun x st1 => (mb st1).bind fun y st2 => match x, y with
  | .nd (.lst _) xs, .int i => match atI xs i with
    | some d => .ok d st2
    | none => .stuck
  | .nd .tup xs, .int i => match atI xs i with
    | some d => .ok d st2
    | none => .stuck
  | .str z, .int i => if z.length ≤ sizeLine then match atI z.cps.toList i with
      | some c => .ok (.str ⟨#[c]⟩) st2
      | none => .stuck
    else .stuck
  | _, _ => .stuck
theorem atI_ix {α : Type} {xs : List α} {i : Int} {d : α} (h : atI xs i = some d) : ∃ j, ixN xs.length i = some j ∧ xs[j]? = some d := by
  unfold atI at h
  cases q : ixN xs.length i with
  | none => rw [q] at h; cases h
  | some j => rw [q] at h; exact ⟨j, rfl, h⟩
theorem ve_ixE (O : COk X C) (ha : VE X C sa a ma) (hb : VE X C sb b mb) (hs : PlainIx b := by exact fun _ _ => rfl) : VE X C (sa && sb) (.Subscript a b pos) (mIxE ma mb) := by
  refine (pe_ix ix_seq ha hb hs).impV ?_
  rintro σ H Q ⟨st, ds, vs, s, hl, h⟩
  refine seq2 (sm := sa && sb) s hl h fun x y st2 v u H2 sm s2 h2 => ?_
  have key : ∀ (k : Kd) (xs : List D) (i : Int) (d : D), x = .nd k xs → y = .int i → atI xs i = some d → (rE C (sa && sb) ds vs σ H Q (.ok d st2)) → ∃ (a' : Addr) (ws : List V) (w : V), v = .ref a' ∧ u = .int i ∧ HoK C.CA H2 a' ws k ∧ atI ws i = some w ∧ Q w H2 := by
    rintro k xs i d rfl rfl he hr
    have eu : u = .int i := s2.scTop rfl
    subst eu
    obtain ⟨a', ws, rfl, hk, hlen, s3⟩ := s2.pop.open
    obtain ⟨j, h1, h3⟩ := atI_ix he
    have hj : j < xs.length := (List.getElem?_eq_some_iff.mp h3).1
    obtain ⟨w, hw⟩ : ∃ w, ws[j]? = some w := ⟨ws[j]'(by omega), by simp⟩
    refine ⟨a', ws, w, rfl, rfl, hk, atI_of (by rw [← hlen]; exact h1) hw, hr w H2 sm ?_⟩
    refine s3.thin hl fun G o r => ?_
    obtain ⟨w', od, orr, hw', rd, hod, _⟩ := r.at h3
    rw [hw] at hw'; cases hw'
    exact ⟨od, RpL.one rd, fun b => by rw [hod]; omega⟩
  match x, y, s2, h2, key with
  | .nd (.lst f) xs, .int i, s2, h2, key =>
    simp only at h2
    cases he : atI xs i with
    | none => rw [he] at h2; exact h2.elim
    | some d =>
      rw [he] at h2
      obtain ⟨a', ws, w, rfl, rfl, hk, hw, q⟩ := key _ _ _ _ rfl rfl he h2
      exact .inl ⟨a', ws, i, w, rfl, rfl, SqL.of hk, hw, q⟩
  | .nd .tup xs, .int i, s2, h2, key =>
    simp only at h2
    cases he : atI xs i with
    | none => rw [he] at h2; exact h2.elim
    | some d =>
      rw [he] at h2
      obtain ⟨a', ws, w, rfl, rfl, hk, hw, q⟩ := key _ _ _ _ rfl rfl he h2
      exact .inr (.inl ⟨a', ws, i, w, rfl, rfl, SqT.of hk, hw, q⟩)
  | .str z, .int i, s2, h2, key =>
    simp only at h2
    split at h2
    · rename_i hz
      cases he : atI z.cps.toList i with
      | none => rw [he] at h2; exact h2.elim
      | some c =>
        rw [he] at h2
        have eu : u = .int i := s2.scTop rfl
        subst eu
        have ev : v = .str z := s2.pop.scTop rfl
        subst ev
        exact .inr (.inr ⟨z, i, c, rfl, rfl, hz, he, h2 _ H2 sm (s2.pop.pop.pushc rfl)⟩)
    · exact h2.elim
  | .nd (.dct _ _) _, .int _, _, h2, _ => exact h2.elim
  | .nd (.ins _ _ _) _, .int _, _, h2, _ => exact h2.elim
  | .un, _, _, h2, _ => exact h2.elim
  | .non, _, _, h2, _ => exact h2.elim
  | .bl _, _, _, h2, _ => exact h2.elim
  | .int _, _, _, h2, _ => exact h2.elim
  | .scr _, _, _, h2, _ => exact h2.elim
/-! ### the law's end -/
theorem fn_stuck {P : Program} {w : World} {K : PySem.W.Frag} {mg : Str → Option Value} {base : Heap} {CX : CXT} {k : Nat} {f : Addr} {fd : FuncData} {ps : List Str} {CA : Str → Option Addr} : FnOk P w K mg base CX k f fd ps (spF K CA ps.length fun _ => .stuck) :=
  ⟨fun vs H Q E h => h.1, fun A outer s H args us vs Q E _ _ _ _ h => by obtain ⟨_, _, _, _, _, h⟩ := h; exact h.elim⟩
end
/-- law's promise -/
def spLaw (K : PySem.W.Frag) : Sp := fun vs H Q _ => ∃ (a : Addr) (ns : List Int), vs = [.ref a] ∧ SqL K H a (ns.map V.int) ∧ ns.length ≤ 63 ∧ ∀ H', Q (.bl true) H'
theorem spF_law {K : PySem.W.Frag} {CA : Str → Option Addr} {F : Fn} (h : ∀ ns : List Int, ns.length ≤ 63 → F [.scr ns] = .ok (.bl true) [.un]) (vs : List V) (H : Hp) (Q : VK) (E : XK) (hs : spLaw K vs H Q E) : spF K CA 1 F vs H Q E := by
  obtain ⟨a, ns, rfl, hS, hl, k⟩ := hs
  refine ⟨rfl, [.scr ns], fun _ => 0, fun _ => False, ⟨RpL.one (.scr ?_ fun _ => rfl), fun _ => Nat.zero_le _, fun a z => absurd z (Nat.lt_irrefl 0), fun a z => z.elim⟩, ?_⟩
  · rcases hS with q | q
    · exact .inl ⟨q, Nat.lt_irrefl 0⟩
    · exact .inr fun _ => .inr q
  · rw [h ns hl]
    intro v H' Z' os' P
    cases P.rp with
    | cons r _ _ => cases r; exact k H'
end PV

namespace PV
open PySem L2
/-! ### running by rewriting: only heads are rewritten -/
@[simp] theorem size_line : sizeLine = 16777216 := rfl
def obn {α β : Type} (o : Option α) (f : α → Option β) : Option β := match o with
  | some a => f a
  | none => none
@[simp] theorem obn_some {α β : Type} (a : α) (f : α → Option β) : obn (some a) f = f a := rfl
@[simp] theorem obn_none {α β : Type} (f : α → Option β) : obn none f = none := rfl
/-- an option's value, or stuck -/
def R.of {α β : Type} (o : Option α) (f : α → R β) : R β := match o with
  | some a => f a
  | none => .stuck
@[simp] theorem R.of_some {α β : Type} (a : α) (f : α → R β) : R.of (some a) f = f a := rfl
@[simp] theorem R.of_none {α β : Type} (f : α → R β) : R.of none f = .stuck := rfl
def RS.sq (r : RS) (n : MS) : RS := match r with
  | .nx st => n st
  | r => r
@[simp] theorem sq_nx (st : List D) (n : MS) : (RS.nx st).sq n = n st := rfl
@[simp] theorem sq_rt (d : D) (st : List D) (n : MS) : (RS.rt d st).sq n = .rt d st := rfl
@[simp] theorem sq_bk (st : List D) (n : MS) : (RS.bk st).sq n = .bk st := rfl
@[simp] theorem sq_ct (st : List D) (n : MS) : (RS.ct st).sq n = .ct st := rfl
@[simp] theorem sq_ex (e : Ex) (st : List D) (n : MS) : (RS.ex e st).sq n = .ex e st := rfl
@[simp] theorem sq_stuck (n : MS) : RS.stuck.sq n = .stuck := rfl
/-- a guard -/
def chk {α : Type} (c : Prop) [Decidable c] (r : R α) : R α := if c then r else .stuck
theorem chk_of {α : Type} {c : Prop} [Decidable c] {r : R α} (h : c) : chk c r = r := if_pos h
def chkO {α : Type} (c : Prop) [Decidable c] (r : Option α) : Option α := if c then r else none
theorem chkO_of {α : Type} {c : Prop} [Decidable c] {r : Option α} (h : c) : chkO c r = r := if_pos h
/-- a branch -/
def RS.br (b : Bool) (m n : MS) (st : List D) : RS := if b = true then m st else n st
@[simp] theorem br_true (m n : MS) (st : List D) : RS.br true m n st = m st := rfl
@[simp] theorem br_false (m n : MS) (st : List D) : RS.br false m n st = n st := rfl
def R.br {α : Type} (b : Bool) (m n : List D → R α) (st : List D) : R α := if b = true then m st else n st
@[simp] theorem rbr_true {α : Type} (m n : List D → R α) (st : List D) : R.br true m n st = m st := rfl
@[simp] theorem rbr_false {α : Type} (m n : List D → R α) (st : List D) : R.br false m n st = n st := rfl
@[simp] theorem mSeq_eq (m n : MS) (st : List D) : mSeq m n st = (m st).sq n := by
  unfold mSeq RS.sq
  cases m st <;> rfl
@[simp] theorem mSkip_eq (st : List D) : mSkip st = .nx st := rfl
@[simp] theorem mBreak_eq (st : List D) : mBreak st = .bk st := rfl
@[simp] theorem mCont_eq (st : List D) : mCont st = .ct st := rfl
@[simp] theorem mRetN_eq (st : List D) : mRetN st = .rt .non st := rfl
@[simp] theorem mExpr_eq (ma : List D → R D) (st : List D) : mExpr ma st = (ma st).s fun _ st' => .nx st' := rfl
@[simp] theorem mRet_eq (ma : List D → R D) (st : List D) : mRet ma st = (ma st).s fun d st' => .rt d st' := rfl
@[simp] theorem mIf_eq (t : List D → R Bool) (m n : MS) (st : List D) : mIf t m n st = (t st).s fun b st' => RS.br b m n st' := rfl
def asg (r : Option (List D)) : RS := match r with
  | some st => .nx st
  | none => .stuck
@[simp] theorem asg_some (st : List D) : asg (some st) = .nx st := rfl
@[simp] theorem mAsg_eq (ma : List D → R D) (g : MG) (st : List D) : mAsg ma g st = (ma st).s fun d st' => asg (g d st') := by
  unfold mAsg
  rfl
@[simp] theorem gNm_eq (i : Nat) (d : D) (st : List D) : gNm i d st = chkO (i < st.length) (some (st.set i d)) := rfl
@[simp] theorem gTu_tup (n : Nat) (gs : MGs) (xs st : List D) : gTu n gs (.nd .tup xs) st = chkO (xs.length = n) (gs xs st) := rfl
@[simp] theorem gC1_cons (g : MG) (gs : MGs) (x : D) (r st : List D) : gC1 g gs (x :: r) st = obn (g x st) (gs r) := by
  simp only [gC1, obn]
  cases g x st <;> rfl
@[simp] theorem gN0_nil (st : List D) : gN0 [] st = some st := rfl
/-! #### quiet things -/
@[simp] theorem qC_eq (d : D) (st : List D) : qC d st = some (.sc d) := rfl
@[simp] theorem getS0 (st : List D) (r : Nat) : getS st r [] = st[r]? := by
  unfold getS
  cases st[r]? <;> simp [getP]
@[simp] theorem getSc (st : List D) (r : Nat) (j : Nat) (p : Pth) : getS st r (j :: p) = obn st[r]? fun d => getP d (j :: p) := by
  unfold getS obn
  cases st[r]? <;> rfl
@[simp] theorem getP0 (d : D) : getP d [] = some d := by simp [getP]
@[simp] theorem getPc (k : Kd) (xs : List D) (j : Nat) (p : Pth) : getP (.nd k xs) (j :: p) = obn xs[j]? fun d => getP d p := by
  simp only [getP, obn]
  cases xs[j]? <;> rfl
@[simp] theorem setS0 (st : List D) (r : Nat) (e : D) : setS st r [] e = st.set r e := by
  unfold setS
  cases q : st[r]? with
  | some d => simp [setP]
  | none => simp at q; simp [List.set_eq_of_length_le q]
/-- another tree at a place of a slot's tree -/
def setAt (st : List D) (r : Nat) (p : Pth) (e : D) : Option D → List D
  | some d => st.set r (setP d p e)
  | none => st
@[simp] theorem setAt_some (st : List D) (r : Nat) (p : Pth) (e d : D) : setAt st r p e (some d) = st.set r (setP d p e) := rfl
@[simp] theorem setSc (st : List D) (r j : Nat) (p : Pth) (e : D) : setS st r (j :: p) e = setAt st r (j :: p) e st[r]? := by
  unfold setS setAt
  cases st[r]? <;> rfl
@[simp] theorem setP0 (d e : D) : setP d [] e = e := by simp [setP]
def setPk (k : Kd) (xs : List D) (j : Nat) (p : Pth) (e : D) : Option D → D
  | some x => .nd k (xs.set j (setP x p e))
  | none => .nd k xs
@[simp] theorem setPk_some (k : Kd) (xs : List D) (j : Nat) (p : Pth) (e x : D) : setPk k xs j p e (some x) = .nd k (xs.set j (setP x p e)) := rfl
@[simp] theorem setPc (k : Kd) (xs : List D) (j : Nat) (p : Pth) (e : D) : setP (.nd k xs) (j :: p) e = setPk k xs j p e xs[j]? := by
  first
    | (simp only [setP, setPk]; done)
    | (simp only [setP, setPk]; cases xs[j]? <;> rfl)
def plD0 (r : Nat) (p : Pth) (d : D) : Option PL := match d with
  | .nd _ _ => some (.pth r p)
  | .un => none
  | .scr _ => none
  | d => some (.sc d)
@[simp] theorem plOf_eq (st : List D) (r : Nat) (p : Pth) : plOf st r p = obn (getS st r p) (plD0 r p) := by
  unfold plOf obn
  cases getS st r p with
  | none => rfl
  | some d => cases d <;> rfl
@[simp] theorem plD0_nd (r : Nat) (p : Pth) (k : Kd) (xs : List D) : plD0 r p (.nd k xs) = some (.pth r p) := rfl
@[simp] theorem plD0_int (r : Nat) (p : Pth) (i : Int) : plD0 r p (.int i) = some (.sc (.int i)) := rfl
@[simp] theorem plD0_bl (r : Nat) (p : Pth) (i : Bool) : plD0 r p (.bl i) = some (.sc (.bl i)) := rfl
@[simp] theorem plD0_str (r : Nat) (p : Pth) (i : Str) : plD0 r p (.str i) = some (.sc (.str i)) := rfl
@[simp] theorem plD0_non (r : Nat) (p : Pth) : plD0 r p .non = some (.sc .non) := rfl
@[simp] theorem qV_eq (i : Nat) (st : List D) : qV i st = obn st[i]? (plD0 i []) := by
  unfold qV
  rw [plOf_eq, getS0]
/-- two quiet things -/
def q2 (a b : Option PL) (f : PL → PL → Option PL) : Option PL := match a, b with
  | some p, some q => f p q
  | _, _ => none
@[simp] theorem q2_some (p q : PL) (f : PL → PL → Option PL) : q2 (some p) (some q) f = f p q := rfl
/-- what stands at a place, by an index -/
def ixAt (st : List D) (r : Nat) (p : Pth) (i : Int) (d : D) : Option PL := match d with
  | .nd (.lst _) xs => obn (ixN xs.length i) fun j => plOf st r (p ++ [j])
  | .nd .tup xs => obn (ixN xs.length i) fun j => plOf st r (p ++ [j])
  | _ => none
@[simp] theorem ixAt_lst (st : List D) (r : Nat) (p : Pth) (i : Int) (f : Fl) (xs : List D) : ixAt st r p i (.nd (.lst f) xs) = obn (ixN xs.length i) fun j => plOf st r (p ++ [j]) := rfl
@[simp] theorem ixAt_tup (st : List D) (r : Nat) (p : Pth) (i : Int) (xs : List D) : ixAt st r p i (.nd .tup xs) = obn (ixN xs.length i) fun j => plOf st r (p ++ [j]) := rfl
def ixQ (st : List D) (a b : PL) : Option PL := match a, b with
  | .pth r p, .sc (.int i) => obn (getS st r p) (ixAt st r p i)
  | .sc (.str z), .sc (.int i) => chkO (z.length ≤ sizeLine) (obn (atI z.cps.toList i) fun c => some (.sc (.str ⟨#[c]⟩)))
  | _, _ => none
@[simp] theorem ixQ_pth (st : List D) (r : Nat) (p : Pth) (i : Int) : ixQ st (.pth r p) (.sc (.int i)) = obn (getS st r p) (ixAt st r p i) := rfl
@[simp] theorem ixQ_str (st : List D) (z : Str) (i : Int) : ixQ st (.sc (.str z)) (.sc (.int i)) = chkO (z.length ≤ sizeLine) (obn (atI z.cps.toList i) fun c => some (.sc (.str ⟨#[c]⟩))) := rfl
@[simp] theorem qIx_eq (qa qb : List D → Option PL) (st : List D) : qIx qa qb st = q2 (qa st) (qb st) (ixQ st) := by
  unfold qIx q2
  cases qa st with
  | none => rfl
  | some a =>
    cases qb st with
    | none => cases a with
      | pth r p => rfl
      | sc d => cases d <;> rfl
    | some b =>
      cases a with
      | pth r p =>
        cases b with
        | pth r' p' => rfl
        | sc d =>
          cases d with
          | int i =>
            simp only [ixQ]
            cases getS st r p with
            | none => rfl
            | some d =>
              cases d with
              | nd k xs => cases k <;> simp only [obn, ixAt] <;> cases ixN xs.length i <;> rfl
              | _ => rfl
          | _ => rfl
      | sc d =>
        cases d with
        | str z =>
          cases b with
          | pth r' p' => rfl
          | sc d =>
            cases d with
            | int i =>
              simp only [ixQ, chkO, obn]
              split
              · cases atI z.cps.toList i <;> rfl
              · rfl
            | _ => rfl
        | _ => cases b with
          | pth r' p' => rfl
          | sc d => cases d <;> rfl
def opQ (g : G2) (a b : PL) : Option PL := match a, b with
  | .sc x, .sc y => obn (g x y) fun d => some (.sc d)
  | _, _ => none
@[simp] theorem opQ_sc (g : G2) (x y : D) : opQ g (.sc x) (.sc y) = obn (g x y) fun d => some (.sc d) := rfl
@[simp] theorem qOp_eq (g : G2) (qa qb : List D → Option PL) (st : List D) : qOp g qa qb st = q2 (qa st) (qb st) (opQ g) := by
  unfold qOp q2
  cases qa st with
  | none => rfl
  | some a =>
    cases qb st with
    | none => cases a <;> rfl
    | some b =>
      cases a <;> cases b <;> try rfl
      simp only [opQ, obn]
      split <;> simp_all
@[simp] theorem mOp_eq (g : G2) (ma mb : List D → R D) (st : List D) : mOp g ma mb st = (ma st).bind fun x st1 => (mb st1).bind fun y st2 => R.of (g x y) fun d => .ok d st2 := by
  unfold mOp R.of
  congr 1; funext x st1; congr 1; funext y st2
  cases g x y <;> rfl
@[simp] theorem gAdd_int (i j : Int) : gAdd (.int i) (.int j) = some (.int (i + j)) := rfl
@[simp] theorem gAdd_str (x y : Str) : gAdd (.str x) (.str y) = chkO (x.length + y.length ≤ sizeLine) (some (.str (x ++ y))) := rfl
@[simp] theorem gSub_int (i j : Int) : gSub (.int i) (.int j) = some (.int (i - j)) := rfl
@[simp] theorem gLt_int (i j : Int) : gLt (.int i) (.int j) = some (.bl (decide (i < j))) := rfl
@[simp] theorem gLe_int (i j : Int) : gLe (.int i) (.int j) = some (.bl (decide (i ≤ j))) := rfl
@[simp] theorem gGt_int (i j : Int) : gGt (.int i) (.int j) = some (.bl (decide (j < i))) := rfl
@[simp] theorem gGe_int (i j : Int) : gGe (.int i) (.int j) = some (.bl (decide (j ≤ i))) := rfl
@[simp] theorem gMax_int (i j : Int) : gMax (.int i) (.int j) = some (.int (max i j)) := rfl
@[simp] theorem gMin_int (i j : Int) : gMin (.int i) (.int j) = some (.int (min i j)) := rfl
theorem gI_chk (f : Int → Int → D) (c : Int → Int → Prop) [∀ i j, Decidable (c i j)] (i j : Int) : gI f (fun i j => decide (c i j)) (.int i) (.int j) = chkO (c i j) (some (f i j)) := by
  unfold gI chkO
  simp only [decide_eq_true_eq]
@[simp] theorem gMul_int (i j : Int) : gMul (.int i) (.int j) = chkO (CMul i j) (some (.int (i * j))) := gI_chk _ _ _ _
@[simp] theorem gDiv_int (i j : Int) : gDiv (.int i) (.int j) = chkO (0 < j ∧ j.natAbs.log2 < 9000) (some (.int (i / j))) := gI_chk _ (fun _ j => 0 < j ∧ j.natAbs.log2 < 9000) _ _
@[simp] theorem gMod_int (i j : Int) : gMod (.int i) (.int j) = chkO (0 < j) (some (.int (i % j))) := gI_chk _ (fun _ j => 0 < j) _ _
@[simp] theorem gPow_int (i j : Int) : gPow (.int i) (.int j) = chkO (0 ≤ j ∧ j ≤ 1000000 ∧ i.natAbs < 2 ^ 64) (some (.int (i ^ j.toNat))) := gI_chk _ (fun i j => 0 ≤ j ∧ j ≤ 1000000 ∧ i.natAbs < 2 ^ 64) _ _
/-- one quiet thing -/
@[simp] theorem qNeg_eq (qa : List D → Option PL) (st : List D) : qNeg qa st = obn (qa st) fun p => match p with
    | .sc (.int i) => some (.sc (.int (-i)))
    | _ => none := by
  unfold qNeg obn
  cases qa st with
  | none => rfl
  | some a =>
    cases a with
    | pth r p => rfl
    | sc d => cases d <;> rfl
def lenQ (st : List D) (p : PL) : Option PL := match p with
  | .pth r p => obn (getS st r p) fun d => match d with
    | .nd (.lst _) xs => some (.sc (.int xs.length))
    | .nd .tup xs => some (.sc (.int xs.length))
    | _ => none
  | .sc (.str z) => chkO (z.length ≤ sizeLine) (some (.sc (.int z.length)))
  | _ => none
@[simp] theorem lenQ_pth (st : List D) (r : Nat) (p : Pth) : lenQ st (.pth r p) = obn (getS st r p) fun d => match d with
    | .nd (.lst _) xs => some (.sc (.int xs.length))
    | .nd .tup xs => some (.sc (.int xs.length))
    | _ => none := rfl
@[simp] theorem lenQ_str (st : List D) (z : Str) : lenQ st (.sc (.str z)) = chkO (z.length ≤ sizeLine) (some (.sc (.int z.length))) := rfl
@[simp] theorem qLen_eq (qa : List D → Option PL) (st : List D) : qLen qa st = obn (qa st) (lenQ st) := by
  unfold qLen obn
  cases qa st with
  | none => rfl
  | some a =>
    cases a with
    | pth r p =>
      simp only [lenQ, obn]
      cases getS st r p with
      | none => rfl
      | some d => cases d with
        | nd k xs => cases k <;> rfl
        | _ => rfl
    | sc d => cases d <;> rfl
@[simp] theorem plD_sc (st : List D) (d : D) : plD st (.sc d) = some d := rfl
@[simp] theorem plD_pth (st : List D) (r : Nat) (p : Pth) : plD st (.pth r p) = getS st r p := rfl
@[simp] theorem qEq_eq (neg : Bool) (qa qb : List D → Option PL) (st : List D) : qEq neg qa qb st = q2 (qa st) (qb st) fun p q => obn (plD st p) fun x => obn (plD st q) fun y => obn (eqD x y) fun b => some (.sc (.bl (neg ^^ b))) := by
  unfold qEq q2
  cases qa st with
  | none => rfl
  | some a =>
    cases qb st with
    | none => rfl
    | some b =>
      simp only [obn]
      cases plD st a with
      | none => rfl
      | some x =>
        cases plD st b with
        | none => rfl
        | some y =>
          simp only
          cases eqD x y with
          | none => rfl
          | some b => cases neg <;> cases b <;> rfl
@[simp] theorem mEq_eq (neg : Bool) (ma mb : List D → R D) (st : List D) : mEq neg ma mb st = (ma st).bind fun x st1 => (mb st1).bind fun y st2 => R.of (eqD x y) fun b => .ok (.bl (neg ^^ b)) st2 := by
  unfold mEq
  congr 1; funext x st1; congr 1; funext y st2
  cases eqD x y with
  | none => rfl
  | some b => cases neg <;> cases b <;> rfl
@[simp] theorem qIsN_eq (neg : Bool) (qa : List D → Option PL) (st : List D) : qIsN neg qa st = obn (qa st) fun p => match p with
    | .sc d => some (.sc (.bl (neg ^^ isNonD d)))
    | .pth _ _ => some (.sc (.bl neg)) := by
  unfold qIsN obn
  cases qa st with
  | none => rfl
  | some a => cases a <;> cases neg <;> simp
@[simp] theorem mIsN_eq (neg : Bool) (ma : List D → R D) (st : List D) : mIsN neg ma st = (ma st).bind fun d st' => match d with
    | .un => .stuck
    | .scr _ => .stuck
    | d => .ok (.bl (neg ^^ isNonD d)) st' := by
  unfold mIsN
  congr 1; funext d st'
  cases d <;> cases neg <;> simp
@[simp] theorem qIsi_eq (n : String) (qa : List D → Option PL) (st : List D) : qIsi n qa st = obn (qa st) fun p => obn (plD st p) fun d => obn (isiD n d) fun b => some (.sc (.bl b)) := by
  unfold qIsi obn
  cases qa st with
  | none => rfl
  | some a =>
    simp only
    cases plD st a with
    | none => rfl
    | some d => simp only; cases isiD n d <;> rfl
/-! #### values -/
def quR (st : List D) (p : PL) : R D := match p with
  | .sc d => .ok d st
  | .pth r p => R.of (getS st r p) fun e => .ok e.frz (setS st r p e.frz)
@[simp] theorem quR_sc (st : List D) (d : D) : quR st (.sc d) = .ok d st := rfl
@[simp] theorem quR_pth (st : List D) (r : Nat) (p : Pth) : quR st (.pth r p) = R.of (getS st r p) fun e => .ok e.frz (setS st r p e.frz) := rfl
@[simp] theorem mQ_eq (q : List D → Option PL) (st : List D) : mQ q st = R.of (q st) (quR st) := by
  unfold mQ R.of
  cases q st with
  | none => rfl
  | some a =>
    cases a with
    | sc d => rfl
    | pth r p => simp only [quR, R.of]; cases getS st r p <;> rfl
def mvR (i : Nat) (st : List D) (d : D) : R D := match d with
  | .un => .stuck
  | d => .ok d (st.set i .un)
@[simp] theorem mvR_nd (i : Nat) (st : List D) (k : Kd) (xs : List D) : mvR i st (.nd k xs) = .ok (.nd k xs) (st.set i .un) := rfl
@[simp] theorem mvR_int (i : Nat) (st : List D) (z : Int) : mvR i st (.int z) = .ok (.int z) (st.set i .un) := rfl
@[simp] theorem mvR_bl (i : Nat) (st : List D) (z : Bool) : mvR i st (.bl z) = .ok (.bl z) (st.set i .un) := rfl
@[simp] theorem mvR_str (i : Nat) (st : List D) (z : Str) : mvR i st (.str z) = .ok (.str z) (st.set i .un) := rfl
@[simp] theorem mvR_non (i : Nat) (st : List D) : mvR i st .non = .ok .non (st.set i .un) := rfl
@[simp] theorem mMove_eq (i : Nat) (st : List D) : mMove i st = R.of st[i]? (mvR i st) := by
  unfold mMove R.of
  cases st[i]? with
  | none => rfl
  | some d => cases d <;> rfl
def tQ (st : List D) (p : PL) : R Bool := match p with
  | .sc (.bl b) => .ok b st
  | _ => .stuck
@[simp] theorem tQ_bl (st : List D) (b : Bool) : tQ st (.sc (.bl b)) = .ok b st := rfl
@[simp] theorem mTQ_eq (q : List D → Option PL) (st : List D) : mTQ q st = R.of (q st) (tQ st) := by
  unfold mTQ R.of
  cases q st with
  | none => rfl
  | some a =>
    cases a with
    | pth r p => rfl
    | sc d => cases d <;> rfl
def tD (d : D) (st : List D) : R Bool := match d with
  | .bl b => .ok b st
  | _ => .stuck
@[simp] theorem tD_bl (st : List D) (b : Bool) : tD (.bl b) st = .ok b st := rfl
@[simp] theorem mTE_eq (m : List D → R D) (st : List D) : mTE m st = (m st).bind tD := rfl
@[simp] theorem mNotT_eq (t : List D → R Bool) (st : List D) : mNotT t st = (t st).bind fun b st' => .ok (!b) st' := rfl
@[simp] theorem mAndT_eq (t u : List D → R Bool) (st : List D) : mAndT t u st = (t st).bind fun b st' => R.br b u (fun st' => .ok false st') st' := rfl
@[simp] theorem mOrT_eq (t u : List D → R Bool) (st : List D) : mOrT t u st = (t st).bind fun b st' => R.br b (fun st' => .ok true st') u st' := rfl
@[simp] theorem mNotV_eq (m : List D → R D) (st : List D) : mNotV m st = (m st).bind fun d st' => (tD d st').bind fun b st' => .ok (.bl (!b)) st' := by
  unfold mNotV
  congr 1; funext d st'
  cases d <;> rfl
@[simp] theorem mAndV_eq (m n : List D → R D) (st : List D) : mAndV m n st = (m st).bind fun d st' => (tD d st').bind fun b st' => R.br b n (fun st' => .ok (.bl false) st') st' := by
  unfold mAndV
  congr 1; funext d st'
  cases d with
  | bl b => cases b <;> rfl
  | _ => rfl
@[simp] theorem mOrV_eq (m n : List D → R D) (st : List D) : mOrV m n st = (m st).bind fun d st' => (tD d st').bind fun b st' => R.br b (fun st' => .ok (.bl true) st') n st' := by
  unfold mOrV
  congr 1; funext d st'
  cases d with
  | bl b => cases b <;> rfl
  | _ => rfl
@[simp] theorem mNil_eq (st : List D) : mNil st = .ok [] st := rfl
@[simp] theorem mCons_eq (m : List D → R D) (ms : List D → R (List D)) (st : List D) : mCons m ms st = (m st).bind fun d st1 => (ms st1).bind fun xs st2 => .ok (d :: xs) st2 := rfl
@[simp] theorem mLst_eq (ml : List D → R (List D)) (st : List D) : mLst ml st = (ml st).bind fun xs st1 => chk (xs.length ≤ sizeLine) (.ok (.nd (.lst .own) xs) st1) := rfl
@[simp] theorem mTup_eq (ml : List D → R (List D)) (st : List D) : mTup ml st = (ml st).bind fun xs st1 => chk (xs.length ≤ sizeLine) (.ok (.nd .tup xs) st1) := rfl
@[simp] theorem aNil_eq (st : List D) : aNil st = .ok [] st := rfl
@[simp] theorem aVal_eq (m : List D → R D) (ms : List D → R (List AD)) (st : List D) : aVal m ms st = (m st).bind fun d st1 => (ms st1).bind fun xs st2 => .ok (.val d :: xs) st2 := rfl
def adOf : PL → AD
  | .sc d => .val d
  | .pth r p => .lnd r p
@[simp] theorem adOf_sc (d : D) : adOf (.sc d) = .val d := rfl
@[simp] theorem adOf_pth (r : Nat) (p : Pth) : adOf (.pth r p) = .lnd r p := rfl
@[simp] theorem aPth_eq (q : List D → Option PL) (ms : List D → R (List AD)) (st : List D) : aPth q ms st = R.of (q st) fun p => (ms st).bind fun xs st2 => .ok (adOf p :: xs) st2 := by
  unfold aPth R.of
  cases q st with
  | none => rfl
  | some a => cases a <;> rfl
@[simp] theorem mCall_eq (ms : List Md) (F : Fn) (ma : List D → R (List AD)) (st : List D) : mCall ms F ma st = (ma st).bind fun as st1 => callR ms F as st1 := rfl
def FR.k (r : FR) (f : D → List D → R D) (g : Ex → List D → R D) : R D := match r with
  | .ok d outs => f d outs
  | .ex e outs => g e outs
  | .stuck => .stuck
@[simp] theorem FR.k_ok (d : D) (outs : List D) (f : D → List D → R D) (g : Ex → List D → R D) : (FR.ok d outs).k f g = f d outs := rfl
@[simp] theorem FR.k_ex (d : Ex) (outs : List D) (f : D → List D → R D) (g : Ex → List D → R D) : (FR.ex d outs).k f g = g d outs := rfl
@[simp] theorem callR_eq (ms : List Md) (F : Fn) (as : List AD) (st : List D) : callR ms F as st = R.of (takeA ms as st) fun z => R.of (argsOf ms as z.2 z.1) fun args =>
    (F args).k (fun d outs => chk (D.noBorL (d :: outs) = true) (R.of (putA ms as outs z.1) fun st2 => .ok d st2)) (fun e outs => chk (D.noBorL (e.ds ++ outs) = true) (R.of (putA ms as outs z.1) fun st2 => .ex e st2)) := by
  unfold callR R.of chk
  cases takeA ms as st with
  | none => rfl
  | some z =>
    obtain ⟨st1, bs⟩ := z
    simp only
    cases argsOf ms as bs st1 with
    | none => rfl
    | some args =>
      simp only [FR.k]
      cases F args with
      | stuck => rfl
      | ok d outs =>
        simp only
        split
        · cases putA ms as outs st1 <;> rfl
        · rfl
      | ex d outs =>
        simp only
        split
        · cases putA ms as outs st1 <;> rfl
        · rfl
@[simp] theorem takeA_nil (st : List D) : takeA [] [] st = some (st, []) := rfl
@[simp] theorem takeA_bov (d : D) (ms : List Md) (as : List AD) (st : List D) : takeA (.bo :: ms) (.val d :: as) st = obn (takeA ms as st) fun z => some (z.1, d :: z.2) := by
  simp only [takeA, obn]; cases takeA ms as st <;> simp
@[simp] theorem takeA_iov (d : D) (ms : List Md) (as : List AD) (st : List D) : takeA (.io :: ms) (.val d :: as) st = obn (takeA ms as st) fun z => some (z.1, d :: z.2) := by
  simp only [takeA, obn]; cases takeA ms as st <;> simp
@[simp] theorem takeA_fzv (d : D) (ms : List Md) (as : List AD) (st : List D) : takeA (.fz :: ms) (.val d :: as) st = obn (takeA ms as st) fun z => some (z.1, d.frz :: z.2) := by
  simp only [takeA, obn]; cases takeA ms as st <;> simp
@[simp] theorem takeA_iol (r : Nat) (p : Pth) (ms : List Md) (as : List AD) (st : List D) : takeA (.io :: ms) (.lnd r p :: as) st = obn (getS st r p) fun e => obn (takeA ms as (setS st r p .un)) fun z => some (z.1, e :: z.2) := by
  simp only [takeA, obn]
  cases getS st r p with
  | none => rfl
  | some e => simp only; cases takeA ms as (setS st r p .un) <;> rfl
@[simp] theorem takeA_fzl (r : Nat) (p : Pth) (ms : List Md) (as : List AD) (st : List D) : takeA (.fz :: ms) (.lnd r p :: as) st = obn (getS st r p) fun e => obn (takeA ms as (setS st r p e.frz)) fun z => some (z.1, e.frz :: z.2) := by
  simp only [takeA, obn]
  cases getS st r p with
  | none => rfl
  | some e => simp only; cases takeA ms as (setS st r p e.frz) <;> rfl
@[simp] theorem takeA_bol (r : Nat) (p : Pth) (ms : List Md) (as : List AD) (st : List D) : takeA (.bo :: ms) (.lnd r p :: as) st = obn (takeA ms as st) fun z => some (z.1, .un :: z.2) := by
  simp only [takeA, obn]
  cases takeA ms as st <;> rfl
@[simp] theorem argsOf_nil (st : List D) : argsOf [] [] [] st = some [] := rfl
@[simp] theorem argsOf_bov (d b : D) (ms : List Md) (as : List AD) (bs st : List D) : argsOf (.bo :: ms) (.val d :: as) (b :: bs) st = obn (argsOf ms as bs st) fun l => some (b.len :: l) := by
  simp only [argsOf, obn]; cases argsOf ms as bs st <;> rfl
@[simp] theorem argsOf_bo (r : Nat) (p : Pth) (b : D) (ms : List Md) (as : List AD) (bs st : List D) : argsOf (.bo :: ms) (.lnd r p :: as) (b :: bs) st = obn (getS st r p) fun e => obn (argsOf ms as bs st) fun l => some (e.len :: l) := by
  simp only [argsOf, obn]
  cases getS st r p with
  | none => rfl
  | some e => simp only; cases argsOf ms as bs st <;> rfl
@[simp] theorem argsOf_iov (d b : D) (ms : List Md) (as : List AD) (bs st : List D) : argsOf (.io :: ms) (.val d :: as) (b :: bs) st = obn (argsOf ms as bs st) fun l => some (b :: l) := by
  simp only [argsOf, obn]; cases argsOf ms as bs st <;> rfl
@[simp] theorem argsOf_io (r : Nat) (p : Pth) (b : D) (ms : List Md) (as : List AD) (bs st : List D) : argsOf (.io :: ms) (.lnd r p :: as) (b :: bs) st = obn (getS st r p) fun e => obn (argsOf ms as bs st) fun l => some (b :: l) := by
  simp only [argsOf, obn]
  cases getS st r p with
  | none => rfl
  | some e => simp only; cases argsOf ms as bs st <;> rfl
@[simp] theorem argsOf_fz (a : AD) (b : D) (ms : List Md) (as : List AD) (bs st : List D) : argsOf (.fz :: ms) (a :: as) (b :: bs) st = obn (argsOf ms as bs st) fun l => some (b :: l) := by
  simp only [argsOf, obn]; cases argsOf ms as bs st <;> rfl
@[simp] theorem putA_nil (st : List D) : putA [] [] [] st = some st := rfl
@[simp] theorem putA_io (r : Nat) (p : Pth) (ms : List Md) (as : List AD) (o : D) (os st : List D) : putA (.io :: ms) (.lnd r p :: as) (o :: os) st = obn (putA ms as os st) fun st' => chkO ((isUn (getS st' r p) && (D.noOwn o || spS st' r p)) = true) (some (setS st' r p o)) := by
  simp only [putA, obn]
  cases putA ms as os st <;> rfl
@[simp] theorem putA_bo (a : AD) (ms : List Md) (as : List AD) (o : D) (os st : List D) : putA (.bo :: ms) (a :: as) (o :: os) st = putA ms as os st := by
  cases a <;> simp [putA]
@[simp] theorem putA_fz (a : AD) (ms : List Md) (as : List AD) (o : D) (os st : List D) : putA (.fz :: ms) (a :: as) (o :: os) st = putA ms as os st := by
  cases a <;> simp [putA]
@[simp] theorem putA_iov (d : D) (ms : List Md) (as : List AD) (o : D) (os st : List D) : putA (.io :: ms) (.val d :: as) (o :: os) st = putA ms as os st := by
  simp [putA]
@[simp] theorem isUn_un : isUn (some .un) = true := rfl
@[simp] theorem spS0 (st : List D) (r : Nat) (d : D) (h : st[r]? = some d) : spS st r [] = true := by
  unfold spS; rw [h]; simp [spOk]
/-! #### lists -/
def appR (st : List D) (d : D) (r : Nat) (p : Pth) (x : D) : R D := match x with
  | .nd (.lst .own) xs => chk (xs.length < 16777216) (.ok .non (setS st r p (.nd (.lst .own) (xs ++ [d]))))
  | _ => .stuck
@[simp] theorem appR_own (st : List D) (d : D) (r : Nat) (p : Pth) (xs : List D) : appR st d r p (.nd (.lst .own) xs) = chk (xs.length < 16777216) (.ok .non (setS st r p (.nd (.lst .own) (xs ++ [d])))) := rfl
def lstK {α : Type} (d : D) (k : R α) : R α := match d with
  | .nd (.lst _) _ => k
  | _ => .stuck
@[simp] theorem lstK_lst {α : Type} (f : Fl) (xs : List D) (k : R α) : lstK (.nd (.lst f) xs) k = k := rfl
def pthK {α : Type} (pl : PL) (f : Nat → Pth → R α) : R α := match pl with
  | .pth r p => f r p
  | .sc _ => .stuck
@[simp] theorem pthK_pth {α : Type} (r : Nat) (p : Pth) (f : Nat → Pth → R α) : pthK (.pth r p) f = f r p := rfl
@[simp] theorem mAppend_eq (qo : List D → Option PL) (mb : List D → R D) (st : List D) : mAppend qo mb st = R.of (qo st) fun pl => pthK pl fun r p => R.of (getS st r p) fun x => lstK x ((mb st).bind fun d st1 => R.of (getS st1 r p) (appR st1 d r p)) := by
  unfold mAppend R.of
  cases qo st with
  | none => rfl
  | some pl =>
    cases pl with
    | sc d => rfl
    | pth r p =>
      simp only [pthK]
      cases getS st r p with
      | none => rfl
      | some x =>
        cases x with
        | nd k xs =>
          cases k with
          | lst f =>
            simp only [lstK]
            congr 1; funext d st1
            cases getS st1 r p with
            | none => rfl
            | some y =>
              cases y with
              | nd k ys =>
                cases k with
                | lst g => cases g <;> rfl
                | _ => rfl
              | _ => rfl
          | _ => rfl
        | _ => rfl
def extR (st : List D) (ys : List D) (r : Nat) (p : Pth) (x : D) : R D := match x with
  | .nd (.lst .own) xs => chk (xs.length + ys.length ≤ 16777216) (.ok .non (setS st r p (.nd (.lst .own) (xs ++ ys))))
  | _ => .stuck
@[simp] theorem extR_own (st : List D) (ys : List D) (r : Nat) (p : Pth) (xs : List D) : extR st ys r p (.nd (.lst .own) xs) = chk (xs.length + ys.length ≤ 16777216) (.ok .non (setS st r p (.nd (.lst .own) (xs ++ ys)))) := rfl
def lstF {α : Type} (d : D) (k : List D → R α) : R α := match d with
  | .nd (.lst _) xs => k xs
  | _ => .stuck
@[simp] theorem lstF_lst {α : Type} (f : Fl) (xs : List D) (k : List D → R α) : lstF (.nd (.lst f) xs) k = k xs := rfl
@[simp] theorem mExtend_eq (qo : List D → Option PL) (mb : List D → R D) (st : List D) : mExtend qo mb st = R.of (qo st) fun pl => pthK pl fun r p => R.of (getS st r p) fun x => lstK x ((mb st).bind fun d st1 => lstF d fun ys => R.of (getS st1 r p) (extR st1 ys r p)) := by
  unfold mExtend R.of
  cases qo st with
  | none => rfl
  | some pl =>
    cases pl with
    | sc d => rfl
    | pth r p =>
      simp only [pthK]
      cases getS st r p with
      | none => rfl
      | some x =>
        cases x with
        | nd k xs =>
          cases k with
          | lst f =>
            simp only [lstK]
            congr 1; funext d st1
            cases d with
            | nd kd zs =>
              cases kd with
              | lst fd =>
                simp only [lstF]
                cases getS st1 r p with
                | none => rfl
                | some y =>
                  cases y with
                  | nd k ys =>
                    cases k with
                    | lst g => cases g <;> rfl
                    | _ => rfl
                  | _ => rfl
              | _ => rfl
            | _ => rfl
          | _ => rfl
        | _ => rfl
def ixS (st : List D) (d : D) (r : Nat) (p : Pth) (i : Int) (x : D) : Option (List D) := match x with
  | .nd (.lst .own) xs => obn (ixN xs.length i) fun j => some (setS st r p (.nd (.lst .own) (xs.set j d)))
  | _ => none
@[simp] theorem ixS_own (st : List D) (d : D) (r : Nat) (p : Pth) (i : Int) (xs : List D) : ixS st d r p i (.nd (.lst .own) xs) = obn (ixN xs.length i) fun j => some (setS st r p (.nd (.lst .own) (xs.set j d))) := rfl
def ixG (st : List D) (d : D) (a b : PL) : Option (List D) := match a, b with
  | .pth r p, .sc (.int i) => obn (getS st r p) (ixS st d r p i)
  | _, _ => none
@[simp] theorem ixG_pth (st : List D) (d : D) (r : Nat) (p : Pth) (i : Int) : ixG st d (.pth r p) (.sc (.int i)) = obn (getS st r p) (ixS st d r p i) := rfl
@[simp] theorem gIx_eq (qo qi : List D → Option PL) (d : D) (st : List D) : gIx qo qi d st = obn (qo st) fun a => obn (qi st) fun b => ixG st d a b := by
  unfold gIx obn
  cases qo st with
  | none => rfl
  | some a =>
    cases qi st with
    | none => cases a <;> rfl
    | some b =>
      cases a with
      | sc x => rfl
      | pth r p =>
        cases b with
        | pth r' p' => rfl
        | sc x =>
          cases x with
          | int i =>
            simp only [ixG, obn]
            cases getS st r p with
            | none => rfl
            | some y =>
              cases y with
              | nd k xs =>
                cases k with
                | lst f =>
                  cases f with
                  | own => simp only [ixS, obn]; cases ixN xs.length i <;> rfl
                  | _ => rfl
                | _ => rfl
              | _ => rfl
          | _ => rfl
def lisR (st : List D) (r : Nat) (p : Pth) (x : D) : R D := match x with
  | .nd (.lst f) xs => .ok (.nd (.lst .own) (D.setL .fz xs)) (setS st r p (.nd (.lst f) (D.setL .fz xs)))
  | .nd .tup xs => .ok (.nd (.lst .own) (D.setL .fz xs)) (setS st r p (.nd .tup (D.setL .fz xs)))
  | _ => .stuck
@[simp] theorem lisR_lst (st : List D) (r : Nat) (p : Pth) (f : Fl) (xs : List D) : lisR st r p (.nd (.lst f) xs) = .ok (.nd (.lst .own) (D.setL .fz xs)) (setS st r p (.nd (.lst f) (D.setL .fz xs))) := rfl
@[simp] theorem lisR_tup (st : List D) (r : Nat) (p : Pth) (xs : List D) : lisR st r p (.nd .tup xs) = .ok (.nd (.lst .own) (D.setL .fz xs)) (setS st r p (.nd .tup (D.setL .fz xs))) := rfl
@[simp] theorem mListQ_eq (qa : List D → Option PL) (st : List D) : mListQ qa st = R.of (qa st) fun pl => pthK pl fun r p => R.of (getS st r p) (lisR st r p) := by
  unfold mListQ R.of
  cases qa st with
  | none => rfl
  | some pl =>
    cases pl with
    | sc d => rfl
    | pth r p =>
      simp only [pthK]
      cases getS st r p with
      | none => rfl
      | some x => cases x with
        | nd k xs => cases k <;> rfl
        | _ => rfl
def sqD {α : Type} (d : D) (k : List D → R α) : R α := match d with
  | .nd (.lst _) xs => k xs
  | .nd .tup xs => k xs
  | _ => .stuck
@[simp] theorem sqD_lst {α : Type} (f : Fl) (xs : List D) (k : List D → R α) : sqD (.nd (.lst f) xs) k = k xs := rfl
@[simp] theorem sqD_tup {α : Type} (xs : List D) (k : List D → R α) : sqD (.nd .tup xs) k = k xs := rfl
@[simp] theorem mListE_eq (ma : List D → R D) (st : List D) : mListE ma st = (ma st).bind fun d st1 => sqD d fun xs => .ok (.nd (.lst .own) xs) st1 := by
  unfold mListE
  rfl
def int2 {α : Type} (x y : D) (k : Int → Int → R α) : R α := match x, y with
  | .int i, .int j => k i j
  | _, _ => .stuck
@[simp] theorem int2_int {α : Type} (i j : Int) (k : Int → Int → R α) : int2 (.int i) (.int j) k = k i j := rfl
@[simp] theorem mListR_eq (ma mb : List D → R D) (st : List D) : mListR ma mb st = (ma st).bind fun x st1 => (mb st1).bind fun y st2 => int2 x y fun i j => chk (RgOk i j) (.ok (.nd (.lst .own) (rangeD i j)) st2) := by
  unfold mListR
  congr 1
@[simp] theorem mK_eq (d : D) (st : List D) : mK d st = .ok d st := rfl
@[simp] theorem oNo_eq (st : List D) : oNo st = some none := rfl
@[simp] theorem oQ_eq (qa : List D → Option PL) (st : List D) : oQ qa st = obn (qa st) fun p => match p with
    | .sc (.int i) => some (some i)
    | _ => none := by
  unfold oQ obn
  cases qa st with
  | none => rfl
  | some a =>
    cases a with
    | pth r p => rfl
    | sc d => cases d <;> rfl
def slR (st : List D) (lo hi : Option Int) (r : Nat) (p : Pth) (x : D) : R D := match x with
  | .nd (.lst f) xs => .ok (.nd (.lst .own) (cutL (D.setL .fz xs) lo hi)) (setS st r p (.nd (.lst f) (D.setL .fz xs)))
  | .nd .tup xs => chk (¬ (HT.sIx xs.length 0 lo = 0 ∧ HT.sIx xs.length xs.length hi = xs.length)) (.ok (.nd .tup (cutL (D.setL .fz xs) lo hi)) (setS st r p (.nd .tup (D.setL .fz xs))))
  | _ => .stuck
@[simp] theorem slR_lst (st : List D) (lo hi : Option Int) (r : Nat) (p : Pth) (f : Fl) (xs : List D) : slR st lo hi r p (.nd (.lst f) xs) = .ok (.nd (.lst .own) (cutL (D.setL .fz xs) lo hi)) (setS st r p (.nd (.lst f) (D.setL .fz xs))) := rfl
@[simp] theorem slR_tup (st : List D) (lo hi : Option Int) (r : Nat) (p : Pth) (xs : List D) : slR st lo hi r p (.nd .tup xs) = chk (¬ (HT.sIx xs.length 0 lo = 0 ∧ HT.sIx xs.length xs.length hi = xs.length)) (.ok (.nd .tup (cutL (D.setL .fz xs) lo hi)) (setS st r p (.nd .tup (D.setL .fz xs)))) := rfl
def slQ (st : List D) (lo hi : Option Int) (pl : PL) : R D := match pl with
  | .pth r p => R.of (getS st r p) (slR st lo hi r p)
  | .sc (.str z) => chk (z.length ≤ sizeLine) (.ok (.str (cutS z lo hi)) st)
  | _ => .stuck
@[simp] theorem slQ_pth (st : List D) (lo hi : Option Int) (r : Nat) (p : Pth) : slQ st lo hi (.pth r p) = R.of (getS st r p) (slR st lo hi r p) := rfl
@[simp] theorem slQ_str (st : List D) (lo hi : Option Int) (z : Str) : slQ st lo hi (.sc (.str z)) = chk (z.length ≤ sizeLine) (.ok (.str (cutS z lo hi)) st) := rfl
@[simp] theorem mSlQ_eq (qa : List D → Option PL) (ql qh : List D → Option (Option Int)) (st : List D) : mSlQ qa ql qh st = R.of (ql st) fun lo => R.of (qh st) fun hi => R.of (qa st) (slQ st lo hi) := by
  unfold mSlQ R.of
  cases ql st with
  | none => rfl
  | some lo =>
    cases qh st with
    | none => rfl
    | some hi =>
      simp only
      cases qa st with
      | none => rfl
      | some pl =>
        cases pl with
        | sc d => cases d <;> rfl
        | pth r p =>
          simp only [slQ, R.of]
          cases getS st r p with
          | none => rfl
          | some x =>
            cases x with
            | nd k xs =>
              cases k with
              | tup => simp only [slR, chk]; split <;> simp_all
              | _ => rfl
            | _ => rfl
@[simp] theorem mAdd_eq (ma mb : List D → R D) (st : List D) : mAdd ma mb st = (ma st).bind fun x st1 => (mb st1).bind fun y st2 => mAddR x y st2 := rfl
@[simp] theorem mAddR_lst (f g : Fl) (xs ys st : List D) : mAddR (.nd (.lst f) xs) (.nd (.lst g) ys) st = chk (xs.length + ys.length ≤ sizeLine) (.ok (.nd (.lst .own) (xs ++ ys)) st) := rfl
@[simp] theorem mAddR_tup (xs ys st : List D) : mAddR (.nd .tup xs) (.nd .tup ys) st = chk (xs.length + ys.length ≤ sizeLine ∧ xs ≠ [] ∧ ys ≠ []) (.ok (.nd .tup (xs ++ ys)) st) := rfl
@[simp] theorem mAddR_int (i j : Int) (st : List D) : mAddR (.int i) (.int j) st = .ok (.int (i + j)) st := rfl
@[simp] theorem mAddR_str (x y : Str) (st : List D) : mAddR (.str x) (.str y) st = chk (x.length + y.length ≤ sizeLine) (.ok (.str (x ++ y)) st) := by
  by_cases h : x.length + y.length ≤ sizeLine
  · simp only [mAddR, gAdd, chk, if_pos h]
  · simp only [mAddR, gAdd, chk, if_neg h]
def scrK (st : List D) (d : D) : R D := match d with
  | .scr ns => .ok (.scr ns) st
  | _ => .stuck
@[simp] theorem scrK_scr (st : List D) (ns : List Int) : scrK st (.scr ns) = .ok (.scr ns) st := rfl
@[simp] theorem mScr_eq (i : Nat) (st : List D) : mScr i st = R.of st[i]? (scrK st) := by
  unfold mScr R.of
  cases st[i]? with
  | none => rfl
  | some d => cases d <;> rfl
def slS (st : List D) (lo hi : Option Int) (d : D) : R D := match d with
  | .scr ns => .ok (.nd (.lst .own) ((cutL ns lo hi).map D.int)) st
  | _ => .stuck
@[simp] theorem slS_scr (st : List D) (lo hi : Option Int) (ns : List Int) : slS st lo hi (.scr ns) = .ok (.nd (.lst .own) ((cutL ns lo hi).map D.int)) st := rfl
theorem cutL_map {α β : Type} (f : α → β) (xs : List α) (lo hi : Option Int) : cutL (xs.map f) lo hi = (cutL xs lo hi).map f := by
  simp [cutL, List.map_take, List.map_drop]
@[simp] theorem mSlScr_eq (ma : List D → R D) (ql qh : List D → Option (Option Int)) (st : List D) : mSlScr ma ql qh st = (ma st).bind fun d st1 => R.of (ql st1) fun lo => R.of (qh st1) fun hi => slS st1 lo hi d := by
  unfold mSlScr
  congr 1; funext d st1
  simp only [R.of]
  cases d <;> cases ql st1 <;> cases qh st1 <;> simp [slS, cutL_map]
def ixR (st : List D) (x y : D) : R D := match x, y with
  | .nd (.lst _) xs, .int i => R.of (atI xs i) fun d => .ok d st
  | .nd .tup xs, .int i => R.of (atI xs i) fun d => .ok d st
  | .str z, .int i => chk (z.length ≤ sizeLine) (R.of (atI z.cps.toList i) fun c => .ok (.str ⟨#[c]⟩) st)
  | _, _ => .stuck
@[simp] theorem ixR_lst (st : List D) (f : Fl) (xs : List D) (i : Int) : ixR st (.nd (.lst f) xs) (.int i) = R.of (atI xs i) fun d => .ok d st := rfl
@[simp] theorem ixR_tup (st : List D) (xs : List D) (i : Int) : ixR st (.nd .tup xs) (.int i) = R.of (atI xs i) fun d => .ok d st := rfl
@[simp] theorem ixR_str (st : List D) (z : Str) (i : Int) : ixR st (.str z) (.int i) = chk (z.length ≤ sizeLine) (R.of (atI z.cps.toList i) fun c => .ok (.str ⟨#[c]⟩) st) := rfl
@[simp] theorem mIxE_eq (ma mb : List D → R D) (st : List D) : mIxE ma mb st = (ma st).bind fun x st1 => (mb st1).bind fun y st2 => ixR st2 x y := by
  unfold mIxE
  congr 1; funext x st1; congr 1; funext y st2
  cases x with
  | nd k xs =>
    cases k <;> cases y <;> simp only [ixR, R.of] <;> cases atI xs _ <;> rfl
  | str z =>
    cases y <;> simp only [ixR, R.of, chk]
    split
    · cases atI z.cps.toList _ <;> rfl
    · rfl
  | _ => cases y <;> rfl
@[simp] theorem mLen_eq (ma : List D → R D) (st : List D) : mLen ma st = (ma st).bind fun d st' => match d with
    | .nd (.lst _) xs => .ok (.int xs.length) st'
    | .nd .tup xs => .ok (.int xs.length) st'
    | .str z => chk (z.length ≤ sizeLine) (.ok (.int z.length) st')
    | _ => .stuck := rfl
/-! #### loops -/
def lstS (d : D) (k : List D → RS) : RS := match d with
  | .nd (.lst _) xs => k xs
  | _ => .stuck
@[simp] theorem lstS_lst (f : Fl) (xs : List D) (k : List D → RS) : lstS (.nd (.lst f) xs) k = k xs := rfl
@[simp] theorem mForL_eq (ma : List D → R D) (g : MG) (b : MS) (st : List D) : mForL ma g b st = (ma st).s fun d st1 => lstS d.frz fun xs => forL g b xs st1 := rfl
def chkS (c : Prop) [Decidable c] (r : RS) : RS := if c then r else .stuck
theorem chkS_of {c : Prop} [Decidable c] {r : RS} (h : c) : chkS c r = r := if_pos h
def int2S (x y : D) (k : Int → Int → RS) : RS := match x, y with
  | .int i, .int j => k i j
  | _, _ => .stuck
@[simp] theorem int2S_int (i j : Int) (k : Int → Int → RS) : int2S (.int i) (.int j) k = k i j := rfl
@[simp] theorem mForR_eq (ma mb : List D → R D) (g : MG) (b : MS) (st : List D) : mForR ma mb g b st = (ma st).s fun x st1 => (mb st1).s fun y st2 => int2S x y fun i j => chkS (-4611686018427387904 ≤ i ∧ i < 4611686018427387904 ∧ -4611686018427387904 ≤ j ∧ j < 4611686018427387904) (forL g b (rangeD i j) st2) := rfl
@[simp] theorem mForR1_eq (ma : List D → R D) (g : MG) (b : MS) (st : List D) : mForR1 ma g b st = (ma st).s fun y st2 => int2S (.int 0) y fun i j => chkS (-4611686018427387904 ≤ i ∧ i < 4611686018427387904 ∧ -4611686018427387904 ≤ j ∧ j < 4611686018427387904) (forL g b (rangeD i j) st2) := rfl
def zipS (x y : D) (k : List D → List D → RS) : RS := match x, y with
  | .nd (.lst _) xs, .nd (.lst _) ys => chkS (xs.length = ys.length) (k xs ys)
  | .nd .tup xs, .nd .tup ys => chkS (xs.length = ys.length) (k xs ys)
  | _, _ => .stuck
@[simp] theorem zipS_lst (f g : Fl) (xs ys : List D) (k : List D → List D → RS) : zipS (.nd (.lst f) xs) (.nd (.lst g) ys) k = chkS (xs.length = ys.length) (k xs ys) := rfl
@[simp] theorem zipS_tup (xs ys : List D) (k : List D → List D → RS) : zipS (.nd .tup xs) (.nd .tup ys) k = chkS (xs.length = ys.length) (k xs ys) := rfl
@[simp] theorem mForZ_eq (ma mb : List D → R D) (g : MG) (b : MS) (st : List D) : mForZ ma mb g b st = (ma st).s fun x st1 => (mb st1).s fun y st2 => zipS x.frz y.frz fun xs ys => forL g b (zipD xs ys) st2 := rfl
/-- one turn -/
def turn (g : MG) (b : MS) (d : D) (st : List D) : RS := match g d st with
  | some st1 => match b st1 with
    | .ct st2 => .nx st2
    | r => r
  | none => .stuck
def RS.lp (r : RS) (f : List D → RS) : RS := match r with
  | .nx st => f st
  | .ct st => f st
  | .bk st => .nx st
  | r => r
@[simp] theorem lp_nx (st : List D) (f : List D → RS) : (RS.nx st).lp f = f st := rfl
@[simp] theorem lp_ct (st : List D) (f : List D → RS) : (RS.ct st).lp f = f st := rfl
@[simp] theorem lp_bk (st : List D) (f : List D → RS) : (RS.bk st).lp f = .nx st := rfl
@[simp] theorem lp_rt (d : D) (st : List D) (f : List D → RS) : (RS.rt d st).lp f = .rt d st := rfl
@[simp] theorem lp_ex (e : Ex) (st : List D) (f : List D → RS) : (RS.ex e st).lp f = .ex e st := rfl
def tgR (o : Option (List D)) (b : MS) : RS := match o with
  | some st => b st
  | none => .stuck
@[simp] theorem tgR_some (st : List D) (b : MS) : tgR (some st) b = b st := rfl
@[simp] theorem forL_nil (g : MG) (b : MS) (st : List D) : forL g b [] st = .nx st := rfl
theorem forL_cons (g : MG) (b : MS) (x : D) (xs st : List D) : forL g b (x :: xs) st = (tgR (g x st) b).lp (forL g b xs) := by
  simp only [forL, tgR, RS.lp]
  cases g x st with
  | none => rfl
  | some st1 => simp only; cases b st1 <;> rfl
/-! #### the def's frame -/
def RS.fr (r : RS) (ms : List Md) : FR := match r with
  | .nx st => .ok .non (outsOf ms st)
  | .rt d st => .ok d (outsOf ms st)
  | .ex e st => .ex e (outsOf ms st)
  | _ => .stuck
@[simp] theorem fr_nx (ms : List Md) (st : List D) : (RS.nx st).fr ms = .ok .non (outsOf ms st) := rfl
@[simp] theorem fr_rt (ms : List Md) (d : D) (st : List D) : (RS.rt d st).fr ms = .ok d (outsOf ms st) := rfl
@[simp] theorem fr_ex (ms : List Md) (e : Ex) (st : List D) : (RS.ex e st).fr ms = .ex e (outsOf ms st) := rfl
theorem runF_eq (ms : List Md) (n : Nat) (m : MS) (args : List D) : runF ms n m args = (m (args ++ List.replicate (n - args.length) .un)).fr ms := by
  unfold runF RS.fr
  cases m (args ++ List.replicate (n - args.length) .un) <;> rfl
@[simp] theorem outsOf_nil (st : List D) : outsOf [] st = [] := by simp [outsOf]
@[simp] theorem outsOf_io (ms : List Md) (d : D) (st : List D) : outsOf (.io :: ms) (d :: st) = d :: outsOf ms st := by simp [outsOf]
@[simp] theorem outsOf_bo (ms : List Md) (d : D) (st : List D) : outsOf (.bo :: ms) (d :: st) = .un :: outsOf ms st := by simp [outsOf]
@[simp] theorem outsOf_fz (ms : List Md) (d : D) (st : List D) : outsOf (.fz :: ms) (d :: st) = .un :: outsOf ms st := by simp [outsOf]
/-! #### trees -/
@[simp] theorem set_lst_own (g : Fl) (xs : List D) : D.set g (.nd (.lst .own) xs) = .nd (.lst g) (D.setL g xs) := by simp [D.set, Kd.fl, Kd.with]
@[simp] theorem set_lst_bor (g : Fl) (xs : List D) : D.set g (.nd (.lst .bor) xs) = .nd (.lst .bor) (D.setL g xs) := by simp [D.set, Kd.fl]
@[simp] theorem set_lst_fz (g : Fl) (xs : List D) : D.set g (.nd (.lst .fz) xs) = .nd (.lst .fz) (D.setL g xs) := by simp [D.set, Kd.fl]
@[simp] theorem set_tup (g : Fl) (xs : List D) : D.set g (.nd .tup xs) = .nd .tup (D.setL g xs) := by simp [D.set, Kd.fl]
@[simp] theorem set_int (g : Fl) (i : Int) : D.set g (.int i) = .int i := by simp [D.set]
@[simp] theorem set_bl (g : Fl) (i : Bool) : D.set g (.bl i) = .bl i := by simp [D.set]
@[simp] theorem set_str (g : Fl) (i : Str) : D.set g (.str i) = .str i := by simp [D.set]
@[simp] theorem set_non (g : Fl) : D.set g .non = .non := by simp [D.set]
@[simp] theorem set_un (g : Fl) : D.set g .un = .un := by simp [D.set]
@[simp] theorem set_scr (g : Fl) (ns : List Int) : D.set g (.scr ns) = .scr ns := by simp [D.set]
@[simp] theorem setL_nil (g : Fl) : D.setL g [] = [] := by simp [D.setL]
@[simp] theorem setL_cons (g : Fl) (d : D) (r : List D) : D.setL g (d :: r) = D.set g d :: D.setL g r := by simp [D.setL]
@[simp] theorem setL_app (g : Fl) (xs ys : List D) : D.setL g (xs ++ ys) = D.setL g xs ++ D.setL g ys := by simp [D.setL_map]
@[simp] theorem setL_ints (g : Fl) (xs : List Int) : D.setL g (xs.map D.int) = xs.map D.int := by
  rw [D.setL_map, List.map_map]
  exact List.map_congr_left fun x _ => by simp
@[simp] theorem setL_length (g : Fl) (xs : List D) : (D.setL g xs).length = xs.length := by simp [D.setL_map]
@[simp] theorem noBor_int (i : Int) : D.noBor (.int i) = true := by simp [D.noBor]
@[simp] theorem noBor_bl (i : Bool) : D.noBor (.bl i) = true := by simp [D.noBor]
@[simp] theorem noBor_str (i : Str) : D.noBor (.str i) = true := by simp [D.noBor]
@[simp] theorem noBor_non : D.noBor .non = true := by simp [D.noBor]
@[simp] theorem noBor_un : D.noBor .un = true := by simp [D.noBor]
@[simp] theorem noBor_own (xs : List D) : D.noBor (.nd (.lst .own) xs) = D.noBorL xs := by simp [D.noBor, Kd.fl]
@[simp] theorem noBor_fz (xs : List D) : D.noBor (.nd (.lst .fz) xs) = D.noBorL xs := by simp [D.noBor, Kd.fl]
@[simp] theorem noBor_tup (xs : List D) : D.noBor (.nd .tup xs) = D.noBorL xs := by simp [D.noBor, Kd.fl]
@[simp] theorem noBorL_nil : D.noBorL [] = true := by simp [D.noBorL]
@[simp] theorem noBorL_cons (d : D) (r : List D) : D.noBorL (d :: r) = (D.noBor d && D.noBorL r) := by simp [D.noBorL]
@[simp] theorem noBorL_app : ∀ (xs ys : List D), D.noBorL (xs ++ ys) = (D.noBorL xs && D.noBorL ys)
  | [], ys => by simp
  | x :: xs, ys => by simp [noBorL_app xs ys, Bool.and_assoc]
theorem noBorL_all : ∀ (xs : List D), D.noBorL xs = xs.all D.noBor
  | [] => by simp
  | x :: xs => by simp [noBorL_all xs]
@[simp] theorem noBorL_ints (xs : List Int) : D.noBorL (xs.map D.int) = true := by simp [noBorL_all]
/-! a row of pairs -/
def pD (p : Int × Int) : D := .nd .tup [.int p.1, .int p.2]
@[simp] theorem set_pD (g : Fl) (p : Int × Int) : D.set g (pD p) = pD p := by simp [pD]
@[simp] theorem setL_pDs (g : Fl) (xs : List (Int × Int)) : D.setL g (xs.map pD) = xs.map pD := by
  rw [D.setL_map, List.map_map]
  exact List.map_congr_left fun x _ => by simp
@[simp] theorem noBor_pD (p : Int × Int) : D.noBor (pD p) = true := by simp [pD]
@[simp] theorem noBorL_pDs (xs : List (Int × Int)) : D.noBorL (xs.map pD) = true := by simp [noBorL_all]
theorem ixN_int {n : Nat} {i : Int} (h0 : 0 ≤ i) (h : i < n) : ixN n i = some i.toNat := by
  unfold ixN
  rw [if_pos h0, if_pos h]
theorem ixN_neg {n : Nat} {i : Int} (h0 : i < 0) (h : -(n : Int) ≤ i) : ixN n i = some (i + n).toNat := by
  unfold ixN
  rw [if_neg (by omega), if_pos h]
@[simp] theorem CMul_eq (i j : Int) : CMul i j ↔ ((-18446744073709551616 < i ∧ i < 18446744073709551616) ∨ (-18446744073709551616 < j ∧ j < 18446744073709551616)) := Iff.rfl
@[simp] theorem RgOk_eq (a b : Int) : RgOk a b ↔ (-4611686018427387904 ≤ a ∧ a < 4611686018427387904 ∧ -4611686018427387904 ≤ b ∧ b < 4611686018427387904 ∧ (b - a).toNat ≤ 16777216) := Iff.rfl
theorem log2_ok {n : Nat} (h : n < 10000000000000000000000000000000000000000000000000000000000000000000000) : n.log2 < 9000 := by
  by_cases h0 : n = 0
  · subst h0; decide
  · rw [Nat.log2_lt h0]
    exact Nat.lt_trans h (by decide +kernel)
@[simp] theorem log2_okT {n : Nat} (h : n < 10000000000000000000000000000000000000000000000000000000000000000000000) : (n.log2 < 9000) = True := eq_true (log2_ok h)
/-! #### what holds of a def's end -/
def FR.sat (r : FR) (P : D → List D → Prop) : Prop := ∃ d o, r = .ok d o ∧ P d o
/-- cut behind a statement -/
theorem seq_cut {m n : MS} {st : List D} {ms : List Md} {P0 : D → List D → Prop} (P : List D → Prop) (h1 : ∃ st1, m st = .nx st1 ∧ P st1) (h2 : ∀ st1, P st1 → ((n st1).fr ms).sat P0) : ((mSeq m n st).fr ms).sat P0 := by
  obtain ⟨st1, e, h⟩ := h1
  rw [mSeq_eq, e, sq_nx]
  exact h2 st1 h
/-- a turn's end: continue is next -/
def RS.tn (r : RS) : RS := match r with
  | .ct st => .nx st
  | r => r
@[simp] theorem tn_nx (st : List D) : (RS.nx st).tn = .nx st := rfl
@[simp] theorem tn_ct (st : List D) : (RS.ct st).tn = .nx st := rfl
@[simp] theorem tn_bk (st : List D) : (RS.bk st).tn = .bk st := rfl
@[simp] theorem tn_rt (d : D) (st : List D) : (RS.rt d st).tn = .rt d st := rfl
@[simp] theorem tn_ex (d : Ex) (st : List D) : (RS.ex d st).tn = .ex d st := rfl
end PV

namespace PV
open PySem L2
/-! ### indexes -/
@[simp] theorem ixN_last (n : Nat) : ixN (n + 1) (-1) = some n := by
  rw [ixN_neg (by decide) (by omega)]
  congr 1
  omega
@[simp] theorem ixN_zero (n : Nat) : ixN (n + 1) 0 = some 0 := by rw [ixN_int (by decide) (by omega)]; rfl
@[simp] theorem ixN_21 : ixN 2 1 = some 1 := rfl
@[simp] theorem ixN_31 : ixN 3 1 = some 1 := rfl
@[simp] theorem ixN_32 : ixN 3 2 = some 2 := rfl
@[simp] theorem ixN_41 : ixN 4 1 = some 1 := rfl
@[simp] theorem ixN_42 : ixN 4 2 = some 2 := rfl
@[simp] theorem ixN_43 : ixN 4 3 = some 3 := rfl
@[simp] theorem set_last {α : Type} (xs : List α) (x y : α) : (xs ++ [x]).set xs.length y = xs ++ [y] := by
  simp [List.set_append_right]
@[simp] theorem set_last_map {α β : Type} (f : α → β) (xs : List α) (x y : β) : (xs.map f ++ [x]).set xs.length y = xs.map f ++ [y] := by
  have := set_last (xs.map f) x y
  rwa [List.length_map] at this
@[simp] theorem get_last {α : Type} (xs : List α) (x : α) : (xs ++ [x])[xs.length]? = some x := by simp
@[simp] theorem get_last_map {α β : Type} (f : α → β) (xs : List α) (x : β) : (xs.map f ++ [x])[xs.length]? = some x := by
  have := get_last (xs.map f) x
  rwa [List.length_map] at this
/-! ### plain data, and == of it -/
mutual
def D.ok : D → Nat → Bool
  | .non, _ => true
  | .bl _, _ => true
  | .int _, _ => true
  | .str s, _ => PySem.PyData.strOk s
  | .nd (.lst _) xs, n + 1 => D.okL xs n
  | .nd .tup xs, n + 1 => D.okL xs n
  | _, _ => false
def D.okL : List D → Nat → Bool
  | [], _ => true
  | x :: xs, n => D.ok x n && D.okL xs n
end
mutual
def D.eqv : D → D → Bool
  | .non, .non => true
  | .bl a, .bl b => a == b
  | .bl a, .int j => (if a then 1 else 0) == j
  | .int i, .bl b => i == (if b then 1 else 0)
  | .int i, .int j => i == j
  | .str x, .str y => x == y
  | .nd (.lst _) xs, .nd (.lst _) ys => D.eqvL xs ys
  | .nd .tup xs, .nd .tup ys => D.eqvL xs ys
  | _, _ => false
def D.eqvL : List D → List D → Bool
  | [], [] => true
  | x :: xs, y :: ys => D.eqv x y && D.eqvL xs ys
  | _, _ => false
end
mutual
theorem ok_py : ∀ (x : D) (n : Nat), D.ok x n = true → ∃ p, toPy x = some p ∧ p.canLay0 = true ∧ p.depth ≤ n
  | .non, n, _ => ⟨.none, rfl, rfl, by simp [PyData.depth]⟩
  | .bl b, n, _ => ⟨.bool b, rfl, rfl, by simp [PyData.depth]⟩
  | .int b, n, _ => ⟨.int b, rfl, rfl, by simp [PyData.depth]⟩
  | .str s, n, h => ⟨.str s, rfl, by simpa [D.ok, PyData.canLay0] using h, by simp [PyData.depth]⟩
  | .nd (.lst _) xs, n + 1, h => by
    simp only [D.ok] at h
    obtain ⟨l, e, c, d⟩ := ok_pyL xs n h
    exact ⟨.list l, by simp [toPy, e], by simpa [PyData.canLay0] using c, by simpa [PyData.depth] using d⟩
  | .nd .tup xs, n + 1, h => by
    simp only [D.ok] at h
    obtain ⟨l, e, c, d⟩ := ok_pyL xs n h
    exact ⟨.tuple l, by simp [toPy, e], by simpa [PyData.canLay0] using c, by simpa [PyData.depth] using d⟩
  | .nd (.lst _) xs, 0, h => by simp [D.ok] at h
  | .nd .tup xs, 0, h => by simp [D.ok] at h
  | .nd (.dct _ _) xs, n, h => by simp [D.ok] at h
  | .nd (.ins _ _ _) xs, n, h => by simp [D.ok] at h
  | .un, n, h => by simp [D.ok] at h
  | .scr _, n, h => by simp [D.ok] at h
theorem ok_pyL : ∀ (xs : List D) (n : Nat), D.okL xs n = true → ∃ l, toPyL xs = some l ∧ PyData.canLayAll0 l = true ∧ PyData.depthAll l ≤ n
  | [], n, _ => ⟨[], rfl, rfl, by simp [PyData.depthAll]⟩
  | x :: xs, n, h => by
    simp only [D.okL, Bool.and_eq_true] at h
    obtain ⟨p, e1, c1, d1⟩ := ok_py x n h.1
    obtain ⟨l, e2, c2, d2⟩ := ok_pyL xs n h.2
    exact ⟨p :: l, by simp [toPyL, e1, e2], by simp [PyData.canLayAll0, c1, c2], by simp only [PyData.depthAll]; omega⟩
end
mutual
theorem eqv_py : ∀ (x y : D) (p q : PyData), toPy x = some p → toPy y = some q → PyData.eqv p q = D.eqv x y
  | .un, _, _, _, hp, _ => by simp [toPy] at hp
  | .scr _, _, _, _, hp, _ => by simp [toPy] at hp
  | .nd (.dct _ _) _, _, _, _, hp, _ => by simp [toPy] at hp
  | .nd (.ins _ _ _) _, _, _, _, hp, _ => by simp [toPy] at hp
  | .non, y, p, q, hp, hq => by
    simp only [toPy] at hp; cases hp
    cases y with
    | nd k xs => cases k <;> simp only [toPy] at hq <;> first | cases hq | (cases e : toPyL xs <;> rw [e] at hq <;> cases hq; simp [PyData.eqv, D.eqv])
    | _ => simp only [toPy] at hq <;> cases hq <;> simp [PyData.eqv, D.eqv]
  | .bl b, y, p, q, hp, hq => by
    simp only [toPy] at hp; cases hp
    cases y with
    | nd k xs => cases k <;> simp only [toPy] at hq <;> first | cases hq | (cases e : toPyL xs <;> rw [e] at hq <;> cases hq; simp [PyData.eqv, D.eqv])
    | _ => simp only [toPy] at hq <;> cases hq <;> simp [PyData.eqv, D.eqv]
  | .int b, y, p, q, hp, hq => by
    simp only [toPy] at hp; cases hp
    cases y with
    | nd k xs => cases k <;> simp only [toPy] at hq <;> first | cases hq | (cases e : toPyL xs <;> rw [e] at hq <;> cases hq; simp [PyData.eqv, D.eqv])
    | _ => simp only [toPy] at hq <;> cases hq <;> simp [PyData.eqv, D.eqv]
  | .str b, y, p, q, hp, hq => by
    simp only [toPy] at hp; cases hp
    cases y with
    | nd k xs => cases k <;> simp only [toPy] at hq <;> first | cases hq | (cases e : toPyL xs <;> rw [e] at hq <;> cases hq; simp [PyData.eqv, D.eqv])
    | _ => simp only [toPy] at hq <;> cases hq <;> simp [PyData.eqv, D.eqv]
  | .nd (.lst _) xs, y, p, q, hp, hq => by
    simp only [toPy] at hp
    cases e1 : toPyL xs with
    | none => rw [e1] at hp; cases hp
    | some l =>
      rw [e1] at hp; cases hp
      cases y with
      | nd k ys =>
        cases k with
        | lst g =>
          simp only [toPy] at hq
          cases e2 : toPyL ys with
          | none => rw [e2] at hq; cases hq
          | some m =>
            rw [e2] at hq; cases hq
            simp only [PyData.eqv, D.eqv]
            exact eqv_pyL xs ys l m e1 e2
        | tup =>
          simp only [toPy] at hq
          cases e2 : toPyL ys with
          | none => rw [e2] at hq; cases hq
          | some m =>
            rw [e2] at hq; cases hq
            simp [PyData.eqv, D.eqv]
        | dct g ks => simp [toPy] at hq
        | ins g c ns => simp [toPy] at hq
      | _ => simp only [toPy] at hq <;> cases hq <;> simp [PyData.eqv, D.eqv]
  | .nd .tup xs, y, p, q, hp, hq => by
    simp only [toPy] at hp
    cases e1 : toPyL xs with
    | none => rw [e1] at hp; cases hp
    | some l =>
      rw [e1] at hp; cases hp
      cases y with
      | nd k ys =>
        cases k with
        | lst g =>
          simp only [toPy] at hq
          cases e2 : toPyL ys with
          | none => rw [e2] at hq; cases hq
          | some m =>
            rw [e2] at hq; cases hq
            simp [PyData.eqv, D.eqv]
        | tup =>
          simp only [toPy] at hq
          cases e2 : toPyL ys with
          | none => rw [e2] at hq; cases hq
          | some m =>
            rw [e2] at hq; cases hq
            simp only [PyData.eqv, D.eqv]
            exact eqv_pyL xs ys l m e1 e2
        | dct g ks => simp [toPy] at hq
        | ins g c ns => simp [toPy] at hq
      | _ => simp only [toPy] at hq <;> cases hq <;> simp [PyData.eqv, D.eqv]
theorem eqv_pyL : ∀ (xs ys : List D) (p q : List PyData), toPyL xs = some p → toPyL ys = some q → PyData.eqvAll p q = D.eqvL xs ys
  | [], [], p, q, hp, hq => by simp only [toPyL] at hp hq; cases hp; cases hq; simp [PyData.eqvAll, D.eqvL]
  | x :: xs, y :: ys, p, q, hp, hq => by
    simp only [toPyL] at hp hq
    cases a1 : toPy x <;> cases a2 : toPyL xs <;> rw [a1, a2] at hp <;> simp only at hp <;> cases hp
    cases b1 : toPy y <;> cases b2 : toPyL ys <;> rw [b1, b2] at hq <;> simp only at hq <;> cases hq
    simp only [PyData.eqvAll, D.eqvL]
    rw [eqv_py x y _ _ a1 b1, eqv_pyL xs ys _ _ a2 b2]
  | [], y :: ys, p, q, hp, hq => by
    simp only [toPyL] at hp hq; cases hp
    cases b1 : toPy y <;> cases b2 : toPyL ys <;> rw [b1, b2] at hq <;> simp only at hq <;> cases hq
    simp [PyData.eqvAll, D.eqvL]
  | x :: xs, [], p, q, hp, hq => by
    simp only [toPyL] at hp hq; cases hq
    cases a1 : toPy x <;> cases a2 : toPyL xs <;> rw [a1, a2] at hp <;> simp only at hp <;> cases hp
    simp [PyData.eqvAll, D.eqvL]
end
theorem eqD_ok {x y : D} (hx : D.ok x 60 = true) (hy : D.ok y 60 = true) : eqD x y = some (D.eqv x y) := by
  obtain ⟨p, e1, c1, d1⟩ := ok_py x 60 hx
  obtain ⟨q, e2, c2, d2⟩ := ok_py y 60 hy
  unfold eqD
  rw [e1, e2]
  simp only
  have s1 : SeqAt.shaped p = true := by simp [SeqAt.shaped, c1]; omega
  have s2 : SeqAt.shaped q = true := by simp [SeqAt.shaped, c2]; omega
  have s3 : eqb p q = true := by unfold eqb; rw [s1, s2]; rfl
  rw [if_pos s3]
  simp [eqv_py x y p q e1 e2]
/-- texts of any signs -/
theorem eqD_txs (a b : Str) : eqD (.str a) (.str b) = some (a == b) := by
  unfold eqD
  simp only [toPy]
  rw [if_pos (show eqb (.str a) (.str b) = true by unfold eqb; simp [isTx])]
  simp [PyData.eqv]
mutual
theorem ok_more : ∀ (x : D) (n m : Nat), n ≤ m → D.ok x n = true → D.ok x m = true
  | .non, n, m, _, _ => rfl
  | .bl b, n, m, _, _ => rfl
  | .int b, n, m, _, _ => rfl
  | .str s, n, m, _, h => by simpa [D.ok] using h
  | .nd (.lst _) xs, n + 1, m + 1, h, e => by simp only [D.ok] at e ⊢; exact ok_moreL xs n m (by omega) e
  | .nd .tup xs, n + 1, m + 1, h, e => by simp only [D.ok] at e ⊢; exact ok_moreL xs n m (by omega) e
  | .nd (.lst _) xs, n + 1, 0, h, e => by omega
  | .nd .tup xs, n + 1, 0, h, e => by omega
  | .nd (.lst _) xs, 0, m, _, h => by simp [D.ok] at h
  | .nd .tup xs, 0, m, _, h => by simp [D.ok] at h
  | .nd (.dct _ _) xs, n, m, _, h => by simp [D.ok] at h
  | .nd (.ins _ _ _) xs, n, m, _, h => by simp [D.ok] at h
  | .un, n, m, _, h => by simp [D.ok] at h
  | .scr _, n, m, _, h => by simp [D.ok] at h
theorem ok_moreL : ∀ (x : List D) (n m : Nat), n ≤ m → D.okL x n = true → D.okL x m = true
  | [], n, m, _, _ => by simp [D.okL]
  | x :: xs, n, m, h, e => by
    simp only [D.okL, Bool.and_eq_true] at e ⊢
    exact ⟨ok_more x n m h e.1, ok_moreL xs n m h e.2⟩
end
@[simp] theorem ok_non (n : Nat) : D.ok .non n = true := by simp [D.ok]
@[simp] theorem ok_bl (b : Bool) (n : Nat) : D.ok (.bl b) n = true := by simp [D.ok]
@[simp] theorem ok_int (b : Int) (n : Nat) : D.ok (.int b) n = true := by simp [D.ok]
@[simp] theorem ok_str (b : Str) (n : Nat) : D.ok (.str b) n = PySem.PyData.strOk b := by simp [D.ok]
@[simp] theorem ok_lst (f : Fl) (xs : List D) (n : Nat) : D.ok (.nd (.lst f) xs) (n + 1) = D.okL xs n := by simp [D.ok]
@[simp] theorem ok_tup (xs : List D) (n : Nat) : D.ok (.nd .tup xs) (n + 1) = D.okL xs n := by simp [D.ok]
@[simp] theorem okL_nil (n : Nat) : D.okL [] n = true := by simp [D.okL]
@[simp] theorem okL_cons (x : D) (xs : List D) (n : Nat) : D.okL (x :: xs) n = (D.ok x n && D.okL xs n) := by simp [D.okL]
theorem okL_all (n : Nat) : ∀ xs : List D, D.okL xs n = xs.all fun x => D.ok x n
  | [] => by simp
  | x :: xs => by simp [okL_all n xs]
@[simp] theorem okL_app (n : Nat) (xs ys : List D) : D.okL (xs ++ ys) n = (D.okL xs n && D.okL ys n) := by simp [okL_all]
@[simp] theorem okL_ints (n : Nat) (xs : List Int) : D.okL (xs.map D.int) n = true := by simp [okL_all]
@[simp] theorem ok_pD (p : Int × Int) (n : Nat) : D.ok (pD p) (n + 1) = true := by simp [pD]
@[simp] theorem okL_pDs (n : Nat) (xs : List (Int × Int)) : D.okL (xs.map pD) (n + 1) = true := by simp [okL_all]
@[simp] theorem eqv_int (i j : Int) : D.eqv (.int i) (.int j) = decide (i = j) := by simp only [D.eqv]; by_cases h : i = j <;> simp [h]
@[simp] theorem eqv_lst (f g : Fl) (xs ys : List D) : D.eqv (.nd (.lst f) xs) (.nd (.lst g) ys) = D.eqvL xs ys := by simp only [D.eqv]
@[simp] theorem eqv_tup (xs ys : List D) : D.eqv (.nd .tup xs) (.nd .tup ys) = D.eqvL xs ys := by simp only [D.eqv]
@[simp] theorem eqv_bl (i j : Bool) : D.eqv (.bl i) (.bl j) = (i == j) := by simp only [D.eqv]
@[simp] theorem eqv_str (i j : Str) : D.eqv (.str i) (.str j) = (i == j) := by simp only [D.eqv]
@[simp] theorem eqvL_nil : D.eqvL [] [] = true := by simp only [D.eqvL]
@[simp] theorem eqvL_cons (x y : D) (xs ys : List D) : D.eqvL (x :: xs) (y :: ys) = (D.eqv x y && D.eqvL xs ys) := by simp only [D.eqvL]
@[simp] theorem eqvL_nc (y : D) (ys : List D) : D.eqvL [] (y :: ys) = false := by simp only [D.eqvL]
@[simp] theorem eqvL_cn (y : D) (ys : List D) : D.eqvL (y :: ys) [] = false := by simp only [D.eqvL]
theorem eqvL_map {α : Type} [DecidableEq α] {f g : α → D} (h : ∀ x y, D.eqv (f x) (g y) = decide (x = y)) : ∀ xs ys : List α, D.eqvL (xs.map f) (ys.map g) = decide (xs = ys)
  | [], [] => by simp
  | [], y :: ys => by simp
  | x :: xs, [] => by simp
  | x :: xs, y :: ys => by
    simp only [List.map_cons, eqvL_cons, h, eqvL_map h xs ys, List.cons.injEq]
    by_cases a : x = y <;> simp [a]
@[simp] theorem eqvL_ints (xs ys : List Int) : D.eqvL (xs.map D.int) (ys.map D.int) = decide (xs = ys) := eqvL_map (by simp) xs ys
@[simp] theorem eqv_pD (p q : Int × Int) : D.eqv (pD p) (pD q) = decide (p = q) := by
  obtain ⟨a, b⟩ := p
  obtain ⟨c, d⟩ := q
  simp only [pD, eqv_tup, eqvL_cons, eqv_int, eqvL_nil, Bool.and_true, Prod.mk.injEq]
  by_cases h1 : a = c <;> by_cases h2 : b = d <;> simp [h1, h2]
@[simp] theorem eqvL_pDs (xs ys : List (Int × Int)) : D.eqvL (xs.map pD) (ys.map pD) = decide (xs = ys) := eqvL_map (by simp) xs ys
@[simp] theorem eqD_ints (i j : Int) : eqD (.int i) (.int j) = some (decide (i = j)) := by rw [eqD_ok (by simp) (by simp)]; simp
@[simp] theorem eqD_bls (i j : Bool) : eqD (.bl i) (.bl j) = some (i == j) := by rw [eqD_ok (by simp) (by simp)]; simp
/-! ### sameness of data: kinds and values -/
mutual
def D.same : D → D → Bool
  | .non, .non => true
  | .bl a, .bl b => a == b
  | .int i, .int j => i == j
  | .str x, .str y => x == y
  | .nd (.lst _) xs, .nd (.lst _) ys => D.sameL xs ys
  | .nd .tup xs, .nd .tup ys => D.sameL xs ys
  | _, _ => false
def D.sameL : List D → List D → Bool
  | [], [] => true
  | x :: xs, y :: ys => D.same x y && D.sameL xs ys
  | _, _ => false
end
@[simp] theorem same_int (i j : Int) : D.same (.int i) (.int j) = decide (i = j) := by simp only [D.same]; by_cases h : i = j <;> simp [h]
@[simp] theorem same_lst (f g : Fl) (xs ys : List D) : D.same (.nd (.lst f) xs) (.nd (.lst g) ys) = D.sameL xs ys := by simp only [D.same]
@[simp] theorem same_tup (xs ys : List D) : D.same (.nd .tup xs) (.nd .tup ys) = D.sameL xs ys := by simp only [D.same]
@[simp] theorem same_bl (i j : Bool) : D.same (.bl i) (.bl j) = (i == j) := by simp only [D.same]
@[simp] theorem same_str (i j : Str) : D.same (.str i) (.str j) = (i == j) := by simp only [D.same]
@[simp] theorem same_non : D.same .non .non = true := by simp only [D.same]
@[simp] theorem sameL_nil : D.sameL [] [] = true := by simp only [D.sameL]
@[simp] theorem sameL_cons (x y : D) (xs ys : List D) : D.sameL (x :: xs) (y :: ys) = (D.same x y && D.sameL xs ys) := by simp only [D.sameL]
@[simp] theorem sameL_nc (y : D) (ys : List D) : D.sameL [] (y :: ys) = false := by simp only [D.sameL]
@[simp] theorem sameL_cn (y : D) (ys : List D) : D.sameL (y :: ys) [] = false := by simp only [D.sameL]
@[simp] theorem same_nl (f : Fl) (xs : List D) : D.same .non (.nd (.lst f) xs) = false := by simp [D.same]
theorem sameL_map {α : Type} [DecidableEq α] {f g : α → D} (h : ∀ x y, D.same (f x) (g y) = decide (x = y)) : ∀ xs ys : List α, D.sameL (xs.map f) (ys.map g) = decide (xs = ys)
  | [], [] => by simp
  | [], y :: ys => by simp
  | x :: xs, [] => by simp
  | x :: xs, y :: ys => by
    simp only [List.map_cons, sameL_cons, h, sameL_map h xs ys, List.cons.injEq]
    by_cases a : x = y <;> simp [a]
@[simp] theorem sameL_ints (xs ys : List Int) : D.sameL (xs.map D.int) (ys.map D.int) = decide (xs = ys) := sameL_map (by simp) xs ys
@[simp] theorem same_pD (p q : Int × Int) : D.same (pD p) (pD q) = decide (p = q) := by
  obtain ⟨a, b⟩ := p
  obtain ⟨c, d⟩ := q
  simp only [pD, same_tup, sameL_cons, same_int, sameL_nil, Bool.and_true, Prod.mk.injEq]
  by_cases h1 : a = c <;> by_cases h2 : b = d <;> simp [h1, h2]
@[simp] theorem sameL_pDs (xs ys : List (Int × Int)) : D.sameL (xs.map pD) (ys.map pD) = decide (xs = ys) := sameL_map (by simp) xs ys
/-! isinstance of data -/
@[simp] theorem isi_int_non : isiD "int" .non = some false := by rfl
@[simp] theorem isi_int_bl (b : Bool) : isiD "int" (.bl b) = some true := by rfl
@[simp] theorem isi_int_int (i : Int) : isiD "int" (.int i) = some true := by rfl
@[simp] theorem isi_int_str (z : Str) : isiD "int" (.str z) = some false := by rfl
@[simp] theorem isi_int_lst (f : Fl) (xs : List D) : isiD "int" (.nd (.lst f) xs) = some false := by rfl
@[simp] theorem isi_int_tup (xs : List D) : isiD "int" (.nd .tup xs) = some false := by rfl
@[simp] theorem isi_str_non : isiD "str" .non = some false := by rfl
@[simp] theorem isi_str_bl (b : Bool) : isiD "str" (.bl b) = some false := by rfl
@[simp] theorem isi_str_int (i : Int) : isiD "str" (.int i) = some false := by rfl
@[simp] theorem isi_str_str (z : Str) : isiD "str" (.str z) = some true := by rfl
@[simp] theorem isi_str_lst (f : Fl) (xs : List D) : isiD "str" (.nd (.lst f) xs) = some false := by rfl
@[simp] theorem isi_str_tup (xs : List D) : isiD "str" (.nd .tup xs) = some false := by rfl
@[simp] theorem isi_bool_non : isiD "bool" .non = some false := by rfl
@[simp] theorem isi_bool_bl (b : Bool) : isiD "bool" (.bl b) = some true := by rfl
@[simp] theorem isi_bool_int (i : Int) : isiD "bool" (.int i) = some false := by rfl
@[simp] theorem isi_bool_str (z : Str) : isiD "bool" (.str z) = some false := by rfl
@[simp] theorem isi_bool_lst (f : Fl) (xs : List D) : isiD "bool" (.nd (.lst f) xs) = some false := by rfl
@[simp] theorem isi_bool_tup (xs : List D) : isiD "bool" (.nd .tup xs) = some false := by rfl
@[simp] theorem isi_list_non : isiD "list" .non = some false := by rfl
@[simp] theorem isi_list_bl (b : Bool) : isiD "list" (.bl b) = some false := by rfl
@[simp] theorem isi_list_int (i : Int) : isiD "list" (.int i) = some false := by rfl
@[simp] theorem isi_list_str (z : Str) : isiD "list" (.str z) = some false := by rfl
@[simp] theorem isi_list_lst (f : Fl) (xs : List D) : isiD "list" (.nd (.lst f) xs) = some true := by rfl
@[simp] theorem isi_list_tup (xs : List D) : isiD "list" (.nd .tup xs) = some false := by rfl
@[simp] theorem isi_tuple_non : isiD "tuple" .non = some false := by rfl
@[simp] theorem isi_tuple_bl (b : Bool) : isiD "tuple" (.bl b) = some false := by rfl
@[simp] theorem isi_tuple_int (i : Int) : isiD "tuple" (.int i) = some false := by rfl
@[simp] theorem isi_tuple_str (z : Str) : isiD "tuple" (.str z) = some false := by rfl
@[simp] theorem isi_tuple_lst (f : Fl) (xs : List D) : isiD "tuple" (.nd (.lst f) xs) = some false := by rfl
@[simp] theorem isi_tuple_tup (xs : List D) : isiD "tuple" (.nd .tup xs) = some true := by rfl
@[simp] theorem isNonD_non : isNonD .non = true := rfl
@[simp] theorem isNonD_bl (b : Bool) : isNonD (.bl b) = false := rfl
@[simp] theorem isNonD_int (b : Int) : isNonD (.int b) = false := rfl
@[simp] theorem isNonD_str (b : Str) : isNonD (.str b) = false := rfl
@[simp] theorem isNonD_nd (k : Kd) (xs : List D) : isNonD (.nd k xs) = false := rfl
@[simp] theorem set_dct (g f : Fl) (ks : List Key) (xs : List D) : D.set g (.nd (.dct f ks) xs) = .nd (.dct (if f = .own then g else f) ks) (D.setL g xs) := by cases f <;> simp [D.set, Kd.fl, Kd.with]
@[simp] theorem set_ins (g f : Fl) (c : Str) (ns : List Str) (xs : List D) : D.set g (.nd (.ins f c ns) xs) = .nd (.ins (if f = .own then g else f) c ns) (D.setL g xs) := by cases f <;> simp [D.set, Kd.fl, Kd.with]
mutual
@[simp] theorem set_after_fz (g : Fl) : ∀ (x : D), D.set g (D.set .fz x) = D.set .fz x
  | .nd (.lst f) xs => by cases f <;> simp [setL_after_fz g xs]
  | .nd .tup xs => by simp [setL_after_fz g xs]
  | .nd (.dct f ks) xs => by cases f <;> simp [setL_after_fz g xs]
  | .nd (.ins f c ns) xs => by cases f <;> simp [setL_after_fz g xs]
  | .non => by simp
  | .un => by simp
  | .bl b => by simp
  | .int b => by simp
  | .str b => by simp
  | .scr b => by simp
@[simp] theorem setL_after_fz (g : Fl) : ∀ (xs : List D), D.setL g (D.setL .fz xs) = D.setL .fz xs
  | [] => by simp
  | x :: xs => by simp [set_after_fz g x, setL_after_fz g xs]
end
mutual
@[simp] theorem set_after_bor (g : Fl) : ∀ (x : D), D.set g (D.set .bor x) = D.set .bor x
  | .nd (.lst f) xs => by cases f <;> simp [setL_after_bor g xs]
  | .nd .tup xs => by simp [setL_after_bor g xs]
  | .nd (.dct f ks) xs => by cases f <;> simp [setL_after_bor g xs]
  | .nd (.ins f c ns) xs => by cases f <;> simp [setL_after_bor g xs]
  | .non => by simp
  | .un => by simp
  | .bl b => by simp
  | .int b => by simp
  | .str b => by simp
  | .scr b => by simp
@[simp] theorem setL_after_bor (g : Fl) : ∀ (xs : List D), D.setL g (D.setL .bor xs) = D.setL .bor xs
  | [] => by simp
  | x :: xs => by simp [set_after_bor g x, setL_after_bor g xs]
end
mutual
theorem ok_set (g : Fl) : ∀ (x : D) (n : Nat), D.ok (D.set g x) n = D.ok x n
  | .nd (.lst f) xs, 0 => by cases f <;> simp [D.ok]
  | .nd (.lst f) xs, n + 1 => by cases f <;> simp [ok_setL g xs n]
  | .nd .tup xs, 0 => by simp [D.ok]
  | .nd .tup xs, n + 1 => by simp [ok_setL g xs n]
  | .nd (.dct f ks) xs, n => by cases f <;> simp [D.set, Kd.fl, Kd.with, D.ok]
  | .nd (.ins f c ns) xs, n => by cases f <;> simp [D.set, Kd.fl, Kd.with, D.ok]
  | .non, n => by simp
  | .un, n => by simp
  | .bl b, n => by simp
  | .int b, n => by simp
  | .str b, n => by simp
  | .scr b, n => by simp
theorem ok_setL (g : Fl) : ∀ (xs : List D) (n : Nat), D.okL (D.setL g xs) n = D.okL xs n
  | [], n => by simp
  | x :: xs, n => by simp [ok_set g x n, ok_setL g xs n]
end
mutual
theorem same_set (g g' : Fl) : ∀ (x y : D), D.same (D.set g x) (D.set g' y) = D.same x y
  | .nd (.lst f) xs, .nd (.lst f') ys => by cases f <;> cases f' <;> simp [same_setL g g' xs ys]
  | .nd .tup xs, .nd .tup ys => by simp [same_setL g g' xs ys]
  | .nd (.dct f ks) xs, y => by simp [D.same]
  | .nd (.ins f c ns) xs, y => by simp [D.same]
  | .nd (.lst f) xs, .nd .tup ys => by cases f <;> simp [D.same]
  | .nd (.lst f) xs, .nd (.dct f' ks) ys => by cases f <;> simp [D.same]
  | .nd (.lst f) xs, .nd (.ins f' c ns) ys => by cases f <;> simp [D.same]
  | .nd (.lst f) xs, .non => by cases f <;> simp [D.same]
  | .nd (.lst f) xs, .un => by cases f <;> simp [D.same]
  | .nd (.lst f) xs, .bl _ => by cases f <;> simp [D.same]
  | .nd (.lst f) xs, .int _ => by cases f <;> simp [D.same]
  | .nd (.lst f) xs, .str _ => by cases f <;> simp [D.same]
  | .nd (.lst f) xs, .scr _ => by cases f <;> simp [D.same]
  | .nd .tup xs, .nd (.lst f) ys => by cases f <;> simp [D.same]
  | .nd .tup xs, .nd (.dct f' ks) ys => by simp [D.same]
  | .nd .tup xs, .nd (.ins f' c ns) ys => by simp [D.same]
  | .nd .tup xs, .non => by simp [D.same]
  | .nd .tup xs, .un => by simp [D.same]
  | .nd .tup xs, .bl _ => by simp [D.same]
  | .nd .tup xs, .int _ => by simp [D.same]
  | .nd .tup xs, .str _ => by simp [D.same]
  | .nd .tup xs, .scr _ => by simp [D.same]
  | .non, y => by
    cases y with
    | nd k ys => cases k with
      | lst f => cases f <;> simp [D.same]
      | _ => simp [D.same]
    | _ => simp [D.same]
  | .un, y => by
    cases y with
    | nd k ys => cases k with
      | lst f => cases f <;> simp [D.same]
      | _ => simp [D.same]
    | _ => simp [D.same]
  | .bl b, y => by
    cases y with
    | nd k ys => cases k with
      | lst f => cases f <;> simp [D.same]
      | _ => simp [D.same]
    | _ => simp [D.same]
  | .int b, y => by
    cases y with
    | nd k ys => cases k with
      | lst f => cases f <;> simp [D.same]
      | _ => simp [D.same]
    | int j => simp
    | _ => simp [D.same]
  | .str b, y => by
    cases y with
    | nd k ys => cases k with
      | lst f => cases f <;> simp [D.same]
      | _ => simp [D.same]
    | _ => simp [D.same]
  | .scr b, y => by
    cases y with
    | nd k ys => cases k with
      | lst f => cases f <;> simp [D.same]
      | _ => simp [D.same]
    | _ => simp [D.same]
theorem same_setL (g g' : Fl) : ∀ (xs ys : List D), D.sameL (D.setL g xs) (D.setL g' ys) = D.sameL xs ys
  | [], [] => by simp
  | x :: xs, y :: ys => by simp [same_set g g' x y, same_setL g g' xs ys]
  | [], y :: ys => by simp
  | x :: xs, [] => by simp
end
theorem ok_cases {x : D} {n : Nat} (h : D.ok x n = true) : x = .non ∨ (∃ b, x = .bl b) ∨ (∃ i, x = .int i) ∨ (∃ s, x = .str s ∧ PySem.PyData.strOk s = true) ∨ (∃ f xs m, x = .nd (.lst f) xs ∧ n = m + 1 ∧ D.okL xs m = true) ∨ (∃ xs m, x = .nd .tup xs ∧ n = m + 1 ∧ D.okL xs m = true) := by
  match x, n, h with
  | .non, _, _ => exact .inl rfl
  | .bl b, _, _ => exact .inr (.inl ⟨b, rfl⟩)
  | .int b, _, _ => exact .inr (.inr (.inl ⟨b, rfl⟩))
  | .str b, _, h => exact .inr (.inr (.inr (.inl ⟨b, rfl, by simpa using h⟩)))
  | .nd (.lst f) xs, n + 1, h => exact .inr (.inr (.inr (.inr (.inl ⟨f, xs, n, rfl, rfl, by simpa using h⟩))))
  | .nd .tup xs, n + 1, h => exact .inr (.inr (.inr (.inr (.inr ⟨xs, n, rfl, rfl, by simpa using h⟩))))
  | .nd (.lst f) xs, 0, h => simp [D.ok] at h
  | .nd .tup xs, 0, h => simp [D.ok] at h
  | .nd (.dct _ _) xs, _, h => simp [D.ok] at h
  | .nd (.ins _ _ _) xs, _, h => simp [D.ok] at h
  | .un, _, h => simp [D.ok] at h
  | .scr _, _, h => simp [D.ok] at h
theorem plD0_ok {x : D} {n : Nat} (h : D.ok x n = true) (r : Nat) (p : Pth) : plD0 r p x = some (.sc x) ∨ plD0 r p x = some (.pth r p) := by
  rcases ok_cases h with rfl | ⟨b, rfl⟩ | ⟨b, rfl⟩ | ⟨b, rfl, _⟩ | ⟨f, xs, m, rfl, _, _⟩ | ⟨xs, m, rfl, _, _⟩ <;> simp
theorem sameL_len : ∀ {xs ys : List D}, D.sameL xs ys = true → xs.length = ys.length
  | [], [], _ => rfl
  | x :: xs, y :: ys, h => by simp at h; simp [sameL_len h.2]
  | [], y :: ys, h => by simp at h
  | x :: xs, [], h => by simp at h
@[simp] theorem noOwn_un : D.noOwn .un = true := by simp [D.noOwn]
end PV

namespace PV
open PySem L2
section
variable {X : Cx} {C : Cc} {st ds : List D} {σ : L2.St} {vs : List V} {H H' : Hp} {a b e : Expr} {pos pos' p p2 : Pos} {ss : List Stmt} {m : MS} {Dn : Ends}
/-! ### refusals: classes below ValueError -/
structure ExcC (X : Cx) (C : Cc) (x : Str) : Prop where
  at_ : ∃ a, C.CA x = some a ∧ X.mg x = some (.ref a) ∧ PySem.W.excIn X.K a [.type "ValueError", .type "Exception", .type "BaseException", .type "object"] "ValueError.__new__" = true ∧ PySem.W.keepIn X.K (.ref a) = true ∧ PySem.W.subIn X.K (.ref a) (.type "BaseException") = some true ∧ PySem.W.typeIn X.K (.ref a) = some (.type "type")
def mRaise (c : Str) : MS := fun st => .ex ⟨c, "", none⟩ st
theorem vs_raise {x m : Str} {j : Nat} (O : COk X C) (hc : X.calm = true) (E : ExcC X C x) (hg : Gl X x) (hdb : (x == ("__debug__" : Str)) = false := by decide) : VS X C (.Raise (some (.Call (.Name x p) [.Constant (.str m) j p2] [] pos)) none pos') (mRaise x) := by
  obtain ⟨a, hca, gC, q, kC, sb, ty⟩ := E.at_
  refine (ps_raise hc O.tk (pmk_own PySem.F.excBase_ValueError q gC kC (raises_own sb ty) hg hdb)).impV ?_
  rintro Dn σ H ⟨st, ds, vs, s, hl, h⟩
  exact h σ _ none [] H (by simpa [Ex.ds] using s) ⟨a, hca, rfl, rfl, rfl⟩
/-! ### try .. except X: .. -/
/-- who catches whom: told by a table -/
def Hier (K : PySem.W.Frag) (CA : Str → Option Addr) (hi : Str → Str → Option Bool) : Prop := ∀ x y b, hi x y = some b → ∀ a, CA x = some a → ∃ c, CA y = some c ∧ PySem.W.exmOne K (.ref a) (.ref c) = some b
/-- the first clause that takes it -/
def hdl (hi : Str → Str → Option Bool) (e : Ex) (st : List D) : List (Str × MS) → RS
  | [] => .ex e st
  | (y, m) :: r => match hi e.c y with
    | some true => m st
    | some false => hdl hi e st r
    | none => .stuck
def mTry (hi : Str → Str → Option Bool) (mb : MS) (hs : List (Str × MS)) : MS := fun st => match mb st with
  | .ex e st' => hdl hi e st' hs
  | r => r
/-- the clauses' suites -/
inductive VHs (X : Cx) (C : Cc) : List ExceptHandler → List (Str × MS) → Prop
  | nil : VHs X C [] []
  | cons {x : Str} {b₀ : Stmt} {suite : List Stmt} {np pos' : Pos} {hds : List ExceptHandler} {m : MS} {l : List (Str × MS)} (hg : Gl X x) (hd : (x == ("__debug__" : Str)) = false) (hm : ∃ a, C.CA x = some a ∧ X.mg x = some (.ref a))
      (hb : ∀ (a : Addr) (oe : Obj) (pn : List (Addr × Obj)), VB (X.suite a ((a, oe) :: pn)) C (b₀ :: suite) m) (r : VHs X C hds l) :
      VHs X C (.ExceptHandler (some (.Name x np)) none (b₀ :: suite) pos' :: hds) ((x, m) :: l)
theorem VHs.ok {hds : List ExceptHandler} {l : List (Str × MS)} (h : VHs X C hds l) : ∃ l', HdsOk X hds l' ∧ ∀ (O : COk X C) (hi : Str → Str → Option Bool) (Hi : Hier C.K C.CA hi) (Dn : Ends) (ds : List D) (vs : List V) (hl : ds.length = vs.length) (e : Ex) (st : List D) (cls : Value) (dx : Option Addr) (us : List V) (σ' : L2.St) (H' : Hp),
    rZ C ds vs Dn (hdl hi e st l) → SX C st (ds ++ e.ds) σ' (vs ++ us) H' → ExOk C e cls dx H' us → wMany X.K C.W Dn l' cls dx σ' H' := by
  induction h with
  | nil => exact ⟨[], .nil, fun O hi Hi Dn ds vs hl e st cls dx us σ' H' hr s k => hr σ' cls dx us H' s k⟩
  | @cons x b₀ suite np pos' hds m l hg hd hm hb r ih =>
    obtain ⟨l', h1, h2⟩ := ih
    obtain ⟨a, ca, gm⟩ := hm
    refine ⟨(.ref a, fun _ _ _ => trS C m) :: l', .cons ⟨hg, hd, .inl gm⟩ (fun a' oe cls d pn _ _ => hb a' oe pn) h1, fun O hi Hi Dn ds vs hl e st cls dx us σ' H' hr s k => ?_⟩
    obtain ⟨ae, hae, rfl, kp⟩ := id k
    unfold hdl at hr
    cases q : hi e.c x with
    | none => rw [q] at hr; exact hr.elim
    | some b =>
      rw [q] at hr
      obtain ⟨c, hc, hx⟩ := Hi _ _ _ q ae hae
      rw [ca] at hc; cases hc
      refine ⟨b, by rw [← O.k]; exact hx, fun hb' a' na => ?_, fun hb' => ?_⟩
      · subst hb'
        exact ⟨st, ds, vs, s.drop hl, hl, hr⟩
      · subst hb'
        exact h2 O hi Hi Dn ds vs hl e st _ dx us σ' H' hr s k
theorem SR.setW {Z : Addr → Prop} {os : Ct} {W : WX} (s : SR C Z st ds σ vs H os) : SR { C with W := W } Z st ds σ vs H os := ⟨s.rp, s.nd, s.ln, s.sl, s.kp, s.fr, s.al, s.bb, s.fx⟩
theorem SX.setW {W : WX} (s : SX C st ds σ vs H) : SX { C with W := W } st ds σ vs H := let ⟨Z, os, s⟩ := s; ⟨Z, os, s.setW⟩
theorem SR.getW {Z : Addr → Prop} {os : Ct} {W : WX} (s : SR { C with W := W } Z st ds σ vs H os) : SR C Z st ds σ vs H os := ⟨s.rp, s.nd, s.ln, s.sl, s.kp, s.fr, s.al, s.bb, s.fx⟩
theorem SX.getW {W : WX} (s : SX { C with W := W } st ds σ vs H) : SX C st ds σ vs H := let ⟨Z, os, s⟩ := s; ⟨Z, os, s.getW⟩
theorem vs_try {hi : Str → Str → Option Bool} {h₀ : ExceptHandler} {hds : List ExceptHandler} {l : List (Str × MS)} {body : List Stmt} {mb : MS} (O : COk X C) (Hi : Hier C.K C.CA hi) (hs : X.stack = X.env :: X.outer) (hf : X.env.frame = some X.env.locals)
    (hb : ∀ (W : WX) (pn : List (Addr × Obj)) (xe : Value → Shared → Prop), COk (X.tr pn xe) { C with W := W } → PassesOwn (model X.prog X.w) X.A X.env xe → VB (X.tr pn xe) { C with W := W } body mb)
    (hh : VHs X C (h₀ :: hds) l) : VS X C (.Try body (h₀ :: hds) [] [] pos) (mTry hi mb l) := by
  obtain ⟨l', h1, h2⟩ := hh.ok
  refine (ps_try_many (tb := fun W => trS { C with W := W } mb) hs hf O.tk (fun W pn xe tk pa => hb W pn xe ⟨O.k, tk⟩ pa) h1).impV ?_
  rintro Dn σ H ⟨st, ds, vs, s, hl, h⟩
  refine ⟨st, ds, vs, s.setW, hl, ?_⟩
  unfold mTry at h
  cases q : mb st with
  | ex e st' =>
    rw [q] at h
    intro σ' cls dx us H' s' k
    exact h2 O hi Hi Dn ds vs hl e st' cls dx us σ' H' h s'.getW k
  | stuck => rw [q] at h; exact h.elim
  | nx st' => rw [q] at h; exact fun σ' H' s' => h σ' H' s'.getW
  | rt d st' => rw [q] at h; exact fun v σ' H' s' => h v σ' H' s'.getW
  | bk st' => rw [q] at h; exact fun σ' H' s' => h σ' H' s'.getW
  | ct st' => rw [q] at h; exact fun σ' H' s' => h σ' H' s'.getW
def hiOf (t : List (Str × Str × Bool)) (x y : Str) : Option Bool := match t with
  | [] => none
  | (a, b, c) :: r => if a = x ∧ b = y then some c else hiOf r x y
theorem hier_nil {K : PySem.W.Frag} {CA : Str → Option Addr} : Hier K CA (hiOf []) := fun x y b h => by simp [hiOf] at h
theorem hier_cons {K : PySem.W.Frag} {CA : Str → Option Addr} {x y : Str} {b : Bool} {r : List (Str × Str × Bool)} {a c : Addr} (h1 : CA x = some a) (h2 : CA y = some c) (h3 : PySem.W.exmOne K (.ref a) (.ref c) = some b) (h : Hier K CA (hiOf r)) : Hier K CA (hiOf ((x, y, b) :: r)) := fun x' y' b' e a' ha => by
  unfold hiOf at e
  split at e
  · rename_i q
    obtain ⟨rfl, rfl⟩ := q
    cases e
    rw [h1] at ha; cases ha
    exact ⟨c, h2, h3⟩
  · exact h x' y' b' e a' ha
/-! ### in running -/
@[simp] theorem mRaise_eq (c : Str) (st : List D) : mRaise c st = .ex ⟨c, "", none⟩ st := rfl
def RS.hd (r : RS) (hi : Str → Str → Option Bool) (hs : List (Str × MS)) : RS := match r with
  | .ex e st => hdl hi e st hs
  | r => r
@[simp] theorem hd_nx (st : List D) (hi : Str → Str → Option Bool) (hs : List (Str × MS)) : (RS.nx st).hd hi hs = .nx st := rfl
@[simp] theorem hd_rt (d : D) (st : List D) (hi : Str → Str → Option Bool) (hs : List (Str × MS)) : (RS.rt d st).hd hi hs = .rt d st := rfl
@[simp] theorem hd_bk (st : List D) (hi : Str → Str → Option Bool) (hs : List (Str × MS)) : (RS.bk st).hd hi hs = .bk st := rfl
@[simp] theorem hd_ct (st : List D) (hi : Str → Str → Option Bool) (hs : List (Str × MS)) : (RS.ct st).hd hi hs = .ct st := rfl
@[simp] theorem hd_ex (e : Ex) (st : List D) (hi : Str → Str → Option Bool) (hs : List (Str × MS)) : (RS.ex e st).hd hi hs = hdl hi e st hs := rfl
@[simp] theorem mTry_eq (hi : Str → Str → Option Bool) (mb : MS) (hs : List (Str × MS)) (st : List D) : mTry hi mb hs st = (mb st).hd hi hs := rfl
@[simp] theorem hdl_nil (hi : Str → Str → Option Bool) (e : Ex) (st : List D) : hdl hi e st [] = .ex e st := rfl
def hdlK (b : Option Bool) (m : MS) (e : Ex) (st : List D) (hi : Str → Str → Option Bool) (r : List (Str × MS)) : RS := match b with
  | some true => m st
  | some false => hdl hi e st r
  | none => .stuck
@[simp] theorem hdl_cons (hi : Str → Str → Option Bool) (e : Ex) (st : List D) (y : Str) (m : MS) (r : List (Str × MS)) : hdl hi e st ((y, m) :: r) = hdlK (hi e.c y) m e st hi r := by
  rw [hdl]
  rfl
@[simp] theorem hdlK_yes (m : MS) (e : Ex) (st : List D) (hi : Str → Str → Option Bool) (r : List (Str × MS)) : hdlK (some true) m e st hi r = m st := rfl
@[simp] theorem hdlK_no (m : MS) (e : Ex) (st : List D) (hi : Str → Str → Option Bool) (r : List (Str × MS)) : hdlK (some false) m e st hi r = hdl hi e st r := rfl
/-! ### x[lo:hi] of values -/
def slEK (x y : D) (lo : Option Int) (st : List D) : R D := match x, y with
  | .nd (.lst _) xs, .int u => .ok (.nd (.lst .own) (cutL xs lo (some u))) st
  | _, _ => .stuck
@[simp] theorem slEK_lst (f : Fl) (xs : List D) (u : Int) (lo : Option Int) (st : List D) : slEK (.nd (.lst f) xs) (.int u) lo st = .ok (.nd (.lst .own) (cutL xs lo (some u))) st := rfl
def mSlE (ma : List D → R D) (ql : List D → Option (Option Int)) (mb : List D → R D) : List D → R D := fun st => (ma st).bind fun x st1 => R.of (ql st1) fun lo => (mb st1).bind fun y st2 => slEK x y lo st2
@[simp] theorem mSlE_eq (ma : List D → R D) (ql : List D → Option (Option Int)) (mb : List D → R D) (st : List D) : mSlE ma ql mb st = (ma st).bind fun x st1 => R.of (ql st1) fun lo => (mb st1).bind fun y st2 => slEK x y lo st2 := rfl
theorem ve_slE {ma mb : List D → R D} {sa sb : Bool} {lo : Option Expr} {ql : List D → Option (Option Int)} (O : COk X C) (ha : VE X C sa a ma) (hlo : VO X C lo ql) (hb : VE X C sb b mb) : VE X C (sa && sb) (.Subscript a (.Slice lo (some b) none p2) pos) (mSlE ma ql mb) := by
  refine (pe_slice sl_list ha hlo (po_some hb)).impV ?_
  rintro σ H Q ⟨st, ds, vs, s, hl, h⟩
  refine seq1 (sm := sa && sb) s hl h fun x st1 v H1 sm s1 h1 => ?_
  cases e1 : ql st1 with
  | none => rw [e1] at h1; exact h1.elim
  | some l =>
    rw [e1] at h1
    refine ⟨st1, _, _, s1, ?_⟩
    rw [e1]
    refine ⟨st1, ds ++ [x], vs ++ [v], s1, by simp [hl], ?_⟩
    simp only [R.of_some] at h1
    cases e2 : mb st1 with
    | stuck => rw [e2] at h1; exact h1.elim
    | ex e st' =>
      rw [e2] at h1
      exact rX.up (d' := [x]) (v' := [v]) h1 hl rfl
    | ok y st2 =>
      rw [e2] at h1
      intro u H2 sm2 s2
      simp only [R.bind_ok] at h1
      match x, y, s2, h1 with
      | .nd (.lst f) xs, .int i, s2, h1 =>
        have eu : u = .int i := s2.scTop rfl
        subst eu
        obtain ⟨a', ws, rfl, hk, hlen, s3⟩ := s2.pop.open
        have hk' : H2 a' = some (.lst ws) := hk
        refine ⟨i, rfl, a', ws, rfl, SqL.of hk', fun q hq => h1 _ _ (fun z => ?_) ?_⟩
        · simp only [Bool.and_eq_true] at z
          exact ((sm z.1).trans (sm2 z.2)).trans (same_new hq)
        · exact (s3.thin hl (xs' := cutL xs l (some i)) (ws' := cutV ws l (some i)) fun G o r => r.cutL l (some i)).alloc hl hq (show (upd H2 q (.lst (cutV ws l (some i)))) q = some (.lst (cutV ws l (some i))) from upd_same) (.inr rfl)
      | .un, _, _, h1 => exact h1.elim
      | .non, _, _, h1 => exact h1.elim
      | .bl _, _, _, h1 => exact h1.elim
      | .int _, _, _, h1 => exact h1.elim
      | .str _, _, _, h1 => exact h1.elim
      | .scr _, _, _, h1 => exact h1.elim
      | .nd .tup _, _, _, h1 => exact h1.elim
      | .nd (.dct _ _) _, _, _, h1 => exact h1.elim
      | .nd (.ins _ _ _) _, _, _, h1 => exact h1.elim
      | .nd (.lst _) _, .un, _, h1 => exact h1.elim
      | .nd (.lst _) _, .non, _, h1 => exact h1.elim
      | .nd (.lst _) _, .bl _, _, h1 => exact h1.elim
      | .nd (.lst _) _, .str _, _, h1 => exact h1.elim
      | .nd (.lst _) _, .scr _, _, h1 => exact h1.elim
      | .nd (.lst _) _, .nd _ _, _, h1 => exact h1.elim
end
end PV

namespace PV
open PySem L2
section
variable {X : Cx} {C : Cc} {st ds : List D} {σ : L2.St} {vs : List V} {H H' : Hp} {a b e : Expr} {pos pos' p p2 : Pos}
/-! ### a temporary is changed -/
theorem SX.mutT {k k' : Kd} {xs xs' new : List D} {ws ws' nw : List V} {a : Addr} {o' : HO} (s : SX C st (ds ++ (.nd k xs :: new)) σ (vs ++ (.ref a :: nw)) H) (hl : ds.length = vs.length) (hf : k.fl = some .own) (hk : HoK C.CA H a ws k)
    (hk' : HoK C.CA (upd H a o') a ws' k') (hf' : k'.fl = some .own)
    (build : ∀ (G : Gd) (ox on : Ct), RpL G xs ws ox → RpL G new nw on → ∃ ox', RpL G xs' ws' ox' ∧ ∀ b, ox' b ≤ ox b + on b) : SX C st (ds ++ [.nd k' xs']) σ (vs ++ [.ref a]) (upd H a o') := by
  have t := s.rot hl
  obtain ⟨Z, os, t⟩ := t
  rw [← List.append_assoc, ← List.append_assoc] at t
  obtain ⟨o1, o2, o3, r1, r2, r3, e⟩ := t.top
  obtain ⟨o4, o5, r4, r5, e'⟩ := RpL.cut hl r2
  cases r3 with
  | nd hk2 rl n =>
    rename_i ws2 ox
    have ew : ws2 = ws := by
      obtain ⟨q1, q2, q3⟩ := hk2.vals
      obtain ⟨q4, q5, q6⟩ := hk.vals
      have q2' : H a = some q1 := q2
      rw [q2'] at q5; cases q5; exact q3.symm.trans q6
    subst ew
    rw [hf] at n
    obtain ⟨nz, nb, on⟩ := n
    have eq : ∀ b, os b = o1 b + o4 b + o5 b + one a b + ox b := fun b => by rw [e, e', on]; omega
    have za : o1 a + o4 a + o5 a + ox a = 0 := by have := t.nd a; rw [eq, one_self] at this; omega
    have keep : ∀ b u, b ≠ a → H b = some u → upd H a o' b = some u := fun b u q z => by rw [upd_ne q]; exact z
    have T : Gd.To (C.G Z H) (C.G Z (upd H a o')) (fun b => o1 b + o4 b + o5 b + ox b) :=
      ⟨rfl, rfl, fun b u q z => keep b u (fun y => by
        subst y
        rcases z with z | z
        · (try dsimp only at z); omega
        · exact z nz) q, fun b u q z => z, fun b q => (t.rp.dom b (by rw [eq]; (try dsimp only at *); omega)).2, fun _ _ _ _ q => q⟩
    obtain ⟨ox', rx', hx'⟩ := build _ _ _ (rl.mono (T.sub fun b q => by (try dsimp only); omega)) (r5.mono (T.sub fun b q => by (try dsimp only); omega))
    have node : Rp (C.G Z (upd H a o')) (.nd k' xs') (.ref a) (fun b => one a b + ox' b) := .nd hk' rx' (by rw [hf']; exact ⟨nz, nb, fun _ => rfl⟩)
    have t2 : SR C Z st (ds ++ [.nd k' xs']) σ (vs ++ [.ref a]) (upd H a o') (fun b => o1 b + o4 b + (one a b + ox' b)) :=
      ⟨(r1.mono (T.sub fun b q => by (try dsimp only); omega)).app (o2 := fun b => o4 b + (one a b + ox' b)) ((r4.mono (T.sub fun b q => by (try dsimp only); omega)).app (RpL.one node) fun _ => rfl) (fun b => by (try dsimp only); omega),
        fun b => by have := t.nd b; rw [eq] at this; have := hx' b; (try dsimp only); omega, t.ln, t.sl, fun b u q z => keep b u (fun y => by
          subst y
          rcases t.fr b nz with w | w
          · omega
          · rw [q] at w; cases w) (t.kp b u q z), t.fr, fun b z => by
            by_cases q : b = a
            · subst q; exact ⟨o', upd_same, hk'.notup hf' upd_same⟩
            · obtain ⟨u, w, w2⟩ := t.al b z; exact ⟨u, keep b u q w, w2⟩, t.bb, t.fx⟩
    exact t2.sx
/-! ### slots forgotten -/
def wipeD (st : List D) : List Nat → List D
  | [] => st
  | v :: vs => (wipeD st vs).set v .un
theorem wipeD_len (st : List D) : ∀ ws : List Nat, (wipeD st ws).length = st.length
  | [] => rfl
  | v :: ws => by unfold wipeD; rw [List.length_set, wipeD_len st ws]
theorem wipeD_in {st : List D} {i : Nat} : ∀ {ws : List Nat}, i ∈ ws → i < st.length → (wipeD st ws)[i]? = some .un
  | v :: ws, h, hl => by
    unfold wipeD
    by_cases e : v = i
    · subst e
      rw [List.getElem?_set_self (by rw [wipeD_len]; exact hl)]
    · rw [List.getElem?_set_ne e]
      simp at h
      exact wipeD_in (h.resolve_left (Ne.symm e)) hl
theorem wipe_out {σ : L2.St} {i : Nat} : ∀ {ws : List Nat}, i ∉ ws → (wipe σ ws)[i]? = σ[i]?
  | [], _ => rfl
  | v :: ws, h => by
    unfold wipe
    simp at h
    rw [List.getElem?_set_ne (Ne.symm h.1)]
    exact wipe_out h.2
theorem wipe_in {σ : L2.St} {i : Nat} : ∀ {ws : List Nat}, i ∈ ws → i < σ.length → (wipe σ ws)[i]? = some none
  | v :: ws, h, hl => by
    unfold wipe
    by_cases e : v = i
    · subst e
      rw [List.getElem?_set_self (by rw [wipe_length]; exact hl)]
    · rw [List.getElem?_set_ne e]
      simp at h
      exact wipe_in (h.resolve_left (Ne.symm e)) hl
theorem wipe_ext {σ σ2 : L2.St} {ws : List Nat} (hl : σ2.length = σ.length) (h : ∀ i, i ∉ ws → σ2[i]? = σ[i]?) : wipe σ2 ws = wipe σ ws := by
  apply List.ext_getElem?
  intro i
  by_cases q : i ∈ ws
  · by_cases l : i < σ.length
    · rw [wipe_in q l, wipe_in q (by omega)]
    · rw [List.getElem?_eq_none (by rw [wipe_length]; omega), List.getElem?_eq_none (by rw [wipe_length]; omega)]
  · rw [wipe_out q, wipe_out q, h i q]
theorem wipe_set {σ : L2.St} {i : Nat} {v : Option V} {ws : List Nat} (hi : i ∈ ws) : wipe (σ.set i v) ws = wipe σ ws :=
  wipe_ext (by simp) fun j hj => by have e : i ≠ j := fun e => hj (by rw [← e]; exact hi); rw [List.getElem?_set_ne e]
theorem RpL.other {G : Gd} : ∀ {xs : List D} {ws ws' : List V} {os : Ct}, RpL G xs ws os → ws'.length = ws.length → (∀ i : Nat, xs[i]? = some D.un ∨ ws'[i]? = ws[i]?) → RpL G xs ws' os
  | _, _, [], _, .nil h, _, _ => .nil h
  | _, _, [], _, .cons _ _ _, h, _ => by simp at h
  | _, _, w' :: ws', _, .nil _, h, _ => by simp at h
  | d :: xs, w :: ws, w' :: ws', os, .cons r t h, hl, k => by
    refine .cons ?_ (RpL.other t (by simpa using hl) fun i => by simpa using k (i + 1)) h
    rcases k 0 with q | q
    · simp at q; subst q
      cases r with | un z => exact .un z
    · simp at q; subst q; exact r
theorem SX.unSlots (s : SX C st ds σ vs H) : ∀ ws : List Nat, SX C (wipeD st ws) ds σ vs H
  | [] => s
  | _ :: ws => (s.unSlots ws).unSlot
theorem SX.rewipe {σ2 : L2.St} {ws : List Nat} (s : SX C st ds σ2 vs H) (hl : σ.length = σ2.length) (h : ∀ i, i ∉ ws → σ2[i]? = σ[i]?) (hf : ∀ i ∈ ws, C.fx i = none) : SX C (wipeD st ws) ds σ vs H := by
  obtain ⟨Z, os, t⟩ := s.unSlots ws
  obtain ⟨o1, o2, r1, r2, e⟩ := t.cut
  have ln := t.ln
  have key : ∀ i : Nat, (wipeD st ws)[i]? = some D.un ∨ σ[i]? = σ2[i]? := fun i => by
    by_cases q : i ∈ ws
    · by_cases l : i < st.length
      · exact .inl (wipeD_in q l)
      · rw [wipeD_len] at ln
        exact .inr (by rw [List.getElem?_eq_none (by omega), List.getElem?_eq_none (by omega)])
    · exact .inr (h i q).symm
  refine ⟨Z, os, (r1.other (ws' := σ.map gd) (by simp [hl]) fun i => (key i).imp id fun q => by simp [q]).app r2 e, t.nd, by rw [ln, hl], fun i d hd hn => ?_, t.kp, t.fr, t.al, t.bb, fun i v hv => ?_, by rw [hl]; exact t.fx.2⟩
  · rcases key i with q | q
    · rw [hd] at q; cases q; exact absurd rfl hn
    · rw [q]; exact t.sl i d hd hn
  · have q : i ∉ ws := fun z => by rw [hf i z] at hv; cases hv
    rw [← h i q]; exact t.fx.1 i v hv
theorem SX.rewipe1 {σ2 : L2.St} {ws : List Nat} (s : SX C st ds σ2 vs H) (hw : wipe σ2 ws = wipe σ ws) (hf : ∀ i ∈ ws, C.fx i = none) : SX C (wipeD st ws) ds σ vs H :=
  s.rewipe (by have := congrArg List.length hw; rw [wipe_length, wipe_length] at this; exact this.symm) (fun i q => by rw [← wipe_out (σ := σ2) q, hw, wipe_out q]) hf
theorem SX.towipe {ws : List Nat} (s : SX C st ds σ vs H) (hf : ∀ i ∈ ws, C.fx i = none) : SX C (wipeD st ws) ds (wipe σ ws) vs H :=
  s.rewipe (wipe_length σ ws) (fun i q => (wipe_out q).symm) hf
/-! ### a comprehension's target -/
def trGo (C : Cc) (ws : List Nat) (g : MG) : TG := fun v σ H Q => ∃ st ds vs d, SX C st (ds ++ [d]) σ (vs ++ [v]) H ∧ ds.length = vs.length ∧ match g d st with
  | some st' => ∀ σ' H', wipe σ' ws = wipe σ ws → SX C st' ds σ' vs H' → Q σ' H'
  | none => False
def VGo (X : Cx) (C : Cc) (ws : List Nat) (t : Expr) (g : MG) : Prop := PG X t (trGo C ws g)
def trGso (C : Cc) (ws : List Nat) (g : MGs) : TGs := fun us σ H Q => ∃ st ds vs xs, SX C st (ds ++ xs) σ (vs ++ us) H ∧ ds.length = vs.length ∧ match g xs st with
  | some st' => ∀ σ' H', wipe σ' ws = wipe σ ws → SX C st' ds σ' vs H' → Q σ' H'
  | none => False
def VGso (X : Cx) (C : Cc) (ws : List Nat) (t : List Expr) (g : MGs) : Prop := PGs X t (trGso C ws g)
theorem vgo_name {ws : List Nat} {i : Nat} {x : Str} {p : Pos} (hN : X.N.Nodup) (hw : i ∈ ws) (hfx : C.fx i = none) (hi : X.N[i]? = some x := by rfl) (hx : Loc X.env.scope x := by first | exact Or.inl rfl | exact Or.inr rfl) (hf : X.fn x = true ∨ X.env.scope.names.lookup x = some .local := by first | exact .inl rfl | exact .inr rfl | assumption) : VGo X C ws (.Name x p) (gNm i) := by
  refine (pg_name hN hi hx hf).impV ?_
  rintro v σ H Q ⟨st, ds, vs, d, s, hl, h⟩
  unfold gNm at h
  split at h
  · rename_i st' e
    split at e
    · rename_i hlt
      simp at e; subst e
      exact h _ H (wipe_set hw) (s.toSlot hlt hfx)
    · cases e
  · exact h.elim
theorem vgso_nil {ws : List Nat} : VGso X C ws [] gN0 := by
  refine pgs_nil.impV ?_
  rintro us σ H Q ⟨st, ds, vs, xs, s, hl, h⟩
  cases xs with
  | nil =>
    have hd := s.dn
    simp at hd
    have : us = [] := List.length_eq_zero_iff.mp (by omega)
    subst this
    exact ⟨rfl, h σ H rfl (by simpa using s)⟩
  | cons x xs => exact h.elim
theorem vgso_cons {ws : List Nat} {es : List Expr} {g : MG} {gs : MGs} (h1 : VGo X C ws e g) (h2 : VGso X C ws es gs) (hs : (assignEach (e :: es) X.env).map (·.2) = assign e X.env :: (assignEach es X.env).map (·.2) := by rfl) : VGso X C ws (e :: es) (gC1 g gs) := by
  refine (pgs_cons h1 h2 hs).impV ?_
  rintro us σ H Q ⟨st, ds, vs, xs, s, hl, h⟩
  cases xs with
  | nil => exact h.elim
  | cons x xs =>
    have hd := s.dn
    cases us with
    | nil => simp at hd; omega
    | cons u us =>
      refine ⟨u, us, rfl, st, ds ++ xs, vs ++ us, x, ?_, by simp at hd ⊢; omega, ?_⟩
      · have := s.rot hl; simpa [List.append_assoc] using this
      · unfold gC1 at h
        simp only at h
        cases q : g x st with
        | none => rw [q] at h; exact h.elim
        | some st1 =>
          rw [q] at h
          simp only at h
          intro σ' H' w' s'
          refine ⟨st1, ds, vs, xs, s', hl, ?_⟩
          cases q2 : gs xs st1 with
          | none => rw [q2] at h; exact h.elim
          | some st2 => rw [q2] at h; exact fun σ'' H'' w'' s'' => h σ'' H'' (w''.trans w') s''
theorem vgo_tup {ws : List Nat} {es : List Expr} {gs : MGs} {j n : Nat} (O : COk X C) (hc : X.calm = true) (h : VGso X C ws es gs) (hn : (assignEach es X.env).length = n := by rfl) (hst : (assignEach es X.env).findIdx? (·.1) = none := by rfl) : VGo X C ws (.Tuple es j pos) (gTu n gs) := by
  refine (pg_tup hc h hn hst).impV ?_
  rintro v σ H Q ⟨st, ds, vs, d, s, hl, h⟩
  unfold gTu at h
  cases d with
  | nd k xs =>
    cases k with
    | tup =>
      simp only at h
      split at h
      · rename_i st' hq
        split at hq
        · rename_i hlen
          obtain ⟨a, ws, rfl, hk, hw, s2⟩ := s.open
          refine ⟨a, ws, rfl, SqT.of hk, by rw [← hw]; exact hlen, st, ds, vs, xs, s2, hl, ?_⟩
          rw [hq]; exact h
        · cases hq
      · exact h.elim
    | _ => exact h.elim
  | _ => exact h.elim
/-! ### [elt for tg in xs if ..] -/
def VTs (X : Cx) (C : Cc) (ifs : List Expr) (m : List D → R Bool) : Prop := PTs X ifs (trT C m)
def mYes : List D → R Bool := fun st => .ok true st
theorem vts_nil : VTs X C [] mYes := ⟨fun pins s σ H Q I ⟨st, ds, vs, q, hl, h⟩ => pts_nil.run pins s σ H Q I (h H q)⟩
theorem vts_one {m : List D → R Bool} (h : VT X C e m) : VTs X C [e] m := pts_one h
/-- a turn -/
def lcT (ws : List Nat) (g : MG) (mt : List D → R Bool) (me : List D → R D) (x : D) (st : List D) : R (Option D) := match g x (wipeD st ws) with
  | some st1 => (mt st1).bind fun b st2 => if b = true then (me st2).bind fun y st3 => .ok (some y) (wipeD st3 ws) else .ok none (wipeD st2 ws)
  | none => .stuck
def lcL (T : D → List D → R (Option D)) : List D → List D → List D → R (List D)
  | [], acc, st => .ok acc st
  | x :: r, acc, st => match T x st with
    | .ok (some y) st' => if acc.length < sizeLine then lcL T r (acc ++ [y]) st' else .stuck
    | .ok none st' => lcL T r acc st'
    | _ => .stuck
def lcE : R (List D) → R D
  | .ok acc st => .ok (.nd (.lst .own) acc) st
  | _ => .stuck
/-- the state of a turn's beginning, the new list last -/
def LcP (C : Cc) (T : D → List D → R (Option D)) (ds ls : List D) (σ : L2.St) (vs lv : List V) (Da : Addr) (accE stE xs : List D) (H : Hp) : Prop :=
  ∃ st acc, SX C st (ds ++ ls ++ [.nd (.lst .own) acc]) σ (vs ++ lv ++ [.ref Da]) H ∧ lcL T xs acc st = .ok accE stE
theorem COk.noX (O : COk X C) : COk X { C with W := fun _ _ _ _ => False } := ⟨O.k, fun u s' ⟨a, B, sI, pins, σ, H, cls, d, e, I, nb, up, sky, na, os, ag, w⟩ => w.elim⟩
abbrev Cc.noX (C : Cc) : Cc := { C with W := fun _ _ _ _ => False }
theorem lc_step {ws : List Nat} {g : MG} {mt : List D → R Bool} {me : List D → R D} {se : Bool} {ls : List D} {lv : List V} {Da : Addr} {accE stE r acc : List D} {x : D} {w : V} (hf : ∀ i ∈ ws, C.fx i = none) (hl : ds.length = vs.length) (hll : ls.length = lv.length)
    (s : SX C st (ds ++ [.nd (.lst .own) acc] ++ ls ++ [x]) σ (vs ++ [.ref Da] ++ lv ++ [w]) H) (h : lcL (lcT ws g mt me) (x :: r) acc st = .ok accE stE) :
    trGo C.noX ws g w (wipe σ ws) H fun σ2 H2 => wipe σ2 ws = wipe σ ws ∧ trT C.noX mt σ2 H2 fun b H3 =>
      if b = true then trE C.noX se me σ2 H3 fun y H4 => ∃ acc, H4 Da = some (.lst acc) ∧ acc.length < sizeLine ∧ LcP C (lcT ws g mt me) ds ls σ vs lv Da accE stE r (upd H4 Da (.lst (acc ++ [y]))) else LcP C (lcT ws g mt me) ds ls σ vs lv Da accE stE r H3 := by
  refine ⟨wipeD st ws, ds ++ [.nd (.lst .own) acc] ++ ls, vs ++ [.ref Da] ++ lv, x, (s.towipe hf).setW, by simp [hl, hll], ?_⟩
  simp only [lcL] at h
  cases qT : lcT ws g mt me x st with
  | stuck => rw [qT] at h; cases h
  | ex _ _ => rw [qT] at h; cases h
  | ok o st' =>
    rw [qT] at h
    unfold lcT at qT
    cases qg : g x (wipeD st ws) with
    | none => rw [qg] at qT; cases qT
    | some st1 =>
      rw [qg] at qT
      simp only at qT
      intro σ2 H2 hw s2
      have hw2 : wipe σ2 ws = wipe σ ws := hw.trans (wipe_ext (wipe_length σ ws) fun i q => wipe_out q)
      refine ⟨hw2, st1, _, _, s2, by simp [hl, hll], ?_⟩
      cases qt : mt st1 with
      | stuck => rw [qt] at qT; cases qT
      | ex _ _ => rw [qt] at qT; cases qT
      | ok b st2 =>
        rw [qt] at qT
        simp only [R.bind_ok] at qT
        intro H3 s3
        cases b with
        | false =>
          simp only [Bool.false_eq_true, if_false] at qT ⊢
          cases qT
          refine ⟨wipeD st2 ws, acc, ?_, h⟩
          have s4 := (s3.getW.rewipe1 hw2 hf)
          have s5 := SX.rot (x := .nd (.lst .own) acc) (v := .ref Da) (B := ls) (vB := lv) (by simpa [List.append_assoc] using s4) hl
          simpa [List.append_assoc] using s5
        | true =>
          simp only [if_true] at qT ⊢
          refine ⟨st2, _, _, s3, by simp [hl, hll], ?_⟩
          cases qe : me st2 with
          | stuck => rw [qe] at qT; cases qT
          | ex _ _ => rw [qe] at qT; cases qT
          | ok y st3 =>
            rw [qe] at qT
            simp only [R.bind_ok] at qT
            cases qT
            intro v H4 _ s4
            have s5 := s4.getW.rewipe1 hw2 hf
            have s6 := SX.rot (x := .nd (.lst .own) acc) (v := .ref Da) (B := ls ++ [y]) (vB := lv ++ [v]) (by simpa [List.append_assoc] using s5) hl
            have s7 := SX.rot (ds := ds ++ ls) (vs := vs ++ lv) (x := y) (v := v) (B := [.nd (.lst .own) acc]) (vB := [.ref Da]) (by simpa [List.append_assoc] using s6) (by simp [hl, hll])
            have s8 : SX C (wipeD st3 ws) ((ds ++ ls) ++ (.nd (.lst .own) acc :: [y])) σ ((vs ++ lv) ++ (.ref Da :: [v])) H4 := by simpa [List.append_assoc] using s7
            have s9 : SX C (wipeD st3 ws) ((ds ++ ls) ++ [.nd (.lst .own) acc]) σ ((vs ++ lv) ++ [.ref Da]) H4 := SX.drop (ds' := [y]) (vs' := [v]) (by simpa [List.append_assoc] using s8) (by simp [hl, hll])
            obtain ⟨a', us, Z, os, e', hk, rl⟩ := s9.ndTop
            cases e'
            have hk1 : H4 Da = some (.lst us) := hk
            simp only at h
            split at h
            · rename_i hz
              refine ⟨us, hk1, by rw [← rl.len]; exact hz, wipeD st3 ws, acc ++ [y], ?_, h⟩
              exact s8.mutT (k' := .lst .own) (xs' := acc ++ [y]) (ws' := us ++ [v]) (by simp [hl, hll]) rfl hk1 (show (upd H4 Da (.lst (us ++ [v]))) Da = some (.lst (us ++ [v])) from upd_same) rfl fun G ox on r1 r2 => ⟨fun b => ox b + on b, r1.app r2 fun _ => rfl, fun _ => Nat.le_refl _⟩
            · cases h
end
end PV

namespace PV
open PySem L2
section
variable {X : Cx} {C : Cc} {st ds : List D} {σ : L2.St} {vs : List V} {H H' : Hp} {a b e elt tg iter : Expr} {pos pos' spos p p2 py : Pos} {ma mb : List D → R D} {sa sb se : Bool} {ws : List Nat} {g : MG} {mt : List D → R Bool} {me : List D → R D} {ifs : List Expr} {scope : Scope} {own : List (Str × Nat)}
def mLcL (ma : List D → R D) (ws : List Nat) (g : MG) (mt : List D → R Bool) (me : List D → R D) : List D → R D := fun st => (ma st).bind fun d st1 => match d.frz with
  | .nd (.lst _) xs => lcE (lcL (lcT ws g mt me) xs [] st1)
  | _ => .stuck
theorem lcL_red (hf : ∀ i ∈ ws, C.fx i = none) : ∀ σ H Q, trE C false (mLcL ma ws g mt me) σ H Q → tLc (iList X.K (trE C sa ma)) (trGo C.noX ws g) (trT C.noX mt) (trE C.noX se me) ws σ H Q := by
  rintro σ H Q ⟨st, ds, vs, s, hl, h⟩
  show trE C sa ma σ H _
  refine seq1 (sm := false) s hl h fun d st1 v H1 _ s1 h1 => ?_
  have s2 := s1.frzTop
  generalize hd : d.frz = df at h1 s2
  match df, h1 with
  | .nd (.lst f) xs, h1 =>
    have hfz := kd_frz hd
    obtain ⟨a, us, Z, os, rfl, hk, rl⟩ := s2.ndTop
    refine ⟨a, rfl, ⟨us, SqL.of hk⟩, fun Da hD => ?_⟩
    simp only at h1
    cases qL : lcL (lcT ws g mt me) xs [] st1 with
    | stuck => rw [qL] at h1; exact h1.elim
    | ex _ _ => rw [qL] at h1; exact h1.elim
    | ok accE stE =>
      rw [qL] at h1
      have h1 : rE C false ds vs σ H Q (.ok (.nd (.lst .own) accE) stE) := h1
      have s3 : SX C st1 (ds ++ [.nd (.lst f) xs] ++ [.nd (.lst .own) []]) σ (vs ++ [.ref a] ++ [.ref Da]) (upd H1 Da (.lst [])) :=
        SX.alloc (xs := []) (ws := []) (by simpa using s2) (by simp [hl]) hD (show (upd H1 Da (.lst [])) Da = some (.lst []) from upd_same) (.inr rfl)
      have back : ∀ {acc st' H}, SX C st' (ds ++ [.nd (.lst f) xs] ++ [.nd (.lst .own) acc]) σ (vs ++ [.ref a] ++ [.ref Da]) H → SX C st' (ds ++ [.nd (.lst .own) acc] ++ [.nd (.lst f) xs]) σ (vs ++ [.ref Da] ++ [.ref a]) H := fun {acc st' H} s4 => by
        have := SX.rot (x := .nd (.lst f) xs) (v := .ref a) (B := [.nd (.lst .own) acc]) (vB := [.ref Da]) (by simpa [List.append_assoc] using s4) hl
        simpa [List.append_assoc] using this
      have at_ : ∀ {r H}, LcP C (lcT ws g mt me) ds [.nd (.lst f) xs] σ vs [.ref a] Da accE stE r H → ∃ us', H a = some (.lst us') ∧ xs.length = us'.length := fun {r H} ⟨st', acc, s4, _⟩ => by
        obtain ⟨a', us', Z', os', e', hk', rl'⟩ := (back s4).ndTop
        cases e'
        exact ⟨us', hk', rl'.len⟩
      refine ⟨fun i m H => m = xs.length - i ∧ i ≤ xs.length ∧ LcP C (lcT ws g mt me) ds [.nd (.lst f) xs] σ vs [.ref a] Da accE stE (xs.drop i) H, ⟨xs.length, by simp, Nat.zero_le _, st1, [], s3, by simpa using qL⟩, ?_⟩
      rintro i m H ⟨rfl, hi, p⟩
      obtain ⟨us', hk', hlen⟩ := at_ p
      by_cases hlt : i < xs.length
      · refine .inr ⟨⟨us', us'[i], SqL.of hk', by simp [← hlen, hlt]⟩, LcP C (lcT ws g mt me) ds [.nd (.lst f) xs] σ vs [.ref a] Da accE stE (xs.drop (i + 1)), fun H' p' => ⟨xs.length - (i + 1), by omega, rfl, hlt, p'⟩, fun x H' y => ?_⟩
        obtain ⟨e, y⟩ := y
        subst e
        obtain ⟨st', acc, s4, h4⟩ := p
        have hx : xs[i]? = some xs[i] := by simp [hlt]
        have s6 := (back s4).item hfz hx hk' (y us' (SqL.of hk'))
        rw [List.drop_eq_getElem_cons hlt] at h4
        exact lc_step hf hl rfl s6 h4
      · have e : i = xs.length := by omega
        subst e
        refine .inl ⟨⟨us', SqL.of hk', by omega⟩, ?_⟩
        obtain ⟨st', acc, s4, h4⟩ := p
        rw [List.drop_length] at h4
        simp only [lcL] at h4
        cases h4
        exact h1 _ _ (fun z => by cases z) (s4.dropMid hl rfl)
  | .un, h1 => exact h1.elim
  | .non, h1 => exact h1.elim
  | .bl _, h1 => exact h1.elim
  | .int _, h1 => exact h1.elim
  | .str _, h1 => exact h1.elim
  | .scr _, h1 => exact h1.elim
  | .nd .tup _, h1 => exact h1.elim
  | .nd (.dct _ _) _, h1 => exact h1.elim
  | .nd (.ins _ _ _) _, h1 => exact h1.elim
theorem rg_red (hf : ∀ i ∈ ws, C.fx i = none) {i j : Int} {Q : VK} {H0 : Hp} (hl : ds.length = vs.length) (s : SX C st ds σ vs H) (h : rE C false ds vs σ H0 Q (lcE (lcL (lcT ws g mt me) (rangeD i j) [] st))) {Da : Addr} (hD : H Da = none) :
    ∃ W : Nat → Nat → Hp → Prop, (∃ m, W 0 m (upd H Da (.lst []))) ∧ ∀ k m H, W k m H →
      ((Itr i (j - i).toNat).stop k H ∧ Q (.ref Da) H) ∨ ((Itr i (j - i).toNat).go k H ∧ ∃ Nx : Hp → Prop, (∀ H', Nx H' → ∃ m', m' < m ∧ W (k + 1) m' H') ∧ ∀ x H', (Itr i (j - i).toNat).yld k H x H' → trGo C.noX ws g x (wipe σ ws) H' fun σ2 H2 => wipe σ2 ws = wipe σ ws ∧ trT C.noX mt σ2 H2 fun b H3 =>
        if b = true then trE C.noX se me σ2 H3 fun y H4 => ∃ acc, H4 Da = some (.lst acc) ∧ acc.length < sizeLine ∧ Nx (upd H4 Da (.lst (acc ++ [y]))) else Nx H3) := by
  cases qL : lcL (lcT ws g mt me) (rangeD i j) [] st with
  | stuck => rw [qL] at h; exact h.elim
  | ex _ _ => rw [qL] at h; exact h.elim
  | ok accE stE =>
    rw [qL] at h
    have h : rE C false ds vs σ H0 Q (.ok (.nd (.lst .own) accE) stE) := h
    have s3 : SX C st (ds ++ [.nd (.lst .own) []]) σ (vs ++ [.ref Da]) (upd H Da (.lst [])) :=
      SX.alloc (xs := []) (ws := []) (by simpa using s) hl hD (show (upd H Da (.lst [])) Da = some (.lst []) from upd_same) (.inr rfl)
    refine lc_range (lo := i) (n := (j - i).toNat) (fun k H => LcP C (lcT ws g mt me) ds [] σ vs [] Da accE stE ((rangeD i j).drop k) H) ⟨st, [], by simpa using s3, by simpa using qL⟩ (fun k H hk p => ?_) (fun H p => ?_)
    · obtain ⟨st', acc, s4, h4⟩ := p
      have hk' : k < (rangeD i j).length := by rw [rangeD_len]; exact hk
      have hx : (rangeD i j)[k] = .int (i + (k : Nat)) := by
        have := rangeD_get hk
        rw [List.getElem?_eq_getElem hk'] at this
        exact Option.some.inj this
      rw [List.drop_eq_getElem_cons hk', hx] at h4
      exact lc_step (ls := []) (lv := []) hf hl rfl (by simpa using s4.pushc (d := .int (i + (k : Nat))) rfl) h4
    · obtain ⟨st', acc, s4, h4⟩ := p
      rw [← rangeD_len i j, List.drop_length] at h4
      simp only [lcL] at h4
      cases h4
      exact h _ _ (fun z => by cases z) (by simpa using s4)
def mLcR (ma mb : List D → R D) (ws : List Nat) (g : MG) (mt : List D → R Bool) (me : List D → R D) : List D → R D := fun st => (ma st).bind fun x st1 => (mb st1).bind fun y st2 => match x, y with
  | .int i, .int j => if -(2 ^ 62) ≤ i ∧ i < 2 ^ 62 ∧ -(2 ^ 62) ≤ j ∧ j < 2 ^ 62 then lcE (lcL (lcT ws g mt me) (rangeD i j) [] st2) else .stuck
  | _, _ => .stuck
def mLcR1 (ma : List D → R D) (ws : List Nat) (g : MG) (mt : List D → R Bool) (me : List D → R D) : List D → R D := mLcR (mK (.int 0)) ma ws g mt me
/-- what a comprehension's block is asked -/
structure Blk (X : Cx) (C : Cc) (scope : Scope) (own : List (Str × Nat)) (tg elt : Expr) (ifs : List Expr) (g : MG) (mt : List D → R Bool) (se : Bool) (me : List D → R D) : Prop where
  ok : blkC X.N X.env.scope scope own = true
  hg : ∀ (s : Shared) (H : Hp) (c : Addr) (cl : List (Str × Addr)) (fp : List Addr), COk (X.blk s H scope (compEnvC scope cl c X.env) fp) C.noX → VGo (X.blk s H scope (compEnvC scope cl c X.env) fp) C.noX (own.map (·.2)) tg g
  ht : ∀ (s : Shared) (H : Hp) (c : Addr) (cl : List (Str × Addr)) (fp : List Addr), COk (X.blk s H scope (compEnvC scope cl c X.env) fp) C.noX → VTs (X.blk s H scope (compEnvC scope cl c X.env) fp) C.noX ifs mt
  he : ∀ (s : Shared) (H : Hp) (c : Addr) (cl : List (Str × Addr)) (fp : List Addr), COk (X.blk s H scope (compEnvC scope cl c X.env) fp) C.noX → VE (X.blk s H scope (compEnvC scope cl c X.env) fp) C.noX se elt me
theorem blkC_by {N Nn : List Str} {sc scn scope : Scope} {own : List (Str × Nat)} (h1 : N = Nn) (h2 : sc = scn) (h : blkC Nn scn scope own = true) : blkC N sc scope own = true := by rw [h1, h2]; exact h
theorem fxs_nil {fx : Nat → Option V} : ∀ i ∈ ([] : List Nat), fx i = none := fun i h => by simp at h
theorem fxs_cons {fx : Nat → Option V} {i : Nat} {l : List Nat} (h : fx i = none) (t : ∀ j ∈ l, fx j = none) : ∀ j ∈ i :: l, fx j = none := fun j hj => by
  rcases List.mem_cons.mp hj with rfl | hj
  · exact h
  · exact t j hj
theorem COk.blk (O : COk X C) {s : Shared} {H : Hp} {scope : Scope} {ce : Env} {fp : List Addr} : COk (X.blk s H scope ce fp) C.noX := ⟨O.k, fun u s' ⟨a, B, sI, pins, σ, H, cls, d, e, I, nb, up, sky, na, os, ag, w⟩ => w.elim⟩
theorem ve_lcL (O : COk X C) (hc : X.calm = true) (hN : X.N.Nodup) (hf : ∀ i ∈ own.map (·.2), C.fx i = none) (ha : VE X C sa iter ma) (B : Blk X C scope own tg elt ifs g mt se me) (hs : ∀ x, foldedSetIterable iter X.env x = pure x := by intro _; rfl) :
    VE X C false (.ListComp elt [⟨tg, iter, ifs, 0⟩] scope pos) (mLcL ma (own.map (·.2)) g mt me) :=
  (pe_lc hc hN (pi_list ha) (blkOk_by B.ok) (fun s H c cl fp => B.hg s H c cl fp O.blk) (fun s H c cl fp => B.ht s H c cl fp O.blk) (fun s H c cl fp => B.he s H c cl fp O.blk) hs).impV (lcL_red hf)
theorem vs_setLcL {i : Nat} {y : Str} (O : COk X C) (hc : X.calm = true) (hN : X.N.Nodup) (hf : ∀ i ∈ own.map (·.2), C.fx i = none) (ha : VE X C sa iter ma) (B : Blk X C scope own tg elt ifs g mt se me) (hfx : C.fx i = none) (hy : X.N[i]? = some y := by rfl) (hyl : X.env.scope.names.lookup y = some .local := by rfl)
    (hk : X.env.scope.kind = .function := by rfl) (hline : (py.line == pos.line) = true := by rfl) (hany : (scope.names.any fun (n, k) => n == y && (k == .local || k == .cell)) = false := by rfl) (hs : ∀ x, foldedSetIterable iter X.env x = pure x := by intro _; rfl) :
    VS X C (.Assign [.Name y py] (.ListComp elt [⟨tg, iter, ifs, 0⟩] scope pos) spos) (mAsg (mLcL ma (own.map (·.2)) g mt me) (gNm i)) :=
  (ps_setLc hc hN hy hyl (sw_true hk hyl hline hany) (pi_list ha) (blkOk_by B.ok) (fun s H c cl fp => B.hg s H c cl fp O.blk) (fun s H c cl fp => B.ht s H c cl fp O.blk) (fun s H c cl fp => B.he s H c cl fp O.blk) hs).impV (asg_red hfx (lcL_red hf))
theorem lcR1_red (hf : ∀ i ∈ ws, C.fx i = none) : ∀ σ H Q, trE C false (mLcR1 ma ws g mt me) σ H Q → tLc (iRng1 (tCons (trE C sa ma) tNil)) (trGo C.noX ws g) (trT C.noX mt) (trE C.noX se me) ws σ H Q := by
  rintro σ H Q ⟨st, ds, vs, s, hl, h⟩
  show trE C sa ma σ H _
  unfold mLcR1 mLcR mK at h
  simp only [R.bind_ok] at h
  refine seq1 (sm := false) s hl h fun y st2 u H2 _ s2 h1 => ?_
  cases y with
  | int j =>
    simp only at h1
    split at h1
    · rename_i hz
      have e2 : u = .int j := s2.scTop rfl
      subst e2
      refine ⟨j, rfl, hz.2.2.1, hz.2.2.2, fun Da hD => ?_⟩
      have := rg_red (se := se) hf hl s2.pop h1 hD
      rw [Int.sub_zero] at this
      exact this
    · exact h1.elim
  | _ => exact h1.elim
theorem ve_lcR1 (O : COk X C) (hc : X.calm = true) (hN : X.N.Nodup) (hf : ∀ i ∈ own.map (·.2), C.fx i = none) (ha : VE X C sa a ma) (B : Blk X C scope own tg elt ifs g mt se me) (hgr : Gl X "range") (hm : X.mg "range" = none)
    (hs1 : starEach [a] X.env = [(false, eval a X.env)] := by rfl) (hs : ∀ x, foldedSetIterable (.Call (.Name "range" p) [a] [] pos') X.env x = pure x := by intro _; rfl) :
    VE X C false (.ListComp elt [⟨tg, .Call (.Name "range" p) [a] [] pos', ifs, 0⟩] scope pos) (mLcR1 ma (own.map (·.2)) g mt me) :=
  (pe_lc hc hN (pi_range1 hgr hm (pa_cons ha pa_nil hs1) hs1) (blkOk_by B.ok) (fun s H c cl fp => B.hg s H c cl fp O.blk) (fun s H c cl fp => B.ht s H c cl fp O.blk) (fun s H c cl fp => B.he s H c cl fp O.blk) hs).impV (lcR1_red hf)
end
/-! ### in running -/
@[simp] theorem mYes_eq (st : List D) : mYes st = .ok true st := rfl
@[simp] theorem wipeD_nil (st : List D) : wipeD st [] = st := rfl
@[simp] theorem wipeD_cons (st : List D) (v : Nat) (vs : List Nat) : wipeD st (v :: vs) = (wipeD st vs).set v .un := rfl
@[simp] theorem lcE_ok (acc st : List D) : lcE (.ok acc st) = .ok (.nd (.lst .own) acc) st := rfl
def lcB (ws : List Nat) (me : List D → R D) (b : Bool) (st2 : List D) : R (Option D) := if b = true then (me st2).bind fun y st3 => .ok (some y) (wipeD st3 ws) else .ok none (wipeD st2 ws)
@[simp] theorem lcB_true (ws : List Nat) (me : List D → R D) (st2 : List D) : lcB ws me true st2 = (me st2).bind fun y st3 => .ok (some y) (wipeD st3 ws) := rfl
@[simp] theorem lcB_false (ws : List Nat) (me : List D → R D) (st2 : List D) : lcB ws me false st2 = .ok none (wipeD st2 ws) := rfl
@[simp] theorem lcT_eq (ws : List Nat) (g : MG) (mt : List D → R Bool) (me : List D → R D) (x : D) (st : List D) : lcT ws g mt me x st = R.of (g x (wipeD st ws)) fun st1 => (mt st1).bind fun b st2 => lcB ws me b st2 := by
  unfold lcT R.of
  cases g x (wipeD st ws) <;> rfl
def lcK (ws : List Nat) (g : MG) (mt : List D → R Bool) (me : List D → R D) (st : List D) (d : D) : R D := match d with
  | .nd (.lst _) xs => lcE (lcL (lcT ws g mt me) xs [] st)
  | _ => .stuck
@[simp] theorem lcK_lst (ws : List Nat) (g : MG) (mt : List D → R Bool) (me : List D → R D) (st : List D) (f : Fl) (xs : List D) : lcK ws g mt me st (.nd (.lst f) xs) = lcE (lcL (lcT ws g mt me) xs [] st) := rfl
@[simp] theorem mLcL_eq (ma : List D → R D) (ws : List Nat) (g : MG) (mt : List D → R Bool) (me : List D → R D) (st : List D) : mLcL ma ws g mt me st = (ma st).bind fun d st1 => lcK ws g mt me st1 d.frz := rfl
@[simp] theorem mLcR_eq (ma mb : List D → R D) (ws : List Nat) (g : MG) (mt : List D → R Bool) (me : List D → R D) (st : List D) : mLcR ma mb ws g mt me st = (ma st).bind fun x st1 => (mb st1).bind fun y st2 => int2 x y fun i j => chk (-4611686018427387904 ≤ i ∧ i < 4611686018427387904 ∧ -4611686018427387904 ≤ j ∧ j < 4611686018427387904) (lcE (lcL (lcT ws g mt me) (rangeD i j) [] st2)) := rfl
@[simp] theorem mLcR1_eq (ma : List D → R D) (ws : List Nat) (g : MG) (mt : List D → R Bool) (me : List D → R D) (st : List D) : mLcR1 ma ws g mt me st = (ma st).bind fun y st2 => int2 (.int 0) y fun i j => chk (-4611686018427387904 ≤ i ∧ i < 4611686018427387904 ∧ -4611686018427387904 ≤ j ∧ j < 4611686018427387904) (lcE (lcL (lcT ws g mt me) (rangeD i j) [] st2)) := rfl
/-- a comprehension with one reading a turn, that leaves the state as it is -/
theorem lcL_pure {α : Type} {T : D → List D → R (Option D)} {f : α → D} (h : α → Option D) {st : List D} : ∀ (xs : List α) (acc : List D), acc.length + xs.length ≤ 16777216 → (∀ x ∈ xs, T (f x) st = .ok (h x) st) → lcL T (xs.map f) acc st = .ok (acc ++ xs.filterMap h) st
  | [], acc, _, _ => by simp [lcL]
  | x :: xs, acc, hl, k => by
    have k1 := k x (by simp)
    simp at hl
    simp only [List.map_cons, lcL, k1]
    cases q : h x with
    | none =>
      simp only
      rw [lcL_pure h xs acc (by omega) fun y hy => k y (by simp [hy])]
      simp [q]
    | some y =>
      have : acc.length < sizeLine := by show acc.length < 16777216; omega
      simp only [if_pos this]
      rw [lcL_pure h xs (acc ++ [y]) (by simp; omega) fun y hy => k y (by simp [hy])]
      simp [q]
/-- with an invariant -/
theorem lcL_inv {α : Type} {T : D → List D → R (Option D)} {f : α → D} (P : List α → List α → List D → List D → Prop)
    (h : ∀ pre x post acc st, P pre (x :: post) acc st → ∃ o st', T (f x) st = .ok o st' ∧ acc.length < 16777216 ∧ P (pre ++ [x]) post (acc ++ o.toList) st') : ∀ (xs pre : List α) (acc st : List D), P pre xs acc st → ∃ acc' st', lcL T (xs.map f) acc st = .ok acc' st' ∧ P (pre ++ xs) [] acc' st'
  | [], pre, acc, st, p => ⟨acc, st, by simp [lcL], by simpa using p⟩
  | x :: xs, pre, acc, st, p => by
    obtain ⟨o, st1, e, hz, p1⟩ := h pre x xs acc st p
    obtain ⟨acc', st', e', p'⟩ := lcL_inv P h xs (pre ++ [x]) (acc ++ o.toList) st1 p1
    refine ⟨acc', st', ?_, by simpa using p'⟩
    simp only [List.map_cons, lcL, e]
    have hz : acc.length < sizeLine := hz
    cases o with
    | none => simpa using e'
    | some y => simp only [if_pos hz]; simpa using e'
end PV

/-! ### list(range(a, b)) of any bounds, with few items -/
namespace PV.Long
open PySem
open Sem (wp)
section
variable {prog : Program} {w : World} {A : Around} {E : Value → Shared → Prop} {s : Shared}
theorem extend {R : Result → Shared → Prop} {r : Addr} {a b c : Int} {t u v : Tok} {n : Nat} (hh : A.handled = none) (hr : IsRange s.heap r a b c t u v) (hbig : Builtin.Range.small a b c = false)
    (hn : Builtin.Range.rangeSize a b c = n) (hlen : n ≤ 2 ^ 24) (S : Addr) (res : Value) (c₀ : Nat) (hS : s.heap.get? S = some { cls := .type "list", data := .seq #[] c₀ })
    (hR : ∀ h' tk acc' c', (∀ b o, b ≠ S → s.heap.get? b = some o → h'.get? b = some o) → h'.get? S = some { cls := .type "list", dict := none, data := .seq acc' c', slots := #[] } →
      ItemsOf (fun i v => ∃ t, v = .int (a + i * c) t) acc' n → R (.ok (.ret res)) { s with heap := h', toks := tk }) :
    wpAny (model prog w) A.in1 (Builtin.List.listExtendWith (.ref S) (.ref r) res)
      (fun fin s' => match fin with | .done f => R (.ok f) s' | .again c' => c'.quiet = true ∧ codeAny (model prog w) A c' R s') (fun e s' => R (.error e) s') s := by
  have hSr : S ≠ r := fun e => by rw [e, hr] at hS; simp at hS
  have hSlt : S < s.heap.objs.size := Heap.lt_size hS
  have hSI : S ≠ s.heap.objs.size := Nat.ne_of_lt hSlt
  have hSf : S ∉ [s.heap.objs.size] := fun hm => hSI (List.mem_singleton.mp hm)
  have W := (Walks.longrange (prog := prog) (w := w) (A := A.in1) hh s.heap.objs.size a c n).toS
  have key : ∀ (h : Heap) (c₁ tk : Nat), IsLongIter h s.heap.objs.size (a + ((0 : Nat) : Int) * c) ((n : Int) - ((0 : Nat) : Int)) c → (∀ b o, b ≠ S → s.heap.get? b = some o → h.get? b = some o) →
      h.get? S = some { cls := .type "list", data := .seq #[] c₁ } → codeAny (model prog w) A (.builtin "list.extend.loop" ⟨[.ref S, .ref s.heap.objs.size, res], []⟩) R { s with heap := h, toks := tk } := by
    intro h c₁ tk hit hk hS₁
    refine codeAny_extend_loopS W (by rw [sizeLine_eq]; omega) S hSf res n 0 _ #[] c₁ rfl (Nat.zero_le _) hit hS₁ (ItemsOf.nil _) fun s' acc' c' hm hS' hacc => ?_
    rw [Moved.eq_with hm]
    refine hR s'.heap s'.toks acc' c' (fun b o hb e => hm.heap b o (fun hmem => ?_) (hk b o hb e)) hS' hacc
    rcases List.mem_cons.mp hmem with e' | hmem
    · exact hb e'
    · exact absurd (Heap.lt_size e) (by rw [List.mem_singleton.mp hmem]; exact Nat.lt_irrefl _)
  unfold Builtin.List.listExtendWith
  refine wpAny_bind (wpAny_typeOf (T := "range") ⟨_, hr, rfl⟩ ?_)
  have h1 : Builtin.List.listSameRef (.ref S) (.ref r) = false := by simp [Builtin.List.listSameRef, hSr]
  have h2 : (Value.type "range" == Value.type "list") = false := by decide
  have h3 : (Value.type "range" == Value.type "tuple") = false := by decide
  simp only [h1, h2, h3, Bool.or_false, Bool.false_eq_true, if_false]
  refine wpAny_bind (wpAny_pyIter_longrange hr hbig ?_)
  refine wpAny_bind (wpAny_holding (wpAny_hint_range (n := n) (Heap.get?_push_of_some _ hr) hn hlen ?_))
  have hit₁ : IsLongIter (s.heap.push { cls := .type "longrange_iterator", data := .fields #[rawInt a, rawInt (Builtin.Range.rangeSize a b c), rawInt c] }) s.heap.objs.size (a + ((0 : Nat) : Int) * c) ((n : Int) - ((0 : Nat) : Int)) c := by
    show IsLongIter _ _ _ _ _; rw [hn]; simpa using Heap.get?_push_size _ rfl
  have hS₁ := Heap.get?_push_of_some { cls := .type "longrange_iterator", data := .fields #[rawInt a, rawInt (Builtin.Range.rangeSize a b c), rawInt c] } hS
  refine wpAny_ite_split (fun _ => ?_) (fun _ => wpAny_pure ⟨plainId_quiet F.plain_extend_loop _, key _ c₀ _ hit₁ (fun b o _ e => Heap.get?_push_of_some _ e) hS₁⟩)
  refine wpAny_bind (wpAny_rule ?_)
  refine wpAny_bind ?_
  show wpAny _ _ (updateSeq S (·.push .none) >>= fun _ => updateSeq S (·.pop)) _ _ _
  refine wpAny_bind (wpAny_updateSeq hS₁ rfl ?_)
  have hS₂ := Heap.get?_update_self (Obj.mapSeq (·.push Value.none)) hS₁ rfl
  refine wpAny_updateSeq (hz := by seq_fits) hS₂ rfl ?_
  have hS₃ := Heap.get?_update_self (Obj.mapSeq (·.pop)) hS₂ rfl
  refine wpAny_pure ⟨plainId_quiet F.plain_extend_loop _, key _ _ _ ?_ (fun b o hb e => ?_) hS₃⟩
  · exact (Heap.get?_update_other _ _ hSI).trans ((Heap.get?_update_other _ _ hSI).trans hit₁)
  · exact (Heap.get?_update_other _ _ (Ne.symm hb)).trans ((Heap.get?_update_other _ _ (Ne.symm hb)).trans (Heap.get?_push_of_some _ e))
theorem init {R : Result → Shared → Prop} {r : Addr} {a b c : Int} {t u v : Tok} {n : Nat} (hh : A.handled = none) (hr : IsRange s.heap r a b c t u v) (hbig : Builtin.Range.small a b c = false)
    (hn : Builtin.Range.rangeSize a b c = n) (hlen : n ≤ 2 ^ 24) (S : Addr) (hS : s.heap.get? S = some { cls := .type "list", data := .seq #[] })
    (hR : ∀ h' tk acc' c', (∀ b o, b ≠ S → s.heap.get? b = some o → h'.get? b = some o) → h'.get? S = some { cls := .type "list", dict := none, data := .seq acc' c', slots := #[] } →
      ItemsOf (fun i v => ∃ t, v = .int (a + i * c) t) acc' n → R (.ok (.ret .none)) { s with heap := h', toks := tk }) :
    wpAny (model prog w) A.in1 (Builtin.«list.__init__» ⟨[.ref S, .ref r], []⟩)
      (fun fin s' => match fin with | .done f => R (.ok f) s' | .again c' => c'.quiet = true ∧ codeAny (model prog w) A c' R s') (fun e s' => R (.error e) s') s := by
  have hSr : S ≠ r := fun e => by rw [e, hr] at hS; simp at hS
  show wpAny _ _ (do let old ← Builtin.List.listItems (.ref S); Builtin.List.listUpdate (.ref S) (fun _ => #[]); letGo old.toList.reverse; Builtin.List.listExtendWith (.ref S) (.ref r) .none) _ _ s
  refine wpAny_bind ?_
  unfold Builtin.List.listItems
  refine wpAny_bind (wpAny_seqItems hS rfl (wpAny_pure ?_))
  show wpAny _ _ (updateSeq S (fun _ => #[]) >>= fun _ => letGo (#[] : Array Value).toList.reverse >>= fun _ => Builtin.List.listExtendWith (.ref S) (.ref r) .none) _ _ s
  refine wpAny_bind (wpAny_updateSeq hS rfl ?_)
  have hS₂ := Heap.get?_update_self (Obj.mapSeq (fun _ => (#[] : Array Value))) hS rfl
  have oth : ∀ b o, b ≠ S → s.heap.get? b = some o → (s.heap.update S (Obj.mapSeq (fun _ => (#[] : Array Value)))).get? b = some o :=
    fun b o hb e => (Heap.get?_update_other _ _ (Ne.symm hb)).trans e
  refine wpAny_bind (wpAny_letGo ?_)
  refine extend hh (oth r _ (Ne.symm hSr) hr) hbig hn hlen S .none _ hS₂ fun h' tk acc' c' hk hS' hacc => ?_
  exact hR h' tk acc' c' (fun b o hb e => hk b o hb (oth b o hb e)) hS' hacc
theorem list {Q : Value → Shared → Prop} {r : Addr} {a b c : Int} {t u v : Tok} {n : Nat} (hh : A.handled = none) (hr : IsRange s.heap r a b c t u v)
    (hn : Builtin.Range.rangeSize a b c = n) (hlen : n ≤ 2 ^ 24)
    (hQ : ∀ h' tk acc' c', (∀ b o, s.heap.get? b = some o → h'.get? b = some o) →
      h'.get? s.heap.objs.size = some { cls := .type "list", dict := none, data := .seq acc' c', slots := #[] } → ItemsOf (fun i v => ∃ t, v = .int (a + i * c) t) acc' n → Q (.ref s.heap.objs.size) { s with heap := h', toks := tk }) :
    wpAny (model prog w) A (call (.type "list") [.ref r]) Q E s := by
  cases hb : Builtin.Range.small a b c with
  | true => exact call_list_range hh hr hb hn hlen hQ
  | false =>
    refine callType_codes (Q₁ := fun obj s₁ => obj = .ref s.heap.objs.size ∧ s₁ = { s with heap := s.heap.push { cls := .type "list", data := .seq #[] } }) F.called_list (F.typeCall_list_1 _) F.entry_list_init
      (code_list_new _ ⟨rfl, rfl⟩) fun obj s₁ h₁ => ?_
    obtain ⟨rfl, rfl⟩ := h₁
    have hS : (s.heap.push { cls := .type "list", data := .seq #[] }).get? s.heap.objs.size = some { cls := .type "list", data := .seq #[] } := Heap.get?_push_size _ rfl
    refine ⟨⟨_, hS, rfl⟩, F.args_list_init_2 _ _, init (A := A.in1) hh (Heap.get?_push_of_some _ hr) hb hn hlen _ hS fun h' tk acc' c' hk hS' hacc => ?_⟩
    exact ⟨rfl, hQ h' tk acc' c' (fun b o e => hk b o (Nat.ne_of_lt (Heap.lt_size e)) (Heap.get?_push_of_some _ e)) hS' hacc⟩
end
end PV.Long
namespace PV
open PySem L2 PySem.Spec PyProof.Rows
section
variable {X : Cx} {C : Cc} {st ds : List D} {σ : L2.St} {vs : List V} {H H' : Hp} {a b e : Expr} {te : L2.St → Hp → (Int → Int → Hp → Prop) → Prop} {ma mb : List D → R D} {sa sb : Bool} {p pos : Pos}
def tLstRgA (te : L2.St → Hp → (Int → Int → Hp → Prop) → Prop) : TE := fun σ H Q => te σ H fun a b H1 => (b - a).toNat ≤ 2 ^ 24 ∧ ∀ q, H1 q = none → Q (.ref q) (upd H1 q (.lst (rgV a b)))
def mListRA (ma mb : List D → R D) : List D → R D := fun st => (ma st).bind fun x st1 => (mb st1).bind fun y st2 => int2 x y fun i j => chk ((j - i).toNat ≤ 16777216) (.ok (.nd (.lst .own) (rangeD i j)) st2)
@[simp] theorem mListRA_eq (ma mb : List D → R D) (st : List D) : mListRA ma mb st = (ma st).bind fun x st1 => (mb st1).bind fun y st2 => int2 x y fun i j => chk ((j - i).toNat ≤ 16777216) (.ok (.nd (.lst .own) (rangeD i j)) st2) := rfl
end
end PV

namespace PV
open PySem L2
section
variable {X : Cx} {C : Cc} {st ds : List D} {σ : L2.St} {vs : List V} {H H' : Hp} {a b e : Expr} {es : List Expr} {pos pos' p p2 px py pt : Pos} {ma mb : List D → R D} {sa sb : Bool} {qa qb : List D → Option PL}
/-! ### a, b = e1, e2 -/
def mPar (i j : Nat) (ml : List D → R (List D)) : MS := fun st => (ml st).s fun xs st1 => match xs with
  | [x, y] => if i < st1.length ∧ j < st1.length then .nx ((st1.set j y).set i x) else .stuck
  | _ => .stuck
/-! ### x in xs, of flat things -/
def vsOf : List D → Option (List V)
  | [] => some []
  | d :: r => match vOf d, vsOf r with
    | some v, some l => some (v :: l)
    | _, _ => none
theorem rp_vs {G : Gd} : ∀ {xs : List D} {ws us : List V} {os : Ct}, RpL G xs ws os → vsOf xs = some us → ws = us ∧ us.all flatV = true
  | _, _, _, _, .nil _, e => by simp [vsOf] at e; subst e; exact ⟨rfl, rfl⟩
  | _, _, _, _, .cons (d := d) (xs := xs) r t h, e => by
    simp only [vsOf] at e
    cases q : vOf d with
    | none => rw [q] at e; simp at e
    | some v =>
      cases q2 : vsOf xs with
      | none => rw [q, q2] at e; simp at e
      | some l =>
        rw [q, q2] at e; simp at e; subst e
        obtain ⟨e1, e2⟩ := rp_vs t q2
        refine ⟨by rw [sc_of r q, e1], ?_⟩
        simp only [List.all_cons, e2, Bool.and_true]
        cases d <;> simp [vOf] at q <;> subst q <;> rfl
theorem flat_of {d : D} {v : V} (h : vOf d = some v) : flatV v = true := by cases d <;> simp [vOf] at h <;> subst h <;> rfl
def inD (x y : D) : Option Bool := match vOf x, y with
  | some v, .nd (.lst _) ys => match vsOf ys with
    | some us => some (inV v us)
    | none => none
  | some v, .nd .tup ys => match vsOf ys with
    | some us => some (inV v us)
    | none => none
  | _, _ => none
def qIn (neg : Bool) (qa qb : List D → Option PL) : List D → Option PL := fun st => match qa st, qb st with
  | some p, some q => match plD st p, plD st q with
    | some x, some y => match inD x y with
      | some b => some (.sc (.bl (if neg = true then !b else b)))
      | none => none
    | _, _ => none
  | _, _ => none
def mIn (neg : Bool) (ma mb : List D → R D) : List D → R D := fun st => (ma st).bind fun x st1 => (mb st1).bind fun y st2 => match inD x y with
  | some b => .ok (.bl (if neg = true then !b else b)) st2
  | none => .stuck
/-! ### sorted -/
def lexLe (p q : Int × Int) : Bool := !(SrtO.lexB q p)
def sortP (ps : List (Int × Int)) : List (Int × Int) := ps.mergeSort lexLe
def sortI (ns : List Int) : List Int := ns.mergeSort fun a b => decide (a ≤ b)
def intsD : List D → Option (List Int)
  | [] => some []
  | .int i :: r => match intsD r with
    | some l => some (i :: l)
    | none => none
  | _ => none
@[simp] theorem intsD_map : ∀ ns : List Int, intsD (ns.map D.int) = some ns
  | [] => rfl
  | n :: ns => by simp [intsD, intsD_map ns]
def mSortI (ma : List D → R D) : List D → R D := fun st => (ma st).bind fun d st1 => match d with
  | .nd (.lst _) xs => match intsD xs with
    | some ns => .ok (.nd (.lst .own) ((sortI ns).map D.int)) st1
    | none => .stuck
  | _ => .stuck
def pairsD : List D → Option (List (Int × Int))
  | [] => some []
  | .nd .tup [.int i, .int j] :: r => match pairsD r with
    | some l => some ((i, j) :: l)
    | none => none
  | _ => none
@[simp] theorem pairsD_map : ∀ ps : List (Int × Int), pairsD (ps.map pD) = some ps
  | [] => rfl
  | (i, j) :: ps => by simp [pairsD, pD, pairsD_map ps]
def mSortP (ma : List D → R D) : List D → R D := fun st => (ma st).bind fun d st1 => match d with
  | .nd (.lst _) xs => match pairsD xs with
    | some ps => .ok (.nd (.lst .own) ((sortP ps).map pD)) st1
    | none => .stuck
  | _ => .stuck
def kfH (H : Hp) : V → Int × Int
  | .ref t => match H t with
    | some (.tup [.int i, .int j]) => (i, j)
    | _ => (0, 0)
  | _ => (0, 0)
end
/-! ### in running -/
def parK (i j : Nat) (st1 : List D) (xs : List D) : RS := match xs with
  | [x, y] => if i < st1.length ∧ j < st1.length then .nx ((st1.set j y).set i x) else .stuck
  | _ => .stuck
@[simp] theorem mPar_eq (i j : Nat) (ml : List D → R (List D)) (st : List D) : mPar i j ml st = (ml st).s fun xs st1 => parK i j st1 xs := rfl
@[simp] theorem parK_two (i j : Nat) (st1 : List D) (x y : D) : parK i j st1 [x, y] = chkS (i < st1.length ∧ j < st1.length) (.nx ((st1.set j y).set i x)) := rfl
@[simp] theorem qIn_eq (neg : Bool) (qa qb : List D → Option PL) (st : List D) : qIn neg qa qb st = q2 (qa st) (qb st) fun p q => obn (plD st p) fun x => obn (plD st q) fun y => obn (inD x y) fun b => some (.sc (.bl (neg ^^ b))) := by
  unfold qIn q2
  cases qa st with
  | none => rfl
  | some a =>
    cases qb st with
    | none => rfl
    | some b =>
      simp only [obn]
      cases plD st a with
      | none => rfl
      | some x =>
        cases plD st b with
        | none => rfl
        | some y =>
          simp only
          cases inD x y with
          | none => rfl
          | some b => cases neg <;> cases b <;> rfl
@[simp] theorem mIn_eq (neg : Bool) (ma mb : List D → R D) (st : List D) : mIn neg ma mb st = (ma st).bind fun x st1 => (mb st1).bind fun y st2 => R.of (inD x y) fun b => .ok (.bl (neg ^^ b)) st2 := by
  unfold mIn
  congr 1; funext x st1; congr 1; funext y st2
  cases inD x y with
  | none => rfl
  | some b => cases neg <;> cases b <;> rfl
theorem vsOf_ints : ∀ ns : List Int, vsOf (ns.map D.int) = some (ns.map V.int)
  | [] => rfl
  | n :: ns => by simp [vsOf, vOf, vsOf_ints ns]
@[simp] theorem inD_ints (i : Int) (f : Fl) (ns : List Int) : inD (.int i) (.nd (.lst f) (ns.map D.int)) = some (decide (i ∈ ns)) := by
  unfold inD
  simp only [vOf, vsOf_ints, inV]
  congr 1
  rw [Bool.eq_iff_iff]
  simp [List.any_eq_true, eqV]
def srtIK (st1 : List D) (d : D) : R D := match d with
  | .nd (.lst _) xs => R.of (intsD xs) fun ns => .ok (.nd (.lst .own) ((sortI ns).map D.int)) st1
  | _ => .stuck
@[simp] theorem srtIK_lst (st1 xs : List D) (f : Fl) : srtIK st1 (.nd (.lst f) xs) = R.of (intsD xs) fun ns => .ok (.nd (.lst .own) ((sortI ns).map D.int)) st1 := rfl
@[simp] theorem mSortI_eq (ma : List D → R D) (st : List D) : mSortI ma st = (ma st).bind fun d st1 => srtIK st1 d := by
  unfold mSortI
  congr 1; funext d st1
  match d with
  | .nd (.lst f) xs => simp only [srtIK_lst, R.of]; cases intsD xs <;> rfl
  | .un | .non | .bl _ | .int _ | .str _ | .scr _ | .nd .tup _ | .nd (.dct _ _) _ | .nd (.ins _ _ _) _ => rfl
def srtPK (st1 : List D) (d : D) : R D := match d with
  | .nd (.lst _) xs => R.of (pairsD xs) fun ps => .ok (.nd (.lst .own) ((sortP ps).map pD)) st1
  | _ => .stuck
@[simp] theorem srtPK_lst (st1 xs : List D) (f : Fl) : srtPK st1 (.nd (.lst f) xs) = R.of (pairsD xs) fun ps => .ok (.nd (.lst .own) ((sortP ps).map pD)) st1 := rfl
@[simp] theorem mSortP_eq (ma : List D → R D) (st : List D) : mSortP ma st = (ma st).bind fun d st1 => srtPK st1 d := by
  unfold mSortP
  congr 1; funext d st1
  match d with
  | .nd (.lst f) xs => simp only [srtPK_lst, R.of]; cases pairsD xs <;> rfl
  | .un | .non | .bl _ | .int _ | .str _ | .scr _ | .nd .tup _ | .nd (.dct _ _) _ | .nd (.ins _ _ _) _ => rfl
end PV

namespace PV
open PySem L2 PySem.Spec PyProof.Rows
section
variable {X : Cx} {CX : CXT} {k : Nat} {f C0 : Addr} {fd : FuncData} {ps : List Str} {sp : Sp} {E : L2.St → XK} {x m : Str} {p pos apos : Pos} {e o : Expr} {es : List Expr} {ta : TE} {t : TA}
/-! ### methods that may raise; making -/
def tMethV (Ca : Addr) (m : Str) (sp : Sp) (E : L2.St → XK) (ta : TE) (t : TA) : TE := fun σ H Q => ta σ H fun x H1 => ∃ a dx fs, x = .ref a ∧ H1 a = some (.ins Ca dx fs) ∧ fs.lookup m = none ∧ t σ H1 fun vs H2 => sp (x :: vs) H2 Q (E σ)
end
section
variable {X : Cx} {C : Cc} {st ds : List D} {σ : L2.St} {vs : List V} {H H' : Hp} {a b e o : Expr} {es : List Expr} {pos apos p : Pos} {ma : List D → R D} {sa sb : Bool} {qo : List D → Option PL}
variable {k : Nat} {f : Addr} {fd : FuncData} {ps : List Str} {x m c : Str} {ms : List Md} {F : Fn} {am : List D → R (List AD)}
def isMeth (st : List D) (c m : Str) : Option PL → Bool
  | some (.pth r p) => match getS st r p with
    | some (.nd (.ins _ c' ns) _) => decide (c' = c ∧ m ∉ ns)
    | _ => false
  | _ => false
/-- o.m(..) -/
def mMeth (c m : Str) (ms : List Md) (F : Fn) (qo : List D → Option PL) (am : List D → R (List AD)) : List D → R D := fun st => if isMeth st c m (qo st) = true then mCall ms F (aPth qo am) st else .stuck
/-- a class's facts -/
structure ClsX (X : Cx) (C : Cc) (c : Str) (Ca : Addr) : Prop where
  ca : C.CA c = some Ca
  cl : Cls X.K Ca
/-! ### making -/
def makeR (c : Str) (ms : List Md) (F : Fn) (as : List AD) (st : List D) : R D := match takeA ms as st with
  | none => .stuck
  | some (st1, bs) => match argsOf ms as bs st1 with
    | none => .stuck
    | some args => match F (.nd (.ins .own c []) [] :: args) with
      | .ok .non (o :: outs) => if D.noBorL (o :: outs) = true then match putA ms as outs st1 with
          | some st2 => .ok o st2
          | none => .stuck
        else .stuck
      | _ => .stuck
def mMake (c : Str) (ms : List Md) (F : Fn) (am : List D → R (List AD)) : List D → R D := fun st => (am st).bind fun as st1 => makeR c ms F as st1
/-! ### self.f = e -/
def fldP (c f : Str) (d : D) (st1 : List D) : Option PL → RS
  | some (.pth r p) => match getS st1 r p with
    | some (.nd (.ins .own c' ns) xs) => if c' = c ∧ ns.length < 1000 then match ns.findIdx? (· == f) with
        | some j => .nx (setS st1 r p (.nd (.ins .own c' ns) (xs.set j d)))
        | none => .nx (setS st1 r p (.nd (.ins .own c' (ns ++ [f])) (xs ++ [d])))
      else .stuck
    | _ => .stuck
  | _ => .stuck
def mFld (qo : List D → Option PL) (c f : Str) (ma : List D → R D) : MS := fun st => (ma st).s fun d st1 => fldP c f d st1 (qo st1)
end
end PV

namespace PV
open PySem L2
section
variable {X : Cx} {C : Cc} {st ds : List D} {σ : L2.St} {vs : List V} {H H' : Hp} {a b e o : Expr} {es : List Expr} {pos apos p : Pos} {ma : List D → R D} {sa sb : Bool} {qo : List D → Option PL}
variable {k : Nat} {f : Addr} {fd : FuncData} {ps : List Str} {x m c : Str} {ms : List Md} {F : Fn} {am : List D → R (List AD)} {ns : List Str}
/-! ### classes whose fields are known -/
/-- an instance with just these fields: it, or nothing -/
def insD (c : Str) (ns : List Str) : Option D → Option (Fl × List D)
  | some (.nd (.ins fl c' ns') xs) => if c' = c ∧ ns' = ns then some (fl, xs) else none
  | _ => none
def qFs (c : Str) (ns : List Str) (j : Nat) (qa : List D → Option PL) : List D → Option PL := fun st => match qa st with
  | some (.pth r p) => match insD c ns (getS st r p) with
    | some _ => plOf st r (p ++ [j])
    | none => none
  | _ => none
def mMethS (c : Str) (ns : List Str) (ms : List Md) (F : Fn) (qo : List D → Option PL) (am : List D → R (List AD)) : List D → R D := fun st => match qo st with
  | some (.pth r p) => match insD c ns (getS st r p) with
    | some _ => mCall ms F (aPth qo am) st
    | none => .stuck
  | _ => .stuck
/-- a field that is there -/
def fldK (c : Str) (ns : List Str) (j : Nat) (d : D) (st1 : List D) : Option PL → RS
  | some (.pth r p) => match insD c ns (getS st1 r p) with
    | some (.own, xs) => .nx (setS st1 r p (.nd (.ins .own c ns) (xs.set j d)))
    | _ => .stuck
  | _ => .stuck
def mFldS (qo : List D → Option PL) (c : Str) (ns : List Str) (j : Nat) (ma : List D → R D) : MS := fun st => (ma st).s fun d st1 => fldK c ns j d st1 (qo st1)
/-- a new field -/
def fldN (c : Str) (ns : List Str) (f : Str) (d : D) (st1 : List D) : Option PL → RS
  | some (.pth r p) => match insD c ns (getS st1 r p) with
    | some (.own, xs) => .nx (setS st1 r p (.nd (.ins .own c (ns ++ [f])) (xs ++ [d])))
    | _ => .stuck
  | _ => .stuck
def mFldN (qo : List D → Option PL) (c : Str) (ns : List Str) (f : Str) (ma : List D → R D) : MS := fun st => (ma st).s fun d st1 => fldN c ns f d st1 (qo st1)
end
/-! ### in running -/
@[simp] theorem insD_ins (c : Str) (ns : List Str) (fl : Fl) (xs : List D) : insD c ns (some (.nd (.ins fl c ns) xs)) = some (fl, xs) := by simp [insD]
@[simp] theorem qFs_eq (c : Str) (ns : List Str) (j : Nat) (qa : List D → Option PL) (st : List D) : qFs c ns j qa st = obn (qa st) fun pl => match pl with
    | .pth r p => obn (insD c ns (getS st r p)) fun _ => plOf st r (p ++ [j])
    | _ => none := by
  unfold qFs obn
  cases qa st with
  | none => rfl
  | some p => cases p with
    | sc _ => rfl
    | pth r p => simp only; cases insD c ns (getS st r p) <;> rfl
def methK (c : Str) (ns : List Str) (ms : List Md) (F : Fn) (qo : List D → Option PL) (am : List D → R (List AD)) (st : List D) : PL → R D
  | .pth r p => R.of (insD c ns (getS st r p)) fun _ => mCall ms F (aPth qo am) st
  | _ => .stuck
@[simp] theorem methK_pth (c : Str) (ns : List Str) (ms : List Md) (F : Fn) (qo : List D → Option PL) (am : List D → R (List AD)) (st : List D) (r : Nat) (p : Pth) : methK c ns ms F qo am st (.pth r p) = R.of (insD c ns (getS st r p)) fun _ => mCall ms F (aPth qo am) st := rfl
@[simp] theorem mMethS_eq (c : Str) (ns : List Str) (ms : List Md) (F : Fn) (qo : List D → Option PL) (am : List D → R (List AD)) (st : List D) : mMethS c ns ms F qo am st = R.of (qo st) (methK c ns ms F qo am st) := by
  unfold mMethS R.of methK
  cases qo st with
  | none => rfl
  | some p => cases p with
    | sc _ => rfl
    | pth r p => simp only; cases insD c ns (getS st r p) <;> rfl
def fldKk (c : Str) (ns : List Str) (j : Nat) (d : D) (st1 : List D) (r : Nat) (p : Pth) : Option (Fl × List D) → RS
  | some (.own, xs) => .nx (setS st1 r p (.nd (.ins .own c ns) (xs.set j d)))
  | _ => .stuck
@[simp] theorem fldKk_own (c : Str) (ns : List Str) (j : Nat) (d : D) (st1 : List D) (r : Nat) (p : Pth) (xs : List D) : fldKk c ns j d st1 r p (some (.own, xs)) = .nx (setS st1 r p (.nd (.ins .own c ns) (xs.set j d))) := rfl
@[simp] theorem fldK_pth (c : Str) (ns : List Str) (j : Nat) (d : D) (st1 : List D) (r : Nat) (p : Pth) : fldK c ns j d st1 (some (.pth r p)) = fldKk c ns j d st1 r p (insD c ns (getS st1 r p)) := by
  simp only [fldK]
  generalize insD c ns (getS st1 r p) = z
  match z with
  | none => rfl
  | some (.own, xs) => rfl
  | some (.bor, xs) => rfl
  | some (.fz, xs) => rfl
@[simp] theorem mFldS_eq (qo : List D → Option PL) (c : Str) (ns : List Str) (j : Nat) (ma : List D → R D) (st : List D) : mFldS qo c ns j ma st = (ma st).s fun d st1 => fldK c ns j d st1 (qo st1) := rfl
def fldNk (c : Str) (ns : List Str) (f : Str) (d : D) (st1 : List D) (r : Nat) (p : Pth) : Option (Fl × List D) → RS
  | some (.own, xs) => .nx (setS st1 r p (.nd (.ins .own c (ns ++ [f])) (xs ++ [d])))
  | _ => .stuck
@[simp] theorem fldNk_own (c : Str) (ns : List Str) (f : Str) (d : D) (st1 : List D) (r : Nat) (p : Pth) (xs : List D) : fldNk c ns f d st1 r p (some (.own, xs)) = .nx (setS st1 r p (.nd (.ins .own c (ns ++ [f])) (xs ++ [d]))) := rfl
@[simp] theorem fldN_pth (c : Str) (ns : List Str) (f : Str) (d : D) (st1 : List D) (r : Nat) (p : Pth) : fldN c ns f d st1 (some (.pth r p)) = fldNk c ns f d st1 r p (insD c ns (getS st1 r p)) := by
  simp only [fldN]
  generalize insD c ns (getS st1 r p) = z
  match z with
  | none => rfl
  | some (.own, xs) => rfl
  | some (.bor, xs) => rfl
  | some (.fz, xs) => rfl
@[simp] theorem mFldN_eq (qo : List D → Option PL) (c : Str) (ns : List Str) (f : Str) (ma : List D → R D) (st : List D) : mFldN qo c ns f ma st = (ma st).s fun d st1 => fldN c ns f d st1 (qo st1) := rfl
/-- what making gives -/
def mkK (ms : List Md) (as : List AD) (st1 : List D) : FR → R D
  | .ok .non (o :: outs) => chk (D.noBor o = true ∧ D.noBorL outs = true) (R.of (putA ms as outs st1) fun st2 => .ok o st2)
  | _ => .stuck
@[simp] theorem mkK_ok (ms : List Md) (as : List AD) (st1 : List D) (o : D) (outs : List D) : mkK ms as st1 (.ok .non (o :: outs)) = chk (D.noBor o = true ∧ D.noBorL outs = true) (R.of (putA ms as outs st1) fun st2 => .ok o st2) := rfl
@[simp] theorem mMake_eq (c : Str) (ms : List Md) (F : Fn) (am : List D → R (List AD)) (st : List D) : mMake c ms F am st = (am st).bind fun as st1 => R.of (takeA ms as st1) fun z => R.of (argsOf ms as z.2 z.1) fun args => mkK ms as z.1 (F (.nd (.ins .own c []) [] :: args)) := by
  unfold mMake
  congr 1; funext as st1
  unfold makeR R.of
  cases takeA ms as st1 with
  | none => rfl
  | some z =>
    obtain ⟨st2, bs⟩ := z
    simp only
    cases argsOf ms as bs st2 with
    | none => rfl
    | some args =>
      simp only
      cases hF : F (.nd (.ins .own c []) [] :: args) with
      | stuck => rfl
      | ex e outs => rfl
      | ok d outs =>
        match d, outs with
        | .non, o :: outs =>
          simp only [mkK, chk, R.of, D.noBorL, Bool.and_eq_true]
          split
          · cases putA ms as outs st2 <;> rfl
          · rfl
        | .non, [] => rfl
        | .un, _ => cases outs <;> rfl
        | .bl _, _ => cases outs <;> rfl
        | .int _, _ => cases outs <;> rfl
        | .str _, _ => cases outs <;> rfl
        | .scr _, _ => cases outs <;> rfl
        | .nd _ _, _ => cases outs <;> rfl
@[simp] theorem noBor_insOwn (c : Str) (ns : List Str) (xs : List D) : D.noBor (.nd (.ins .own c ns) xs) = D.noBorL xs := by simp [D.noBor, Kd.fl]
@[simp] theorem noBor_insFz (c : Str) (ns : List Str) (xs : List D) : D.noBor (.nd (.ins .fz c ns) xs) = D.noBorL xs := by simp [D.noBor, Kd.fl]
@[simp] theorem noBor_dctOwn (ks : List Key) (xs : List D) : D.noBor (.nd (.dct .own ks) xs) = D.noBorL xs := by simp [D.noBor, Kd.fl]
@[simp] theorem noBor_dctFz (ks : List Key) (xs : List D) : D.noBor (.nd (.dct .fz ks) xs) = D.noBorL xs := by simp [D.noBor, Kd.fl]
def spAt (p : Pth) : Option D → Bool
  | some x => spOk x p
  | none => false
@[simp] theorem spAt_some (p : Pth) (x : D) : spAt p (some x) = spOk x p := rfl
@[simp] theorem spS_eq (st : List D) (r : Nat) (j : Nat) (p : Pth) : spS st r (j :: p) = spAt (j :: p) st[r]? := by
  unfold spS spAt
  cases st[r]? <;> rfl
@[simp] theorem spOk_nil (d : D) : spOk d [] = true := by cases d <;> rfl
@[simp] theorem spOk_lst (xs : List D) (j : Nat) (p : Pth) : spOk (.nd (.lst .own) xs) (j :: p) = spAt p xs[j]? := by
  unfold spAt
  simp only [spOk]
  cases xs[j]? <;> rfl
@[simp] theorem spOk_tup (xs : List D) (j : Nat) (p : Pth) : spOk (.nd .tup xs) (j :: p) = spAt p xs[j]? := by
  unfold spAt
  simp only [spOk]
  cases xs[j]? <;> rfl
@[simp] theorem spOk_ins (c : Str) (ns : List Str) (xs : List D) (j : Nat) (p : Pth) : spOk (.nd (.ins .own c ns) xs) (j :: p) = spAt p xs[j]? := by
  unfold spAt
  simp only [spOk]
  cases xs[j]? <;> rfl
end PV

namespace PV
open PySem L2
def enumD : Nat → List D → List D
  | _, [] => []
  | k, x :: r => .nd .tup [.int (k : Nat), x] :: enumD (k + 1) r
section
variable {X : Cx} {C : Cc} {st ds : List D} {σ : L2.St} {vs : List V} {H H' : Hp} {a b e tg elt : Expr} {pos p pos' spos py : Pos} {ma : List D → R D} {sa se : Bool} {ss : List Stmt} {m : MS} {Dn : Ends} {ws : List Nat} {mt : List D → R Bool} {me : List D → R D} {ifs : List Expr} {scope : Scope} {own : List (Str × Nat)}
/-! ### for i, x in enumerate(xs) -/
def mForE (ma : List D → R D) (g : MG) (body : MS) : MS := fun st => (ma st).s fun d st1 => match d.frz with
  | .nd (.lst _) xs => forL g body (enumD 0 xs) st1
  | _ => .stuck
/-! ### [.. for i, x in enumerate(xs) ..] -/
def mLcN (ma : List D → R D) (ws : List Nat) (g : MG) (mt : List D → R Bool) (me : List D → R D) : List D → R D := fun st => (ma st).bind fun d st1 => match d.frz with
  | .nd (.lst _) xs => lcE (lcL (lcT ws g mt me) (enumD 0 xs) [] st1)
  | _ => .stuck
/-! ### while -/
def whK (f : List D → RS) : RS → RS
  | .nx st2 => f st2
  | .ct st2 => f st2
  | .bk st2 => .nx st2
  | .rt d st2 => .rt d st2
  | .ex e st2 => .ex e st2
  | .stuck => .stuck
def whL (t : List D → R Bool) (b : MS) : Nat → MS
  | 0 => fun _ => .stuck
  | n + 1 => fun st => (t st).s fun c st1 => if c = true then whK (whL t b n) (b st1) else .nx st1
end
/-! ### in running -/
def enK (g : MG) (b : MS) (st1 : List D) : D → RS
  | .nd (.lst _) xs => forL g b (enumD 0 xs) st1
  | _ => .stuck
@[simp] theorem enK_lst (g : MG) (b : MS) (st1 : List D) (f : Fl) (xs : List D) : enK g b st1 (.nd (.lst f) xs) = forL g b (enumD 0 xs) st1 := rfl
@[simp] theorem mForE_eq (ma : List D → R D) (g : MG) (b : MS) (st : List D) : mForE ma g b st = (ma st).s fun d st1 => enK g b st1 d.frz := rfl
def lcNK (ws : List Nat) (g : MG) (mt : List D → R Bool) (me : List D → R D) (st : List D) : D → R D
  | .nd (.lst _) xs => lcE (lcL (lcT ws g mt me) (enumD 0 xs) [] st)
  | _ => .stuck
@[simp] theorem lcNK_lst (ws : List Nat) (g : MG) (mt : List D → R Bool) (me : List D → R D) (st : List D) (f : Fl) (xs : List D) : lcNK ws g mt me st (.nd (.lst f) xs) = lcE (lcL (lcT ws g mt me) (enumD 0 xs) [] st) := rfl
@[simp] theorem mLcN_eq (ma : List D → R D) (ws : List Nat) (g : MG) (mt : List D → R Bool) (me : List D → R D) (st : List D) : mLcN ma ws g mt me st = (ma st).bind fun d st1 => lcNK ws g mt me st1 d.frz := rfl
/-- numbered -/
def enumF {α : Type} : Nat → List α → List (Nat × α)
  | _, [] => []
  | k, x :: r => (k, x) :: enumF (k + 1) r
end PV

namespace PV
open PySem L2
section
variable {X : Cx} {C : Cc} {st ds : List D} {σ : L2.St} {vs : List V} {H H' : Hp} {a b e tg elt : Expr} {pos p pos' spos py : Pos} {ma mb : List D → R D} {sa sb se : Bool} {ss : List Stmt} {m : MS} {ws : List Nat} {mt : List D → R Bool} {me : List D → R D} {ifs : List Expr} {scope : Scope} {own : List (Str × Nat)}
/-! ### ranges over a length: the guard is one that the kernel does not compute -/
def RgC (i j : Int) : Prop := -(2 ^ 62) ≤ i ∧ i < 2 ^ 62 ∧ -(2 ^ 62) ≤ j ∧ j < 2 ^ 62
noncomputable def chC {α : Type} (c : Prop) (x y : α) : α := @ite α c (Classical.propDecidable c) x y
noncomputable def mLcRC (ma mb : List D → R D) (ws : List Nat) (g : MG) (mt : List D → R Bool) (me : List D → R D) : List D → R D := fun st => (ma st).bind fun x st1 => (mb st1).bind fun y st2 => match x, y with
  | .int i, .int j => chC (RgC i j) (lcE (lcL (lcT ws g mt me) (rangeD i j) [] st2)) .stuck
  | _, _ => .stuck
noncomputable def mLcRC1 (ma : List D → R D) (ws : List Nat) (g : MG) (mt : List D → R Bool) (me : List D → R D) : List D → R D := mLcRC (mK (.int 0)) ma ws g mt me
end
end PV

namespace PV
open PySem L2
section
variable {X : Cx} {C : Cc} {st ds : List D} {σ : L2.St} {vs : List V} {H H' : Hp} {a b e i o : Expr} {es : List Expr} {pos pos' p p2 px py pt apos : Pos} {ma mb : List D → R D} {sa sb : Bool} {qa qb qo : List D → Option PL}
/-! ### int(x) of an int or a bool -/
def int1D : D → Option Int
  | .int i => some i
  | .bl b => some (if b then 1 else 0)
  | _ => none
def mInt1 (ma : List D → R D) : List D → R D := fun st => (ma st).bind fun d st1 => match int1D d with
  | some i => .ok (.int i) st1
  | none => .stuck
/-! ### xs * k, of scalars -/
theorem rpl_vs {G : Gd} : ∀ {xs : List D} {us : List V}, vsOf xs = some us → RpL G xs us fun _ => 0
  | [], us, h => by simp [vsOf] at h; subst h; exact .nil fun _ => rfl
  | d :: xs, us, h => by
    simp only [vsOf] at h
    cases q : vOf d with
    | none => rw [q] at h; simp at h
    | some v =>
      cases q2 : vsOf xs with
      | none => rw [q, q2] at h; simp at h
      | some l =>
        rw [q, q2] at h; simp at h; subst h
        exact .cons (o1 := fun _ => 0) (o2 := fun _ => 0) (rp_sc q) (rpl_vs q2) fun _ => rfl
def mRep (ma mb : List D → R D) : List D → R D := fun st => (ma st).bind fun x st1 => (mb st1).bind fun y st2 => match x, y with
  | .nd (.lst _) xs, .int k => match vsOf xs with
    | some _ => if -(2 ^ 63) ≤ k ∧ k < 2 ^ 63 ∧ xs.length * k.toNat ≤ sizeLine then .ok (.nd (.lst .own) (List.replicate k.toNat xs).flatten) st2 else .stuck
    | none => .stuck
  | _, _ => .stuck
/-! ### tuples by <= -/
def leT (ns ms : List Int) : Bool := Ob.lexAt (fun j => decide (ns.getD j 0 = ms.getD j 0)) (fun j => decide (ns.getD j 0 ≤ ms.getD j 0)) (decide (ns.length ≤ ms.length)) 0 (min ns.length ms.length)
theorem leT_two (a b c d : Int) : leT [a, b] [c, d] = if a = c then decide (b ≤ d) else decide (a ≤ c) := by
  simp only [leT, List.length_cons, List.length_nil]
  show Ob.lexAt _ _ _ 0 2 = _
  simp only [Ob.lexAt]
  by_cases h : a = c
  · by_cases h2 : b = d
    · simp [h, h2]
    · simp [h, h2]
  · simp [h]
def mLeT (ma mb : List D → R D) : List D → R D := fun st => (ma st).bind fun x st1 => (mb st1).bind fun y st2 => match x, y with
  | .nd .tup xs, .nd .tup ys => match intsD xs, intsD ys with
    | some ns, some ms => .ok (.bl (leT ns ms)) st2
    | _, _ => .stuck
  | _, _ => .stuck
/-! ### xs.reverse(), xs.pop(), xs.pop(i), xs.insert(i, y) -/
/-- a list at a place, changed by nothing else -/
def mMeth0 (f : List D → Option (D × List D)) (qo : List D → Option PL) : List D → R D := fun st => match qo st with
  | some (.pth r p) => match getS st r p with
    | some (.nd (.lst .own) xs) => match f xs with
      | some (d, ys) => .ok d (setS st r p (.nd (.lst .own) ys))
      | none => .stuck
    | _ => .stuck
  | _ => .stuck
def revF (xs : List D) : Option (D × List D) := some (.non, xs.reverse)
def popF (xs : List D) : Option (D × List D) := match xs.getLast? with
  | some d => match vOf d with
    | some _ => some (d, xs.dropLast)
    | none => none
  | none => none
/-! .. with arguments -/
def mMeth1 (f : D → List D → Option (D × List D)) (qo : List D → Option PL) (mb : List D → R D) : List D → R D := fun st => match qo st with
  | some (.pth r p) => match getS st r p with
    | some (.nd (.lst _) _) => (mb st).bind fun d st1 => match getS st1 r p with
      | some (.nd (.lst .own) xs) => match f d xs with
        | some (y, ys) => .ok y (setS st1 r p (.nd (.lst .own) ys))
        | none => .stuck
      | _ => .stuck
    | _ => .stuck
  | _ => .stuck
def popAtF (d : D) (xs : List D) : Option (D × List D) := match d with
  | .int i => if -(2 ^ 63) ≤ i ∧ i < 2 ^ 63 then match ixN xs.length i with
      | some k => match xs[k]? with
        | some z => match vOf z with
          | some _ => some (z, xs.eraseIdx k)
          | none => none
        | none => none
      | none => none
    else none
  | _ => none
/-- x.insert(i, e), i quiet -/
def mInsert (qo : List D → Option PL) (mi mb : List D → R D) : List D → R D := fun st => match qo st with
  | some (.pth r p) => match getS st r p with
    | some (.nd (.lst _) _) => (mi st).bind fun x st1 => (mb st1).bind fun d st2 => match x, getS st2 r p with
      | .int i, some (.nd (.lst .own) xs) => if xs.length < sizeLine ∧ 0 ≤ i ∧ i < 2 ^ 63 then .ok .non (setS st2 r p (.nd (.lst .own) (xs.take i.toNat ++ [d] ++ xs.drop i.toNat))) else .stuck
      | _, _ => .stuck
    | _ => .stuck
  | _ => .stuck
end
/-! ### in running -/
@[simp] theorem int1D_int (i : Int) : int1D (.int i) = some i := rfl
@[simp] theorem int1D_bl (b : Bool) : int1D (.bl b) = some (if b then 1 else 0) := rfl
@[simp] theorem mInt1_eq (ma : List D → R D) (st : List D) : mInt1 ma st = (ma st).bind fun d st1 => R.of (int1D d) fun i => .ok (.int i) st1 := by
  unfold mInt1; congr 1; funext d st1; cases int1D d <;> rfl
def repK (st2 : List D) (x y : D) : R D := match x, y with
  | .nd (.lst _) xs, .int k => R.of (vsOf xs) fun _ => chk (-9223372036854775808 ≤ k ∧ k < 9223372036854775808 ∧ xs.length * k.toNat ≤ 16777216) (.ok (.nd (.lst .own) (List.replicate k.toNat xs).flatten) st2)
  | _, _ => .stuck
@[simp] theorem repK_lst (st2 : List D) (f : Fl) (xs : List D) (k : Int) : repK st2 (.nd (.lst f) xs) (.int k) = R.of (vsOf xs) fun _ => chk (-9223372036854775808 ≤ k ∧ k < 9223372036854775808 ∧ xs.length * k.toNat ≤ 16777216) (.ok (.nd (.lst .own) (List.replicate k.toNat xs).flatten) st2) := rfl
@[simp] theorem mRep_eq (ma mb : List D → R D) (st : List D) : mRep ma mb st = (ma st).bind fun x st1 => (mb st1).bind fun y st2 => repK st2 x y := by
  unfold mRep
  congr 1; funext x st1; congr 1; funext y st2
  unfold repK
  match x, y with
  | .nd (.lst f) xs, .int k =>
    simp only
    cases vsOf xs <;> rfl
  | .nd (.lst f) xs, .un | .nd (.lst f) xs, .non | .nd (.lst f) xs, .bl _ | .nd (.lst f) xs, .str _ | .nd (.lst f) xs, .scr _ | .nd (.lst f) xs, .nd _ _ => rfl
  | .un, _ | .non, _ | .bl _, _ | .int _, _ | .str _, _ | .scr _, _ | .nd .tup _, _ | .nd (.dct _ _) _, _ | .nd (.ins _ _ _) _, _ => rfl
def leTK (st2 : List D) (x y : D) : R D := match x, y with
  | .nd .tup xs, .nd .tup ys => R.of (intsD xs) fun ns => R.of (intsD ys) fun ms => .ok (.bl (leT ns ms)) st2
  | _, _ => .stuck
@[simp] theorem leTK_two (st2 : List D) (a b c d : Int) : leTK st2 (.nd .tup [.int a, .int b]) (.nd .tup [.int c, .int d]) = .ok (.bl (if a = c then decide (b ≤ d) else decide (a ≤ c))) st2 := by
  simp [leTK, intsD, leT_two, R.of]
@[simp] theorem mLeT_eq (ma mb : List D → R D) (st : List D) : mLeT ma mb st = (ma st).bind fun x st1 => (mb st1).bind fun y st2 => leTK st2 x y := by
  unfold mLeT
  congr 1; funext x st1; congr 1; funext y st2
  unfold leTK
  split
  · rename_i xs ys
    cases intsD xs <;> cases intsD ys <;> rfl
  · rfl
def m0K (f : List D → Option (D × List D)) (st : List D) (r : Nat) (p : Pth) (x : D) : R D := match x with
  | .nd (.lst .own) xs => R.of (f xs) fun z => .ok z.1 (setS st r p (.nd (.lst .own) z.2))
  | _ => .stuck
@[simp] theorem m0K_own (f : List D → Option (D × List D)) (st : List D) (r : Nat) (p : Pth) (xs : List D) : m0K f st r p (.nd (.lst .own) xs) = R.of (f xs) fun z => .ok z.1 (setS st r p (.nd (.lst .own) z.2)) := rfl
@[simp] theorem mMeth0_eq (f : List D → Option (D × List D)) (qo : List D → Option PL) (st : List D) : mMeth0 f qo st = R.of (qo st) fun pl => pthK pl fun r p => R.of (getS st r p) (m0K f st r p) := by
  unfold mMeth0 R.of
  cases qo st with
  | none => rfl
  | some pl =>
    cases pl with
    | sc d => rfl
    | pth r p =>
      simp only [pthK]
      cases getS st r p with
      | none => rfl
      | some x =>
        simp only
        unfold m0K
        match x with
        | .nd (.lst .own) xs =>
          simp only [R.of]
          cases f xs <;> rfl
        | .nd (.lst .bor) _ | .nd (.lst .fz) _ | .nd .tup _ | .nd (.dct _ _) _ | .nd (.ins _ _ _) _ | .un | .non | .bl _ | .int _ | .str _ | .scr _ => rfl
def m1K (f : D → List D → Option (D × List D)) (d : D) (st : List D) (r : Nat) (p : Pth) (x : D) : R D := match x with
  | .nd (.lst .own) xs => R.of (f d xs) fun z => .ok z.1 (setS st r p (.nd (.lst .own) z.2))
  | _ => .stuck
@[simp] theorem m1K_own (f : D → List D → Option (D × List D)) (d : D) (st : List D) (r : Nat) (p : Pth) (xs : List D) : m1K f d st r p (.nd (.lst .own) xs) = R.of (f d xs) fun z => .ok z.1 (setS st r p (.nd (.lst .own) z.2)) := rfl
@[simp] theorem mMeth1_eq (f : D → List D → Option (D × List D)) (qo : List D → Option PL) (mb : List D → R D) (st : List D) : mMeth1 f qo mb st = R.of (qo st) fun pl => pthK pl fun r p => R.of (getS st r p) fun x => lstK x ((mb st).bind fun d st1 => R.of (getS st1 r p) (m1K f d st1 r p)) := by
  unfold mMeth1 R.of
  cases qo st with
  | none => rfl
  | some pl =>
    cases pl with
    | sc d => rfl
    | pth r p =>
      simp only [pthK]
      cases getS st r p with
      | none => rfl
      | some x =>
        match x with
        | .nd (.lst g) xs =>
          simp only [lstK]
          congr 1; funext d st1
          cases getS st1 r p with
          | none => rfl
          | some y =>
            simp only
            unfold m1K
            match y with
            | .nd (.lst .own) ys =>
              simp only [R.of]
              cases f d ys <;> rfl
            | .nd (.lst .bor) _ | .nd (.lst .fz) _ | .nd .tup _ | .nd (.dct _ _) _ | .nd (.ins _ _ _) _ | .un | .non | .bl _ | .int _ | .str _ | .scr _ => rfl
        | .nd .tup _ | .nd (.dct _ _) _ | .nd (.ins _ _ _) _ | .un | .non | .bl _ | .int _ | .str _ | .scr _ => rfl
@[simp] theorem revF_eq (xs : List D) : revF xs = some (.non, xs.reverse) := rfl
@[simp] theorem popF_int (xs : List D) (i : Int) : popF (xs ++ [.int i]) = some (.int i, xs) := by simp [popF, vOf]
@[simp] theorem popAtF_0 (xs : List D) (i : Int) : popAtF (.int 0) (.int i :: xs) = some (.int i, xs) := by
  have h : ixN (xs.length + 1) 0 = some 0 := by
    unfold ixN
    rw [if_pos (by decide), if_pos (by omega)]; rfl
  simp [popAtF, vOf, h]
def insK (x d : D) (st : List D) (r : Nat) (p : Pth) (y : D) : R D := match x, y with
  | .int i, .nd (.lst .own) xs => chk (xs.length < 16777216 ∧ 0 ≤ i ∧ i < 9223372036854775808) (.ok .non (setS st r p (.nd (.lst .own) (xs.take i.toNat ++ [d] ++ xs.drop i.toNat))))
  | _, _ => .stuck
@[simp] theorem insK_own (i : Int) (d : D) (st : List D) (r : Nat) (p : Pth) (xs : List D) : insK (.int i) d st r p (.nd (.lst .own) xs) = chk (xs.length < 16777216 ∧ 0 ≤ i ∧ i < 9223372036854775808) (.ok .non (setS st r p (.nd (.lst .own) (xs.take i.toNat ++ [d] ++ xs.drop i.toNat)))) := rfl
@[simp] theorem mInsert_eq (qo : List D → Option PL) (ma mb : List D → R D) (st : List D) : mInsert qo ma mb st = R.of (qo st) fun pl => pthK pl fun r p => R.of (getS st r p) fun x => lstK x ((ma st).bind fun i st1 => (mb st1).bind fun d st2 => R.of (getS st2 r p) (insK i d st2 r p)) := by
  unfold mInsert R.of
  cases qo st with
  | none => rfl
  | some pl =>
    cases pl with
    | sc d => rfl
    | pth r p =>
      simp only [pthK]
      cases getS st r p with
      | none => rfl
      | some x =>
        match x with
        | .nd (.lst g) xs =>
          simp only [lstK]
          congr 1; funext i st1; congr 1; funext d st2
          cases getS st2 r p with
          | none => cases i <;> rfl
          | some y =>
            simp only
            unfold insK
            match i, y with
            | .int i, .nd (.lst .own) ys => rfl
            | .int i, .nd (.lst .bor) _ | .int i, .nd (.lst .fz) _ | .int i, .nd .tup _ | .int i, .nd (.dct _ _) _ | .int i, .nd (.ins _ _ _) _ | .int i, .un | .int i, .non | .int i, .bl _ | .int i, .int _ | .int i, .str _ | .int i, .scr _ => rfl
            | .un, _ | .non, _ | .bl _, _ | .str _, _ | .scr _, _ | .nd _ _, _ => rfl
        | .nd .tup _ | .nd (.dct _ _) _ | .nd (.ins _ _ _) _ | .un | .non | .bl _ | .int _ | .str _ | .scr _ => rfl
end PV

namespace PV
open PySem L2
section
variable {X : Cx} {C : Cc} {st ds : List D} {σ : L2.St} {vs : List V} {H H' : Hp} {a b e o tg elt iter : Expr} {pos p pos' p2 spos py apos : Pos} {ma mb : List D → R D} {sa sb se : Bool} {ss : List Stmt} {m : MS} {ws : List Nat} {g : MG} {mt : List D → R Bool} {me : List D → R D} {ifs : List Expr} {scope : Scope} {own : List (Str × Nat)} {Dn : Ends} {qa qb qo : List D → Option PL}
theorem rE_base {Q : VK} {H1 H2 : Hp} {r : R D} (h : rE C false ds vs σ H1 Q r) : rE C false ds vs σ H2 Q r := by
  cases r with
  | ok d st => exact fun v H' _ s => h v H' (fun z => nomatch z) s
  | ex e st => exact h
  | stuck => exact h
/-! ### sep.join(xs) -/
def strsD : List D → Option (List Str)
  | [] => some []
  | .str s :: r => match strsD r with
    | some l => some (s :: l)
    | none => none
  | _ => none
theorem strsD_eq : ∀ {xs : List D} {ns : List Str}, strsD xs = some ns → xs = ns.map D.str
  | [], ns, h => by simp [strsD] at h; subst h; rfl
  | .str i :: r, ns, h => by
    simp only [strsD] at h
    cases q : strsD r with
    | none => rw [q] at h; simp at h
    | some l => rw [q] at h; simp at h; subst h; simp [strsD_eq q]
  | .un :: r, ns, h => by simp [strsD] at h
  | .non :: r, ns, h => by simp [strsD] at h
  | .bl _ :: r, ns, h => by simp [strsD] at h
  | .int _ :: r, ns, h => by simp [strsD] at h
  | .scr _ :: r, ns, h => by simp [strsD] at h
  | .nd _ _ :: r, ns, h => by simp [strsD] at h
@[simp] theorem strsD_map : ∀ ns : List Str, strsD (ns.map D.str) = some ns
  | [] => rfl
  | n :: ns => by simp [strsD, strsD_map ns]
theorem rpl_strs {G : Gd} : ∀ {ns : List Str} {ws : List V} {os : Ct}, RpL G (ns.map D.str) ws os → ws = ns.map V.str
  | [], _, _, .nil _ => rfl
  | n :: ns, _, _, .cons r t _ => by cases r; simp [rpl_strs t]
theorem strs_rpl {G : Gd} : ∀ (ns : List Str), RpL G (ns.map D.str) (ns.map V.str) fun _ => 0
  | [] => .nil fun _ => rfl
  | n :: ns => .cons (o1 := fun _ => 0) (o2 := fun _ => 0) (.str fun _ => rfl) (strs_rpl ns) fun _ => rfl
def JoinOk (a : Str) (l : List Str) : Prop := (l.map (·.length)).sum + l.length * a.length ≤ 16777216
instance (a : Str) (l : List Str) : Decidable (JoinOk a l) := by unfold JoinOk; infer_instance
def mJoin (ma mb : List D → R D) : List D → R D := fun st => (ma st).bind fun x st1 => match x with
  | .str a => (mb st1).bind fun y st2 => match y with
    | .nd (.lst _) ys => match strsD ys with
      | some l => if JoinOk a l then .ok (.str (Txt.join a l)) st2 else .stuck
      | none => .stuck
    | _ => .stuck
  | _ => .stuck
theorem ve_join (ha : VE X C sa o ma) (hb : VE X C sb e mb) (hs : starEach [e] X.env = [(false, eval e X.env)] := by rfl) (hbase : attributeBase o "join" X.env (eval o X.env) = eval o X.env := by rfl) (hline : (apos.endLine == pos.line) = true := by rfl) :
    VE X C false (.Call (.Attribute o "join" apos) [e] [] pos) (mJoin ma mb) := by
  refine (pe_join ha hb hs hbase hline).impV ?_
  rintro σ H Q ⟨st, ds, vs, s, hl, h⟩
  refine seq1 (sm := false) s hl h fun x st1 v H1 sm s1 h1 => ?_
  cases x with
  | str z =>
    have e1 := s1.scTop (v := .str z) rfl
    subst e1
    refine ⟨⟨z, rfl⟩, ?_⟩
    refine seq1 (sm := false) s1.pop hl (rE_base h1) fun y st2 u H2 sm2 s2 h2 => ?_
    match y, s2, h2 with
    | .nd (.lst f) ys, s2, h2 =>
      simp only at h2
      cases q : strsD ys with
      | none => rw [q] at h2; exact h2.elim
      | some l =>
        rw [q] at h2
        simp only at h2
        split at h2
        · rename_i hz
          obtain rfl := strsD_eq q
          obtain ⟨a', us, Z, os, rfl, hk, rl⟩ := s2.ndTop
          obtain rfl := rpl_strs rl
          exact ⟨z, a', l, rfl, rfl, .inl (SqL.of hk), hz, h2 _ _ (fun z => nomatch z) (s2.pop.pushc rfl)⟩
        · exact h2.elim
    | .un, _, h2 => exact h2.elim
    | .non, _, h2 => exact h2.elim
    | .bl _, _, h2 => exact h2.elim
    | .int _, _, h2 => exact h2.elim
    | .str _, _, h2 => exact h2.elim
    | .scr _, _, h2 => exact h2.elim
    | .nd .tup _, _, h2 => exact h2.elim
    | .nd (.dct _ _) _, _, h2 => exact h2.elim
    | .nd (.ins _ _ _) _, _, h2 => exact h2.elim
  | _ => exact h1.elim
/-! ### walks over a text -/
def signsD (z : Str) : List D := z.cps.toList.map fun c => .str ⟨#[c]⟩
theorem signsD_len (z : Str) : (signsD z).length = z.cps.size := by simp [signsD]
theorem signsD_get {z : Str} {i : Nat} {c : Nat} (h : z.cps[i]? = some c) : (signsD z)[i]? = some (.str ⟨#[c]⟩) := by
  simp [signsD, List.getElem?_map, h]
def mLcS (ma : List D → R D) (ws : List Nat) (g : MG) (mt : List D → R Bool) (me : List D → R D) : List D → R D := fun st => (ma st).bind fun d st1 => match d with
  | .str z => lcE (lcL (lcT ws g mt me) (signsD z) [] st1)
  | _ => .stuck
/-- for c in s -/
def mForS (ma : List D → R D) (g : MG) (body : MS) : MS := fun st => (ma st).s fun d st1 => match d with
  | .str z => forL g body (signsD z) st1
  | _ => .stuck
theorem vs_forS {g : MG} {fpos : Pos} (hp : PassesOwn (model X.prog X.w) X.A X.env X.xe) (hc : X.calm = true) (ha : VE X C sa a ma) (hg : VG X C tg g) (hb : VB X C ss m) (hs : ∀ x, foldedSetIterable a X.env x = pure x := by intro _; rfl) : VS X C (.For tg a ss [] fpos) (mForS ma g m) := by
  refine (ps_for hp hc (pi_str ha) hg hb hs).impV ?_
  rintro Dn σ H ⟨st, ds, vs, s, hl, h⟩
  refine seqS s hl h fun d st1 v H1 s1 h1 => ?_
  cases d with
  | str z =>
    have e1 := s1.scTop (v := .str z) rfl
    subst e1
    refine ⟨z, rfl, fun k m' σ' H' => m' = z.cps.size - k ∧ k ≤ z.cps.size ∧ ∃ st', SX C st' ds σ' vs H' ∧ rZ C ds vs Dn (forL g m ((signsD z).drop k) st'), ⟨z.cps.size, by simp, Nat.zero_le _, st1, s1.pop, by simpa using h1⟩, ?_⟩
    rintro k m' σ' H' ⟨rfl, hi, st', s', h'⟩
    by_cases hlt : k < z.cps.size
    · refine .inr ⟨hlt, fun σ'' H'' => ∃ st', SX C st' ds σ'' vs H'' ∧ rZ C ds vs Dn (forL g m ((signsD z).drop (k + 1)) st'), fun σ'' H'' p' => ⟨z.cps.size - (k + 1), by omega, rfl, hlt, p'⟩, fun x H2 y => ?_⟩
      obtain ⟨e, c, hcc, rfl⟩ := y
      subst e
      have hk' : k < (signsD z).length := by rw [signsD_len]; exact hlt
      have hx : (signsD z)[k] = .str ⟨#[c]⟩ := by
        have := signsD_get hcc
        rw [List.getElem?_eq_getElem hk'] at this
        exact Option.some.inj this
      rw [List.drop_eq_getElem_cons hk', hx] at h'
      refine ⟨st', ds, vs, _, s'.pushc (d := .str ⟨#[c]⟩) rfl, hl, ?_⟩
      simp only [forL] at h'
      cases q : g (.str ⟨#[c]⟩) st' with
      | none => rw [q] at h'; exact h'.elim
      | some st2 =>
        rw [q] at h'
        intro σ2 H2 s4
        refine ⟨st2, ds, vs, s4, hl, ?_⟩
        exact rZ.turn (f := forL g m ((signsD z).drop (k + 1))) (fun st'' σ'' H'' s'' q => ⟨st'', s'', q⟩) (fun st'' σ'' H'' s'' q => ⟨st'', s'', q⟩) (fun _ _ q => q) rfl h'
    · have e : k = z.cps.size := by omega
      subst e
      refine .inl ⟨Nat.le_refl _, ?_⟩
      rw [← signsD_len z, List.drop_length] at h'
      exact h' σ' H' s'
  | _ => exact h1.elim
end
/-! ### in running -/
def joinK (st2 : List D) (a : Str) (y : D) : R D := match y with
  | .nd (.lst _) ys => R.of (strsD ys) fun l => chk (JoinOk a l) (.ok (.str (Txt.join a l)) st2)
  | _ => .stuck
@[simp] theorem joinK_lst (st2 : List D) (a : Str) (f : Fl) (ys : List D) : joinK st2 a (.nd (.lst f) ys) = R.of (strsD ys) fun l => chk (JoinOk a l) (.ok (.str (Txt.join a l)) st2) := rfl
def strK {α : Type} (x : D) (k : Str → R α) : R α := match x with
  | .str a => k a
  | _ => .stuck
@[simp] theorem strK_str {α : Type} (a : Str) (k : Str → R α) : strK (.str a) k = k a := rfl
@[simp] theorem mJoin_eq (ma mb : List D → R D) (st : List D) : mJoin ma mb st = (ma st).bind fun x st1 => strK x fun a => (mb st1).bind fun y st2 => joinK st2 a y := by
  unfold mJoin
  congr 1; funext x st1
  cases x with
  | str a =>
    simp only [strK]
    congr 1; funext y st2
    match y with
    | .nd (.lst f) ys =>
      simp only [joinK_lst, R.of]
      cases strsD ys <;> rfl
    | .un | .non | .bl _ | .int _ | .str _ | .scr _ | .nd .tup _ | .nd (.dct _ _) _ | .nd (.ins _ _ _) _ => rfl
  | _ => rfl
@[simp] theorem mLcS_eq (ma : List D → R D) (ws : List Nat) (g : MG) (mt : List D → R Bool) (me : List D → R D) (st : List D) : mLcS ma ws g mt me st = (ma st).bind fun d st1 => strK d fun z => lcE (lcL (lcT ws g mt me) (signsD z) [] st1) := by
  unfold mLcS; congr 1
def strS (x : D) (k : Str → RS) : RS := match x with
  | .str a => k a
  | _ => .stuck
@[simp] theorem strS_str (a : Str) (k : Str → RS) : strS (.str a) k = k a := rfl
@[simp] theorem mForS_eq (ma : List D → R D) (g : MG) (body : MS) (st : List D) : mForS ma g body st = (ma st).s fun d st1 => strS d fun z => forL g body (signsD z) st1 := by
  unfold mForS; congr 1
end PV

namespace PV
open PySem L2
theorem for_tupV {K : PySem.W.Frag} {a : Addr} {n : Nat} {g : TG} {tb : TS} {D : Ends} {σ : L2.St} {H : Hp} (Pv : Nat → L2.St → Hp → Prop) (h0 : Pv 0 σ H) (hl : ∀ i σ H, i ≤ n → Pv i σ H → ∃ ws, ws.length = n ∧ H a = some (.tup ws))
    (hs : ∀ i x ws σ H, H a = some (.tup ws) → ws[i]? = some x → i < n → Pv i σ H → g x σ H fun σ2 H2 => tb { D with nx := Pv (i + 1), ct := Pv (i + 1), bk := D.nx } σ2 H2) (hd : ∀ σ H, Pv n σ H → D.nx σ H) :
    ∃ W : Nat → Nat → L2.St → Hp → Prop, (∃ m, W 0 m σ H) ∧ ∀ i m σ H, W i m σ H →
      ((Itt K a).stop i H ∧ D.nx σ H) ∨ ((Itt K a).go i H ∧ ∃ N : L2.St → Hp → Prop, (∀ σ' H', N σ' H' → ∃ m', m' < m ∧ W (i + 1) m' σ' H') ∧ ∀ x H', (Itt K a).yld i H x H' → g x σ H' fun σ2 H2 => tb { D with nx := N, ct := N, bk := D.nx } σ2 H2) := by
  refine ⟨fun i m σ H => m = n - i ∧ i ≤ n ∧ Pv i σ H, ⟨n, by simp, Nat.zero_le _, h0⟩, ?_⟩
  rintro i m σ H ⟨rfl, hi, p⟩
  obtain ⟨ws, hw, q⟩ := hl i σ H hi p
  by_cases hlt : i < n
  · refine .inr ⟨⟨ws, ws[i], SqT.of q, by simp [hw, hlt]⟩, Pv (i + 1), fun σ' H' p' => ⟨n - (i + 1), by omega, rfl, hlt, p'⟩, fun x H' y => ?_⟩
    obtain ⟨e, y⟩ := y
    subst e
    exact hs i x ws σ _ q (y ws (SqT.of q)) hlt p
  · have e : i = n := by omega
    subst e
    exact .inl ⟨⟨ws, SqT.of q, by omega⟩, hd σ H p⟩
section
variable {X : Cx} {C : Cc} {st ds : List D} {σ : L2.St} {vs : List V} {H H' : Hp} {a b e o tg : Expr} {es : List Expr} {pos p apos : Pos} {qa qb qo : List D → Option PL} {ma mb : List D → R D} {sa sb : Bool} {ss : List Stmt} {m : MS} {Dn : Ends}
/-- an item of a node without own parts, pushed -/
theorem SX.itemZ {k : Kd} {xs : List D} {a : Addr} {j : Nat} {x : D} {w : V} {ws : List V} (nA : D.noOwn (.nd k xs) = true) (s : SX C st (ds ++ [.nd k xs]) σ (vs ++ [.ref a]) H) (hx : xs[j]? = some x) (hk : HoK C.CA H a ws k) (hw : ws[j]? = some w) :
    SX C st (ds ++ [.nd k xs] ++ [x]) σ (vs ++ [.ref a] ++ [w]) H := by
  obtain ⟨Z, os, s⟩ := s
  obtain ⟨o1, o2, o3, r1, r2, r3, e⟩ := s.top
  have zB := r3.zero nA
  obtain ⟨ox, rx, lx⟩ := r3.kids hk
  obtain ⟨w', od, orr, hw', rd, hod, _⟩ := rx.at hx
  rw [hw] at hw'; cases hw'
  have z1 : ∀ b, od b = 0 := fun b => by have := hod b; have := lx b; have := zB b; omega
  exact (s.mk2 (os' := os) (o2 := fun b => o2 b + o3 b) r1 ((r2.app (RpL.one r3) fun _ => rfl).app (os := fun b => o2 b + o3 b) (RpL.one rd) fun b => by simp [z1]) (fun b => by rw [e]; omega) (fun _ => Nat.le_refl _) s.sl).sx
def tupS (d : D) (k : List D → RS) : RS := match d with
  | .nd .tup xs => k xs
  | _ => .stuck
@[simp] theorem tupS_tup (xs : List D) (k : List D → RS) : tupS (.nd .tup xs) k = k xs := rfl
/-- for .. in a tuple -/
def mForT (ma : List D → R D) (g : MG) (body : MS) : MS := fun st => (ma st).s fun d st1 => tupS d.frz fun xs => forL g body xs st1
@[simp] theorem mForT_eq (ma : List D → R D) (g : MG) (b : MS) (st : List D) : mForT ma g b st = (ma st).s fun d st1 => tupS d.frz fun xs => forL g b xs st1 := rfl
theorem vs_forT {g : MG} (O : COk X C) (hp : PassesOwn (model X.prog X.w) X.A X.env X.xe) (hc : X.calm = true) (ha : VE X C sa e ma) (hg : VG X C tg g) (hb : VB X C ss m) (hs : ∀ x, foldedSetIterable e X.env x = pure x := by intro _; rfl) : VS X C (.For tg e ss [] pos) (mForT ma g m) := by
  refine (ps_for hp hc (pi_tup ha) hg hb hs).impV ?_
  rintro Dn σ H ⟨st, ds, vs, s, hl, h⟩
  refine seqS s hl h fun d st1 v H1 s1 h1 => ?_
  have s2 := s1.frzTop
  have nA := frz_no d
  generalize d.frz = df at h1 s2 nA
  match df, h1 with
  | .nd .tup xs, h1 =>
    obtain ⟨a, ws, Z, os, rfl, hk, rl⟩ := s2.ndTop
    have hk1 : H1 a = some (.tup ws) := hk
    refine ⟨a, rfl, ⟨ws, SqT.of hk1⟩, for_tupV (K := X.K) (a := a) (n := xs.length) (fun j σ' H' => ∃ st', SX C st' (ds ++ [.nd .tup xs]) σ' (vs ++ [.ref a]) H' ∧ rZ C (ds ++ [.nd .tup xs]) (vs ++ [.ref a]) Dn (forL g m (xs.drop j) st')) ⟨st1, s2, rZ.up hl rfl h1⟩ (fun j σ' H' _ ⟨_, s', _⟩ => ?_) ?_ ?_⟩
    · obtain ⟨a', ws', Z', os', e', hk', rl'⟩ := s'.ndTop
      cases e'
      exact ⟨ws', rl'.len.symm, hk'⟩
    · rintro j w ws' σ' H' hq hw hj ⟨st', s', h'⟩
      have hx : xs[j]? = some xs[j] := by simp [hj]
      rw [List.drop_eq_getElem_cons hj] at h'
      have s3 := s'.itemZ (k := .tup) nA hx hq hw
      refine ⟨st', ds ++ [.nd .tup xs], vs ++ [.ref a], xs[j], s3, by simp [hl], ?_⟩
      simp only [forL] at h'
      cases q : g xs[j] st' with
      | none => rw [q] at h'; exact h'.elim
      | some st2 =>
        rw [q] at h'
        intro σ2 H2 s4
        refine ⟨st2, ds ++ [.nd .tup xs], vs ++ [.ref a], s4, by simp [hl], ?_⟩
        exact rZ.turn (f := forL g m (xs.drop (j + 1))) (fun st'' σ'' H'' s'' q => ⟨st'', s'', q⟩) (fun st'' σ'' H'' s'' q => ⟨st'', s'', q⟩) (fun _ _ q => q) rfl h'
    · rintro σ' H' ⟨st', s', h'⟩
      rw [List.drop_length] at h'
      exact h' σ' H' s'
  | .un, h1 => exact h1.elim
  | .non, h1 => exact h1.elim
  | .bl _, h1 => exact h1.elim
  | .int _, h1 => exact h1.elim
  | .str _, h1 => exact h1.elim
  | .scr _, h1 => exact h1.elim
  | .nd (.lst _) _, h1 => exact h1.elim
  | .nd (.dct _ _) _, h1 => exact h1.elim
  | .nd (.ins _ _ _) _, h1 => exact h1.elim
end
end PV

namespace PV
open PySem L2
/-! ### dicts with numbers or texts for keys -/
def keyD : D → Option Key
  | .int i => some (.inl i)
  | .str s => some (.inr s)
  | _ => none
@[simp] theorem keyD_int (i : Int) : keyD (.int i) = some (.inl i) := rfl
@[simp] theorem keyD_str (s : Str) : keyD (.str s) = some (.inr s) := rfl
theorem keyD_v {d : D} {k : Key} (h : keyD d = some k) : vOf d = some (kV k) := by
  cases d <;> simp [keyD] at h <;> subst h <;> rfl
def kpos (ks : List Key) (k : Key) : Option Nat := ks.findIdx? fun q => decide (q = k)
theorem valV_zip (k : Key) : ∀ {ks : List Key} {ws : List V}, ks.length = ws.length → valV (ks.zip ws) k = match kpos ks k with
    | some j => ws[j]?
    | none => none
  | [], [], _ => rfl
  | [], w :: ws, h => by simp at h
  | q :: ks, [], h => by simp at h
  | q :: ks, w :: ws, h => by
    have ih := valV_zip k (ks := ks) (ws := ws) (by simpa using h)
    by_cases e : q = k
    · subst e
      rw [List.zip_cons_cons, valV_pos (by rfl)]
      simp [kpos, List.findIdx?_cons]
    · rw [List.zip_cons_cons, valV_neg (by exact e), ih]
      have : kpos (q :: ks) k = (kpos ks k).map (· + 1) := by
        unfold kpos
        rw [List.findIdx?_cons, if_neg (by simpa using e)]
      rw [this]
      cases kpos ks k <;> simp
theorem kpos_lt {ks : List Key} {k : Key} {j : Nat} (h : kpos ks k = some j) : j < ks.length := by
  unfold kpos at h
  rw [List.findIdx?_eq_some_iff_getElem] at h
  exact h.1
theorem kpos_get {ks : List Key} {k : Key} {j : Nat} (h : kpos ks k = some j) : ks[j]? = some k := by
  unfold kpos at h
  rw [List.findIdx?_eq_some_iff_getElem] at h
  obtain ⟨h1, h2, _⟩ := h
  simp at h2
  rw [List.getElem?_eq_getElem h1, h2]
theorem kpos_none {ks : List Key} {k : Key} (h : kpos ks k = none) : ∀ q ∈ ks, ¬ q = k := by
  unfold kpos at h
  rw [List.findIdx?_eq_none_iff] at h
  intro q hq
  simpa using h q hq
theorem putK_new {k : Key} {v : V} : ∀ {ks : List Key} {ws : List V}, ks.length = ws.length → kpos ks k = none → putK (ks.zip ws) k v = (ks ++ [k]).zip (ws ++ [v]) := fun {ks ws} hl h => by
  have hn := kpos_none h
  unfold putK
  rw [if_neg]
  · rw [List.zip_append hl]; rfl
  · simp only [List.any_eq_true, decide_eq_true_eq, not_exists, not_and]
    rintro ⟨a, b⟩ hm e
    exact hn a (List.of_mem_zip hm).1 e
theorem map_put_ne {k : Key} {v : V} : ∀ {ks : List Key} {ws : List V}, (∀ q ∈ ks, ¬ q = k) → (ks.zip ws).map (fun kv => if kv.1 = k then (kv.1, v) else kv) = ks.zip ws
  | [], _, _ => rfl
  | _ :: _, [], _ => rfl
  | q :: ks, w :: ws, h => by
    simp only [List.zip_cons_cons, List.map_cons]
    rw [if_neg (h q (by simp)), map_put_ne fun p hp => h p (by simp [hp])]
theorem map_put {k : Key} {v : V} : ∀ {ks : List Key} {ws : List V} {j : Nat}, ks.Nodup → ks.length = ws.length → kpos ks k = some j → (ks.zip ws).map (fun kv => if kv.1 = k then (kv.1, v) else kv) = ks.zip (ws.set j v)
  | [], _, j, _, _, h => by simp [kpos] at h
  | q :: ks, [], j, _, h, _ => by simp at h
  | q :: ks, w :: ws, j, hn, hl, h => by
    rw [List.nodup_cons] at hn
    have hc : kpos (q :: ks) k = if q = k then some 0 else (kpos ks k).map (· + 1) := by
      unfold kpos
      rw [List.findIdx?_cons]
      by_cases e : q = k <;> simp [e]
    rw [hc] at h
    by_cases e : q = k
    · subst e
      rw [if_pos rfl] at h; cases h
      simp only [List.zip_cons_cons, List.map_cons, if_pos, List.set_cons_zero]
      rw [map_put_ne fun p hp z => hn.1 (by rw [z] at hp; exact hp)]
    · rw [if_neg e] at h
      cases h1 : kpos ks k with
      | none => rw [h1] at h; simp at h
      | some i =>
        rw [h1] at h; simp at h; subst h
        simp only [List.zip_cons_cons, List.map_cons, if_neg e, List.set_cons_succ]
        rw [map_put hn.2 (by simpa using hl) h1]
theorem putK_old {k : Key} {v : V} {ks : List Key} {ws : List V} {j : Nat} (hn : ks.Nodup) (hl : ks.length = ws.length) (h : kpos ks k = some j) : putK (ks.zip ws) k v = ks.zip (ws.set j v) := by
  unfold putK
  rw [if_pos, map_put hn hl h]
  simp only [List.any_eq_true, decide_eq_true_eq]
  have h1 := kpos_lt h
  have h2 := kpos_get h
  refine ⟨(ks[j], ws[j]), ?_, ?_⟩
  · rw [List.mem_iff_getElem?]
    exact ⟨j, by rw [List.getElem?_zip_eq_some]; exact ⟨by simp [h1], by simp [← hl, h1]⟩⟩
  · rw [List.getElem?_eq_getElem h1] at h2
    simpa using h2
section
variable {X : Cx} {C : Cc} {st ds : List D} {σ : L2.St} {vs : List V} {H H' : Hp} {a b e o i tg value : Expr} {es : List Expr} {pos p apos pos' : Pos} {qa qb qo qi : List D → Option PL} {ma mb : List D → R D} {sa sb : Bool} {ss : List Stmt} {m : MS} {Dn : Ends}
/-! #### d[k] -/
def dgAt (st : List D) (r : Nat) (p : Pth) (k : Key) (d : D) : Option PL := match d with
  | .nd (.dct _ ks) _ => obn (kpos ks k) fun j => plOf st r (p ++ [j])
  | _ => none
@[simp] theorem dgAt_dct (st : List D) (r : Nat) (p : Pth) (k : Key) (f : Fl) (ks : List Key) (xs : List D) : dgAt st r p k (.nd (.dct f ks) xs) = obn (kpos ks k) fun j => plOf st r (p ++ [j]) := rfl
def dgQ (st : List D) (a b : PL) : Option PL := match a, b with
  | .pth r p, .sc y => obn (keyD y) fun k => obn (getS st r p) (dgAt st r p k)
  | _, _ => none
@[simp] theorem dgQ_pth (st : List D) (r : Nat) (p : Pth) (y : D) : dgQ st (.pth r p) (.sc y) = obn (keyD y) fun k => obn (getS st r p) (dgAt st r p k) := rfl
def qDg (qa qb : List D → Option PL) : List D → Option PL := fun st => q2 (qa st) (qb st) (dgQ st)
@[simp] theorem qDg_eq (qa qb : List D → Option PL) (st : List D) : qDg qa qb st = q2 (qa st) (qb st) (dgQ st) := rfl
theorem q2_of {a b : Option PL} {f : PL → PL → Option PL} {x : PL} (h : q2 a b f = some x) : ∃ p q, a = some p ∧ b = some q ∧ f p q = some x := by
  unfold q2 at h
  split at h
  · exact ⟨_, _, rfl, rfl, h⟩
  · cases h
theorem obn_of {α β : Type} {a : Option α} {f : α → Option β} {x : β} (h : obn a f = some x) : ∃ y, a = some y ∧ f y = some x := by
  cases a with
  | none => cases h
  | some y => exact ⟨y, rfl, h⟩
/-! #### k in d -/
def diAt (neg : Bool) (k : Key) (d : D) : Option PL := match d with
  | .nd (.dct _ ks) _ => some (.sc (.bl (if neg = true then !(kpos ks k).isSome else (kpos ks k).isSome)))
  | _ => none
@[simp] theorem diAt_dct (neg : Bool) (k : Key) (f : Fl) (ks : List Key) (xs : List D) : diAt neg k (.nd (.dct f ks) xs) = some (.sc (.bl (if neg = true then !(kpos ks k).isSome else (kpos ks k).isSome))) := rfl
def diQ (neg : Bool) (st : List D) (a b : PL) : Option PL := match a, b with
  | .sc y, .pth r p => obn (keyD y) fun k => obn (getS st r p) (diAt neg k)
  | _, _ => none
@[simp] theorem diQ_pth (neg : Bool) (st : List D) (r : Nat) (p : Pth) (y : D) : diQ neg st (.sc y) (.pth r p) = obn (keyD y) fun k => obn (getS st r p) (diAt neg k) := rfl
def qDin (neg : Bool) (qa qb : List D → Option PL) : List D → Option PL := fun st => q2 (qa st) (qb st) (diQ neg st)
@[simp] theorem qDin_eq (neg : Bool) (qa qb : List D → Option PL) (st : List D) : qDin neg qa qb st = q2 (qa st) (qb st) (diQ neg st) := rfl
theorem diQ_of {neg : Bool} {st : List D} {p q x : PL} (h : diQ neg st p q = some x) : ∃ r pp y k f ks xs, p = .sc y ∧ q = .pth r pp ∧ keyD y = some k ∧ getS st r pp = some (.nd (.dct f ks) xs) ∧ x = .sc (.bl (if neg = true then !(kpos ks k).isSome else (kpos ks k).isSome)) := by
  match p, q, h with
  | .sc y, .pth r pp, h =>
    obtain ⟨k, hk, h⟩ := obn_of (show obn (keyD y) _ = some x from h)
    obtain ⟨d, hd, h⟩ := obn_of h
    match d, h with
    | .nd (.dct f ks) xs, h =>
      cases h
      exact ⟨r, pp, y, k, f, ks, xs, rfl, rfl, hk, hd, rfl⟩
theorem din_red {neg : Bool} {t : TE} (ht : ∀ σ H Q, (trQ C qa) σ H (fun y H1 => (trQ C qb) σ H1 fun x H2 => ∃ a o, x = .ref a ∧ DGet H2 a y o ∧ Q (.bl (if neg = true then !o.isSome else o.isSome)) H2) → t σ H Q) : ∀ σ H Q, trQ C (qDin neg qa qb) σ H Q → t σ H Q := by
  rintro σ H Q ⟨st, ds, vs, s, h⟩
  refine ht σ H Q ?_
  cases e : qDin neg qa qb st with
  | none => rw [e] at h; exact h.elim
  | some x =>
    rw [e] at h
    obtain ⟨p, q, hp, hq, h1⟩ := q2_of (show q2 (qa st) (qb st) (diQ neg st) = some x from e)
    obtain ⟨r, pp, y, k, f, ks, xs, rfl, rfl, hk, hg, rfl⟩ := diQ_of h1
    refine ⟨st, ds, vs, s, ?_⟩
    rw [hp]
    intro v hv
    rw [keyD_v hk] at hv
    cases hv
    refine ⟨st, ds, vs, s, ?_⟩
    rw [hq]
    intro u hu'
    obtain ⟨a', ws, Z, os, rfl, hn, rl⟩ := s.node hg hu'
    obtain ⟨l1, hd⟩ := hn
    have g := DGet.k (k := k) hd
    rw [valV_zip k l1] at g
    have hs : (match kpos ks k with
      | some j => ws[j]?
      | none => none).isSome = (kpos ks k).isSome := by
      cases hj : kpos ks k with
      | none => rfl
      | some j => simp [← l1, kpos_lt hj]
    refine ⟨a', _, rfl, g, ?_⟩
    rw [hs]
    exact h _ rfl
theorem qDin_ok {neg : Bool} : ∀ st pl, qDin neg qa qb st = some pl → PLok C st pl := by
  intro st pl h
  obtain ⟨p, q, hp, hq, h1⟩ := q2_of (show q2 (qa st) (qb st) (diQ neg st) = some pl from h)
  obtain ⟨r, pp, y, k, f, ks, xs, rfl, rfl, hk, hg, rfl⟩ := diQ_of h1
  exact ⟨_, rfl⟩
theorem vq_din (ha : VQ X C a qa) (hb : VQ X C b qb) (hu : X.A.units + 1 < cLine) (h1 : behindInMarks .In b = false := by rfl) : VQ X C (.Compare a [.In] [b] pos) (qDin false qa qb) :=
  ⟨(pe_cmp (pc_din hu ha.pe hb.pe) h1).impV (din_red fun σ H Q h => h), qDin_ok⟩
/-! #### {} -/
def mDNew : List D → R D := fun st => .ok (.nd (.dct .own []) []) st
@[simp] theorem mDNew_eq (st : List D) : mDNew st = .ok (.nd (.dct .own []) []) st := rfl
/-! #### d[k] = e -/
def dpS (k : Key) (d : D) (st : List D) (r : Nat) (p : Pth) (x : D) : RS := match x with
  | .nd (.dct .own ks) xs => match kpos ks k with
    | some j => chkS (ks.Nodup ∧ ks.length < 16777216) (.nx (setS st r p (.nd (.dct .own ks) (xs.set j d))))
    | none => chkS (ks.length < 16777216) (.nx (setS st r p (.nd (.dct .own (ks ++ [k])) (xs ++ [d]))))
  | _ => .stuck
def ofS {α : Type} (a : Option α) (f : α → RS) : RS := match a with
  | some x => f x
  | none => .stuck
@[simp] theorem ofS_some {α : Type} (x : α) (f : α → RS) : ofS (some x) f = f x := rfl
def pthS (a : PL) (f : Nat → Pth → RS) : RS := match a with
  | .pth r p => f r p
  | _ => .stuck
@[simp] theorem pthS_pth (r : Nat) (p : Pth) (f : Nat → Pth → RS) : pthS (.pth r p) f = f r p := rfl
def scS (a : PL) (f : D → RS) : RS := match a with
  | .sc d => f d
  | _ => .stuck
@[simp] theorem scS_sc (d : D) (f : D → RS) : scS (.sc d) f = f d := rfl
def mDPut (qo qi : List D → Option PL) (ma : List D → R D) : MS := fun st => (ma st).s fun d st1 => ofS (qo st1) fun po => pthS po fun r p => ofS (qi st1) fun pi => scS pi fun y => ofS (keyD y) fun k => ofS (getS st1 r p) (dpS k d st1 r p)
@[simp] theorem mDPut_eq (qo qi : List D → Option PL) (ma : List D → R D) (st : List D) : mDPut qo qi ma st = (ma st).s fun d st1 => ofS (qo st1) fun po => pthS po fun r p => ofS (qi st1) fun pi => scS pi fun y => ofS (keyD y) fun k => ofS (getS st1 r p) (dpS k d st1 r p) := rfl
theorem dpS_new {ks : List Key} {k : Key} (d : D) (st : List D) (r : Nat) (p : Pth) (xs : List D) (h : kpos ks k = none) (hl : ks.length < 16777216) : dpS k d st r p (.nd (.dct .own ks) xs) = .nx (setS st r p (.nd (.dct .own (ks ++ [k])) (xs ++ [d]))) := by
  simp only [dpS, h, chkS, if_pos hl]
theorem RpL.setN {G : Gd} {xs : List D} {ws : List V} {ox on : Ct} {j : Nat} {d : D} {v : V} (r1 : RpL G xs ws ox) (r2 : RpL G [d] [v] on) (hj : j < xs.length) : ∃ ox', RpL G (xs.set j d) (ws.set j v) ox' ∧ ∀ b, ox' b ≤ ox b + on b := by
  have hx : xs[j]? = some xs[j] := by simp [hj]
  obtain ⟨w, od, orr, e1, e2, e3, k⟩ := r1.at hx
  exact ⟨fun b => on b + orr b, k d v on _ r2.of1 fun _ => rfl, fun b => by rw [e3]; (try dsimp only); omega⟩
theorem vs_dput (ho : VQ X C o qo) (hi : VQ X C i qi) (hv : VE X C sa value ma) (hu : X.A.units + 1 < cLine) (hs : swapsWith value (some (.Subscript o i pos')) pos.line X.env = pure false := by rfl) : VS X C (.Assign [.Subscript o i pos'] value pos) (mDPut qo qi ma) := by
  refine (ps_dput hu ho.pe hi.pe hv hs).impV ?_
  rintro Dn σ H ⟨st, ds, vs, s, hl, h⟩
  refine seqS s hl h fun d st1 v H1 s1 h1 => ?_
  cases q1 : qo st1 with
  | none => rw [q1] at h1; exact h1.elim
  | some po =>
    rw [q1] at h1
    match po, q1, h1 with
    | .pth r p, q1, h1 =>
      simp only [ofS_some, pthS_pth] at h1
      cases q2 : qi st1 with
      | none => rw [q2] at h1; exact h1.elim
      | some pi =>
        rw [q2] at h1
        match pi, q2, h1 with
        | .sc y, q2, h1 =>
          simp only [ofS_some, scS_sc] at h1
          cases q3 : keyD y with
          | none => rw [q3] at h1; exact h1.elim
          | some k =>
            rw [q3] at h1
            simp only [ofS_some] at h1
            cases q4 : getS st1 r p with
            | none => rw [q4] at h1; exact h1.elim
            | some x =>
              rw [q4] at h1
              simp only [ofS_some] at h1
              refine ⟨st1, ds ++ [d], vs ++ [v], s1, ?_⟩
              rw [q1]
              intro u hu'
              refine ⟨st1, ds ++ [d], vs ++ [v], s1, ?_⟩
              rw [q2]
              intro y' hy'
              rw [keyD_v q3] at hy'
              cases hy'
              match x, q4, h1 with
              | .nd (.dct .own ks) xs, q4, h1 =>
                obtain ⟨a', ws, Z, os, rfl, hn, rl⟩ := s1.node q4 hu'
                obtain ⟨l1, hd⟩ := hn
                simp only [dpS] at h1
                cases hj : kpos ks k with
                | none =>
                  rw [hj] at h1
                  simp only [chkS] at h1
                  split at h1
                  · rename_i hz
                    refine ⟨a', _, rfl, DPut.k (k := k) hd (by simpa [← l1] using hz), ?_⟩
                    rw [putK_new l1 hj]
                    exact h1 σ _ (s1.mut hl q4 rfl hu' (k := .dct .own ks) ⟨l1, hd⟩ (show HoK _ _ _ (ws ++ [v]) (.dct .own (ks ++ [k])) from ⟨by simp [l1], upd_same⟩) rfl fun G ox on r1 r2 => ⟨fun b => ox b + on b, r1.app r2 fun _ => rfl, fun _ => Nat.le_refl _⟩)
                  · exact h1.elim
                | some j =>
                  rw [hj] at h1
                  simp only [chkS] at h1
                  split at h1
                  · rename_i hz
                    refine ⟨a', _, rfl, DPut.k (k := k) hd (by simpa [← l1] using hz.2), ?_⟩
                    rw [putK_old hz.1 l1 hj]
                    exact h1 σ _ (s1.mut hl q4 rfl hu' (k := .dct .own ks) ⟨l1, hd⟩ (show HoK _ _ _ (ws.set j v) (.dct .own ks) from ⟨by simp [l1], upd_same⟩) rfl fun G ox on r1 r2 => r1.setN r2 (by rw [rl.len, ← l1]; exact kpos_lt hj))
                  · exact h1.elim
/-! #### {k: v}, k quiet, v a scalar -/
def dpK (st : List D) (a b : PL) : R D := match a, b with
  | .sc y, .sc d => R.of (keyD y) fun k => .ok (.nd (.dct .own [k]) [d]) st
  | _, _ => .stuck
@[simp] theorem dpK_sc (st : List D) (y d : D) : dpK st (.sc y) (.sc d) = R.of (keyD y) fun k => .ok (.nd (.dct .own [k]) [d]) st := rfl
def mDisp1 (qi qv : List D → Option PL) : List D → R D := fun st => R.of (qi st) fun a => R.of (qv st) fun b => dpK st a b
@[simp] theorem mDisp1_eq (qi qv : List D → Option PL) (st : List D) : mDisp1 qi qv st = R.of (qi st) fun a => R.of (qv st) fun b => dpK st a b := rfl
end
/-! #### places of keys -/
end PV

namespace PV
open PySem L2
section
variable {X : Cx} {C : Cc} {st ds : List D} {σ : L2.St} {vs : List V} {H H' : Hp} {a b e o i tg value : Expr} {es : List Expr} {pos p apos pos' p1 p2 p3 : Pos} {qa qb qo qi : List D → Option PL} {ma mb : List D → R D} {sa sb : Bool} {ss : List Stmt} {m : MS} {Dn : Ends}
/-! ### xs[::-1] of a list -/
def rvR (st : List D) (r : Nat) (p : Pth) (x : D) : R D := match x with
  | .nd (.lst f) xs => .ok (.nd (.lst .own) (D.setL .fz xs).reverse) (setS st r p (.nd (.lst f) (D.setL .fz xs)))
  | _ => .stuck
@[simp] theorem rvR_lst (st : List D) (r : Nat) (p : Pth) (f : Fl) (xs : List D) : rvR st r p (.nd (.lst f) xs) = .ok (.nd (.lst .own) (D.setL .fz xs).reverse) (setS st r p (.nd (.lst f) (D.setL .fz xs))) := rfl
def mRevQ (qa : List D → Option PL) : List D → R D := fun st => R.of (qa st) fun pl => pthK pl fun r p => R.of (getS st r p) (rvR st r p)
@[simp] theorem mRevQ_eq (qa : List D → Option PL) (st : List D) : mRevQ qa st = R.of (qa st) fun pl => pthK pl fun r p => R.of (getS st r p) (rvR st r p) := rfl
end
end PV

namespace PV
open PySem L2
section
variable {X : Cx} {C : Cc} {st ds : List D} {σ : L2.St} {vs : List V} {H H' : Hp} {a b e o i tg value : Expr} {es : List Expr} {pos p apos pos' p1 p2 p3 : Pos} {qa qb qo qi : List D → Option PL} {ma mb : List D → R D} {sa sb : Bool} {ss : List Stmt} {m : MS} {Dn : Ends}
/-! ### x == e, x != e: x a name that stays as it is -/
def eqpK (neg : Bool) (y : D) (st : List D) (x : D) : R D := R.of (eqD x y) fun b => .ok (.bl (if neg = true then !b else b)) st
@[simp] theorem eqpK_eq (neg : Bool) (y : D) (st : List D) (x : D) : eqpK neg y st x = R.of (eqD x y) fun b => .ok (.bl (if neg = true then !b else b)) st := rfl
def mEqP (neg : Bool) (qa : List D → Option PL) (mb : List D → R D) : List D → R D := fun st => R.of (qa st) fun pl => pthK pl fun r p => (mb st).bind fun y st1 => R.of (getS st1 r p) (eqpK neg y st1)
@[simp] theorem mEqP_eq (neg : Bool) (qa : List D → Option PL) (mb : List D → R D) (st : List D) : mEqP neg qa mb st = R.of (qa st) fun pl => pthK pl fun r p => (mb st).bind fun y st1 => R.of (getS st1 r p) (eqpK neg y st1) := rfl
/-! ### any of a list of truths -/
def blsD : List D → Option (List Bool)
  | [] => some []
  | .bl b :: r => match blsD r with
    | some l => some (b :: l)
    | none => none
  | _ => none
@[simp] theorem blsD_map : ∀ bs : List Bool, blsD (bs.map D.bl) = some bs
  | [] => rfl
  | n :: ns => by simp [blsD, blsD_map ns]
def anyK (st : List D) (x : D) : R D := match x with
  | .nd (.lst _) xs => R.of (blsD xs) fun bs => .ok (.bl (bs.any id)) st
  | _ => .stuck
@[simp] theorem anyK_lst (st : List D) (f : Fl) (xs : List D) : anyK st (.nd (.lst f) xs) = R.of (blsD xs) fun bs => .ok (.bl (bs.any id)) st := rfl
def mAny (ma : List D → R D) : List D → R D := fun st => (ma st).bind fun x st1 => anyK st1 x
@[simp] theorem mAny_eq (ma : List D → R D) (st : List D) : mAny ma st = (ma st).bind fun x st1 => anyK st1 x := rfl
end
end PV

namespace L2
open PySem PySem.Spec
end L2
namespace PV
open PySem L2
/-! ### one slot alone -/
def onlyS (n q : Nat) (d : D) : List D := (List.replicate n D.un).set q d
/-- the same context over another ground -/
structure Gr where
  H0 : Hp
  os0 : Ct
  B : Addr → Prop
def Cc.on (C : Cc) (g : Gr) : Cc := ⟨C.K, C.CA, g.H0, g.os0, g.B, C.W, C.fx, C.n⟩
theorem rp_uns' {G : Gd} : ∀ {n : Nat} {ws : List V}, ws.length = n → RpL G (List.replicate n .un) ws (fun _ => 0)
  | 0, [], _ => .nil fun _ => rfl
  | n + 1, w :: ws, h => .cons (o1 := fun _ => 0) (.un fun _ => rfl) (rp_uns' (by simpa using h)) fun b => by simp
  | 0, _ :: _, h => by simp at h
  | n + 1, [], h => by simp at h
section
variable {C : Cc} {Z Z' : Addr → Prop} {st ds : List D} {σ : L2.St} {vs : List V} {H H' : Hp} {os os' : Ct}
theorem SX.only {q : Nat} {dq : D} (s : SX C st ds σ vs H) (hl : ds.length = vs.length) (hq : st[q]? = some dq) (hu : dq ≠ .un) : ∃ g : Gr, SX (C.on g) (onlyS st.length q dq) [] σ [] H ∧
    ∀ (st1 ds1 : List D) (vs1 : List V) (H1 : Hp) (d1 : D), SX (C.on g) st1 ds1 σ vs1 H1 → st1[q]? = some d1 → D.noBorL (d1 :: ds1) = true →
      SX C (st.set q d1) (ds ++ ds1) σ (vs ++ vs1) H1 ∧ ∀ (r : Nat) (p : Pth) (u : V) (e : D), r ≠ q → getS st r p = some e → HPs H σ r p u → HPs H1 σ r p u := by
  classical
  obtain ⟨Z, os, s⟩ := s
  obtain ⟨o1, o2, r1, r2, e⟩ := s.cut
  obtain ⟨w, od, orr, hw, rd, hod, kset⟩ := r1.at hq
  have rest : RpL (C.G Z H) (st.set q .un) (σ.map gd) orr := by
    have := kset .un w (fun _ => 0) orr (.un fun _ => rfl) fun b => by simp
    rw [list_set_same hw] at this
    exact this
  have tot : ∀ b, os b = od b + (orr b + o2 b) := fun b => by rw [e, hod]; omega
  have zd : ∀ b, 0 < od b → Z b ∧ ¬ C.B b := fun b h => ⟨(s.rp.dom b (by rw [tot]; omega)).2.1, (s.rp.dom b (by rw [tot]; omega)).2.2⟩
  have za : ∀ b, 0 < orr b + o2 b → Z b ∧ ¬ C.B b := fun b h => ⟨(s.rp.dom b (by rw [tot]; omega)).2.1, (s.rp.dom b (by rw [tot]; omega)).2.2⟩
  have one1 : ∀ b, od b + (orr b + o2 b) ≤ 1 := fun b => by have := s.nd b; rw [tot] at this; exact this
  have hB : ∀ b, C.B b → ¬ Z b := fun b hb hz => by
    obtain ⟨⟨o, h1⟩, h2⟩ := s.bb b hb
    rcases s.fr b hz with h3 | h3
    · omega
    · rw [h1] at h3; cases h3
  let g : Gr := ⟨H, fun a => if Z a ∧ orr a + o2 a = 0 then 1 else 0, fun a => C.B a ∨ 0 < orr a + o2 a⟩
  have g0 : ∀ a, g.os0 a = 0 ↔ ¬ (Z a ∧ orr a + o2 a = 0) := fun a => by
    show (if Z a ∧ orr a + o2 a = 0 then 1 else 0) = 0 ↔ _
    by_cases c : Z a ∧ orr a + o2 a = 0
    · rw [if_pos c]; exact ⟨fun h => by omega, fun h => absurd c h⟩
    · rw [if_neg c]; exact ⟨fun _ => c, fun _ => rfl⟩
  have hsl : st.length = (σ.map gd).length := by simpa using s.ln
  have hql : q < st.length := (List.getElem?_eq_some_iff.mp hq).1
  obtain ⟨vq, hvq⟩ := s.sl q dq hq hu
  refine ⟨g, ⟨fun a => Z a ∧ orr a + o2 a = 0, od, ?_, ?_, ?_, ?_, ?_, ?_, ?_, ?_, s.fx⟩, ?_⟩
  · have t : Gd.To (C.G Z H) ((C.on g).G (fun a => Z a ∧ orr a + o2 a = 0) H) od := ⟨rfl, rfl, fun b o q _ => q, fun b o _ z y => z y.1, fun b h => ⟨⟨(zd b h).1, by have := one1 b; omega⟩, fun y => y.elim (zd b h).2 fun y => by have := one1 b; omega⟩, fun b o _ z y w => w.elim y fun w => z (za b w).1⟩
    have ru : RpL ((C.on g).G (fun a => Z a ∧ orr a + o2 a = 0) H) (List.replicate st.length .un) (σ.map gd) (fun _ => 0) := rp_uns' hsl.symm
    obtain ⟨w', od', orr', hw', rd', hod', kset'⟩ := ru.at (j := q) (d := .un) (by rw [List.getElem?_replicate, if_pos hql])
    rw [hw] at hw'; cases hw'
    have := kset' dq w od od (rd.mono t) fun b => by have := hod' b; omega
    rw [list_set_same hw] at this
    rw [List.append_nil, List.append_nil]
    exact this
  · intro b; have := one1 b; omega
  · unfold onlyS; simp [s.ln]
  · intro i d hi hd
    unfold onlyS at hi
    by_cases c : i = q
    · subst c; exact ⟨vq, hvq⟩
    · rw [List.getElem?_set_ne (Ne.symm c), List.getElem?_replicate] at hi
      split at hi
      · cases hi; exact absurd rfl hd
      · cases hi
  · intro a o h _; exact h
  · intro a ha
    left
    exact Nat.pos_of_ne_zero fun h => (g0 a).mp h ha
  · intro a ha; exact s.al a ha.1
  · rintro a (ha | ha)
    · obtain ⟨⟨o, h1⟩, h2⟩ := s.bb a ha
      exact ⟨⟨o, s.kp a o h1 h2⟩, (g0 a).mpr fun y => hB a ha y.1⟩
    · obtain ⟨⟨o, h1⟩, _⟩ := s.rp.dom a (by rw [tot]; omega)
      exact ⟨⟨o, h1⟩, (g0 a).mpr fun y => by omega⟩
  · rintro st1 ds1 vs1 H1 d1 ⟨Z1, os1, s1⟩ hd1 nb
    have kp1 : ∀ a o, H a = some o → ¬ (Z a ∧ orr a + o2 a = 0) → H1 a = some o := fun a o h c => s1.kp a o h ((g0 a).mpr c)
    have fr1 : ∀ a, Z1 a → (Z a ∧ orr a + o2 a = 0) ∨ H a = none := fun a h => by
      rcases s1.fr a h with y | y
      · left
        by_cases c : Z a ∧ orr a + o2 a = 0
        · exact c
        · have := (g0 a).mpr c
          have y : 0 < g.os0 a := y
          omega
      · exact .inr y
    have T : Gd.To (C.G Z H) (C.G (fun a => Z1 a ∨ 0 < orr a + o2 a) H1) (fun b => orr b + o2 b) := by
      refine ⟨rfl, rfl, fun b o h c => kp1 b o h fun y => ?_, fun b o h z y => ?_, fun b h => ⟨.inr h, (za b h).2⟩, fun b o _ _ z => z⟩
      · rcases c with c | c
        · have c : 0 < orr b + o2 b := c
          omega
        · exact c y.1
      · rcases y with y | y
        · rcases fr1 b y with w | w
          · exact z w.1
          · have h' : H b = some o := h
            rw [w] at h'; cases h'
        · exact z (za b y).1
    obtain ⟨p1, p2, q1, q2, e1⟩ := s1.cut
    obtain ⟨w1, od1, orr1, hw1, rd1, hod1, _⟩ := q1.at hd1
    rw [hw] at hw1; cases hw1
    have K : Gd.Bk ((C.on g).G Z1 H1) (C.G (fun a => Z1 a ∨ 0 < orr a + o2 a) H1) (fun b => od1 b + p2 b) := by
      refine ⟨rfl, rfl, rfl, fun b h => ?_, fun b z w => ?_, fun b ys h z y => ?_⟩
      · obtain ⟨_, h2, h3⟩ := s1.rp.dom b (by rw [e1, hod1]; (try dsimp only at h); omega)
        exact ⟨.inl h2, fun y => h3 (.inl y)⟩
      · exact ⟨fun y => y.elim z fun y => w (.inr y), fun y => w (.inl y)⟩
      · rcases y with y | y
        · exact z y
        · obtain ⟨o, h3, h4⟩ := s.al b (za b y).1
          have h5 : H1 b = some o := kp1 b o h3 fun c => by omega
          have h6 : H1 b = some (.tup ys) := h
          rw [h5] at h6; cases h6
          exact h4 ys rfl
    simp only [D.noBorL, Bool.and_eq_true] at nb
    have rd2 := rd1.back nb.1 (K.sub fun b h => by (try dsimp only); omega)
    have rs2 := q2.back nb.2 (K.sub fun b h => by (try dsimp only); omega)
    have restT := rest.mono (T.sub fun b h => by (try dsimp only); omega)
    have dsT := r2.mono (T.sub fun b h => by (try dsimp only); omega)
    obtain ⟨w3, od3, orr3, hw3, rd3, hod3, kset3⟩ := restT.at (j := q) (d := .un) (by rw [List.getElem?_set_self hql])
    rw [hw] at hw3; cases hw3
    have full := kset3 d1 w od1 (fun b => od1 b + orr3 b) rd2 fun _ => rfl
    rw [list_set_same hw, List.set_set] at full
    have one2 : ∀ b, 0 < od1 b + p2 b → orr b + o2 b = 0 := fun b h => by
      obtain ⟨_, h2, h3⟩ := s1.rp.dom b (by rw [e1, hod1]; omega)
      exact Nat.eq_zero_of_not_pos fun y => h3 (.inr y)
    refine ⟨⟨fun a => Z1 a ∨ 0 < orr a + o2 a, fun b => (od1 b + orr3 b) + (o2 b + p2 b), ?_, ?_, ?_, ?_, ?_, ?_, ?_, s.bb, s.fx⟩, fun r p u e' hr hg hp => ?_⟩
    · exact full.app (dsT.app rs2 fun _ => rfl) fun _ => rfl
    · intro b
      have h1 := one1 b
      have h2 := s1.nd b
      rw [e1, hod1] at h2
      have h3 := hod3 b
      by_cases c : 0 < od1 b + p2 b
      · have := one2 b c; (try dsimp only); omega
      · (try dsimp only); omega
    · simp [s.ln]
    · intro i d hi hd
      by_cases c : i = q
      · subst c; exact ⟨vq, hvq⟩
      · rw [List.getElem?_set_ne (Ne.symm c)] at hi
        exact s.sl i d hi hd
    · intro a o h1 h2
      refine kp1 a o (s.kp a o h1 h2) fun y => ?_
      rcases s.fr a y.1 with w | w
      · omega
      · rw [h1] at w; cases w
    · rintro a (h | h)
      · rcases fr1 a h with y | y
        · exact s.fr a y.1
        · by_cases c : C.os0 a = 0
          · right
            cases z : C.H0 a with
            | none => rfl
            | some o => have := s.kp a o z c; rw [y] at this; cases this
          · left; omega
      · exact s.fr a (za a h).1
    · rintro a (h | h)
      · exact s1.al a h
      · obtain ⟨o, h3, h4⟩ := s.al a (za a h).1
        exact ⟨o, kp1 a o h3 fun c => by omega, h4⟩
    · -- a path elsewhere
      obtain ⟨v, hv, hp⟩ := hp
      refine ⟨v, hv, ?_⟩
      unfold getS at hg
      cases h0 : st[r]? with
      | none => rw [h0] at hg; cases hg
      | some x =>
        rw [h0] at hg
        have h0' : (st.set q .un)[r]? = some x := by rw [List.getElem?_set_ne (Ne.symm hr)]; exact h0
        obtain ⟨w4, od4, orr4, hw4, rd4, hod4, _⟩ := rest.at h0'
        have : w4 = v := by rw [List.getElem?_map, hv] at hw4; simp at hw4; exact hw4.symm
        subst this
        exact rd4.hpt hg hp (T.sub fun b h => by (try dsimp only); have := hod4 b; omega)
end

/-! ### xs.insert(i, e): xs at a place within a slot, i and e asking one other slot alone -/
def okN {α β : Type} (r : R α) (f : α → List D → R β) : R β := match r with
  | .ok a st => f a st
  | _ => .stuck
@[simp] theorem okN_ok {α β : Type} (a : α) (st : List D) (f : α → List D → R β) : okN (.ok a st) f = f a st := rfl
def mInsN (q : Nat) (qo : List D → Option PL) (mi mb : List D → R D) : List D → R D := fun st => R.of (qo st) fun pl => pthK pl fun r p => chk (r ≠ q) (R.of (getS st r p) fun x => lstK x (R.of st[q]? fun dq => chk (isUn (some dq) = false) (
  okN (mi (onlyS st.length q dq)) fun i st1 => okN (mb st1) fun d st2 => R.of st2[q]? fun d1 => chk (D.noBorL [d1, i, d] = true) (R.of (getS (st.set q d1) r p) (insK i d (st.set q d1) r p)))))
@[simp] theorem mInsN_eq (q : Nat) (qo : List D → Option PL) (mi mb : List D → R D) (st : List D) : mInsN q qo mi mb st = R.of (qo st) fun pl => pthK pl fun r p => chk (r ≠ q) (R.of (getS st r p) fun x => lstK x (R.of st[q]? fun dq => chk (isUn (some dq) = false) (
  okN (mi (onlyS st.length q dq)) fun i st1 => okN (mb st1) fun d st2 => R.of st2[q]? fun d1 => chk (D.noBorL [d1, i, d] = true) (R.of (getS (st.set q d1) r p) (insK i d (st.set q d1) r p))))) := rfl
theorem rE_chk {C : Cc} {sm : Bool} {ds : List D} {vs : List V} {σ : L2.St} {H : Hp} {Q : VK} {c : Prop} [Decidable c] {r : R D} (h : rE C sm ds vs σ H Q (chk c r)) : c ∧ rE C sm ds vs σ H Q r := by
  unfold chk at h
  split at h
  · rename_i hc; exact ⟨hc, h⟩
  · exact h.elim
section
variable {X : Cx} {C : Cc} {st ds : List D} {σ : L2.St} {vs : List V} {H H' : Hp} {a b e o i tg value : Expr} {es : List Expr} {pos p apos pos' p1 p2 p3 : Pos} {qa qb qo qi : List D → Option PL} {ma mb : List D → R D} {sa sb : Bool} {ss : List Stmt} {m : MS} {Dn : Ends}
@[simp] theorem isUn_nd (k : Kd) (xs : List D) : isUn (some (.nd k xs)) = false := rfl
end
end PV

namespace PV
open PySem L2
section
variable {X : Cx} {C : Cc} {st ds : List D} {σ : L2.St} {vs : List V} {H H' : Hp} {a b e tg elt : Expr} {pos p pos' spos py : Pos} {ma mb : List D → R D} {sa sb se : Bool} {ss : List Stmt} {m : MS}
/-! ### for over a range of a length: the guard is one that the kernel does not compute -/
noncomputable def mForRC (ma mb : List D → R D) (g : MG) (body : MS) : MS := fun st => (ma st).s fun x st1 => (mb st1).s fun y st2 => match x, y with
  | .int i, .int j => chC (RgC i j) (forL g body (rangeD i j) st2) .stuck
  | _, _ => .stuck
noncomputable def mForRC1 (mb : List D → R D) (g : MG) (body : MS) : MS := mForRC (mK (.int 0)) mb g body
end
end PV

namespace PV
open PySem L2
section
variable {X : Cx} {C : Cc} {st ds : List D} {σ : L2.St} {vs : List V} {H H' : Hp} {a b e tg elt : Expr} {pos p pos' spos py : Pos} {ma mb : List D → R D} {sa sb se : Bool} {ss : List Stmt} {m : MS}
/-! ### list(range(n)), n a length: the guard is one that the kernel does not compute -/
noncomputable def mListRC1 (mb : List D → R D) : List D → R D := fun st => (mb st).bind fun y st2 => match y with
  | .int j => chC (RgOk 0 j) (.ok (.nd (.lst .own) (rangeD 0 j)) st2) .stuck
  | _ => .stuck
end
end PV

namespace PV
open PySem L2
section
variable {X : Cx} {C : Cc} {st ds : List D} {σ : L2.St} {vs : List V} {H H' : Hp} {a b e o tg elt : Expr} {pos p apos pos' spos py : Pos} {ma mb : List D → R D} {sa sb se : Bool} {ss : List Stmt} {m : MS}
/-! ### e.append(x), e a new list that nobody keeps -/
def appTK (st : List D) (y : D) (x : D) : R D := match x with
  | .nd (.lst .own) xs => chk (xs.length < 16777216) (.ok .non st)
  | _ => .stuck
@[simp] theorem appTK_own (st : List D) (y : D) (xs : List D) : appTK st y (.nd (.lst .own) xs) = chk (xs.length < 16777216) (.ok .non st) := rfl
def mAppT (ma mb : List D → R D) : List D → R D := fun st => (ma st).bind fun x st1 => lstK x ((mb st1).bind fun y st2 => appTK st2 y x)
@[simp] theorem mAppT_eq (ma mb : List D → R D) (st : List D) : mAppT ma mb st = (ma st).bind fun x st1 => lstK x ((mb st1).bind fun y st2 => appTK st2 y x) := rfl
end
end PV

namespace PV
open PySem L2
section
variable {X : Cx} {C : Cc} {st ds : List D} {σ : L2.St} {vs : List V} {H H' : Hp} {a b e o tg elt : Expr} {pos p apos pos' spos py : Pos} {ma mb : List D → R D} {sa sb se : Bool} {ss : List Stmt} {m : MS} {qa qb : List D → Option PL}
/-! ### texts of numbers, numbers of texts -/
def nS (i : Int) : Str := Str.ofString (toString i)
def strIK (st : List D) (d : D) : R D := match d with
  | .int i => chk (i.natAbs.log2 < 1920) (.ok (.str (nS i)) st)
  | _ => .stuck
@[simp] theorem strIK_int (st : List D) (i : Int) : strIK st (.int i) = chk (i.natAbs.log2 < 1920) (.ok (.str (nS i)) st) := rfl
def mStrI (ma : List D → R D) : List D → R D := fun st => (ma st).bind fun d st1 => strIK st1 d
@[simp] theorem mStrI_eq (ma : List D → R D) (st : List D) : mStrI ma st = (ma st).bind fun d st1 => strIK st1 d := rfl
theorem chk_ok {c : Prop} [Decidable c] {α : Type} {r : R α} {sm : Bool} {Q : VK} {d : D} {st : List D} (h : rE C sm ds vs σ H Q (chk c (.ok d st))) : c ∧ rE C sm ds vs σ H Q (.ok d st) := by
  by_cases hc : c
  · rw [chk_of hc] at h; exact ⟨hc, h⟩
  · unfold chk at h; rw [if_neg hc] at h; exact h.elim
theorem ve_strI (ha : VE X C sa a ma) (hg : Gl X "str") (hm : X.mg "str" = none) (he : starEach [a] X.env = (false, eval a X.env) :: starEach [] X.env := by rfl) : VE X C sa (.Call (.Name "str" p) [a] [] pos) (mStrI ma) := by
  refine (pe_callTy call_str_int hg hm (by decide +kernel) (pa_cons ha pa_nil he) (by decide) (by decide) he).impV ?_
  rintro σ H Q ⟨st, ds, vs, s, hl, h⟩
  refine seq1 (sm := sa) s hl h fun x st1 v H1 sm s1 h1 => ?_
  cases x with
  | int i =>
    have e := s1.scTop (v := .int i) rfl
    subst e
    obtain ⟨hc, h2⟩ := chk_ok (r := (.stuck : R D)) (show rE C sa ds vs σ H Q (chk (i.natAbs.log2 < 1920) (.ok (.str (nS i)) st1)) from h1)
    exact ⟨i, rfl, hc, h2 _ _ sm (s1.pop.pushc rfl)⟩
  | _ => exact h1.elim
def intSK (st : List D) (d : D) : R D := match d with
  | .str z => R.of (intText? z) fun n => chk (z.length ≤ 640) (.ok (.int n) st)
  | _ => .stuck
@[simp] theorem intSK_str (st : List D) (z : Str) : intSK st (.str z) = R.of (intText? z) fun n => chk (z.length ≤ 640) (.ok (.int n) st) := rfl
def mIntS (ma : List D → R D) : List D → R D := fun st => (ma st).bind fun d st1 => intSK st1 d
@[simp] theorem mIntS_eq (ma : List D → R D) (st : List D) : mIntS ma st = (ma st).bind fun d st1 => intSK st1 d := rfl
theorem ve_intS (ha : VE X C sa a ma) (hg : Gl X "int") (hm : X.mg "int" = none) (he : starEach [a] X.env = (false, eval a X.env) :: starEach [] X.env := by rfl) : VE X C sa (.Call (.Name "int" p) [a] [] pos) (mIntS ma) := by
  refine (pe_callTy call_int_str hg hm (by decide +kernel) (pa_cons ha pa_nil he) (by decide) (by decide) he).impV ?_
  rintro σ H Q ⟨st, ds, vs, s, hl, h⟩
  refine seq1 (sm := sa) s hl h fun x st1 v H1 sm s1 h1 => ?_
  cases x with
  | str z =>
    have e := s1.scTop (v := .str z) rfl
    subst e
    have h1 : rE C sa ds vs σ H Q (R.of (intText? z) fun n => chk (z.length ≤ 640) (.ok (.int n) st1)) := h1
    cases q : intText? z with
    | none => rw [q] at h1; exact h1.elim
    | some n =>
      rw [q] at h1
      obtain ⟨hc, h2⟩ := chk_ok (r := (.stuck : R D)) h1
      exact ⟨z, n, rfl, q, hc, h2 _ _ sm (s1.pop.pushc rfl)⟩
  | _ => exact h1.elim
/-! ### s.split(sep), s.partition(sep) -/
def splitK (st : List D) (x y : D) : R D := match x, y with
  | .str z, .str w => chk (w.length ≠ 0 ∧ z.length + 2 ≤ 16777216) (.ok (.nd (.lst .own) ((Txt.split z w).map D.str)) st)
  | _, _ => .stuck
@[simp] theorem splitK_str (st : List D) (z w : Str) : splitK st (.str z) (.str w) = chk (w.length ≠ 0 ∧ z.length + 2 ≤ 16777216) (.ok (.nd (.lst .own) ((Txt.split z w).map D.str)) st) := rfl
def mSplit (ma mb : List D → R D) : List D → R D := fun st => (ma st).bind fun x st1 => strK x fun _ => (mb st1).bind fun y st2 => splitK st2 x y
@[simp] theorem mSplit_eq (ma mb : List D → R D) (st : List D) : mSplit ma mb st = (ma st).bind fun x st1 => strK x fun _ => (mb st1).bind fun y st2 => splitK st2 x y := rfl
theorem beq0 {n : Nat} (h : n ≠ 0) : (n == 0) = false := by simp [h]
theorem ve_split (ha : VE X C sa o ma) (hb : VE X C sb e mb) (hs : starEach [e] X.env = [(false, eval e X.env)] := by rfl) (hbase : attributeBase o "split" X.env (eval o X.env) = eval o X.env := by rfl) (hline : (apos.endLine == pos.line) = true := by rfl) :
    VE X C false (.Call (.Attribute o "split" apos) [e] [] pos) (mSplit ma mb) := by
  refine (pe_split ha hb hs hbase hline).impV ?_
  rintro σ H Q ⟨st, ds, vs, s, hl, h⟩
  refine seq1 (sm := false) s hl h fun x st1 v H1 sm s1 h1 => ?_
  cases x with
  | str z =>
    have e1 := s1.scTop (v := .str z) rfl
    subst e1
    refine ⟨⟨z, rfl⟩, ?_⟩
    refine seq1 (sm := false) s1.pop hl (rE_base h1) fun y st2 u H2 sm2 s2 h2 => ?_
    cases y with
    | str w =>
      have e2 := s2.scTop (v := .str w) rfl
      subst e2
      obtain ⟨hc, h3⟩ := chk_ok (r := (.stuck : R D)) (show rE C false ds vs σ H1 Q (chk (w.length ≠ 0 ∧ z.length + 2 ≤ 16777216) (.ok (.nd (.lst .own) ((Txt.split z w).map D.str)) st2)) from h2)
      refine ⟨z, w, rfl, rfl, beq0 hc.1, hc.2, fun p hp => ?_⟩
      exact h3 _ _ (fun z => nomatch z) ((s2.pop.pushL fun G => strs_rpl (Txt.split z w)).alloc hl hp (show (upd H2 p (.lst ((Txt.split z w).map V.str))) p = some (.lst ((Txt.split z w).map V.str)) from upd_same) (.inr rfl))
    | _ => exact h2.elim
  | _ => exact h1.elim
def partK (st : List D) (x y : D) : R D := match x, y with
  | .str z, .str w => chk (w.length ≠ 0 ∧ z.length ≤ 16777216) (.ok (.nd .tup [.str (Txt.partition z w).1, .str (Txt.partition z w).2.1, .str (Txt.partition z w).2.2]) st)
  | _, _ => .stuck
@[simp] theorem partK_str (st : List D) (z w : Str) : partK st (.str z) (.str w) = chk (w.length ≠ 0 ∧ z.length ≤ 16777216) (.ok (.nd .tup [.str (Txt.partition z w).1, .str (Txt.partition z w).2.1, .str (Txt.partition z w).2.2]) st) := rfl
def mPart (ma mb : List D → R D) : List D → R D := fun st => (ma st).bind fun x st1 => strK x fun _ => (mb st1).bind fun y st2 => partK st2 x y
@[simp] theorem mPart_eq (ma mb : List D → R D) (st : List D) : mPart ma mb st = (ma st).bind fun x st1 => strK x fun _ => (mb st1).bind fun y st2 => partK st2 x y := rfl
theorem ve_partition (ha : VE X C sa o ma) (hb : VE X C sb e mb) (hs : starEach [e] X.env = [(false, eval e X.env)] := by rfl) (hbase : attributeBase o "partition" X.env (eval o X.env) = eval o X.env := by rfl) (hline : (apos.endLine == pos.line) = true := by rfl) :
    VE X C false (.Call (.Attribute o "partition" apos) [e] [] pos) (mPart ma mb) := by
  refine (pe_partition ha hb hs hbase hline).impV ?_
  rintro σ H Q ⟨st, ds, vs, s, hl, h⟩
  refine seq1 (sm := false) s hl h fun x st1 v H1 sm s1 h1 => ?_
  cases x with
  | str z =>
    have e1 := s1.scTop (v := .str z) rfl
    subst e1
    refine ⟨⟨z, rfl⟩, ?_⟩
    refine seq1 (sm := false) s1.pop hl (rE_base h1) fun y st2 u H2 sm2 s2 h2 => ?_
    cases y with
    | str w =>
      have e2 := s2.scTop (v := .str w) rfl
      subst e2
      obtain ⟨hc, h3⟩ := chk_ok (r := (.stuck : R D)) (show rE C false ds vs σ H1 Q (chk (w.length ≠ 0 ∧ z.length ≤ 16777216) (.ok (.nd .tup [.str (Txt.partition z w).1, .str (Txt.partition z w).2.1, .str (Txt.partition z w).2.2]) st2)) from h2)
      refine ⟨z, w, rfl, rfl, beq0 hc.1, hc.2, fun p hp => ?_⟩
      exact h3 _ _ (fun z => nomatch z) ((s2.pop.pushL fun G => strs_rpl [(Txt.partition z w).1, (Txt.partition z w).2.1, (Txt.partition z w).2.2]).alloc hl hp (show (upd H2 p (.tup [.str (Txt.partition z w).1, .str (Txt.partition z w).2.1, .str (Txt.partition z w).2.2])) p = some (.tup [.str (Txt.partition z w).1, .str (Txt.partition z w).2.1, .str (Txt.partition z w).2.2]) from upd_same) (.inl rfl))
    | _ => exact h2.elim
  | _ => exact h1.elim
/-! ### c in s, c one sign -/
def gInS (neg : Bool) : G2
  | .str ⟨⟨[c]⟩⟩, .str z => some (.bl (if neg = true then !decide (c ∈ z.cps.toList) else decide (c ∈ z.cps.toList)))
  | _, _ => none
@[simp] theorem gInS_sign (neg : Bool) (c : Nat) (z : Str) : gInS neg (.str ⟨#[c]⟩) (.str z) = some (.bl (if neg = true then !decide (c ∈ z.cps.toList) else decide (c ∈ z.cps.toList))) := rfl
theorem gInS_of {neg : Bool} {x y d : D} (h : gInS neg x y = some d) : ∃ c z, x = .str ⟨#[c]⟩ ∧ y = .str z ∧ d = .bl (if neg = true then !decide (c ∈ z.cps.toList) else decide (c ∈ z.cps.toList)) := by
  unfold gInS at h
  split at h
  · exact ⟨_, _, rfl, rfl, (Option.some.inj h).symm⟩
  · cases h
theorem scg_InS (neg : Bool) : ScG (gInS neg) := fun x y d h => by
  obtain ⟨c, z, rfl, rfl, rfl⟩ := gInS_of h
  exact ⟨⟨_, rfl⟩, ⟨_, rfl⟩, _, rfl⟩
theorem vq_notinS (ha : VQ X C a qa) (hb : VQ X C b qb) (hm : behindInMarks .NotIn b = false := by rfl) : VQ X C (.Compare a [.NotIn] [b] pos) (qOp (gInS true) qa qb) :=
  vq_cmp op_notIn_sign hm (scg_InS true) (fun x y d v u w H Q hv hu h hw hq => by
    obtain ⟨c, z, rfl, rfl, rfl⟩ := gInS_of h
    cases hv; cases hu; cases hw
    exact ⟨c, z, rfl, rfl, hq⟩) ha hb
/-! ### tuple(xs), xs a list of scalars -/
def tupK (st : List D) (x : D) : R D := match x with
  | .nd (.lst _) xs => R.of (vsOf xs) fun _ => .ok (.nd .tup xs) st
  | _ => .stuck
@[simp] theorem tupK_lst (st : List D) (f : Fl) (xs : List D) : tupK st (.nd (.lst f) xs) = R.of (vsOf xs) fun _ => .ok (.nd .tup xs) st := rfl
def mTupL (ma : List D → R D) : List D → R D := fun st => (ma st).bind fun d st1 => tupK st1 d
@[simp] theorem mTupL_eq (ma : List D → R D) (st : List D) : mTupL ma st = (ma st).bind fun d st1 => tupK st1 d := rfl
theorem ve_tupL (ha : VE X C sa a ma) (hg : Gl X "tuple") (hm : X.mg "tuple" = none) (he : starEach [a] X.env = (false, eval a X.env) :: starEach [] X.env := by rfl) : VE X C sa (.Call (.Name "tuple" p) [a] [] pos) (mTupL ma) := by
  refine (pe_callTy call_tuple_of hg hm (by decide +kernel) (pa_cons ha pa_nil he) (by decide) (by decide) he).impV ?_
  rintro σ H Q ⟨st, ds, vs, s, hl, h⟩
  refine seq1 (sm := sa) s hl h fun x st1 v H1 sm s1 h1 => ?_
  match x, s1, h1 with
  | .nd (.lst f) xs, s1, h1 =>
    have h1 : rE C sa ds vs σ H Q (R.of (vsOf xs) fun _ => .ok (.nd .tup xs) st1) := h1
    cases q : vsOf xs with
    | none => rw [q] at h1; exact h1.elim
    | some us =>
      rw [q] at h1
      obtain ⟨a', ws, Z, os, rfl, hk, rl⟩ := s1.ndTop
      obtain ⟨rfl, _⟩ := rp_vs rl q
      refine ⟨a', ws, rfl, .inl ⟨SqL.of hk, fun l hl' => ?_⟩⟩
      exact h1 _ _ (fun z => (sm z).trans (same_new hl')) (((s1.pop).pushL fun G => rpl_vs q).alloc hl hl' (show (upd H1 l (.tup ws)) l = some (.tup ws) from upd_same) (.inl rfl))
  | .un, _, h1 => exact h1.elim
  | .non, _, h1 => exact h1.elim
  | .bl _, _, h1 => exact h1.elim
  | .int _, _, h1 => exact h1.elim
  | .str _, _, h1 => exact h1.elim
  | .scr _, _, h1 => exact h1.elim
  | .nd .tup _, _, h1 => exact h1.elim
  | .nd (.dct _ _) _, _, h1 => exact h1.elim
  | .nd (.ins _ _ _) _, _, h1 => exact h1.elim
@[simp] theorem vsOf_strs : ∀ zs : List Str, vsOf (zs.map D.str) = some (zs.map V.str)
  | [] => rfl
  | z :: zs => by simp [vsOf, vsOf_strs zs, vOf]
end
end PV

namespace PV
open PySem L2
section
variable {X : Cx} {C : Cc} {st ds : List D} {σ : L2.St} {vs : List V} {H H' : Hp} {a b e o f tg elt : Expr} {pos p apos pos' cpos : Pos} {ma mb mc : List D → R D} {sa sb sc : Bool} {ss : List Stmt} {m : MS} {qa qb qo qi qv : List D → Option PL}
/-! ### a number of the module -/
/-! ### d.get(k, x), all quiet -/
def dget2At (st : List D) (r : Nat) (p : Pth) (k : Key) (z : D) (d : D) : Option PL := match d with
  | .nd (.dct _ ks) _ => match kpos ks k with
    | some j => plOf st r (p ++ [j])
    | none => some (.sc z)
  | _ => none
def dget2Q (st : List D) (a b c : PL) : Option PL := match a, b, c with
  | .pth r p, .sc y, .sc z => obn (keyD y) fun k => obn (getS st r p) (dget2At st r p k z)
  | _, _, _ => none
def q3 (a b c : Option PL) (f : PL → PL → PL → Option PL) : Option PL := match a, b, c with
  | some p, some q, some r => f p q r
  | _, _, _ => none
@[simp] theorem q3_some (p q r : PL) (f : PL → PL → PL → Option PL) : q3 (some p) (some q) (some r) f = f p q r := rfl
theorem dget2At_old (st : List D) (r : Nat) (p : Pth) (k : Key) (z : D) (f : Fl) (ks : List Key) (xs : List D) (j : Nat) (h : kpos ks k = some j) : dget2At st r p k z (.nd (.dct f ks) xs) = plOf st r (p ++ [j]) := by
  simp only [dget2At, h]
theorem dget2At_new (st : List D) (r : Nat) (p : Pth) (k : Key) (z : D) (f : Fl) (ks : List Key) (xs : List D) (h : kpos ks k = none) : dget2At st r p k z (.nd (.dct f ks) xs) = some (.sc z) := by
  simp only [dget2At, h]
@[simp] theorem dget2Q_pth (st : List D) (r : Nat) (p : Pth) (y z : D) : dget2Q st (.pth r p) (.sc y) (.sc z) = obn (keyD y) fun k => obn (getS st r p) (dget2At st r p k z) := rfl
def qDget2 (qa qb qc : List D → Option PL) : List D → Option PL := fun st => q3 (qa st) (qb st) (qc st) (dget2Q st)
@[simp] theorem qDget2_eq (qa qb qc : List D → Option PL) (st : List D) : qDget2 qa qb qc st = q3 (qa st) (qb st) (qc st) (dget2Q st) := rfl
theorem q3_of {a b c : Option PL} {f : PL → PL → PL → Option PL} {x : PL} (h : q3 a b c f = some x) : ∃ p q r, a = some p ∧ b = some q ∧ c = some r ∧ f p q r = some x := by
  unfold q3 at h
  split at h
  · exact ⟨_, _, _, rfl, rfl, rfl, h⟩
  · cases h
theorem dget2Q_of {st : List D} {p q w x : PL} (h : dget2Q st p q w = some x) : ∃ r pp y z k f ks xs, p = .pth r pp ∧ q = .sc y ∧ w = .sc z ∧ keyD y = some k ∧ getS st r pp = some (.nd (.dct f ks) xs) ∧ (match kpos ks k with | some j => plOf st r (pp ++ [j]) | none => some (.sc z)) = some x := by
  match p, q, w, h with
  | .pth r pp, .sc y, .sc z, h =>
    obtain ⟨k, hk, h⟩ := obn_of (show obn (keyD y) _ = some x from h)
    obtain ⟨d, hd, h⟩ := obn_of h
    match d, h with
    | .nd (.dct f ks) xs, h => exact ⟨r, pp, y, z, k, f, ks, xs, rfl, rfl, rfl, hk, hd, h⟩
theorem vq_dget2 (ha : VQ X C a qa) (hb : VQ X C b qb) (hc : VQ X C f qv) (hu : X.A.units + 1 < cLine) (M : M2 X a "get" apos b f cpos := by exact ⟨rfl, rfl, rfl, rfl⟩) : VQ X C (.Call (.Attribute a "get" apos) [b, f] [] cpos) (qDget2 qa qb qv) := by
  refine ⟨(pe_dget2 hu ha.pe hb.pe hc.pe M).impV ?_, fun st pl h => ?_⟩
  · rintro σ H Q ⟨st, ds, vs, s, h⟩
    cases e : qDget2 qa qb qv st with
    | none => rw [e] at h; exact h.elim
    | some x =>
      rw [e] at h
      obtain ⟨p, q, w, hp, hq, hw, h1⟩ := q3_of (show q3 (qa st) (qb st) (qv st) (dget2Q st) = some x from e)
      obtain ⟨r, pp, y, z, k, f, ks, xs, rfl, rfl, rfl, hk, hg, hx⟩ := dget2Q_of h1
      refine ⟨st, ds, vs, s, ?_⟩
      rw [hp]
      intro u hu'
      obtain ⟨a', ws, Z, os, rfl, hn, rl⟩ := s.node hg hu'
      obtain ⟨l1, hd⟩ := hn
      refine ⟨a', rfl, .inl ⟨_, .inl hd⟩, st, ds, vs, s, ?_⟩
      rw [hq]
      intro v hv
      refine ⟨st, ds, vs, s, ?_⟩
      rw [hw]
      intro v2 hv2
      rw [keyD_v hk] at hv
      cases hv
      have g := DGet.k (k := k) hd
      rw [valV_zip k l1] at g
      cases hj : kpos ks k with
      | none =>
        rw [hj] at g hx
        simp only at g hx
        cases hx
        exact ⟨none, g, h _ hv2⟩
      | some j =>
        rw [hj] at g hx
        simp only at g hx
        have hjw : j < ws.length := by rw [← l1]; exact kpos_lt hj
        have hw : ws[j]? = some ws[j] := by simp [hjw]
        rw [hw] at g
        exact ⟨some ws[j], g, rQ_next s hg hu' (k := .dct f ks) ⟨l1, hd⟩ hw (by rw [hx]; exact h)⟩
  · obtain ⟨p, q, w, hp, hq, hw, h1⟩ := q3_of (show q3 (qa st) (qb st) (qv st) (dget2Q st) = some pl from h)
    obtain ⟨r, pp, y, z, k, f, ks, xs, rfl, rfl, rfl, hk, hg, hx⟩ := dget2Q_of h1
    cases hj : kpos ks k with
    | none =>
      rw [hj] at hx
      simp only at hx
      cases hx
      exact hc.ok st _ hw
    | some j =>
      rw [hj] at hx
      exact plOf_ok hx
end
end PV

namespace PV
open PySem L2
/-! ### a written dict of the module: texts to numbers -/
structure KTb (K : PySem.W.Frag) (mg : Str → Option Value) (w : World) (x : Str) (tb : List (Str × Int)) : Prop where
  ex : ∃ d es n, mg x = some (.ref d) ∧ KDict K w d es n ∧ ∀ z : Str, ∃ r, PySem.W.nsIn K d z = some r ∧ r.isSome = (tb.lookup z).isSome ∧ ∀ i, tb.lookup z = some i → ∃ u, r = some u ∧ RelV (.int i) u
section
variable {X : Cx} {C : Cc} {st ds : List D} {σ : L2.St} {vs : List V} {H H' : Hp} {a b e o : Expr} {pos p : Pos} {ma mb : List D → R D} {sa sb : Bool} {qa qb : List D → Option PL}
def kinQ (neg : Bool) (tb : List (Str × Int)) (p : PL) : Option PL := match p with
  | .sc (.str z) => some (.sc (.bl (if neg = true then !(tb.lookup z).isSome else (tb.lookup z).isSome)))
  | _ => none
@[simp] theorem kinQ_str (neg : Bool) (tb : List (Str × Int)) (z : Str) : kinQ neg tb (.sc (.str z)) = some (.sc (.bl (if neg = true then !(tb.lookup z).isSome else (tb.lookup z).isSome))) := rfl
def qKIn (neg : Bool) (tb : List (Str × Int)) (qa : List D → Option PL) : List D → Option PL := fun st => obn (qa st) (kinQ neg tb)
@[simp] theorem qKIn_eq (neg : Bool) (tb : List (Str × Int)) (qa : List D → Option PL) (st : List D) : qKIn neg tb qa st = obn (qa st) (kinQ neg tb) := rfl
theorem kinQ_of {neg : Bool} {tb : List (Str × Int)} {p x : PL} (h : kinQ neg tb p = some x) : ∃ z, p = .sc (.str z) ∧ x = .sc (.bl (if neg = true then !(tb.lookup z).isSome else (tb.lookup z).isSome)) := by
  unfold kinQ at h
  split at h
  · exact ⟨_, rfl, (Option.some.inj h).symm⟩
  · cases h
theorem vq_kin {x : Str} {tb : List (Str × Int)} (T : KTb X.K X.mg X.w x tb) (ha : VQ X C a qa) (hg : Gl X x) (hd : (x == ("__debug__" : Str)) = false := by decide) (hm : behindInMarks .In (.Name x p) = false := by rfl) : VQ X C (.Compare a [.In] [.Name x p] pos) (qKIn false tb qa) := by
  obtain ⟨d, es, n, gm, D, hl⟩ := T.ex
  refine ⟨(pe_cmpR (op_in_kd D) ha.pe (pe_glob (v := .ref d) hg gm rfl hd) hm).impV ?_, fun st pl h => ?_⟩
  · rintro σ H Q ⟨st, ds, vs, s, h⟩
    cases e : qKIn false tb qa st with
    | none => rw [e] at h; exact h.elim
    | some y =>
      rw [e] at h
      obtain ⟨q, h1, h2⟩ := obn_of (show obn (qa st) (kinQ false tb) = some y from e)
      obtain ⟨z, rfl, rfl⟩ := kinQ_of h2
      refine ⟨st, ds, vs, s, ?_⟩
      rw [h1]
      intro v hv
      cases hv
      obtain ⟨r, hr, hs, _⟩ := hl z
      exact ⟨z, r, rfl, rfl, hr, by rw [hs]; exact h _ rfl⟩
  · obtain ⟨q, h1, h2⟩ := obn_of (show obn (qa st) (kinQ false tb) = some pl from h)
    obtain ⟨z, rfl, rfl⟩ := kinQ_of h2
    exact ⟨_, rfl⟩
/-! ### a statement that is never reached -/
def mNever : MS := fun _ => .stuck
@[simp] theorem mNever_eq (st : List D) : mNever st = .stuck := rfl
end
/-! ### the end over a head by facts -/
theorem fun_of {K : PySem.W.Frag} {x qual : Str} {st : Stmt} {f : Addr} {fd : FuncData} (F : FunD K x qual (defArgs st) (defBody st) (defScope st) [] [] f fd) : L2.Fun K x qual st f fd := by
  obtain ⟨oc, od, dV, kV, doc, pm, an, cdv, ct, osl, rfl, lk, hcd, hD, hK⟩ := F.ex
  rcases hD with ⟨_, rfl⟩ | ⟨e, _⟩
  · exact ⟨⟨oc, od, kV, doc, pm, an, cdv, ct, osl, rfl, lk, hcd⟩, F.kp⟩
  · exact absurd rfl e
theorem tab_eq {fa : List He.Fa} {fn : List He.DefD} {ts : List He.Tab} {w : World} {K : PySem.W.Frag} (c : He.SaysT fa fn ts w K) (i : Nat) {t : He.Tab} (h : ts[i]? = some t) : He.dicW K (t.1 K) = some (He.keysIn w.params t.2) := by
  have e : ts.map (fun t => He.dicW K (t.1 K)) = ts.map fun t => some (He.keysIn w.params t.2) := congrArg (fun z : He.AlT => z.2) c
  have e2 : (ts.map fun t => He.dicW K (t.1 K))[i]? = (ts.map fun t => some (He.keysIn w.params t.2))[i]? := by rw [e]
  rw [List.getElem?_map, List.getElem?_map, h] at e2
  exact Option.some.inj e2
theorem keyOf_some {e : DictEntry} {k : Str} {i : Int} (h : He.keyOf e = some (k, i)) : ∃ t, e.key = .str k t := by
  unfold He.keyOf at h
  split at h
  · rename_i x t q
    have := Option.some.inj h
    obtain ⟨rfl, _⟩ := Prod.mk.inj this
    exact ⟨t, q⟩
  · cases h
theorem ktb_of {K : PySem.W.Frag} {mg : Str → Option Value} {w : World} {x : Str} {d : Addr} {ks : List Str} {tb : List (Str × Int)} (gm : mg x = some (.ref d)) (hd : He.dicW K d = some (He.keysIn w.params ks)) (hk : ks = tb.map (·.1)) (hv : He.valsB K d (tb.map fun q => (q.1, He.Dv.int q.2)) = true) : KTb K mg w x tb := by
  obtain ⟨es, n, D⟩ := He.dicW_ok hd
  refine ⟨d, es, n, gm, D, fun z => ?_⟩
  have hlk := D.at_
  cases q : tb.lookup z with
  | some i =>
    have hm : (z, i) ∈ tb := by
      clear hv hk hd
      induction tb with
      | nil => cases q
      | cons y tb ih =>
        obtain ⟨a, b⟩ := y
        rw [List.lookup_cons] at q
        cases e : z == a with
        | true =>
          rw [e] at q
          simp only at q
          cases q
          have : z = a := by simpa using e
          subst this
          exact List.mem_cons_self
        | false =>
          rw [e] at q
          exact List.mem_cons_of_mem _ (ih q)
    obtain ⟨u, hu, ru⟩ := He.valsB_ok hv (q := (z, He.Dv.int i)) (List.mem_map.mpr ⟨(z, i), hm, rfl⟩)
    exact ⟨some u, hu, rfl, fun j hj => by cases hj; exact ⟨u, rfl, ru⟩⟩
  | none =>
    refine ⟨none, ?_, rfl, fun j hj => by cases hj⟩
    have hes : es.toList.map He.keyOf = He.keysIn w.params ks := by
      unfold He.dicW at hd
      rw [hlk] at hd
      simp only at hd
      split at hd
      · exact Option.some.inj hd
      · cases hd
    have hkey : ∀ e ∈ es.toList, ∃ k t, e.key = .str k t ∧ k ∈ ks := fun e he => by
      have h1 : He.keyOf e ∈ He.keysIn w.params ks := by rw [← hes]; exact List.mem_map_of_mem he
      unfold He.keysIn at h1
      obtain ⟨k, hk1, hk2⟩ := List.mem_map.mp h1
      obtain ⟨t, ht⟩ := keyOf_some hk2.symm
      exact ⟨k, t, ht, hk1⟩
    have hz : z ∉ ks := by
      rw [hk]
      clear hv hk hd hes hkey
      induction tb with
      | nil => simp
      | cons y tb ih =>
        obtain ⟨a, b⟩ := y
        rw [List.lookup_cons] at q
        cases e : z == a with
        | true => rw [e] at q; cases q
        | false =>
          rw [e] at q
          have := ih q
          simp only [List.map_cons, List.mem_cons, not_or]
          exact ⟨by simpa using e, this⟩
    unfold PySem.W.nsIn
    rw [hlk]
    simp only
    have e1 : es.toList.find? (·.key.isStr z) = none := by
      rw [List.find?_eq_none]
      intro e he
      obtain ⟨k, t, hk1, hk2⟩ := hkey e he
      rw [hk1]
      intro hh
      have : k = z := by simpa [Value.isStr] using hh
      subst this
      exact hz hk2
    have e2 : es.toList.any (·.refKey) = false := by
      rw [List.any_eq_false]
      intro e he
      obtain ⟨k, t, hk1, hk2⟩ := hkey e he
      simp [DictEntry.refKey, hk1]
    rw [e1, e2]
    rfl
end PV
namespace L2
open PySem PySem.Spec PyProof.Rows PV
theorem law_walkE {l : PySem.W.OpenLaw} {k : Nat} {q : Program} {loose : List Str} {XP : (Str → Option Value) → Heap → Prop} {YP : World → Heap → Prop} {d : DefRec} (hn : l.most = some 63) (hdf : d.params.defaults = []) (hr : Room k callerA)
    (F : ∀ (w : World) (mg : Str → Option Value) (fa : Addr) (h : Heap), YP w h → h.Ns mainGlobals mg → mg d.name = some (.ref fa) →
      ∃ (K : PySem.W.Frag) (fd : FuncData), K.In h ∧ (∀ (s : Shared) (u : Value), BindsTo s fd ⟨[u], []⟩ [("_law_script", u)]) ∧ ∀ base : Heap, K.In base → base.Ns mainGlobals mg → FnOk l.prog w K mg base (L2.CX l.prog w) k fa fd ["_law_script"] (spLaw K)) :
    PySem.W.WalkO q loose XP YP l.row.toRowW d [] (fun f vs => PySem.call f vs) := by
  refine Att.attach_call hn hdf fun w s₀ s₁ mg mb fa o pm cd doc a vs ns G Y ho hd hcd hmg hobj hints hlen hg => ?_
  obtain ⟨K, fd, KX, hb, hF⟩ := F w mg fa _ Y G.T.g hmg
  exact law_call KX G.T.g G.T.b G.T.builtins G.T.nolimit hg hobj hints (Nat.le_trans hlen (by decide)) hr hF hb (fun H hO hS => ⟨a, ns, rfl, hS, hlen, fun _ => rfl⟩) fun H e s' z => by
    obtain ⟨_, _, _, _, _, _, _, _, _, _, _, _, z⟩ := z
    exact z
end L2

namespace PV
open PySem L2
section
variable {X : Cx} {C : Cc} {st ds : List D} {σ : L2.St} {vs : List V} {H H' : Hp} {a b e o f k v tg elt : Expr} {pos p p2 apos pos' cpos : Pos} {ma mb mc : List D → R D} {sa sb sc : Bool} {ss : List Stmt} {m : MS} {qa qb qo qi qv : List D → Option PL}
/-! ### {k: v, ..}: written keys -/
def rP (C : Cc) (ds : List D) (vs : List V) (σ : L2.St) (ks : List Key) (Q : List (V × V) → Hp → Prop) : R (List D) → Prop
  | .ok xs st => ∀ us H', SX C st (ds ++ xs) σ (vs ++ us) H' → xs.length = us.length → Q ((ks.zip us).map fun q => (kV q.1, q.2)) H'
  | .ex e st => rX C ds vs σ e st
  | .stuck => False
def trP (C : Cc) (ks : List Key) (m : List D → R (List D)) (σ : L2.St) (H : Hp) (Q : List (V × V) → Hp → Prop) : Prop := ∃ st ds vs, SX C st ds σ vs H ∧ ds.length = vs.length ∧ rP C ds vs σ ks Q (m st)
def VP (X : Cx) (C : Cc) (pos : Pos) (keys : List (Option Expr)) (values : List Expr) (ks : List Key) (ml : List D → R (List D)) : Prop := ∃ trs, PPs X pos keys values trs ∧ ∀ σ H Q, trP C ks ml σ H Q → tPairs trs σ H Q
theorem vp_nil : VP X C pos [] [] [] mNil := ⟨[], pps_nil, by
  rintro σ H Q ⟨st, ds, vs, s, hl, h⟩
  exact h [] H (by simpa using s) rfl⟩
theorem vp_cons {keys : List (Option Expr)} {values : List Expr} {ks : List Key} {ms : List D → R (List D)} {d : D} {kk : Key} (hk : VQ X C k (qC d)) (hv : VE X C sa v ma) (hr : VP X C pos keys values ks ms) (he : keyD d = some kk := by rfl) : VP X C pos (some k :: keys) (v :: values) (kk :: ks) (mCons ma ms) := by
  obtain ⟨trs, h1, h2⟩ := hr
  refine ⟨_, pps_cons hk.pe hv h1, ?_⟩
  rintro σ H Q ⟨st, ds, vs, s, hl, h⟩
  refine ⟨st, ds, vs, s, fun u hu => ?_⟩
  rw [keyD_v he] at hu
  cases hu
  refine ⟨st, ds, vs, s, hl, ?_⟩
  unfold mCons at h
  cases q : ma st with
  | stuck => rw [q] at h; exact h.elim
  | ex x st' => rw [q] at h; exact h
  | ok x st1 =>
    rw [q] at h
    intro w H1 sm1 s1
    refine h2 σ H1 _ ⟨st1, ds ++ [x], vs ++ [w], s1, by simp [hl], ?_⟩
    simp only [R.bind_ok] at h
    cases q2 : ms st1 with
    | stuck => rw [q2] at h; exact h.elim
    | ex y st' => rw [q2] at h; exact rX.up h hl rfl
    | ok xs st2 =>
      rw [q2] at h
      intro us H2 s2 l2
      exact h (w :: us) H2 (by simpa [List.append_assoc] using s2) (by simp [l2])
theorem mergeK_nodup : ∀ {ks : List Key} {us : List V} {acc : List (Key × V)}, ks.Nodup → (∀ q ∈ acc, q.1 ∉ ks) → mergeK acc (ks.zip us) = acc ++ ks.zip us
  | [], us, acc, _, _ => by simp [mergeK]
  | kk :: ks, [], acc, _, _ => by simp [mergeK]
  | kk :: ks, u :: us, acc, hn, ha => by
    rw [List.nodup_cons] at hn
    have e1 : putK acc kk u = acc ++ [(kk, u)] := by
      unfold putK
      rw [if_neg]
      simp only [List.any_eq_true, decide_eq_true_eq, not_exists, not_and]
      rintro ⟨x, y⟩ hm e
      exact ha _ hm (by simp at e; subst e; exact List.mem_cons_self)
    have e2 : mergeK acc ((kk :: ks).zip (u :: us)) = mergeK (putK acc kk u) (ks.zip us) := rfl
    rw [e2, e1, mergeK_nodup hn.2]
    · simp
    · intro q hq
      rcases List.mem_append.mp hq with hq | hq
      · exact fun z => ha q hq (List.mem_cons_of_mem _ z)
      · simp at hq; subst hq; exact hn.1
def mDisp (ks : List Key) (ml : List D → R (List D)) : List D → R D := fun st => (ml st).bind fun xs st1 => chk (xs.length = ks.length) (.ok (.nd (.dct .own ks) xs) st1)
@[simp] theorem mDisp_eq (ks : List Key) (ml : List D → R (List D)) (st : List D) : mDisp ks ml st = (ml st).bind fun xs st1 => chk (xs.length = ks.length) (.ok (.nd (.dct .own ks) xs) st1) := rfl
theorem ve_disp {keys : List (Option Expr)} {values : List Expr} {ks : List Key} {ml : List D → R (List D)} (hp : VP X C pos keys values ks ml) (hall : keys.all (·.isSome) = true := by rfl) (hlen : keys.length = values.length := by rfl) (h0 : keys ≠ [] := by exact List.cons_ne_nil _ _) (h15 : keys.length ≤ 15 := by decide) (hk15 : ks.length ≤ 15 := by decide) (hn : ks.Nodup := by decide) : VE X C false (.Dict keys values pos) (mDisp ks ml) := by
  obtain ⟨trs, h1, h2⟩ := hp
  refine (pe_disp h1 hall hlen h0 h15).impV ?_
  rintro σ H Q ⟨st, ds, vs, s, hl, h⟩
  intro p hp
  have s1 : SX C st (ds ++ [.nd (.dct .own []) []]) σ (vs ++ [.ref p]) (upd H p (.dK [])) := SX.alloc (xs := []) (ws := []) (by simpa using s) hl hp (show HoK _ _ _ [] (.dct .own []) from ⟨rfl, upd_same⟩) (.inr rfl)
  have h : rE C false ds vs σ H Q ((ml st).bind fun xs st1 => chk (xs.length = ks.length) (.ok (.nd (.dct .own ks) xs) st1)) := h
  refine h2 σ _ _ ⟨st, _, _, s1, by simp [hl], ?_⟩
  cases q : ml st with
  | stuck => rw [q] at h; exact h.elim
  | ex x st' => rw [q] at h; exact (show rX C ds vs σ x st' from h).up hl rfl
  | ok xs st2 =>
    rw [q] at h
    intro us H2 s2 l2
    simp only [R.bind_ok] at h
    by_cases hx : xs.length = ks.length
    · rw [chk_of hx] at h
      have s3 : SX C st2 (ds ++ (.nd (.dct .own []) [] :: xs)) σ (vs ++ (.ref p :: us)) H2 := by simpa [List.append_assoc] using s2
      have hp2 : H2 p = some (.dK []) := by
        have s4 := s3
        obtain ⟨Z, os, t⟩ := s4
        obtain ⟨o1, o2, r1, r2, _⟩ := t.cut
        obtain ⟨o3, o4, r3, r4, _⟩ := RpL.cut hl r2
        cases r4 with
        | cons r5 r6 _ =>
          cases r5 with
          | nd hk rl n => 
            obtain ⟨e1, e2⟩ := hk
            have hz : ∀ ws : List V, ([] : List Key).length = ws.length → ws = [] := fun ws z => List.length_eq_zero_iff.mp z.symm
            rw [hz _ e1] at e2
            exact e2
      refine ⟨hp2, ks.zip us, rfl, by rw [List.length_zip]; omega, ?_⟩
      rw [mergeK_nodup hn (fun q hq => by cases hq), List.nil_append]
      exact h _ _ (fun z => nomatch z) (s3.mutT (k' := .dct .own ks) (xs' := xs) (ws' := us) (ws := []) hl rfl ⟨rfl, hp2⟩ (show HoK _ _ _ us (.dct .own ks) from ⟨by rw [← l2, hx], upd_same⟩) rfl fun G ox on r1 r2 => ⟨on, r2, fun b => Nat.le_add_left _ _⟩)
    · unfold chk at h; rw [if_neg hx] at h; exact h.elim
/-! ### x[lo:hi] of a value, quiet bounds -/
def slVK (x : D) (lo hi : Option Int) (st : List D) : R D := match x with
  | .nd (.lst _) xs => .ok (.nd (.lst .own) (cutL xs lo hi)) st
  | _ => .stuck
@[simp] theorem slVK_lst (f : Fl) (xs : List D) (lo hi : Option Int) (st : List D) : slVK (.nd (.lst f) xs) lo hi st = .ok (.nd (.lst .own) (cutL xs lo hi)) st := rfl
def mSlV (ma : List D → R D) (ql qh : List D → Option (Option Int)) : List D → R D := fun st => (ma st).bind fun x st1 => R.of (ql st1) fun lo => R.of (qh st1) fun hi => slVK x lo hi st1
@[simp] theorem mSlV_eq (ma : List D → R D) (ql qh : List D → Option (Option Int)) (st : List D) : mSlV ma ql qh st = (ma st).bind fun x st1 => R.of (ql st1) fun lo => R.of (qh st1) fun hi => slVK x lo hi st1 := rfl
/-! ### sum(xs), max(xs) of a list of numbers -/
def intsK (x : D) (k : List Int → R D) : R D := match x with
  | .nd (.lst _) xs => R.of (intsD xs) k
  | _ => .stuck
@[simp] theorem intsK_lst (f : Fl) (xs : List D) (k : List Int → R D) : intsK (.nd (.lst f) xs) k = R.of (intsD xs) k := rfl
def mSum (ma : List D → R D) : List D → R D := fun st => (ma st).bind fun x st1 => intsK x fun ns => .ok (.int ns.sum) st1
@[simp] theorem mSum_eq (ma : List D → R D) (st : List D) : mSum ma st = (ma st).bind fun x st1 => intsK x fun ns => .ok (.int ns.sum) st1 := rfl
def maxI : List Int → Int
  | [] => 0
  | x :: xs => xs.foldl max x
def mMaxL (ma : List D → R D) : List D → R D := fun st => (ma st).bind fun x st1 => intsK x fun ns => chk (0 < ns.length) (.ok (.int (maxI ns)) st1)
@[simp] theorem mMaxL_eq (ma : List D → R D) (st : List D) : mMaxL ma st = (ma st).bind fun x st1 => intsK x fun ns => chk (0 < ns.length) (.ok (.int (maxI ns)) st1) := rfl
end
end PV

namespace PV
open PySem L2
section
variable {X : Cx} {C : Cc} {st ds : List D} {σ : L2.St} {vs : List V} {H H' : Hp} {a b e o f k v tg elt : Expr} {pos p p2 apos pos' cpos : Pos} {ma mb mc : List D → R D} {sa sb sc : Bool} {ss : List Stmt} {m : MS} {qa qb qo qi qv : List D → Option PL}
/-! ### s.count(t), s.find(t), s.index(t) -/
def s2K (f : Str → Str → Option Int) (st : List D) (x y : D) : R D := match x, y with
  | .str z, .str w => R.of (f z w) fun i => .ok (.int i) st
  | _, _ => .stuck
@[simp] theorem s2K_str (f : Str → Str → Option Int) (st : List D) (z w : Str) : s2K f st (.str z) (.str w) = R.of (f z w) fun i => .ok (.int i) st := rfl
def mS2 (f : Str → Str → Option Int) (ma mb : List D → R D) : List D → R D := fun st => (ma st).bind fun x st1 => strK x fun _ => (mb st1).bind fun y st2 => s2K f st2 x y
@[simp] theorem mS2_eq (f : Str → Str → Option Int) (ma mb : List D → R D) (st : List D) : mS2 f ma mb st = (ma st).bind fun x st1 => strK x fun _ => (mb st1).bind fun y st2 => s2K f st2 x y := rfl
def fCount (z w : Str) : Option Int := some (Txt.count z w)
def fFind (z w : Str) : Option Int := some (Txt.find z w)
def fIdx (z w : Str) : Option Int := (Txt.index0 z w).map fun n => (n : Int)
theorem s2_red {f : Str → Str → Option Int} {r : V → List V → Hp → VK → Prop} (hr : ∀ z w i (H : Hp) (Q : VK), f z w = some i → Q (.int i) H → r (.str z) [.str w] H Q) : ∀ σ H Q, trE C false (mS2 f ma mb) σ H Q → tM1 r (trE C sa ma) (trE C sb mb) σ H Q := by
  rintro σ H Q ⟨st, ds, vs, s, hl, h⟩
  refine seq1 (sm := false) s hl h fun x st1 v H1 sm s1 h1 => ?_
  cases x with
  | str z =>
    have e1 := s1.scTop (v := .str z) rfl
    subst e1
    refine ⟨⟨z, rfl⟩, ?_⟩
    refine seq1 (sm := false) s1.pop hl (rE_base h1) fun y st2 u H2 sm2 s2 h2 => ?_
    cases y with
    | str w =>
      have e2 := s2.scTop (v := .str w) rfl
      subst e2
      have h2 : rE C false ds vs σ H1 Q (R.of (f z w) fun i => .ok (.int i) st2) := h2
      cases q : f z w with
      | none => rw [q] at h2; exact h2.elim
      | some i =>
        rw [q] at h2
        exact hr z w i H2 Q q (h2 _ _ (fun z => nomatch z) (s2.pop.pushc rfl))
    | _ => exact h2.elim
  | _ => exact h1.elim
theorem ve_countS (ha : VE X C sa o ma) (hb : VE X C sb e mb) (hs : starEach [e] X.env = [(false, eval e X.env)] := by rfl) (hbase : attributeBase o "count" X.env (eval o X.env) = eval o X.env := by rfl) (hline : (apos.endLine == pos.line) = true := by rfl) :
    VE X C false (.Call (.Attribute o "count" apos) [e] [] pos) (mS2 fCount ma mb) :=
  (pe_m1 PySem.F.slot_str_count PySem.F.type_str_count mt_count ha hb hs hbase hline).impV (s2_red fun z w i H Q h q => ⟨z, w, rfl, rfl, by cases h; exact q⟩)
theorem ve_findS (ha : VE X C sa o ma) (hb : VE X C sb e mb) (hs : starEach [e] X.env = [(false, eval e X.env)] := by rfl) (hbase : attributeBase o "find" X.env (eval o X.env) = eval o X.env := by rfl) (hline : (apos.endLine == pos.line) = true := by rfl) :
    VE X C false (.Call (.Attribute o "find" apos) [e] [] pos) (mS2 fFind ma mb) :=
  (pe_m1 PySem.F.slot_str_find PySem.F.type_str_find mt_find ha hb hs hbase hline).impV (s2_red fun z w i H Q h q => ⟨z, w, rfl, rfl, by cases h; exact q⟩)
end
end PV

namespace PV
open PySem L2
section
variable {X : Cx} {C : Cc} {st ds : List D} {σ : L2.St} {vs : List V} {H H' : Hp} {a b e o f k v tg elt : Expr} {pos p p2 apos pos' cpos : Pos} {ma mb mc : List D → R D} {sa sb sc : Bool} {ss : List Stmt} {m : MS} {qa qb qo qi qv : List D → Option PL}
/-! ### x in xs, data of any depth -/
def inDD (x y : D) : Option Bool := match toPy x, toPy y with
  | some p, some (.list l) => if (SeqAt.shaped p && SeqAt.shaped (.list l)) = true then some (l.any fun z => PyData.eqv z p) else none
  | _, _ => none
def qInD (neg : Bool) (qa qb : List D → Option PL) : List D → Option PL := fun st => q2 (qa st) (qb st) fun p q => obn (plD st p) fun x => obn (plD st q) fun y => obn (inDD x y) fun b => some (.sc (.bl (if neg = true then !b else b)))
@[simp] theorem qInD_eq (neg : Bool) (qa qb : List D → Option PL) (st : List D) : qInD neg qa qb st = q2 (qa st) (qb st) fun p q => obn (plD st p) fun x => obn (plD st q) fun y => obn (inDD x y) fun b => some (.sc (.bl (if neg = true then !b else b))) := rfl
def mInD (neg : Bool) (ma mb : List D → R D) : List D → R D := fun st => (ma st).bind fun x st1 => (mb st1).bind fun y st2 => R.of (inDD x y) fun b => .ok (.bl (if neg = true then !b else b)) st2
@[simp] theorem mInD_eq (neg : Bool) (ma mb : List D → R D) (st : List D) : mInD neg ma mb st = (ma st).bind fun x st1 => (mb st1).bind fun y st2 => R.of (inDD x y) fun b => .ok (.bl (if neg = true then !b else b)) st2 := rfl
end
end PV

namespace PV
open PySem L2
section
variable {X : Cx} {C : Cc} {st ds : List D} {σ : L2.St} {vs : List V} {H H' : Hp} {a b e o f k v tg elt : Expr} {pos p p2 apos pos' cpos : Pos} {ma mb mc : List D → R D} {sa sb sc : Bool} {ss : List Stmt} {m : MS} {qa qb qo qi qv : List D → Option PL}
/-! ### c * n, one sign -/
def repSK (st : List D) (x y : D) : R D := match x, y with
  | .str ⟨⟨[c]⟩⟩, .int n => chk (2 ≤ n ∧ n ≤ 1000) (.ok (.str ⟨(List.replicate n.toNat c).toArray⟩) st)
  | _, _ => .stuck
@[simp] theorem repSK_sign (st : List D) (c : Nat) (n : Int) : repSK st (.str ⟨#[c]⟩) (.int n) = chk (2 ≤ n ∧ n ≤ 1000) (.ok (.str ⟨(List.replicate n.toNat c).toArray⟩) st) := rfl
def mRepS (ma mb : List D → R D) : List D → R D := fun st => (ma st).bind fun x st1 => (mb st1).bind fun y st2 => repSK st2 x y
@[simp] theorem mRepS_eq (ma mb : List D → R D) (st : List D) : mRepS ma mb st = (ma st).bind fun x st1 => (mb st1).bind fun y st2 => repSK st2 x y := rfl
end
end PV

namespace PV
open PySem L2
section
variable {X : Cx} {C : Cc} {st ds : List D} {σ : L2.St} {vs : List V} {H H' : Hp} {a b e elt tg iter : Expr} {pos pos' spos p p2 py : Pos} {ma mb : List D → R D} {sa sb se : Bool} {ws : List Nat} {g : MG} {mt : List D → R Bool} {me : List D → R D} {ifs : List Expr} {scope : Scope} {own : List (Str × Nat)}
/-! ### a comprehension over a tuple -/
def lcKP (ws : List Nat) (g : MG) (mt : List D → R Bool) (me : List D → R D) (st : List D) (d : D) : R D := match d with
  | .nd .tup xs => lcE (lcL (lcT ws g mt me) xs [] st)
  | _ => .stuck
@[simp] theorem lcKP_tup (ws : List Nat) (g : MG) (mt : List D → R Bool) (me : List D → R D) (st xs : List D) : lcKP ws g mt me st (.nd .tup xs) = lcE (lcL (lcT ws g mt me) xs [] st) := rfl
def mLcP (ma : List D → R D) (ws : List Nat) (g : MG) (mt : List D → R Bool) (me : List D → R D) : List D → R D := fun st => (ma st).bind fun d st1 => lcKP ws g mt me st1 d.frz
@[simp] theorem mLcP_eq (ma : List D → R D) (ws : List Nat) (g : MG) (mt : List D → R Bool) (me : List D → R D) (st : List D) : mLcP ma ws g mt me st = (ma st).bind fun d st1 => lcKP ws g mt me st1 d.frz := rfl
end
end PV

namespace PV
open PySem L2
section
variable {X : Cx} {C : Cc} {st ds : List D} {σ : L2.St} {vs : List V} {H H' : Hp} {a b e elt tg iter : Expr} {pos pos' spos p p2 py : Pos} {ma mb : List D → R D} {sa sb se : Bool} {me : List D → R D} {scope : Scope}
/-! ### a call without arguments -/
/-! ### a comprehension over a text that changes nothing old -/
/-- what the block of a comprehension over a text with one name is asked -/
structure BlkS (X : Cx) (C : Cc) (scope : Scope) (y : Str) (i : Nat) (py : Pos) (elt : Expr) (me : List D → R D) : Prop where
  ok : blkC X.N X.env.scope scope [(y, i)] = true
  hi : X.N[i]? = some y
  hx : ∀ (s : Shared) (H : Hp) (c : Addr) (cl : List (Str × Addr)) (fp : List Addr), Loc (X.blk s H scope (compEnvC scope cl c X.env) fp).env.scope y ∧ ((X.blk s H scope (compEnvC scope cl c X.env) fp).fn y = true ∨ (X.blk s H scope (compEnvC scope cl c X.env) fp).env.scope.names.lookup y = some .local)
  he : ∀ (s : Shared) (H : Hp) (c : Addr) (cl : List (Str × Addr)) (fp : List Addr), COk (X.blk s H scope (compEnvC scope cl c X.env) fp) C.noX → VE (X.blk s H scope (compEnvC scope cl c X.env) fp) C.noX true elt me
end
end PV

namespace PV
open PySem L2
section
variable {X : Cx} {C : Cc} {st ds : List D} {σ : L2.St} {vs : List V} {H H' : Hp} {a b : Expr} {pos p2 : Pos}
/-! ### a text's slice whose end is worked out -/
def slTK (x y : D) (lo : Option Int) (st : List D) : R D := match x, y with
  | .str z, .int u => chk (z.length ≤ sizeLine) (.ok (.str (cutS z lo (some u))) st)
  | _, _ => .stuck
@[simp] theorem slTK_str (z : Str) (u : Int) (lo : Option Int) (st : List D) : slTK (.str z) (.int u) lo st = chk (z.length ≤ 16777216) (.ok (.str (cutS z lo (some u))) st) := rfl
def mSlT (ma : List D → R D) (ql : List D → Option (Option Int)) (mb : List D → R D) : List D → R D := fun st => (ma st).bind fun x st1 => R.of (ql st1) fun lo => (mb st1).bind fun y st2 => slTK x y lo st2
@[simp] theorem mSlT_eq (ma : List D → R D) (ql : List D → Option (Option Int)) (mb : List D → R D) (st : List D) : mSlT ma ql mb st = (ma st).bind fun x st1 => R.of (ql st1) fun lo => (mb st1).bind fun y st2 => slTK x y lo st2 := rfl
end
end PV

namespace PV
open PySem L2
section
variable {X : Cx} {C : Cc} {st ds : List D} {σ : L2.St} {vs : List V} {H H' : Hp} {a b e o f k v tg elt : Expr} {pos p p2 apos pos' cpos : Pos} {ma mb mc : List D → R D} {sa sb sc : Bool} {ss : List Stmt} {m : MS} {qa qb qo qi qv : List D → Option PL}
/-! ### a text n times -/
def repTK (st : List D) (x y : D) : R D := match x, y with
  | .str z, .int n => chk (1 ≤ z.length ∧ z.length ≤ 1000 ∧ 2 ≤ n ∧ n ≤ 1000) (.ok (.str ⟨((List.replicate n.toNat z.cps.toList).flatten).toArray⟩) st)
  | _, _ => .stuck
@[simp] theorem repTK_str (st : List D) (z : Str) (n : Int) : repTK st (.str z) (.int n) = chk (1 ≤ z.length ∧ z.length ≤ 1000 ∧ 2 ≤ n ∧ n ≤ 1000) (.ok (.str ⟨((List.replicate n.toNat z.cps.toList).flatten).toArray⟩) st) := rfl
def mRepT (ma mb : List D → R D) : List D → R D := fun st => (ma st).bind fun x st1 => (mb st1).bind fun y st2 => repTK st2 x y
@[simp] theorem mRepT_eq (ma mb : List D → R D) (st : List D) : mRepT ma mb st = (ma st).bind fun x st1 => (mb st1).bind fun y st2 => repTK st2 x y := rfl
end
end PV

namespace PV
open PySem PySem.Spec PyProof.Rows L2
section
variable {X : Cx} {e : Expr} {td : TE} {p pos apos cpos : Pos}
/-! ### sorted(d.keys()), fewer than 64 keys, all ints -/
def tSK (td : TE) : TE := fun σ H Q => td σ H fun x H1 => ∃ (d : Addr) (kvs : List (Key × V)) (ks : List Int), x = .ref d ∧ Rd H1 d (.dK kvs) ∧ kvs.map (·.1) = ks.map Sum.inl ∧ ks.length < 64 ∧ ∀ (ys : List Int) (q : Addr), ys.Perm ks → ys.Pairwise (· ≤ ·) → H1 q = none → Q (.ref q) (upd H1 q (.lst (ys.map V.int)))
/-! #### as a value -/
def keysI : List Key → Option (List Int)
  | [] => some []
  | .inl i :: ks => match keysI ks with
    | some l => some (i :: l)
    | none => none
  | _ => none
@[simp] theorem keysI_map : ∀ ns : List Int, keysI (ns.map Sum.inl) = some ns
  | [] => rfl
  | i :: ns => by simp [keysI, keysI_map ns]
def skK (st : List D) : D → R D
  | .nd (.dct _ ks) _ => R.of (keysI ks) fun ns => chk (ns.length < 64) (.ok (.nd (.lst .own) ((sortI ns).map D.int)) st)
  | _ => .stuck
@[simp] theorem skK_dct (st : List D) (f : Fl) (ks : List Key) (xs : List D) : skK st (.nd (.dct f ks) xs) = R.of (keysI ks) fun ns => chk (ns.length < 64) (.ok (.nd (.lst .own) ((sortI ns).map D.int)) st) := rfl
def skQ (st : List D) : PL → R D
  | .pth r p => R.of (getS st r p) (skK st)
  | _ => .stuck
@[simp] theorem skQ_pth (st : List D) (r : Nat) (p : Pth) : skQ st (.pth r p) = R.of (getS st r p) (skK st) := rfl
def mSK (qa : List D → Option PL) : List D → R D := fun st => R.of (qa st) (skQ st)
@[simp] theorem mSK_eq (qa : List D → Option PL) (st : List D) : mSK qa st = R.of (qa st) (skQ st) := rfl
end
section
variable {X : Cx} {C : Cc} {st ds : List D} {σ : L2.St} {vs : List V} {H : Hp} {e : Expr} {p pos apos cpos : Pos} {qa : List D → Option PL}
end
end PV

namespace PV
open PySem PySem.Spec PyProof.Rows L2
section
variable {X : Cx} {e : Expr} {td : TE} {p pos apos cpos : Pos}
/-! ### sum(d.values()), all ints -/
def tSV (td : TE) : TE := fun σ H Q => td σ H fun x H1 => ∃ (d : Addr) (kvs : List (Key × V)) (ns : List Int), x = .ref d ∧ Rd H1 d (.dK kvs) ∧ kvs.map (·.2) = ns.map V.int ∧ Q (.int ns.sum) H1
/-! #### as a value -/
def svK (st : List D) : D → R D
  | .nd (.dct _ _) xs => R.of (intsD xs) fun ns => .ok (.int ns.sum) st
  | _ => .stuck
@[simp] theorem svK_dct (st : List D) (f : Fl) (ks : List Key) (xs : List D) : svK st (.nd (.dct f ks) xs) = R.of (intsD xs) fun ns => .ok (.int ns.sum) st := rfl
def svQ (st : List D) : PL → R D
  | .pth r p => R.of (getS st r p) (svK st)
  | _ => .stuck
@[simp] theorem svQ_pth (st : List D) (r : Nat) (p : Pth) : svQ st (.pth r p) = R.of (getS st r p) (svK st) := rfl
def mSV (qa : List D → Option PL) : List D → R D := fun st => R.of (qa st) (svQ st)
@[simp] theorem mSV_eq (qa : List D → Option PL) (st : List D) : mSV qa st = R.of (qa st) (svQ st) := rfl
end
section
variable {X : Cx} {C : Cc} {st ds : List D} {σ : L2.St} {vs : List V} {H : Hp} {e : Expr} {p pos apos cpos : Pos} {qa : List D → Option PL}
end
end PV

namespace PV
open PySem L2
/-! ### one slot alone, and another one lent -/
section
variable {C : Cc} {Z Z' : Addr → Prop} {st ds : List D} {σ : L2.St} {vs : List V} {H H' : Hp} {os os' : Ct}
end

/-! ### xs[e]: xs at a place within a slot; e asks one other slot, and reads the one of xs -/
def ixpK (st : List D) (y x : D) : R D := match x, y with
  | .nd (.lst _) xs, .int i => R.of (atI xs i) fun d => chk (D.noOwn d = true) (.ok d st)
  | _, _ => .stuck
@[simp] theorem ixpK_lst (st : List D) (f : Fl) (xs : List D) (i : Int) : ixpK st (.int i) (.nd (.lst f) xs) = R.of (atI xs i) fun d => chk (D.noOwn d = true) (.ok d st) := rfl
def mIxP (q : Nat) (qo : List D → Option PL) (mb : List D → R D) : List D → R D := fun st => R.of (qo st) fun pl => pthK pl fun r p => chk (r ≠ q) (R.of st[q]? fun dq => R.of st[r]? fun dr => chk (isUn (some dq) = false) (
  okN (mb ((onlyS st.length q dq).set r dr.len)) fun y st1 => R.of st1[q]? fun d1 => chk (D.noBorL [d1, y] = true) (R.of (getS st r p) (ixpK (st.set q d1) y))))
@[simp] theorem mIxP_eq (q : Nat) (qo : List D → Option PL) (mb : List D → R D) (st : List D) : mIxP q qo mb st = R.of (qo st) fun pl => pthK pl fun r p => chk (r ≠ q) (R.of st[q]? fun dq => R.of st[r]? fun dr => chk (isUn (some dq) = false) (
  okN (mb ((onlyS st.length q dq).set r dr.len)) fun y st1 => R.of st1[q]? fun d1 => chk (D.noBorL [d1, y] = true) (R.of (getS st r p) (ixpK (st.set q d1) y)))) := rfl
section
variable {X : Cx} {C : Cc} {st ds : List D} {σ : L2.St} {vs : List V} {H H' : Hp} {a b e o i tg value : Expr} {es : List Expr} {pos p apos pos' p1 p2 p3 : Pos} {qa qb qo qi : List D → Option PL} {ma mb : List D → R D} {sa sb : Bool} {ss : List Stmt} {m : MS} {Dn : Ends}
end
end PV

namespace PV
open PySem L2
/-! ### raise X(e), X's own __init__ keeping list(e) as its one field -/
def spI (K : PySem.W.Frag) (fld : Str) : Sp := fun vs H Q E => vs.length = 2 ∧ ∃ (a l Cx : Addr) (ys : List V), vs = [.ref a, .ref l] ∧ OexC K Cx ∧ PySem.W.findIn K (.ref Cx) fld = some none ∧ H a = some (exo a Cx none) ∧ (SqL K H l ys ∨ SqT K H l ys) ∧
  ∀ l2 dx : Addr, H l2 = none → upd H l2 (.lst ys) dx = none → dx ≠ a → Q .non (upd (upd (upd H l2 (.lst ys)) dx (exd dx [(fld, .ref l2)])) a (exo a Cx (some dx)))
def rLs (K : PySem.W.Frag) : List V → Hp → VK → Prop := fun xs H Q => ∃ p ys, xs = [.ref p] ∧ (SqL K H p ys ∨ SqT K H p ys) ∧ ∀ l, H l = none → Q (.ref l) (upd H l (.lst ys))
structure OexF (K : PySem.W.Frag) (mg : Str → Option Value) (CA : Str → Option Addr) (x fld : Str) (fI : Addr) : Prop where
  at_ : ∃ a, CA x = some a ∧ mg x = some (.ref a) ∧ OexC K a ∧ PySem.W.findIn K (.ref a) "__init__" = some (some (.ref fI)) ∧ PySem.W.typeIn K (.ref fI) = some (.type "function") ∧ PySem.W.findIn K (.ref a) fld = some none
def mRaiseI (x fld : Str) (ma : List D → R D) : MS := fun st => (ma st).s fun d st1 => match d with
  | .nd (.lst _) xs => match intsD xs with
    | some ns => .ex ⟨x, fld, some (.nd (.lst .own) (ns.map D.int))⟩ st1
    | none => .stuck
  | _ => .stuck
def riK (x fld : Str) (st : List D) : D → RS
  | .nd (.lst _) xs => match intsD xs with
    | some ns => .ex ⟨x, fld, some (.nd (.lst .own) (ns.map D.int))⟩ st
    | none => .stuck
  | _ => .stuck
@[simp] theorem riK_ints (x fld : Str) (st : List D) (f : Fl) (ns : List Int) : riK x fld st (.nd (.lst f) (ns.map D.int)) = .ex ⟨x, fld, some (.nd (.lst .own) (ns.map D.int))⟩ st := by simp [riK]
@[simp] theorem mRaiseI_eq (x fld : Str) (ma : List D → R D) (st : List D) : mRaiseI x fld ma st = (ma st).s fun d st1 => riK x fld st1 d := rfl
section
variable {X : Cx} {C : Cc} {st ds : List D} {σ : L2.St} {vs : List V} {H H' : Hp} {a b e : Expr} {pos pos' p p2 : Pos} {ma : List D → R D} {sa : Bool} {Dn : Ends}
end
/-! ### what the head tells of such a class -/
end PV

/-! several except clauses, where some give the exception a name -/
namespace L2
open PySem PySem.Spec PyProof.Rows
/-- a clause: the class, the slot of its name (where it has one), its suite -/
abbrev ClA := Value × Option Nat × (Addr → Value → Option Addr → TS)
/-- the ends of a suite whose name goes behind it -/
def Ends.drop (D : Ends) : Option Nat → Ends
  | none => D
  | some i => { nx := fun σ H => D.nx (σ.set i none) H, rt := D.rt, bk := fun σ H => D.bk (σ.set i none) H, ct := fun σ H => D.ct (σ.set i none) H }
def St.name (σ : L2.St) (a : Addr) : Option Nat → L2.St
  | none => σ
  | some i => σ.set i (some (.ref a))
def wManyA (K : PySem.W.Frag) (Wout : WX) (D : Ends) (l : List ClA) : WX := l.foldr (fun q w cls d σ H => ∃ b, PySem.W.exmOne K cls q.1 = some b ∧ if b then ∀ a, H a = none → q.2.2 a cls d (D.drop q.2.1) (St.name σ a q.2.1) H else w cls d σ H) Wout
/-- the name of a clause lives in a slot -/
def NameIn (X : Cx) : Option Str → Option Nat → Prop
  | none, none => True
  | some n, some i => X.N.Nodup ∧ X.N[i]? = some n ∧ X.env.kindOf n = some .local
  | _, _ => False
inductive HdsA (X : Cx) : List ExceptHandler → List ClA → Prop
  | nil : HdsA X [] []
  | cons {x : Str} {nm : Option Str} {c : Value} {oi : Option Nat} {ts : Addr → Value → Option Addr → TS} {b₀ : Stmt} {suite : List Stmt} {np pos' : Pos} {hds : List ExceptHandler} {l : List ClA} (hn : NameIn X nm oi) (hc : Names X x c)
      (hsu : ∀ (a : Addr) (oe : Obj) (cls : Value) (d : Option Addr) (pn : List (Addr × Obj)), Zc cls d oe → (∃ vs, oe.data = .fields vs) → PSs (X.suite a ((a, oe) :: pn)) (b₀ :: suite) (ts a cls d)) (r : HdsA X hds l) :
      HdsA X (.ExceptHandler (some (.Name x np)) nm (b₀ :: suite) pos' :: hds) ((c, oi, ts) :: l)
/-- an exception that has come down to this frame -/
structure Cau (X : Cx) (pins : List (Addr × Obj)) (a : Addr) (cls : Value) (d : Option Addr) (σ : L2.St) (H : Hp) (B : Heap) (sI s : Shared) : Prop where
  I : Inv X pins σ H sI
  nb : ∀ b o, sI.heap.get? b = some o → b ∉ frs X.stack → B.get? b = some o
  up : sI.heap.UpToSlots s.heap
  fl : HandSPX.FlyingZ B (X.env :: X.outer) a (Zc cls d) s.heap
  na : H a = none
  os : s.os = sI.os
  ag : AllBare s.gens
section
variable {X : Cx} {pins : List (Addr × Obj)} {a : Addr} {cls : Value} {d : Option Addr} {σ : L2.St} {H : Hp} {B : Heap} {sI s : Shared} {D : Ends} {hds : List ExceptHandler} {Wout : WX}
theorem Cau.inv (c : Cau X pins a cls d σ H B sI s) : Inv X pins σ H s := c.I.landed c.nb c.fl.1 c.up c.os c.ag
theorem Cau.obj (c : Cau X pins a cls d σ H B sI s) (hf : X.env.frame = some X.env.locals) : ∃ oe vs, s.heap.get? a = some oe ∧ Zc cls d oe ∧ oe.data = .fields vs ∧ a ≠ X.env.locals ∧ a ∉ X.fs := by
  obtain ⟨oe, vs, he, hz, hd⟩ := c.fl.there
  have out : a ∉ frs (X.env :: X.outer) := fun m => by
    obtain ⟨_, o, e, k⟩ := c.fl.2.2.1.mem m
    rw [he] at e
    cases e
    exact k _ hd
  have inn : ∀ e ∈ X.env :: X.outer, e.frame = some a → False := fun e me q => out (List.mem_filterMap.mpr ⟨e, me, q⟩)
  refine ⟨oe, vs, he, hz, hd, fun z => inn X.env (by simp) (by rw [hf, z]), fun m => ?_⟩
  obtain ⟨e, me, q⟩ := List.mem_filterMap.mp m
  exact inn e (by simp [me]) q
theorem Cau.again (c : Cau X pins a cls d σ H B sI s) {M : Model} {A : Around} {E : Value → Shared → Prop} {Q : Unit → Shared → Prop} (h : ∀ s', Cau X pins a cls d σ H B sI s' → Q () s') : wpAny M A (setFlight (.ref a) none) Q E s :=
  HandSPX.lands_againZ c.fl fun _ fl u => h _ ⟨c.I, c.nb, c.up.trans u, fl, c.na, c.os, c.ag⟩
/-- a clause is asked -/
theorem Cau.ask (c : Cau X pins a cls d σ H B sI s) (hf : X.env.frame = some X.env.locals) {x : Str} {cv : Value} {nm : Option Str} {b₀ : Stmt} {suite : List Stmt} {np pos' : Pos} {b : Bool} {Q : Flow → Shared → Prop} (hc : Names X x cv) (hb : PySem.W.exmOne X.K cls cv = some b)
    (h : if b then codeAny (model X.prog X.w) (X.A.mark (some (.ref a))) (.handlers (.ref a) [.ExceptHandler none nm (b₀ :: suite) pos'] X.env) (fun r s₂ => match r with
          | .ok f => (match nm with
            | none => Q f s₂
            | some n => wpAny (model X.prog X.w) X.A (do bindName X.env n .none; unbindBehindTheSuite X.env n pos') (fun _ s₃ => Q f s₃) X.xe s₂)
          | .error y => cameBackBy (model X.prog X.w) X.A X.env X.xe y s₂) s
      else wpAny (model X.prog X.w) X.A (handleBy (.ref a) X.env hds) Q X.xe s) :
    wpAny (model X.prog X.w) X.A (handleBy (.ref a) X.env (.ExceptHandler (some (.Name x np)) nm (b₀ :: suite) pos' :: hds)) Q X.xe s := by
  obtain ⟨oe, vs, he, hz, hd, nl, nf⟩ := c.obj hf
  have S := c.inv.suite he hd c.na nl nf
  have LT : PySem.W.Looks (model X.prog X.w) s.heap (typeOf (.ref a)) cls := fun _ _ _ _ k q => wpAny_typeOf_ref (k _ _ he) (by rw [hz.1]; exact q)
  have out : ∀ {R : Result → Shared → Prop}, R (.ok (if b then .brk else .next)) s → codeAny (model X.prog X.w) (X.A.mark (some (.ref a))) (.handlers (.ref a) [.ExceptHandler (some (.Name x np)) none [] pos'] X.env) R s := fun {R} q => by
    refine codeAny_handlers_test ?_
    have fin := (PySem.W.exm_one (M := model X.prog X.w) c.inv.kIn LT hb).here (A := X.A.mark (some (.ref a))) (Q := fun b s₂ => R (.ok (if b then .brk else .next)) s₂) (E := notedBy (model X.prog X.w) (X.A.mark (some (.ref a))) X.env fun y s₂ => R (.error y) s₂) (s := s) q
    rcases hc with ⟨hg, hdb, hm | ⟨hm, hv, hnn⟩⟩
    · exact ld_glob (X := X.suite a ((a, oe) :: (X.pn ++ pins))) S hg hm fin hdb
    · exact ld_blt (X := X.suite a ((a, oe) :: (X.pn ++ pins))) S hg hm hv fin hnn hdb
  refine wpAny_handleBy_cons (out ?_) (by intro q; cases q)
  cases b with
  | true => exact h
  | false => exact h
/-- behind a suite -/
theorem sp_back {oe : Obj} {f : Flow} {s6 : Shared} (ok : X.Ok) (h : SP (X.suite a ((a, oe) :: (X.pn ++ pins))) [] D f s6) : SP X pins D f s6 := by
  cases f with
  | next => obtain ⟨σ6, H6, S6, q⟩ := h; exact ⟨_, _, S6.unsuite ok, q⟩
  | brk => obtain ⟨σ6, H6, S6, q⟩ := h; exact ⟨_, _, S6.unsuite ok, q⟩
  | cont => obtain ⟨σ6, H6, S6, q⟩ := h; exact ⟨_, _, S6.unsuite ok, q⟩
  | ret u => obtain ⟨v, σ6, H6, S6, r, q⟩ := h; exact ⟨_, _, _, S6.unsuite ok, r, q⟩
theorem sp_gone {i : Nat} {n : Str} {pos' : Pos} {f : Flow} {s6 : Shared} (hn : NameIn X (some n) (some i)) (h : SP X pins (D.drop (some i)) f s6) : wpAny (model X.prog X.w) X.A (do bindName X.env n .none; unbindBehindTheSuite X.env n pos') (fun _ s7 => SP X pins D f s7) X.xe s6 := by
  cases f with
  | next => obtain ⟨σ6, H6, S6, q⟩ := h; exact gone_ok S6 hn.1 hn.2.1 hn.2.2 fun s7 J => ⟨_, _, J, q⟩
  | brk => obtain ⟨σ6, H6, S6, q⟩ := h; exact gone_ok S6 hn.1 hn.2.1 hn.2.2 fun s7 J => ⟨_, _, J, q⟩
  | cont => obtain ⟨σ6, H6, S6, q⟩ := h; exact gone_ok S6 hn.1 hn.2.1 hn.2.2 fun s7 J => ⟨_, _, J, q⟩
  | ret u => obtain ⟨v, σ6, H6, S6, r, q⟩ := h; exact gone_ok S6 hn.1 hn.2.1 hn.2.2 fun s7 J => ⟨_, _, _, J, r, q⟩
/-- the clauses, one behind the other -/
theorem Cau.clauses (c : Cau X pins a cls d σ H B sI s) (hs : X.stack = X.env :: X.outer) (hf : X.env.frame = some X.env.locals) (tk : Takes X Wout) : ∀ {hds : List ExceptHandler} {l : List ClA}, HdsA X hds l → wManyA X.K Wout D l cls d σ H → wpAny (model X.prog X.w) X.A (handleBy (.ref a) X.env hds) (SP X pins D) X.xe s
  | _, _, .nil, w => by
    refine wpAny_handleBy_nil ?_
    have fl0 := c.fl
    obtain ⟨_, _, _, oe, vs, T, oT, ts', he, hz, hd, h1, _⟩ := id fl0
    unfold PySem.passOn
    refine wpAny_bind (wpAny_field he hd h1 ?_)
    rw [if_neg (by simp)]
    have up : wpAny (model X.prog X.w) X.A (setFlight (.ref a) X.env.frame) (fun _ s4 => wpAny (model X.prog X.w) X.A (throw (.ref a) : Sem Flow) (SP X pins D) X.xe s4) X.xe s := by
      rw [hf]
      exact HandSPX.setFlight_upZ fl0 fun h4 hh u => wpAny_throw (tk _ _ ⟨a, B, sI, pins, σ, H, cls, d, rfl, c.I, c.nb, c.up.trans u, .inr (.inr (by rw [hs]; exact hh)), c.na, c.os, c.ag, w⟩)
    first
      | exact wpAny_bind (wpAny_pure (wpAny_bind up))
      | exact wpAny_bind up
  | _, _, .cons (nm := nm) (oi := oi) hn hc hsu r, w => by
    obtain ⟨b, hb, w⟩ := w
    refine c.ask hf hc hb ?_
    cases b with
    | false => exact c.clauses hs hf tk r w
    | true =>
      have w := w a c.na
      match nm, oi, hn, w with
      | none, none, _, w =>
        refine codeAny_handlers_suite (c.again fun s4 c4 => ?_)
        obtain ⟨oe, vs, he, hz, hd, nl, nf⟩ := c4.obj hf
        exact wpAny_mono ((hsu a oe cls d (X.pn ++ pins) hz ⟨_, hd⟩).run [] _ _ H _ (c4.inv.suite he hd c4.na nl nf) w) (fun f s6 h => sp_back c.I.ok h) fun _ _ z => z.elim
      | some n, some i, hn, w =>
        refine codeAny_handlers_suite_as (c.again fun s4 c4 => ?_)
        obtain ⟨oe, vs, he, hz, hd, nl, nf⟩ := c4.obj hf
        refine store_ok (X := X.suite a ((a, oe) :: (X.pn ++ pins))) (v := .ref a) (c4.inv.suite he hd c4.na nl nf) hn.1 hn.2.1 (.inl hn.2.2) rfl (fun s5 S5 => ?_) (.inr hn.2.2)
        exact wpAny_mono ((hsu a oe cls d (X.pn ++ pins) hz ⟨_, hd⟩).run [] s5 _ H _ S5 w) (fun f s6 h => sp_gone hn (sp_back c.I.ok h)) fun _ _ z => z.elim
end
end L2
namespace PV
open PySem L2
/-! ### try .. except X as n: y = 'c'; z = n.f -/
inductive HM where | pl (m : MS) | way (fld c : Str) (i yi zi : Nat)
def wayK (fld c : Str) (i yi zi : Nat) (e : Ex) (st : List D) : RS := match e.p with
  | some d => if e.f = fld ∧ i < st.length ∧ yi < st.length ∧ zi < st.length then .nx (((st.set zi d).set yi (.str c)).set i .un) else .stuck
  | none => .stuck
def hdlA (hi : Str → Str → Option Bool) (e : Ex) (st : List D) : List (Str × HM) → RS
  | [] => .ex e st
  | (y, .pl m) :: r => match hi e.c y with
    | some true => m st
    | some false => hdlA hi e st r
    | none => .stuck
  | (y, .way fld c i yi zi) :: r => match hi e.c y with
    | some true => if e.c = y then wayK fld c i yi zi e st else .stuck
    | some false => hdlA hi e st r
    | none => .stuck
def mTryA (hi : Str → Str → Option Bool) (mb : MS) (hs : List (Str × HM)) : MS := fun st => match mb st with
  | .ex e st' => hdlA hi e st' hs
  | r => r
inductive VHA (X : Cx) (C : Cc) : List ExceptHandler → List (Str × HM) → Prop
  | nil : VHA X C [] []
  | cons {x : Str} {b₀ : Stmt} {suite : List Stmt} {np pos' : Pos} {hds : List ExceptHandler} {m : MS} {l : List (Str × HM)} (hg : Gl X x) (hd : (x == ("__debug__" : Str)) = false) (hm : ∃ a, C.CA x = some a ∧ X.mg x = some (.ref a))
      (hb : ∀ (a : Addr) (oe : Obj) (pn : List (Addr × Obj)), VB (X.suite a ((a, oe) :: pn)) C (b₀ :: suite) m) (r : VHA X C hds l) :
      VHA X C (.ExceptHandler (some (.Name x np)) none (b₀ :: suite) pos' :: hds) ((x, .pl m) :: l)
  | way {x n fld c : Str} {i yi zi : Nat} {b₀ : Stmt} {suite : List Stmt} {np pos' : Pos} {hds : List ExceptHandler} {l : List (Str × HM)} (hN : X.N.Nodup) (hi : X.N[i]? = some n) (hln : X.env.kindOf n = some .local) (ne : i ≠ yi ∧ i ≠ zi ∧ yi ≠ zi) (hf : C.fx i = none ∧ C.fx yi = none ∧ C.fx zi = none)
      (hg : Gl X x) (hd : (x == ("__debug__" : Str)) = false) (hm : ∃ Ca, C.CA x = some Ca ∧ X.mg x = some (.ref Ca) ∧ ∀ (a : Addr) (oe : Obj) (cls : Value) (d : Option Addr) (pn : List (Addr × Obj)), Zc cls d oe → (∃ vs, oe.data = .fields vs) →
        PSs (X.suite a ((a, oe) :: pn)) (b₀ :: suite) (tSeq (tAsg (tC (.str c)) (gName yi)) (tAsg (tXf a cls d Ca fld (tVar i)) (gName zi)))) (r : VHA X C hds l) :
      VHA X C (.ExceptHandler (some (.Name x np)) (some n) (b₀ :: suite) pos' :: hds) ((x, .way fld c i yi zi) :: l)
section
variable {X : Cx} {C : Cc} {st ds : List D} {σ : L2.St} {vs : List V} {H H' : Hp} {pos : Pos} {Dn : Ends}
theorem VHA.ok {hds : List ExceptHandler} {l : List (Str × HM)} (h : VHA X C hds l) : ∃ l', HdsA X hds l' ∧ ∀ (O : COk X C) (hi : Str → Str → Option Bool) (Hi : Hier C.K C.CA hi) (Dn : Ends) (ds : List D) (vs : List V) (hl : ds.length = vs.length) (e : Ex) (st : List D) (cls : Value) (dx : Option Addr) (us : List V) (σ' : L2.St) (H' : Hp),
    rZ C ds vs Dn (hdlA hi e st l) → SX C st (ds ++ e.ds) σ' (vs ++ us) H' → ExOk C e cls dx H' us → wManyA X.K C.W Dn l' cls dx σ' H' := by
  induction h with
  | nil => exact ⟨[], .nil, fun O hi Hi Dn ds vs hl e st cls dx us σ' H' hr s k => hr σ' cls dx us H' s k⟩
  | @cons x b₀ suite np pos' hds m l hg hd hm hb r ih =>
    obtain ⟨l', h1, h2⟩ := ih
    obtain ⟨a, ca, gm⟩ := hm
    refine ⟨(.ref a, none, fun _ _ _ => trS C m) :: l', .cons (nm := none) trivial ⟨hg, hd, .inl gm⟩ (fun a' oe cls d pn _ _ => hb a' oe pn) h1, fun O hi Hi Dn ds vs hl e st cls dx us σ' H' hr s k => ?_⟩
    obtain ⟨ae, hae, rfl, kp⟩ := id k
    unfold hdlA at hr
    cases q : hi e.c x with
    | none => rw [q] at hr; exact hr.elim
    | some b =>
      rw [q] at hr
      obtain ⟨c, hc, hx⟩ := Hi _ _ _ q ae hae
      rw [ca] at hc; cases hc
      refine ⟨b, by rw [← O.k]; exact hx, ?_⟩
      cases b with
      | true =>
        intro a' na
        exact ⟨st, ds, vs, s.drop hl, hl, hr⟩
      | false =>
        exact h2 O hi Hi Dn ds vs hl e st _ dx us σ' H' hr s k
  | @way x n fld c i yi zi b₀ suite np pos' hds l hN hin hln ne hf hg hd hm r ih =>
    obtain ⟨l', h1, h2⟩ := ih
    obtain ⟨Ca, ca, gm, hsu⟩ := hm
    refine ⟨(.ref Ca, some i, fun a cls d => tSeq (tAsg (tC (.str c)) (gName yi)) (tAsg (tXf a cls d Ca fld (tVar i)) (gName zi))) :: l', .cons (nm := some n) ⟨hN, hin, hln⟩ ⟨hg, hd, .inl gm⟩ hsu h1, fun O hi Hi Dn ds vs hl e st cls dx us σ' H' hr s k => ?_⟩
    obtain ⟨ae, hae, rfl, kp⟩ := id k
    unfold hdlA at hr
    cases q : hi e.c x with
    | none => rw [q] at hr; exact hr.elim
    | some b =>
      rw [q] at hr
      obtain ⟨c', hc, hx⟩ := Hi _ _ _ q ae hae
      rw [ca] at hc; cases hc
      refine ⟨b, by rw [← O.k]; exact hx, ?_⟩
      cases b with
      | true =>
        intro a' na
        have hr : rZ C ds vs Dn (if e.c = x then wayK fld c i yi zi e st else .stuck) := hr
        split at hr
        · rename_i ec
          rw [ec, ca] at hae; cases hae
          unfold wayK at hr
          cases ep : e.p with
          | none => rw [ep] at hr; exact hr.elim
          | some d =>
            rw [ep] at hr kp
            obtain ⟨x', v, rfl, hxd, rfl⟩ := kp
            by_cases hh : e.f = fld ∧ i < st.length ∧ yi < st.length ∧ zi < st.length
            · simp only [if_pos hh] at hr
              obtain ⟨hfld, l1, l2, l3⟩ := hh
              have eds : e.ds = [d] := by unfold Ex.ds; rw [ep]
              rw [eds] at s
              have ln : st.length = σ'.length := by obtain ⟨Z, os, t⟩ := s; exact t.ln
              refine ⟨.ref a', ?_, rfl, rfl, x', [(e.f, v)], v, rfl, hxd, ?_, ?_⟩
              · rw [List.getElem?_set_ne (Ne.symm ne.1)]
                show (σ'.set i (some (.ref a')))[i]? = _
                rw [List.getElem?_set_self (by omega)]
              · rw [hfld]; simp [List.lookup]
              · have s2 := s.toSlot l3 hf.2.2
                have s3 := (s2.pushc (d := .str c) (v := .str c) rfl).toSlot (i := yi) (by rw [List.length_set]; exact l2) hf.2.1
                refine hr _ H' ?_
                have s4 := s3.rewipe (σ := (((σ'.set i (some (.ref a'))).set yi (some (.str c))).set zi (some v)).set i none) (ws := [i]) (by simp) (fun j hj => ?_) (fun j hj => by simp at hj; subst hj; exact hf.1)
                · exact s4
                · have hji : i ≠ j := fun z => hj (by simp [z])
                  rw [List.getElem?_set_ne hji]
                  by_cases cz : zi = j
                  · subst cz
                    rw [List.getElem?_set_ne ne.2.2, List.getElem?_set_self (by omega), List.getElem?_set_self (by simp; omega)]
                  · rw [List.getElem?_set_ne cz]
                    by_cases cy : yi = j
                    · subst cy
                      rw [List.getElem?_set_self (by simp; omega), List.getElem?_set_self (by simp; omega)]
                    · rw [List.getElem?_set_ne cy, List.getElem?_set_ne cz, List.getElem?_set_ne cy, List.getElem?_set_ne hji]
            · simp only [if_neg hh] at hr
              exact hr.elim
        · exact hr.elim
      | false =>
        exact h2 O hi Hi Dn ds vs hl e st _ dx us σ' H' hr s k
end
def RS.hdA (r : RS) (hi : Str → Str → Option Bool) (hs : List (Str × HM)) : RS := match r with
  | .ex e st => hdlA hi e st hs
  | r => r
@[simp] theorem hdA_nx (st : List D) (hi : Str → Str → Option Bool) (hs : List (Str × HM)) : (RS.nx st).hdA hi hs = .nx st := rfl
@[simp] theorem hdA_rt (d : D) (st : List D) (hi : Str → Str → Option Bool) (hs : List (Str × HM)) : (RS.rt d st).hdA hi hs = .rt d st := rfl
@[simp] theorem hdA_bk (st : List D) (hi : Str → Str → Option Bool) (hs : List (Str × HM)) : (RS.bk st).hdA hi hs = .bk st := rfl
@[simp] theorem hdA_ct (st : List D) (hi : Str → Str → Option Bool) (hs : List (Str × HM)) : (RS.ct st).hdA hi hs = .ct st := rfl
@[simp] theorem hdA_ex (e : Ex) (st : List D) (hi : Str → Str → Option Bool) (hs : List (Str × HM)) : (RS.ex e st).hdA hi hs = hdlA hi e st hs := rfl
@[simp] theorem mTryA_eq (hi : Str → Str → Option Bool) (mb : MS) (hs : List (Str × HM)) (st : List D) : mTryA hi mb hs st = (mb st).hdA hi hs := rfl
@[simp] theorem hdlA_nil (hi : Str → Str → Option Bool) (e : Ex) (st : List D) : hdlA hi e st [] = .ex e st := rfl
def hdlAK (b : Option Bool) (m : RS) (n : RS) : RS := match b with
  | some true => m
  | some false => n
  | none => .stuck
@[simp] theorem hdlAK_yes (m n : RS) : hdlAK (some true) m n = m := rfl
@[simp] theorem hdlAK_no (m n : RS) : hdlAK (some false) m n = n := rfl
@[simp] theorem hdlA_pl (hi : Str → Str → Option Bool) (e : Ex) (st : List D) (y : Str) (m : MS) (r : List (Str × HM)) : hdlA hi e st ((y, .pl m) :: r) = hdlAK (hi e.c y) (m st) (hdlA hi e st r) := by
  rw [hdlA]; rfl
@[simp] theorem hdlA_way (hi : Str → Str → Option Bool) (e : Ex) (st : List D) (y : Str) (fld c : Str) (i yi zi : Nat) (r : List (Str × HM)) : hdlA hi e st ((y, .way fld c i yi zi) :: r) = hdlAK (hi e.c y) (if e.c = y then wayK fld c i yi zi e st else .stuck) (hdlA hi e st r) := by
  rw [hdlA]; rfl
end PV

namespace PV
open PySem L2
section
variable {X : Cx} {C : Cc} {st ds : List D} {σ : L2.St} {vs : List V} {H H' : Hp} {a b e o : Expr} {pos p : Pos} {ma mb : List D → R D} {sa sb : Bool} {qa qb : List D → Option PL}
/-! ### a written dict of the module asked at a text -/
def kixQ (tb : List (Str × Int)) (p : PL) : Option PL := match p with
  | .sc (.str z) => match tb.lookup z with
    | some i => some (.sc (.int i))
    | none => none
  | _ => none
@[simp] theorem kixQ_str (tb : List (Str × Int)) (z : Str) : kixQ tb (.sc (.str z)) = obn (tb.lookup z) fun i => some (.sc (.int i)) := by
  cases h : tb.lookup z <;> simp [kixQ, obn, h]
def qKIx (tb : List (Str × Int)) (qa : List D → Option PL) : List D → Option PL := fun st => obn (qa st) (kixQ tb)
@[simp] theorem qKIx_eq (tb : List (Str × Int)) (qa : List D → Option PL) (st : List D) : qKIx tb qa st = obn (qa st) (kixQ tb) := rfl
theorem kixQ_of {tb : List (Str × Int)} {p x : PL} (h : kixQ tb p = some x) : ∃ z i, p = .sc (.str z) ∧ tb.lookup z = some i ∧ x = .sc (.int i) := by
  unfold kixQ at h
  split at h
  · split at h
    · exact ⟨_, _, rfl, by assumption, (Option.some.inj h).symm⟩
    · cases h
  · cases h
theorem vq_kix {x : Str} {tb : List (Str × Int)} (T : KTb X.K X.mg X.w x tb) (ha : VQ X C a qa) (hg : Gl X x) (hd : (x == ("__debug__" : Str)) = false := by decide) (hs : PlainIx a := by exact fun _ _ => rfl) : VQ X C (.Subscript (.Name x p) a pos) (qKIx tb qa) := by
  obtain ⟨d, es, n, gm, D, hl⟩ := T.ex
  refine ⟨(pe_ix ix_kdict (pe_glob (v := .ref d) hg gm rfl hd) ha.pe hs).impV ?_, fun st pl h => ?_⟩
  · rintro σ H Q ⟨st, ds, vs, s, h⟩
    cases e : qKIx tb qa st with
    | none => rw [e] at h; exact h.elim
    | some y =>
      rw [e] at h
      obtain ⟨q, h1, h2⟩ := obn_of (show obn (qa st) (kixQ tb) = some y from e)
      obtain ⟨z, i, rfl, hi, rfl⟩ := kixQ_of h2
      refine ⟨st, ds, vs, s, ?_⟩
      rw [h1]
      intro v hv
      cases hv
      obtain ⟨r, hr, _, hv⟩ := hl z
      obtain ⟨u, rfl, ru⟩ := hv i hi
      exact ⟨d, z, .int i, rfl, rfl, ⟨es, n, u, D.at_, D.lit, hr, ru⟩, h _ rfl⟩
  · obtain ⟨q, h1, h2⟩ := obn_of (show obn (qa st) (kixQ tb) = some pl from h)
    obtain ⟨z, i, rfl, _, rfl⟩ := kixQ_of h2
    exact ⟨_, rfl⟩
end
end PV

namespace PV
open PySem L2
/-! ### a block beside hidden slots, one slot lent what stands at a place -/
inductive BM | io | hd | al
  deriving DecidableEq
def bOut : List BM → List D → List D
  | .io :: ms, _ :: st => .un :: bOut ms st
  | .hd :: ms, d :: st => d :: bOut ms st
  | .al :: ms, _ :: st => .un :: bOut ms st
  | _, _ => []
def bAs (r : Nat) (p : Pth) : List BM → List D → List AD
  | .io :: ms, d :: st => .val d :: bAs r p ms st
  | .hd :: ms, _ :: st => .val .un :: bAs r p ms st
  | .al :: ms, _ :: st => .lnd r p :: bAs r p ms st
  | _, _ => []
def bVis (e : D) : List BM → List D → List D
  | .io :: ms, d :: st => d :: bVis e ms st
  | .hd :: ms, _ :: st => .un :: bVis e ms st
  | .al :: ms, _ :: st => e :: bVis e ms st
  | _, _ => []
def bIo : List BM → List D → List D
  | .io :: ms, d :: st => d :: bIo ms st
  | .hd :: ms, _ :: st => .un :: bIo ms st
  | .al :: ms, _ :: st => .un :: bIo ms st
  | _, _ => []
def bLn : List BM → List D → List D
  | .io :: ms, _ :: st => .un :: bLn ms st
  | .hd :: ms, _ :: st => .un :: bLn ms st
  | .al :: ms, d :: st => d :: bLn ms st
  | _, _ => []
def bMrg : List BM → List D → List D → List D
  | .io :: ms, _ :: o, d :: st => d :: bMrg ms o st
  | .hd :: ms, x :: o, _ :: st => x :: bMrg ms o st
  | .al :: ms, _ :: o, _ :: st => .un :: bMrg ms o st
  | _, _, _ => []
def bCt : List BM → Nat
  | .io :: ms => bCt ms
  | .hd :: ms => bCt ms
  | .al :: ms => bCt ms + 1
  | [] => 0
def bTree : List BM → List D → D
  | .io :: ms, _ :: st => bTree ms st
  | .hd :: ms, _ :: st => bTree ms st
  | .al :: _, d :: _ => d
  | _, _ => .un
def bMd (ms : List BM) : List Md := ms.map fun _ => .io
def bHp (H : Hp) (σ : St) (r : Nat) (p : Pth) : List BM → List V → Prop
  | .al :: ms, v :: vs => HPs H σ r p v ∧ bHp H σ r p ms vs
  | .io :: ms, _ :: vs => bHp H σ r p ms vs
  | .hd :: ms, _ :: vs => bHp H σ r p ms vs
  | _, _ => True
theorem bSplit {G : Gd} {r : Nat} {p : Pth} : ∀ {ms : List BM} {st : List D} {vs : List V} {os : Ct}, ms.length = st.length → RpL G st vs os → ∃ o1 o2, RpL G (bOut ms st) vs o1 ∧ RpL G ((bAs r p ms st).map AD.d) vs o2 ∧ ∀ b, o1 b + o2 b ≤ os b
  | [], _, _, _, _, .nil h => ⟨fun _ => 0, fun _ => 0, .nil fun _ => rfl, .nil fun _ => rfl, fun b => by simp⟩
  | .io :: ms, _, _, os, hl, .cons (o1 := a) (o2 := c) x t h => by
    obtain ⟨o1, o2, r1, r2, e⟩ := bSplit (r := r) (p := p) (ms := ms) (by simpa using hl) t
    exact ⟨o1, fun b => a b + o2 b, .cons (o1 := fun _ => 0) (.un fun _ => rfl) r1 (fun b => by simp), .cons x r2 (fun _ => rfl), fun b => by have := e b; rw [h]; (try dsimp only); omega⟩
  | .hd :: ms, _, _, os, hl, .cons (o1 := a) (o2 := c) x t h => by
    obtain ⟨o1, o2, r1, r2, e⟩ := bSplit (r := r) (p := p) (ms := ms) (by simpa using hl) t
    exact ⟨fun b => a b + o1 b, o2, .cons x r1 (fun _ => rfl), .cons (o1 := fun _ => 0) (.un fun _ => rfl) r2 (fun b => by simp), fun b => by have := e b; rw [h]; (try dsimp only); omega⟩
  | .al :: ms, _, _, os, hl, .cons (o1 := a) (o2 := c) x t h => by
    obtain ⟨o1, o2, r1, r2, e⟩ := bSplit (r := r) (p := p) (ms := ms) (by simpa using hl) t
    exact ⟨o1, o2, .cons (o1 := fun _ => 0) (.un fun _ => rfl) r1 (fun b => by simp), .cons (o1 := fun _ => 0) (.un fun _ => rfl) r2 (fun b => by simp), fun b => by have := e b; rw [h]; (try dsimp only); omega⟩
theorem bTake0 {r : Nat} {p : Pth} {e : D} {O : List D} : ∀ {ms : List BM} {st : List D}, ms.length = st.length → bCt ms = 0 → takeA (bMd ms) (bAs r p ms st) O = some (O, bVis e ms st)
  | [], [], _, _ => rfl
  | .io :: ms, d :: st, hl, hc => by
    have := bTake0 (r := r) (p := p) (e := e) (O := O) (ms := ms) (st := st) (by simpa using hl) (by simpa [bCt] using hc)
    simp only [bMd] at this
    simp [bMd, bAs, bVis, takeA, this]
  | .hd :: ms, d :: st, hl, hc => by
    have := bTake0 (r := r) (p := p) (e := e) (O := O) (ms := ms) (st := st) (by simpa using hl) (by simpa [bCt] using hc)
    simp only [bMd] at this
    simp [bMd, bAs, bVis, takeA, this]
  | .al :: ms, d :: st, hl, hc => by simp [bCt] at hc
  | [], _ :: _, hl, _ => by simp at hl
  | _ :: _, [], hl, _ => by simp at hl
theorem bTake {r : Nat} {p : Pth} {e : D} {O : List D} (he : getS O r p = some e) : ∀ {ms : List BM} {st : List D}, ms.length = st.length → bCt ms = 1 → takeA (bMd ms) (bAs r p ms st) O = some (setS O r p .un, bVis e ms st)
  | [], [], _, hc => by simp [bCt] at hc
  | .io :: ms, d :: st, hl, hc => by
    have := bTake he (ms := ms) (st := st) (by simpa using hl) (by simpa [bCt] using hc)
    simp only [bMd] at this
    simp [bMd, bAs, bVis, takeA, this]
  | .hd :: ms, d :: st, hl, hc => by
    have := bTake he (ms := ms) (st := st) (by simpa using hl) (by simpa [bCt] using hc)
    simp only [bMd] at this
    simp [bMd, bAs, bVis, takeA, this]
  | .al :: ms, d :: st, hl, hc => by
    have := bTake0 (r := r) (p := p) (e := e) (O := setS O r p .un) (ms := ms) (st := st) (by simpa using hl) (by simpa [bCt] using hc)
    simp only [bMd] at this
    simp [bMd, bAs, bVis, takeA, he, this]
  | [], _ :: _, hl, _ => by simp at hl
  | _ :: _, [], hl, _ => by simp at hl
theorem bArgs {r : Nat} {p : Pth} {e x : D} {O : List D} (he : getS O r p = some x) : ∀ {ms : List BM} {st : List D}, ms.length = st.length → argsOf (bMd ms) (bAs r p ms st) (bVis e ms st) O = some (bVis e ms st)
  | [], [], _ => rfl
  | .io :: ms, d :: st, hl => by
    have := bArgs (e := e) he (ms := ms) (st := st) (by simpa using hl)
    simp only [bMd] at this
    simp [bMd, bAs, bVis, argsOf, this]
  | .hd :: ms, d :: st, hl => by
    have := bArgs (e := e) he (ms := ms) (st := st) (by simpa using hl)
    simp only [bMd] at this
    simp [bMd, bAs, bVis, argsOf, this]
  | .al :: ms, d :: st, hl => by
    have := bArgs (e := e) he (ms := ms) (st := st) (by simpa using hl)
    simp only [bMd] at this
    simp [bMd, bAs, bVis, argsOf, he, this]
  | [], _ :: _, hl => by simp at hl
  | _ :: _, [], hl => by simp at hl
theorem bLnd {H : Hp} {σ : St} {r : Nat} {p : Pth} : ∀ {ms : List BM} {st : List D} {vs : List V}, ms.length = st.length → st.length = vs.length → bHp H σ r p ms vs → Lnd H σ (bAs r p ms st) vs
  | [], [], [], _, _, _ => .nil
  | .io :: ms, d :: st, v :: vs, hl, hv, h => .val (bLnd (by simpa using hl) (by simpa using hv) h)
  | .hd :: ms, d :: st, v :: vs, hl, hv, h => .val (bLnd (by simpa using hl) (by simpa using hv) h)
  | .al :: ms, d :: st, v :: vs, hl, hv, h => .lnd h.1 (bLnd (by simpa using hl) (by simpa using hv) h.2)
  | [], _ :: _, _, hl, _, _ => by simp at hl
  | _ :: _, [], _, hl, _, _ => by simp at hl
  | _, [], _ :: _, _, hv, _ => by simp at hv
  | _, _ :: _, [], _, hv, _ => by simp at hv
theorem bPut0 {r : Nat} {p : Pth} {O : List D} : ∀ {ms : List BM} {st st2 : List D}, ms.length = st.length → ms.length = st2.length → bCt ms = 0 → putA (bMd ms) (bAs r p ms st) (bLn ms st2) O = some O
  | [], [], [], _, _, _ => rfl
  | .io :: ms, d :: st, x :: st2, hl, h2, hc => by
    have := bPut0 (r := r) (p := p) (O := O) (ms := ms) (st := st) (st2 := st2) (by simpa using hl) (by simpa using h2) (by simpa [bCt] using hc)
    simp only [bMd] at this
    simp [bMd, bAs, bLn, putA, this]
  | .hd :: ms, d :: st, x :: st2, hl, h2, hc => by
    have := bPut0 (r := r) (p := p) (O := O) (ms := ms) (st := st) (st2 := st2) (by simpa using hl) (by simpa using h2) (by simpa [bCt] using hc)
    simp only [bMd] at this
    simp [bMd, bAs, bLn, putA, this]
  | .al :: ms, d :: st, x :: st2, hl, h2, hc => by simp [bCt] at hc
  | [], _ :: _, _, hl, _, _ => by simp at hl
  | _ :: _, [], _, hl, _, _ => by simp at hl
  | [], _, _ :: _, _, h2, _ => by simp at h2
  | _ :: _, _, [], _, h2, _ => by simp at h2
theorem bPut {r : Nat} {p : Pth} {O : List D} (hu : getS O r p = some .un) : ∀ {ms : List BM} {st st2 : List D}, ms.length = st.length → ms.length = st2.length → bCt ms = 1 → (D.noOwn (bTree ms st2) = true ∨ spS O r p = true) → putA (bMd ms) (bAs r p ms st) (bLn ms st2) O = some (setS O r p (bTree ms st2))
  | [], [], [], _, _, hc, _ => by simp [bCt] at hc
  | .io :: ms, d :: st, x :: st2, hl, h2, hc, hs => by
    have := bPut hu (ms := ms) (st := st) (st2 := st2) (by simpa using hl) (by simpa using h2) (by simpa [bCt] using hc) hs
    simp only [bMd] at this
    simp [bMd, bAs, bLn, putA, this, bTree]
  | .hd :: ms, d :: st, x :: st2, hl, h2, hc, hs => by
    have := bPut hu (ms := ms) (st := st) (st2 := st2) (by simpa using hl) (by simpa using h2) (by simpa [bCt] using hc) hs
    simp only [bMd] at this
    simp [bMd, bAs, bLn, putA, this, bTree]
  | .al :: ms, d :: st, x :: st2, hl, h2, hc, hs => by
    have := bPut0 (r := r) (p := p) (O := O) (ms := ms) (st := st) (st2 := st2) (by simpa using hl) (by simpa using h2) (by simpa [bCt] using hc)
    simp only [bMd] at this
    have hs : D.noOwn x = true ∨ spS O r p = true := hs
    simp [bMd, bAs, bLn, putA, this, bTree, hu, isUn, hs, chkO]
  | [], _ :: _, _, hl, _, _, _ => by simp at hl
  | _ :: _, [], _, hl, _, _, _ => by simp at hl
  | [], _, _ :: _, _, h2, _, _ => by simp at h2
  | _ :: _, _, [], _, h2, _, _ => by simp at h2
theorem bLndI {H : Hp} {σ : St} {r : Nat} {p : Pth} : ∀ {ms : List BM} {st : List D} {vs : List V}, ms.length = st.length → st.length = vs.length → LndI H σ (bMd ms) (bAs r p ms st) vs → ∀ (i : Nat) (v : V), ms[i]? = some .al → vs[i]? = some v → HPs H σ r p v
  | [], _, _, _, _, _, i, v, h, _ => by simp at h
  | .io :: ms, d :: st, u :: vs, hl, hv, h, i, v, h1, h2 => by
    cases i with
    | zero => simp at h1
    | succ i => exact bLndI (ms := ms) (st := st) (vs := vs) (by simpa using hl) (by simpa using hv) (by simpa [bMd, bAs, LndI] using h) i v (by simpa using h1) (by simpa using h2)
  | .hd :: ms, d :: st, u :: vs, hl, hv, h, i, v, h1, h2 => by
    cases i with
    | zero => simp at h1
    | succ i => exact bLndI (ms := ms) (st := st) (vs := vs) (by simpa using hl) (by simpa using hv) (by simpa [bMd, bAs, LndI] using h) i v (by simpa using h1) (by simpa using h2)
  | .al :: ms, d :: st, u :: vs, hl, hv, h, i, v, h1, h2 => by
    have h : HPs H σ r p u ∧ LndI H σ (bMd ms) (bAs r p ms st) vs := by simpa [bMd, bAs, LndI] using h
    cases i with
    | zero => simp at h2; subst h2; exact h.1
    | succ i => exact bLndI (ms := ms) (st := st) (vs := vs) (by simpa using hl) (by simpa using hv) h.2 i v (by simpa using h1) (by simpa using h2)
  | _ :: _, [], _, hl, _, _, _, _, _, _ => by simp at hl
  | _ :: _, _ :: _, [], _, hv, _, _, _, _, _ => by simp at hv
theorem bFin {G : Gd} : ∀ {ms : List BM} {st2 : List D} {us1 us2 : List V} {os : Ct}, ms.length = st2.length → us1.length = us2.length → (∀ (i : Nat) (v w : V), ms[i]? = some .al → us1[i]? = some v → us2[i]? = some w → v = w) → RpL G st2 us2 os → ∃ o1 o2, RpL G (bIo ms st2) us2 o1 ∧ RpL G (bLn ms st2) us1 o2 ∧ ∀ b, o1 b + o2 b ≤ os b
  | [], _, [], _, _, _, _, _, .nil h => ⟨fun _ => 0, fun _ => 0, .nil fun _ => rfl, .nil fun _ => rfl, fun b => by simp⟩
  | .io :: ms, _, v1 :: us1, _, os, hl, hu, h, .cons (o1 := a) (o2 := c) x t e0 => by
    obtain ⟨o1, o2, r1, r2, e⟩ := bFin (ms := ms) (us1 := us1) (by simpa using hl) (by simpa using hu) (fun i v w q1 q2 q3 => h (i + 1) v w (by simpa using q1) (by simpa using q2) (by simpa using q3)) t
    exact ⟨fun b => a b + o1 b, o2, .cons x r1 (fun _ => rfl), .cons (o1 := fun _ => 0) (.un fun _ => rfl) r2 (fun b => by simp), fun b => by have := e b; rw [e0]; (try dsimp only); omega⟩
  | .hd :: ms, _, v1 :: us1, _, os, hl, hu, h, .cons (o1 := a) (o2 := c) x t e0 => by
    obtain ⟨o1, o2, r1, r2, e⟩ := bFin (ms := ms) (us1 := us1) (by simpa using hl) (by simpa using hu) (fun i v w q1 q2 q3 => h (i + 1) v w (by simpa using q1) (by simpa using q2) (by simpa using q3)) t
    exact ⟨o1, o2, .cons (o1 := fun _ => 0) (.un fun _ => rfl) r1 (fun b => by simp), .cons (o1 := fun _ => 0) (.un fun _ => rfl) r2 (fun b => by simp), fun b => by have := e b; rw [e0]; (try dsimp only); omega⟩
  | .al :: ms, _, v1 :: us1, _, os, hl, hu, h, .cons (o1 := a) (o2 := c) x t e0 => by
    obtain ⟨o1, o2, r1, r2, e⟩ := bFin (ms := ms) (us1 := us1) (by simpa using hl) (by simpa using hu) (fun i v w q1 q2 q3 => h (i + 1) v w (by simpa using q1) (by simpa using q2) (by simpa using q3)) t
    have ev := h 0 v1 _ rfl rfl rfl
    subst ev
    exact ⟨o1, fun b => a b + o2 b, .cons (o1 := fun _ => 0) (.un fun _ => rfl) r1 (fun b => by simp), .cons x r2 (fun _ => rfl), fun b => by have := e b; rw [e0]; (try dsimp only); omega⟩
  | [], _, _ :: _, _, _, _, hu, _, .nil _ => by simp at hu
  | _ :: _, _, [], _, _, _, hu, _, .cons _ _ _ => by simp at hu
theorem bMerge {G : Gd} : ∀ {ms : List BM} {O st2 : List D} {us1 us2 : List V} {o1 o2 : Ct}, ms.length = st2.length → (∀ (i : Nat) (d : D) (v w : V), ms[i]? = some .hd → O[i]? = some d → us1[i]? = some v → us2[i]? = some w → d = .un ∨ v = w) → RpL G O us1 o1 → RpL G (bIo ms st2) us2 o2 → us1.length = us2.length → ∃ os, RpL G (bMrg ms O st2) us2 os ∧ ∀ b, os b ≤ o1 b + o2 b
  | [], _, [], _, _, o1, o2, _, _, _, .nil h, _ => ⟨fun _ => 0, by cases ‹List D› <;> exact .nil fun _ => rfl, fun b => by simp⟩
  | .io :: ms, _, y :: st2, _, _, o1, o2, hl, h, .cons (o1 := a1) (o2 := c1) x1 t1 e1, .cons (o1 := a2) (o2 := c2) x2 t2 e2, hu => by
    obtain ⟨os, r, e⟩ := bMerge (ms := ms) (st2 := st2) (by simpa using hl) (fun i d v w q1 q2 q3 q4 => h (i + 1) d v w (by simpa using q1) (by simpa using q2) (by simpa using q3) (by simpa using q4)) t1 t2 (by simpa using hu)
    exact ⟨fun b => a2 b + os b, .cons x2 r (fun _ => rfl), fun b => by have := e b; rw [e1, e2]; (try dsimp only); omega⟩
  | .hd :: ms, _, y :: st2, _, _, o1, o2, hl, h, .cons (o1 := a1) (o2 := c1) x1 t1 e1, .cons (o1 := a2) (o2 := c2) x2 t2 e2, hu => by
    obtain ⟨os, r, e⟩ := bMerge (ms := ms) (st2 := st2) (by simpa using hl) (fun i d v w q1 q2 q3 q4 => h (i + 1) d v w (by simpa using q1) (by simpa using q2) (by simpa using q3) (by simpa using q4)) t1 t2 (by simpa using hu)
    rcases h 0 _ _ _ rfl rfl rfl rfl with e0 | e0 <;> subst e0
    · exact ⟨os, .cons (o1 := fun _ => 0) (.un fun _ => rfl) r (fun b => by simp), fun b => by have := e b; rw [e1, e2]; (try dsimp only); omega⟩
    · exact ⟨fun b => a1 b + os b, .cons x1 r (fun _ => rfl), fun b => by have := e b; rw [e1, e2]; (try dsimp only); omega⟩
  | .al :: ms, _, y :: st2, _, _, o1, o2, hl, h, .cons (o1 := a1) (o2 := c1) x1 t1 e1, .cons (o1 := a2) (o2 := c2) x2 t2 e2, hu => by
    obtain ⟨os, r, e⟩ := bMerge (ms := ms) (st2 := st2) (by simpa using hl) (fun i d v w q1 q2 q3 q4 => h (i + 1) d v w (by simpa using q1) (by simpa using q2) (by simpa using q3) (by simpa using q4)) t1 t2 (by simpa using hu)
    exact ⟨os, .cons (o1 := fun _ => 0) (.un fun _ => rfl) r (fun b => by simp), fun b => by have := e b; rw [e1, e2]; (try dsimp only); omega⟩
  | _ :: _, _, [], _, _, _, _, hl, _, _, _, _ => by simp at hl
  | [], _, _ :: _, _, _, _, _, hl, _, _, _, _ => by simp at hl
  | .io :: _, _, _ :: _, _, _, _, _, _, _, .nil _, .cons _ _ _, hu => by simp at hu
  | .hd :: _, _, _ :: _, _, _, _, _, _, _, .nil _, .cons _ _ _, hu => by simp at hu
  | .al :: _, _, _ :: _, _, _, _, _, _, _, .nil _, .cons _ _ _, hu => by simp at hu
theorem bLen {r : Nat} {p : Pth} {e : D} : ∀ {ms : List BM} {st : List D}, ms.length = st.length → (bOut ms st).length = ms.length ∧ (bVis e ms st).length = ms.length ∧ (bAs r p ms st).length = ms.length ∧ (bIo ms st).length = ms.length ∧ (bLn ms st).length = ms.length
  | [], [], _ => ⟨rfl, rfl, rfl, rfl, rfl⟩
  | m :: ms, d :: st, h => by
    obtain ⟨a, b, c, f, g⟩ := bLen (r := r) (p := p) (e := e) (ms := ms) (st := st) (by simpa using h)
    cases m <;> simp [bOut, bVis, bAs, bIo, bLn, a, b, c, f, g]
  | [], _ :: _, h => by simp at h
  | _ :: _, [], h => by simp at h
theorem bOut_get : ∀ {ms : List BM} {st : List D} {i : Nat} {d : D}, (bOut ms st)[i]? = some d → d ≠ .un → st[i]? = some d ∧ ms[i]? = some .hd
  | [], st, i, d, h, _ => by cases st <;> simp [bOut] at h
  | m :: ms, [], i, d, h, _ => by cases m <;> simp [bOut] at h
  | m :: ms, x :: st, 0, d, h, hd => by
    cases m <;> simp [bOut] at h
    · exact absurd h.symm hd
    · exact ⟨by simp [h], rfl⟩
    · exact absurd h.symm hd
  | m :: ms, x :: st, i + 1, d, h, hd => by
    have : (bOut ms st)[i]? = some d := by cases m <;> simpa [bOut] using h
    obtain ⟨a, b⟩ := bOut_get this hd
    exact ⟨by simpa using a, by simpa using b⟩
theorem bVis_get {e : D} : ∀ {ms : List BM} {st : List D} {i : Nat} {d : D}, (bVis e ms st)[i]? = some d → d ≠ .un → (ms[i]? = some .io ∧ st[i]? = some d) ∨ ms[i]? = some .al
  | [], st, i, d, h, _ => by cases st <;> simp [bVis] at h
  | m :: ms, [], i, d, h, _ => by cases m <;> simp [bVis] at h
  | m :: ms, x :: st, 0, d, h, hd => by
    cases m <;> simp [bVis] at h
    · exact .inl ⟨rfl, by simp [h]⟩
    · exact absurd h.symm hd
    · exact .inr rfl
  | m :: ms, x :: st, i + 1, d, h, hd => by
    have : (bVis e ms st)[i]? = some d := by cases m <;> simpa [bVis] using h
    rcases bVis_get this hd with ⟨a, b⟩ | a
    · exact .inl ⟨by simpa using a, by simpa using b⟩
    · exact .inr (by simpa using a)
theorem bMrg_get : ∀ {ms : List BM} {O st : List D} {i : Nat} {d : D}, (bMrg ms O st)[i]? = some d → d ≠ .un → (ms[i]? = some .io ∧ st[i]? = some d) ∨ (ms[i]? = some .hd ∧ O[i]? = some d)
  | [], O, st, i, d, h, _ => by cases O <;> cases st <;> simp [bMrg] at h
  | m :: ms, [], st, i, d, h, _ => by cases m <;> simp [bMrg] at h
  | m :: ms, _ :: _, [], i, d, h, _ => by cases m <;> simp [bMrg] at h
  | m :: ms, y :: O, x :: st, 0, d, h, hd => by
    cases m <;> simp [bMrg] at h
    · exact .inl ⟨rfl, by simp [h]⟩
    · exact .inr ⟨rfl, by simp [h]⟩
    · exact absurd h.symm hd
  | m :: ms, y :: O, x :: st, i + 1, d, h, hd => by
    have : (bMrg ms O st)[i]? = some d := by cases m <;> simpa [bMrg] using h
    rcases bMrg_get this hd with ⟨a, b⟩ | ⟨a, b⟩
    · exact .inl ⟨by simpa using a, by simpa using b⟩
    · exact .inr ⟨by simpa using a, by simpa using b⟩
theorem noBorL_app2 : ∀ (xs ys : List D), D.noBorL (xs ++ ys) = (D.noBorL xs && D.noBorL ys)
  | [], ys => by simp [D.noBorL]
  | x :: xs, ys => by simp [D.noBorL, noBorL_app2 xs ys, Bool.and_assoc]
theorem bNb : ∀ {ms : List BM} {st : List D}, D.noBorL st = true → D.noBorL (bIo ms st) = true ∧ D.noBorL (bLn ms st) = true
  | [], st, _ => by cases st <;> exact ⟨rfl, rfl⟩
  | m :: ms, [], _ => by cases m <;> exact ⟨rfl, rfl⟩
  | m :: ms, x :: st, h => by
    simp only [D.noBorL, Bool.and_eq_true] at h
    obtain ⟨a, b⟩ := bNb (ms := ms) h.2
    cases m <;> simp [bIo, bLn, D.noBorL, D.noBor, a, b, h.1]
section
variable {C : Cc} {st ds : List D} {σ : St} {vs : List V} {H : Hp}
theorem SX.blk {ms : List BM} {r : Nat} {p : Pth} {e : D} (s : SX C st ds σ vs H) (hl : ds.length = vs.length) (lm : ms.length = st.length) (hc : bCt ms = 1) (he : getS (bOut ms st) r p = some e) (hp : bHp H σ r p ms (σ.map gd)) (ha : ∀ i : Nat, ms[i]? = some BM.al → ∃ v, σ[i]? = some (some v)) :
    ∃ (osv : Ct) (B : Addr → Prop) (fx : Nat → Option V), (∀ i : Nat, ms[i]? = some BM.io → fx i = C.fx i) ∧ SX ⟨C.K, C.CA, H, osv, B, C.W, fx, C.n⟩ (bVis e ms st) [] σ [] H ∧
      ∀ st2 ds2 σ2 vs2 H2, SX ⟨C.K, C.CA, H, osv, B, C.W, fx, C.n⟩ st2 ds2 σ2 vs2 H2 → ds2.length = vs2.length → D.noBorL (st2 ++ ds2) = true → (D.noOwn (bTree ms st2) = true ∨ spS (bOut ms st) r p = true) → SX C (bMrg ms (setS (bOut ms st) r p (bTree ms st2)) st2) (ds ++ ds2) σ2 (vs ++ vs2) H2 ∧
        (∀ (i : Nat) (v : V), ms[i]? = some BM.al → σ[i]? = some (some v) → HPs H2 σ r p v) ∧ ∀ (i : Nat) (m : BM) (v : V), ms[i]? = some m → m ≠ .io → σ[i]? = some (some v) → σ2[i]? = some (some v) := by
  obtain ⟨Z, os, s⟩ := s
  obtain ⟨o1, o2, r1, r2, e0⟩ := s.cut
  obtain ⟨oa, ob, ra, rb, eab⟩ := bSplit (r := r) (p := p) lm r1
  have lσ : st.length = (σ.map gd).length := by rw [List.length_map]; exact s.ln
  have t : SX C (bOut ms st) (ds ++ (bAs r p ms st).map AD.d) σ (vs ++ σ.map gd) H :=
    (s.mk2 (o2 := fun b => o2 b + ob b) (os' := fun b => oa b + (o2 b + ob b)) ra (r2.app rb fun _ => rfl) (fun _ => rfl) (fun b => by have := eab b; rw [e0]; (try dsimp only); omega) (fun i d h hd => s.sl i d (bOut_get h hd).1 hd)).sx
  have hx : getS (setS (bOut ms st) r p .un) r p = some .un := getS_set he
  obtain ⟨osv, B, P, k⟩ := t.call0 hl (bLnd lm lσ hp) (bTake he lm hc) (bArgs (e := e) hx lm)
  obtain ⟨l1, l2, l3, l4, l5⟩ := bLen (r := r) (p := p) (e := e) lm
  refine ⟨osv, B, fun i => match ms[i]? with
    | some .io => C.fx i
    | some _ => (σ[i]?).join
    | none => C.fx i, fun i hi => by simp [hi], ⟨fun a => 0 < osv a, osv, ⟨by
    have h := P.rp
    show RpL ⟨C.K, C.CA, H, fun a => 0 < osv a, B⟩ (bVis e ms st ++ []) (σ.map gd ++ []) osv
    simpa using h, P.nd, by rw [l2, lm]; exact s.ln, fun i d h hd => ?_, fun a o q _ => q, fun a z => .inl z, P.al, P.bb, fun i v h => ?_, s.fx.2⟩⟩, fun st2 ds2 σ2 vs2 H2 s2 hl2 nb hq => ?_⟩
  · rcases bVis_get h hd with ⟨_, b⟩ | a
    · exact s.sl i d b hd
    · exact ha i a
  · have h : (match ms[i]? with
      | some .io => C.fx i
      | some _ => (σ[i]?).join
      | none => C.fx i) = some v := h
    split at h
    · exact s.fx.1 i v h
    · exact Option.join_eq_some_iff.mp h
    · exact s.fx.1 i v h
  · obtain ⟨Z2, os2, s2⟩ := s2
    have pin : ∀ (i : Nat) (m : BM) (v : V), ms[i]? = some m → m ≠ .io → σ[i]? = some (some v) → σ2[i]? = some (some v) := fun i m v h1 h2 h3 => s2.fx.1 i v (by
      show (match ms[i]? with
        | some .io => C.fx i
        | some _ => (σ[i]?).join
        | none => C.fx i) = some v
      rw [h1]
      cases m with
      | io => exact absurd rfl h2
      | hd => simp [h3]
      | al => simp [h3])
    obtain ⟨p1, p2, q1, q2, e2⟩ := s2.cut
    have ln2 : st2.length = σ2.length := s2.ln
    have n2 : σ2.length = σ.length := by have h1 := s2.fx.2; have h2 := s.fx.2; simp only at h1; omega
    have ln1 := s.ln
    have lm2 : ms.length = st2.length := by omega
    have hu : (σ.map gd).length = (σ2.map gd).length := by rw [List.length_map, List.length_map, n2]
    obtain ⟨p3, p4, q3, q4, e4⟩ := bFin (us1 := σ.map gd) lm2 hu (fun i v w h1 h2 h3 => by
      obtain ⟨x, hx⟩ := ha i h1
      have := pin i .al x h1 (by simp) hx
      rw [List.getElem?_map, hx] at h2
      rw [List.getElem?_map, this] at h3
      simp at h2 h3
      rw [← h2, ← h3]) q1
    obtain ⟨nb1, nb2⟩ : D.noBorL st2 = true ∧ D.noBorL ds2 = true := by rw [noBorL_app2, Bool.and_eq_true] at nb; exact nb
    obtain ⟨nb3, nb4⟩ := bNb (ms := ms) nb1
    obtain ⟨_, _, _, l6, l7⟩ := bLen (r := r) (p := p) (e := e) lm2
    have Po : Post C.K C.CA H osv B ((bIo ms st2 ++ ds2) ++ bLn ms st2) ((σ2.map gd ++ vs2) ++ σ.map gd) H2 Z2 (fun b => (p3 b + p2 b) + p4 b) :=
      ⟨(q3.app q2 fun _ => rfl).app q4 fun _ => rfl, fun b => by have := s2.nd b; have := e4 b; rw [e2] at *; (try dsimp only); omega, s2.kp, s2.fr, s2.al⟩
    have hq' : D.noOwn (bTree ms st2) = true ∨ spS (setS (bOut ms st) r p .un) r p = true := by rw [spS_set he]; exact hq
    have lx : (bIo ms st2 ++ ds2).length = (σ2.map gd ++ vs2).length := by simp [l6, lm2, ln2, hl2]
    obtain ⟨S', hL'⟩ := k (bIo ms st2 ++ ds2) (σ2.map gd ++ vs2) (bLn ms st2) H2 Z2 _ lx Po (by rw [noBorL_app2, noBorL_app2, nb3, nb2, nb4]; rfl)
    have S := SX.putA (ds := ds ++ (bIo ms st2 ++ ds2)) (vs := vs ++ (σ2.map gd ++ vs2)) (by simpa [List.append_assoc] using S') (by simp only [List.length_append] at lx ⊢; omega) hL' (bPut hx lm lm2 hc hq')
    refine ⟨?_, fun i v h1 h2 => bLndI lm lσ hL' i v h1 (by rw [List.getElem?_map, h2]; rfl), pin⟩
    rw [setS_set he] at S
    obtain ⟨Z3, os3, S⟩ := S
    obtain ⟨a1, a2, x1, x2, y1⟩ := S.cut
    obtain ⟨a3, a4, x3, x4, y2⟩ := RpL.cut hl x2
    obtain ⟨a5, a6, x5, x6, y3⟩ := RpL.cut (by rw [l6, lm2, ln2]; simp) x4
    obtain ⟨a7, x7, y4⟩ := bMerge lm2 (fun i d v w h1 h2 h3 h4 => by
      by_cases hd : d = .un
      · exact .inl hd
      · obtain ⟨x, hx⟩ := S.sl i d h2 hd
        have := pin i .hd x h1 (by simp) hx
        rw [List.getElem?_map, hx] at h3
        rw [List.getElem?_map, this] at h4
        simp at h3 h4
        exact .inr (by rw [← h3, ← h4])) x1 x5 hu
    refine ⟨Z3, fun b => a7 b + (a3 b + a6 b), ⟨x7.app (x3.app x6 fun _ => rfl) fun _ => rfl, fun b => by have := S.nd b; have := y4 b; rw [y1, y2, y3] at *; (try dsimp only); omega, ?_, fun i d h hd => ?_, S.kp, S.fr, S.al, S.bb, fun i v h => ?_, s2.fx.2⟩⟩
    · have := x7.len
      simpa using this
    · rcases bMrg_get h hd with ⟨_, b⟩ | ⟨a, b⟩
      · exact s2.sl i d b hd
      · obtain ⟨x, hx⟩ := S.sl i d b hd
        exact ⟨x, pin i .hd x a (by simp) hx⟩
    · have h3 := s.fx.1 i v h
      cases q : ms[i]? with
      | none =>
        exact s2.fx.1 i v (by
          show (match ms[i]? with
            | some .io => C.fx i
            | some _ => (σ[i]?).join
            | none => C.fx i) = some v
          rw [q]; exact h)
      | some m =>
        cases m with
        | io =>
          exact s2.fx.1 i v (by
            show (match ms[i]? with
              | some .io => C.fx i
              | some _ => (σ[i]?).join
              | none => C.fx i) = some v
            rw [q]; exact h)
        | hd => exact pin i .hd v q (by simp) h3
        | al => exact pin i .al v q (by simp) h3
end
end PV

namespace PV
open PySem L2
/-! ### statements behind y = a place's thing, y being changed: the place is hidden from them, y is lent what stands there -/
def bIs (ms : List BM) (i : Nat) : Bool := match ms[i]? with
  | some .io => true
  | _ => false
def bHdAt (ms : List BM) (i : Nat) : Bool := match ms[i]? with
  | some .hd => true
  | _ => false
def bOk (ms : List BM) (r : Nat) (p : Pth) (st st2 xs : List D) : Bool := D.noBorL (st2 ++ xs) && (D.noOwn (bTree ms st2) || spS (bOut ms st) r p)
def bBack (ms : List BM) (r : Nat) (p : Pth) (st st2 : List D) : List D := bMrg ms (setS (bOut ms st) r p (bTree ms st2)) st2
def bEnd (ms : List BM) (r : Nat) (p : Pth) (st : List D) : RS → RS
  | .nx st2 => if bOk ms r p st st2 [] = true then .nx (bBack ms r p st st2) else .stuck
  | .bk st2 => if bOk ms r p st st2 [] = true then .bk (bBack ms r p st st2) else .stuck
  | .ct st2 => if bOk ms r p st st2 [] = true then .ct (bBack ms r p st st2) else .stuck
  | .rt d st2 => if bOk ms r p st st2 [d] = true then .rt d (bBack ms r p st st2) else .stuck
  | .ex x st2 => if bOk ms r p st st2 x.ds = true then .ex x (bBack ms r p st st2) else .stuck
  | .stuck => .stuck
def mBlk (ms : List BM) (r : Nat) (p : Pth) (m : MS) : MS := fun st => if bHdAt ms r = true then match getS (bOut ms st) r p with
    | some e => bEnd ms r p st (m (bVis e ms st))
    | none => .stuck
  else .stuck
structure Lnk (ms : List BM) (r : Nat) (p : Pth) (σ : St) (H : Hp) : Prop where
  hp : ∀ (i : Nat) (v : V), ms[i]? = some .al → σ[i]? = some (some v) → HPs H σ r p v
  ha : ∀ i : Nat, ms[i]? = some BM.al → ∃ v, σ[i]? = some (some v)
def trLk (C : Cc) (ms : List BM) (n : Nat → Pth → MS) : TS := fun Dn σ H => ∃ st ds vs r p, SX C st ds σ vs H ∧ ds.length = vs.length ∧ Lnk ms r p σ H ∧ rZ C ds vs Dn (n r p st)
def VBA (X : Cx) (C : Cc) (ms : List BM) (s : List Stmt) (n : Nat → Pth → MS) : Prop := PSs X s (trLk C ms n)
section
variable {X : Cx} {C : Cc} {st ds : List D} {σ : L2.St} {vs : List V} {H H' : Hp} {a b e o : Expr} {pos spos py : Pos} {ma mb : List D → R D} {sa sb : Bool} {qa qb : List D → Option PL} {s1 : Stmt} {ss : List Stmt} {m : MS} {Dn : Ends}
def bOnly (ms : List BM) (t : Nat) : Bool := (List.range ms.length).all fun i => decide (ms[i]? = some .al → i = t)
/-- y = a place: y is lent what stands there -/
def mAli (t : Nat) (q : List D → Option PL) (n : Nat → Pth → MS) : MS := fun st => match q st with
  | some (.pth r p) => if r ≠ t then n r p (st.set t .un) else .stuck
  | _ => .stuck
end
end PV

namespace PV
open PySem L2
/-! ### for x in xs, x being changed: the list's slot is hidden from the body, x is lent the item -/
def bNhd (ms : List BM) (i : Nat) : Bool := match ms[i]? with
  | some .hd => false
  | _ => true
def seqN (l : Bool) : D → Option Nat
  | .nd (.lst _) xs => if l = true then some xs.length else none
  | .nd .tup xs => if l = true then none else some xs.length
  | _ => none
/-- a target lent an item -/
abbrev MGA := D → Nat → List D → Option (List D)
def trGA (C : Cc) (ms : List BM) (sub : Pth) (g : MGA) : TG := fun v σ H Q => ∃ st ds vs r p d, SX C st ds σ vs H ∧ ds.length = vs.length ∧ HPs H σ r p v ∧ getS st r p = some d ∧ match g d r st with
  | some st' => ∀ σ' H', SX C st' ds σ' vs H' → Lnk ms r (p ++ sub) σ' H' → Q σ' H'
  | none => False
def VGA (X : Cx) (C : Cc) (ms : List BM) (t : Expr) (sub : Pth) (g : MGA) : Prop := PG X t (trGA C ms sub g)
def gaNm (t : Nat) : MGA := fun _ r st => if r ≠ t ∧ t < st.length then some (st.set t .un) else none
/-- s, t = the item's two parts, the latter lent -/
def gaPr (s t : Nat) : MGA := fun d r st => match d with
  | .nd .tup [d0, _] => match vOf d0 with
    | some _ => if r ≠ t ∧ r ≠ s ∧ t < st.length ∧ s < st.length then some ((st.set s d0).set t .un) else none
    | none => none
  | _ => none
def okA (l : Bool) (r n : Nat) (st : List D) : Bool := decide ((st[r]?).bind (seqN l) = some n)
def forA (l : Bool) (r n : Nat) (sub : Pth) (g : MGA) (m : Nat → Pth → MS) : Nat → Nat → MS
  | 0, _, st => if okA l r n st = true then .nx st else .stuck
  | c + 1, j, st => if okA l r n st = true then match getS st r [j] with
    | some x => match g x r st with
      | some st1 => match m r (j :: sub) st1 with
        | .nx st2 => forA l r n sub g m c (j + 1) st2
        | .ct st2 => forA l r n sub g m c (j + 1) st2
        | .bk st2 => .nx st2
        | .rt d st2 => .rt d st2
        | .ex e st2 => .ex e st2
        | .stuck => .stuck
      | none => .stuck
    | none => .stuck
  else .stuck
def mForA (l : Bool) (ms : List BM) (q : List D → Option PL) (sub : Pth) (g : MGA) (m : Nat → Pth → MS) : MS := fun st => match q st with
  | some (.pth r []) => if bHdAt ms r = true then match (st[r]?).bind (seqN l) with
    | some n => forA l r n sub g m n 0 st
    | none => .stuck
  else .stuck
  | _ => .stuck
def trGAe (C : Cc) (ms : List BM) (sub : Pth) (g : MGA) : TG := fun v σ H Q => ∃ fx, (∀ i, bNhd ms i = true → fx i = C.fx i) ∧ trGA ⟨C.K, C.CA, C.H0, C.os0, C.B, C.W, fx, C.n⟩ ms sub g v σ H Q
def trLke (C : Cc) (ms : List BM) (n : Nat → Pth → MS) : TS := fun D σ H => ∃ fx, (∀ i, bNhd ms i = true → fx i = C.fx i) ∧ trLk ⟨C.K, C.CA, C.H0, C.os0, C.B, C.W, fx, C.n⟩ ms n D σ H
section
variable {X : Cx} {C : Cc} {st ds : List D} {σ : L2.St} {vs : List V} {H H' : Hp} {a b e o tg : Expr} {pos spos py : Pos} {qa qb : List D → Option PL} {s1 : Stmt} {ss : List Stmt} {m : MS} {Dn : Ends} {ms : List BM}
theorem HPt.snocA {H : Hp} : ∀ {p : Pth} {v u w : V} {a : Addr} {o : HO} {j : Nat}, HPt H v p u → u = .ref a → H a = some o → (hoVals o)[j]? = some w → HPt H v (p ++ [j]) w
  | [], v, u, w, a, o, j, h, hu, ho, hw => ⟨a, o, w, by have h : v = u := h; rw [h]; exact hu, ho, hw, rfl⟩
  | i :: p, v, u, w, a, o, j, ⟨a', o', w', e', ho', hw', h⟩, hu, ho, hw => ⟨a', o', w', e', ho', hw', HPt.snocA h hu ho hw⟩
theorem HPs.snocA {r : Nat} {p : Pth} {w : V} {a : Addr} {o : HO} {j : Nat} (h : HPs H σ r p (.ref a)) (ho : H a = some o) (hw : (hoVals o)[j]? = some w) : HPs H σ r (p ++ [j]) w := by
  obtain ⟨v, e, h⟩ := h
  exact ⟨v, e, HPt.snocA h rfl ho hw⟩
theorem SX.pin {r : Nat} {v : V} (s : SX C st ds σ vs H) (h : σ[r]? = some (some v)) : SX ⟨C.K, C.CA, C.H0, C.os0, C.B, C.W, fun i => if i = r then some v else C.fx i, C.n⟩ st ds σ vs H := by
  obtain ⟨Z, os, s⟩ := s
  refine ⟨Z, os, s.rp, s.nd, s.ln, s.sl, s.kp, s.fr, s.al, s.bb, fun i w hi => ?_, s.fx.2⟩
  have hi : (if i = r then some v else C.fx i) = some w := hi
  by_cases q : i = r
  · subst q; rw [if_pos rfl] at hi; cases hi; exact h
  · rw [if_neg q] at hi; exact s.fx.1 i w hi
theorem SX.unpin {r : Nat} {v : V} (hr : C.fx r = none ∨ C.fx r = some v) (s : SX ⟨C.K, C.CA, C.H0, C.os0, C.B, C.W, fun i => if i = r then some v else C.fx i, C.n⟩ st ds σ vs H) : SX C st ds σ vs H ∧ σ[r]? = some (some v) := by
  obtain ⟨Z, os, s⟩ := s
  refine ⟨⟨Z, os, s.rp, s.nd, s.ln, s.sl, s.kp, s.fr, s.al, s.bb, fun i w hi => ?_, s.fx.2⟩, s.fx.1 r v (by simp)⟩
  by_cases q : i = r
  · subst q
    rcases hr with hr | hr
    · rw [hr] at hi; cases hi
    · rw [hr] at hi; cases hi; exact s.fx.1 i v (by simp)
  · exact s.fx.1 i w (by show (if i = r then some v else C.fx i) = some w; rw [if_neg q]; exact hi)
theorem rZ.pin {r : Nat} {v : V} (hr : C.fx r = none ∨ C.fx r = some v) : ∀ {rs : RS}, rZ C ds vs Dn rs → rZ ⟨C.K, C.CA, C.H0, C.os0, C.B, C.W, fun i => if i = r then some v else C.fx i, C.n⟩ ds vs Dn rs
  | .nx _, h => fun σ' H' s => h σ' H' (s.unpin hr).1
  | .bk _, h => fun σ' H' s => h σ' H' (s.unpin hr).1
  | .ct _, h => fun σ' H' s => h σ' H' (s.unpin hr).1
  | .rt _ _, h => fun v σ' H' s => h v σ' H' (s.unpin hr).1
  | .ex _ _, h => fun σ' cls dx us H' s k => h σ' cls dx us H' (s.unpin hr).1 k
  | .stuck, h => h
end
end PV

namespace PV
open PySem L2 PySem.Spec
/-! ### xs.count(y), xs.index(y), lists of flat things -/
def rCntF (K : PySem.W.Frag) : V → List V → Hp → VK → Prop := fun x xs H Q => ∃ (a : Addr) (ys : List V) (y : V), x = V.ref a ∧ xs = [y] ∧ SqL K H a ys ∧ flatV y = true ∧ ys.all flatV = true ∧ Q (.int (ys.countP fun z => eqV z y : Nat)) H
theorem countU {y : V} : ∀ {ys : List V} {us : List Value}, Vals ys us → ys.all flatV = true → us.countP (eqU y) = ys.countP fun z => eqV z y
  | _, _, .nil, _ => rfl
  | z :: ys, u :: us, .cons r t, f => by
    rw [List.all_cons, Bool.and_eq_true] at f
    rw [List.countP_cons, List.countP_cons, countU t f.2, eqU_of r f.1]
theorem mt_lcountF {X : Cx} : MtR X "list.count" (rCntF X.K) := by
  intro pins s σ H x xs v us Q I rx rxs h
  obtain ⟨a, ys, y, rfl, rfl, hs, fy, fys, q⟩ := h
  cases rx
  cases rxs with
  | cons ry rt =>
    rename_i uy ut
    cases rt
    obtain ⟨its, rv, ⟨⟨cls, dd, data, sl⟩, n, ho, hc, hdn, hd⟩, hlen⟩ := I.list hs
    simp only at hc hd
    subst hc hd
    refine call_meets PySem.F.slot_list_count ⟨_, ho, rfl⟩ PySem.F.entry_list_count (PySem.F.args_list_count_2 _ _)
      (SeqAt.list_countAt a its.toArray n dd sl uy (eqU y)) ⟨ho, fun u' hu' => mem_eqAt ry fy rv fys u' (by simpa using hu'), ?_⟩
    have ec : its.toArray.toList.countP (eqU y) = ys.countP fun z => eqV z y := countU rv fys
    refine ⟨.int (ys.countP fun z => eqV z y : Nat), H, I.tok _, ⟨s.toks, ?_⟩, q⟩
    show Value.int ((its.toArray.toList.countP (eqU y) : Nat) : Int) s.toks = Value.int ((ys.countP fun z => eqV z y : Nat) : Int) s.toks
    rw [ec]
def cntV (w : V) (us : List V) : Option Int := some ((us.countP fun z => eqV z w : Nat) : Int)
def fstV (w : V) (us : List V) : Option Int := (us.findIdx? fun z => eqV z w).map fun n => (n : Int)
section
variable {X : Cx} {C : Cc} {st ds : List D} {σ : L2.St} {vs : List V} {H H' : Hp} {a b e o f k v tg elt : Expr} {pos p p2 apos pos' cpos : Pos} {ma mb mc : List D → R D} {sa sb sc : Bool} {ss : List Stmt} {m : MS} {qa qb qo qi qv : List D → Option PL}
def l2K (f : V → List V → Option Int) (st : List D) (y x : D) : R D := match x with
  | .nd (.lst _) xs => match vOf y, vsOf xs with
    | some w, some us => R.of (f w us) fun i => .ok (.int i) st
    | _, _ => .stuck
  | _ => .stuck
@[simp] theorem l2K_lst (f : V → List V → Option Int) (st : List D) (y : D) (g : Fl) (xs : List D) : l2K f st y (.nd (.lst g) xs) = match vOf y, vsOf xs with
    | some w, some us => R.of (f w us) fun i => .ok (.int i) st
    | _, _ => .stuck := rfl
def mL2 (f : V → List V → Option Int) (ma mb : List D → R D) : List D → R D := fun st => (ma st).bind fun x st1 => lstK x ((mb st1).bind fun y st2 => l2K f st2 y x)
@[simp] theorem mL2_eq (f : V → List V → Option Int) (ma mb : List D → R D) (st : List D) : mL2 f ma mb st = (ma st).bind fun x st1 => lstK x ((mb st1).bind fun y st2 => l2K f st2 y x) := rfl
theorem l2_red {f : V → List V → Option Int} {r : V → List V → Hp → VK → Prop} (hr : ∀ (A : Addr) (ys : List V) (y : V) (i : Int) (H : Hp) (Q : VK), H A = some (.lst ys) → flatV y = true → ys.all flatV = true → f y ys = some i → Q (.int i) H → r (.ref A) [y] H Q) :
    ∀ σ H Q, trE C false (mL2 f ma mb) σ H Q → tBM X.K "list" r (trE C sa ma) (tCons (trE C sb mb) tNil) σ H Q := by
  rintro σ H Q ⟨st, ds, vs, s, hl, h⟩
  have h : rE C false ds vs σ H Q ((ma st).bind fun x st1 => lstK x ((mb st1).bind fun y st2 => l2K f st2 y x)) := h
  refine ⟨st, ds, vs, s, hl, ?_⟩
  cases q1 : ma st with
  | stuck => rw [q1] at h; exact h.elim
  | ex x st' => rw [q1] at h; exact h
  | ok x st1 =>
    rw [q1] at h
    simp only [R.bind_ok] at h
    intro v H1 sm1 s1
    have hx : ∃ f xs, x = .nd (.lst f) xs := by
      match x, h with
      | .nd (.lst f) xs, _ => exact ⟨f, xs, rfl⟩
      | .nd .tup _, h => exact h.elim
      | .nd (.dct _ _) _, h => exact h.elim
      | .nd (.ins _ _ _) _, h => exact h.elim
      | .un, h => exact h.elim
      | .non, h => exact h.elim
      | .bl _, h => exact h.elim
      | .int _, h => exact h.elim
      | .str _, h => exact h.elim
      | .scr _, h => exact h.elim
    obtain ⟨g, xs, rfl⟩ := hx
    have h : rE C false ds vs σ H Q ((mb st1).bind fun y st2 => l2K f st2 y (.nd (.lst g) xs)) := h
    obtain ⟨a', ws, Z, os, rfl, hk, rl⟩ := s1.ndTop
    have hk1 : H1 a' = some (.lst ws) := hk
    refine ⟨.inl ⟨rfl, _, SqL.of hk1⟩, st1, ds ++ [.nd (.lst g) xs], vs ++ [.ref a'], s1, by simp [hl], ?_⟩
    cases q2 : mb st1 with
    | stuck => rw [q2] at h; exact h.elim
    | ex z st' => rw [q2] at h; exact (show rX C ds vs σ z st' from h).up hl rfl
    | ok y st2 =>
      rw [q2] at h
      intro v2 H2 sm2 s2
      obtain ⟨a2, ws2, Z2, os2, e2, hn2, rl2⟩ := s2.pop.ndTop
      cases e2
      have hn3 : H2 a' = some (.lst ws2) := hn2
      have h : rE C false ds vs σ H Q (match vOf y, vsOf xs with
        | some w, some us => R.of (f w us) fun i => .ok (.int i) st2
        | _, _ => .stuck) := h
      cases q3 : vOf y with
      | none => rw [q3] at h; exact h.elim
      | some w =>
        cases q4 : vsOf xs with
        | none => rw [q3, q4] at h; exact h.elim
        | some us =>
          rw [q3, q4] at h
          simp only at h
          obtain ⟨rfl, fl⟩ := rp_vs rl2 q4
          obtain rfl := s2.scTop q3
          cases q5 : f v2 ws2 with
          | none => rw [q5] at h; exact h.elim
          | some i =>
            rw [q5] at h
            exact hr a' ws2 v2 i H2 Q hn3 (flat_of q3) fl q5 (h _ _ (fun z => nomatch z) (s2.pop.pop.pushc rfl))
theorem ve_lcount (ha : VE X C sa o ma) (hb : VE X C sb e mb)
    (hbase : attributeBase o "count" X.env (eval o X.env) = eval o X.env := by rfl)
    (hfew : ((backTo pos (starEach [e] X.env)).all (fun x => !x.1) && (backToKw pos (keywordEach [] X.env)).all (fun x => x.1.isSome)
      && decide ([e].length + ([] : List Keyword).length + (if ([] : List Keyword).isEmpty then 0 else 1) < 30)) = true := by rfl)
    (hline : (apos.endLine == pos.line) = true := by rfl) (hs : starEach [e] X.env = (false, eval e X.env) :: starEach [] X.env := by rfl) (hplain : (backTo pos (starEach [] X.env)).any (·.1) = false := by rfl) :
    VE X C false (.Call (.Attribute o "count" apos) [e] [] pos) (mL2 cntV ma mb) :=
  (pe_bm PySem.F.plainAttrs_list PySem.F.slot_list_count PySem.F.type_list_count mt_lcountF ha (pa_cons hb pa_nil hs) hbase hfew hline hs hplain).impV (l2_red fun A ys y i H Q hA fy fys hi q => ⟨A, ys, y, rfl, rfl, SqL.of hA, fy, fys, by cases hi; exact q⟩)
theorem ve_lindex (ha : VE X C sa o ma) (hb : VE X C sb e mb)
    (hbase : attributeBase o "index" X.env (eval o X.env) = eval o X.env := by rfl)
    (hfew : ((backTo pos (starEach [e] X.env)).all (fun x => !x.1) && (backToKw pos (keywordEach [] X.env)).all (fun x => x.1.isSome)
      && decide ([e].length + ([] : List Keyword).length + (if ([] : List Keyword).isEmpty then 0 else 1) < 30)) = true := by rfl)
    (hline : (apos.endLine == pos.line) = true := by rfl) (hs : starEach [e] X.env = (false, eval e X.env) :: starEach [] X.env := by rfl) (hplain : (backTo pos (starEach [] X.env)).any (·.1) = false := by rfl) :
    VE X C false (.Call (.Attribute o "index" apos) [e] [] pos) (mL2 fstV ma mb) :=
  (pe_bm PySem.F.plainAttrs_list PySem.F.slot_list_index PySem.F.type_list_index mt_index ha (pa_cons hb pa_nil hs) hbase hfew hline hs hplain).impV (l2_red fun A ys y i H Q hA fy fys hi q => by
    unfold fstV at hi
    cases e : ys.findIdx? fun z => eqV z y with
    | none => rw [e] at hi; cases hi
    | some j =>
      rw [e] at hi
      cases hi
      obtain ⟨hj, h1, h2⟩ := List.findIdx?_eq_some_iff_getElem.mp e
      refine ⟨A, ys, y, j, ys[j], rfl, rfl, SqL.of hA, fy, fys, by simp [hj], h1, fun m z hm hz => ?_, q⟩
      have := h2 m hm
      have hml : m < ys.length := by omega
      rw [List.getElem?_eq_getElem hml] at hz
      cases hz
      simpa using this)
end
end PV

namespace PV
open PySem L2
section
variable {X : Cx} {C : Cc} {st ds : List D} {σ : L2.St} {vs : List V} {H H' : Hp} {a b e o : Expr} {pos : Pos} {ma mb : List D → R D} {sa sb : Bool}
/-! ### (a, ..) + a tuple, it may be empty -/
def addTK (x y : D) (st : List D) : R D := match x, y with
  | .nd .tup xs, .nd .tup ys => chk (xs.length + ys.length ≤ sizeLine ∧ xs ≠ []) (.ok (.nd .tup (xs ++ ys)) st)
  | _, _ => .stuck
@[simp] theorem addTK_tup (xs ys st : List D) : addTK (.nd .tup xs) (.nd .tup ys) st = chk (xs.length + ys.length ≤ sizeLine ∧ xs ≠ []) (.ok (.nd .tup (xs ++ ys)) st) := rfl
def mAddT (ma mb : List D → R D) : List D → R D := fun st => (ma st).bind fun x st1 => (mb st1).bind fun y st2 => addTK x y st2
@[simp] theorem mAddT_eq (ma mb : List D → R D) (st : List D) : mAddT ma mb st = (ma st).bind fun x st1 => (mb st1).bind fun y st2 => addTK x y st2 := rfl
theorem addTK_of {x y : D} {sm : Bool} {Q : VK} (h : rE C sm ds vs σ H Q (addTK x y st)) : ∃ xs ys, x = .nd .tup xs ∧ y = .nd .tup ys ∧ (xs.length + ys.length ≤ sizeLine ∧ xs ≠ []) ∧ rE C sm ds vs σ H Q (.ok (.nd .tup (xs ++ ys)) st) := by
  unfold addTK at h
  split at h
  · rename_i xs ys
    obtain ⟨h1, h2⟩ := rE_chk h
    exact ⟨xs, ys, rfl, rfl, h1, h2⟩
  · exact h.elim
theorem ve_addT (O : COk X C) (ha : VE X C sa a ma) (hb : VE X C sb b mb) : VE X C (sa && sb) (.BinOp a .Add b pos) (mAddT ma mb) := by
  refine (pe_op op_catT ha hb).impV ?_
  rintro σ H Q ⟨st, ds, vs, s, hl, h⟩
  refine seq2 (sm := sa && sb) s hl h fun x y st2 v u H2 sm s2 h2 => ?_
  obtain ⟨xs, ys, rfl, rfl, hz, h2⟩ := addTK_of h2
  obtain ⟨b', zs, rfl, hn2, hl2, s3⟩ := s2.open
  have s4 := s2.pop
  obtain ⟨a', ws, rfl, hn1, hl1, _⟩ := s4.open
  have s5 : SX C st2 (ds ++ (xs ++ ys)) σ (vs ++ (ws ++ zs)) H2 := by
    obtain ⟨Z, os, t⟩ := id s3
    obtain ⟨o1, o2, r1, r2, e⟩ := t.cut
    obtain ⟨o3, o4, r3, r4, e'⟩ := RpL.cut (by simp [hl]) r2
    obtain ⟨o5, o6, r5, r6, e6⟩ := RpL.cut hl r3
    obtain ⟨ox, rx, lx⟩ := r6.of1.kids (ws := ws) hn1
    exact (t.mk2 (os' := fun b => o1 b + (o5 b + (ox b + o4 b))) (o2 := fun b => o5 b + (ox b + o4 b)) r1 (r5.app (o2 := fun b => ox b + o4 b) (rx.app r4 fun _ => rfl) fun _ => rfl) (fun _ => rfl) (fun b => by rw [e, e', e6]; have := lx b; (try dsimp only); omega) t.sl).sx
  have hx : ws ≠ [] := by intro z; subst z; exact hz.2 (List.length_eq_zero_iff.mp (by simpa using hl1))
  refine ⟨a', b', ws, zs, rfl, rfl, SqT.of hn1, SqT.of hn2, hx, by rw [← hl1, ← hl2]; exact hz.1, fun z => ?_, fun _ q hq => h2 _ _ (fun z => (sm z).trans (same_new hq)) (s5.alloc hl hq (show (upd H2 q (.tup (ws ++ zs))) q = some (.tup (ws ++ zs)) from upd_same) (.inl rfl))⟩
  subst z
  have hy : ys = [] := List.length_eq_zero_iff.mp (by simpa using hl2)
  subst hy
  rw [List.append_nil] at h2
  exact h2 _ _ sm s4
end
end PV

namespace PV
open PySem L2
section
variable {X : Cx} {C : Cc} {st ds : List D} {σ : L2.St} {vs : List V} {H H' : Hp} {a b : Expr} {pos p2 : Pos}
/-! ### a slice whose beginning is worked out -/
def slFK (x y : D) (st : List D) : R D := match x, y with
  | .str z, .int u => chk (z.length ≤ sizeLine) (.ok (.str (cutS z (some u) none)) st)
  | _, _ => .stuck
@[simp] theorem slFK_str (z : Str) (u : Int) (st : List D) : slFK (.str z) (.int u) st = chk (z.length ≤ 16777216) (.ok (.str (cutS z (some u) none)) st) := rfl
def mSlF (ma mb : List D → R D) : List D → R D := fun st => (ma st).bind fun x st1 => (mb st1).bind fun y st2 => slFK x y st2
@[simp] theorem mSlF_eq (ma mb : List D → R D) (st : List D) : mSlF ma mb st = (ma st).bind fun x st1 => (mb st1).bind fun y st2 => slFK x y st2 := rfl
theorem slFK_of {x y : D} {sm : Bool} {Q : VK} (h : rE C sm ds vs σ H Q (slFK x y st)) : ∃ z i, x = .str z ∧ y = .int i ∧ z.length ≤ sizeLine ∧ rE C sm ds vs σ H Q (.ok (.str (cutS z (some i) none)) st) := by
  unfold slFK at h
  split at h
  · obtain ⟨h1, h2⟩ := rE_chk h
    exact ⟨_, _, rfl, rfl, h1, h2⟩
  · exact h.elim
theorem ve_slF {ma mb : List D → R D} {sa sb : Bool} (O : COk X C) (ha : VE X C sa a ma) (hb : VE X C sb b mb) : VE X C (sa && sb) (.Subscript a (.Slice (some b) none none p2) pos) (mSlF ma mb) := by
  refine (pe_slice sl_str ha (po_some hb) po_none).impV ?_
  rintro σ H Q ⟨st, ds, vs, s, hl, h⟩
  refine seq2 (sm := sa && sb) s hl h fun x y st2 v u H2 sm s2 h2 => ?_
  obtain ⟨z, i, rfl, rfl, hz, h2⟩ := slFK_of h2
  have eu : u = .int i := s2.scTop rfl
  subst eu
  have ev : v = .str z := s2.pop.scTop rfl
  subst ev
  exact ⟨i, rfl, z, rfl, hz, h2 _ _ sm (s2.pop.pop.pushc rfl)⟩
def slGK (x y : D) (st : List D) : R D := match x, y with
  | .nd (.lst _) xs, .int u => .ok (.nd (.lst .own) (cutL xs (some u) none)) st
  | _, _ => .stuck
@[simp] theorem slGK_lst (f : Fl) (xs : List D) (u : Int) (st : List D) : slGK (.nd (.lst f) xs) (.int u) st = .ok (.nd (.lst .own) (cutL xs (some u) none)) st := rfl
def mSlG (ma mb : List D → R D) : List D → R D := fun st => (ma st).bind fun x st1 => (mb st1).bind fun y st2 => slGK x y st2
@[simp] theorem mSlG_eq (ma mb : List D → R D) (st : List D) : mSlG ma mb st = (ma st).bind fun x st1 => (mb st1).bind fun y st2 => slGK x y st2 := rfl
theorem slGK_of {x y : D} {sm : Bool} {Q : VK} (h : rE C sm ds vs σ H Q (slGK x y st)) : ∃ f xs i, x = .nd (.lst f) xs ∧ y = .int i ∧ rE C sm ds vs σ H Q (.ok (.nd (.lst .own) (cutL xs (some i) none)) st) := by
  unfold slGK at h
  split at h
  · exact ⟨_, _, _, rfl, rfl, h⟩
  · exact h.elim
theorem ve_slG {ma mb : List D → R D} {sa sb : Bool} (O : COk X C) (ha : VE X C sa a ma) (hb : VE X C sb b mb) : VE X C (sa && sb) (.Subscript a (.Slice (some b) none none p2) pos) (mSlG ma mb) := by
  refine (pe_slice sl_list ha (po_some hb) po_none).impV ?_
  rintro σ H Q ⟨st, ds, vs, s, hl, h⟩
  refine seq2 (sm := sa && sb) s hl h fun x y st2 v u H2 sm s2 h2 => ?_
  obtain ⟨f, xs, i, rfl, rfl, h2⟩ := slGK_of h2
  have eu : u = .int i := s2.scTop rfl
  subst eu
  obtain ⟨a', ws, rfl, hk, hlen, s3⟩ := s2.pop.open
  have hk' : H2 a' = some (.lst ws) := hk
  refine ⟨i, rfl, a', ws, rfl, SqL.of hk', fun q hq => h2 _ _ (fun z => (sm z).trans (same_new hq)) ?_⟩
  exact (s3.thin hl (xs' := cutL xs (some i) none) (ws' := cutV ws (some i) none) fun G o r => r.cutL (some i) none).alloc hl hq (show (upd H2 q (.lst (cutV ws (some i) none))) q = some (.lst (cutV ws (some i) none)) from upd_same) (.inr rfl)
end
end PV

namespace Law
open PySem L2 PV
/-- the class cells -/
def CAo (mg : Str → Option Value) : Str → Option Addr := fun c => match mg c with
  | some (.ref a) => some a
  | _ => none
structure DefX (K : PySem.W.Frag) (mg : Str → Option Value) (x nm : Str) (sd : Stmt) (ps : List Str) (f : Addr) (fd : FuncData) : Prop where
  F : L2.Fun K nm nm sd f fd
  mg : mg x = some (.ref f)
  kp : PySem.W.keepIn K (.ref f) = true
  b : Binds K fd ps []
structure DefM (K : PySem.W.Frag) (x qual : Str) (sd : Stmt) (ps : List Str) (f : Addr) (fd : FuncData) : Prop where
  F : L2.Fun K x qual sd f fd
  b : Binds K fd ps []
def hiT : List (Str × Str × Bool) := [("NoDeed", "InkError", true), ("NoDeed", "NoDeed", true)]
abbrev hiL : Str → Str → Option Bool := hiOf hiT
@[simp] theorem hi_NoDeed_NoDeed : hiOf hiT "NoDeed" "NoDeed" = some true := by decide +kernel
@[simp] theorem hi_NoDeed_InkError : hiOf hiT "NoDeed" "InkError" = some true := by decide +kernel
structure AX where
  f__law_src : Addr
  d__law_src : FuncData
  f__law_next : Addr
  d__law_next : FuncData
  f__law_stretches : Addr
  d__law_stretches : FuncData
  f__law_line_of : Addr
  d__law_line_of : FuncData
  f__law_number : Addr
  d__law_number : FuncData
  f__law_plain_deed : Addr
  d__law_plain_deed : FuncData
  f__law_sign : Addr
  d__law_sign : FuncData
  f__law_text : Addr
  d__law_text : FuncData
  f__law_ink_by : Addr
  d__law_ink_by : FuncData
  f__law_deed_by : Addr
  d__law_deed_by : FuncData
  f__law_odd : Addr
  d__law_odd : FuncData
  f__law_spoilt : Addr
  d__law_spoilt : FuncData
  f__law_line_by : Addr
  d__law_line_by : FuncData
  f__law_whole : Addr
  d__law_whole : FuncData
  f__law_same : Addr
  d__law_same : FuncData
  f__law_reads : Addr
  d__law_reads : FuncData
  f__law_due_pour : Addr
  d__law_due_pour : FuncData
  f__law_words_row : Addr
  d__law_words_row : FuncData
  f__law_due_tie : Addr
  d__law_due_tie : FuncData
  f__law_due : Addr
  d__law_due : FuncData
  f_number_of : Addr
  d_number_of : FuncData
  f_read_pour : Addr
  d_read_pour : FuncData
  f_numbers_of : Addr
  d_numbers_of : FuncData
  f_stretch_of : Addr
  d_stretch_of : FuncData
  f_row_of : Addr
  d_row_of : FuncData
  f_read_tie : Addr
  d_read_tie : FuncData
  f_read_other : Addr
  d_read_other : FuncData
  f_read_deed : Addr
  d_read_deed : FuncData
  f__law_deed_or_none : Addr
  d__law_deed_or_none : FuncData
  f_law : Addr
  d_law : FuncData
structure TX (K : PySem.W.Frag) (mg : Str → Option Value) (w : World) (a : AX) : Prop where
  x__law_src : DefX K mg "_law_src" "_law_src" (top 15) ["_law_script"] a.f__law_src a.d__law_src
  x__law_next : DefX K mg "_law_next" "_law_next" (top 16) ["_law_src_here", "_law_base"] a.f__law_next a.d__law_next
  x__law_stretches : DefX K mg "_law_stretches" "_law_stretches" (top 25) ["_law_row"] a.f__law_stretches a.d__law_stretches
  x__law_line_of : DefX K mg "_law_line_of" "_law_line_of" (top 26) ["_law_deed"] a.f__law_line_of a.d__law_line_of
  x__law_number : DefX K mg "_law_number" "_law_number" (top 21) ["_law_src_here"] a.f__law_number a.d__law_number
  x__law_plain_deed : DefX K mg "_law_plain_deed" "_law_plain_deed" (top 23) ["_law_src_here", "_law_way"] a.f__law_plain_deed a.d__law_plain_deed
  x__law_sign : DefX K mg "_law_sign" "_law_sign" (top 19) ["_law_src_here", "_law_few"] a.f__law_sign a.d__law_sign
  x__law_text : DefX K mg "_law_text" "_law_text" (top 20) ["_law_src_here", "_law_many"] a.f__law_text a.d__law_text
  x__law_ink_by : DefX K mg "_law_ink_by" "_law_ink_by" (top 22) ["_law_src_here"] a.f__law_ink_by a.d__law_ink_by
  x__law_deed_by : DefX K mg "_law_deed_by" "_law_deed_by" (top 24) ["_law_src_here"] a.f__law_deed_by a.d__law_deed_by
  x__law_odd : DefX K mg "_law_odd" "_law_odd" (top 33) ["_law_src_here"] a.f__law_odd a.d__law_odd
  x__law_spoilt : DefX K mg "_law_spoilt" "_law_spoilt" (top 28) ["_law_src_here", "_law_line"] a.f__law_spoilt a.d__law_spoilt
  x__law_line_by : DefX K mg "_law_line_by" "_law_line_by" (top 34) ["_law_src_here"] a.f__law_line_by a.d__law_line_by
  x__law_whole : DefX K mg "_law_whole" "_law_whole" (top 17) ["_law_found"] a.f__law_whole a.d__law_whole
  x__law_same : DefX K mg "_law_same" "_law_same" (top 18) ["_law_found", "_law_due_here"] a.f__law_same a.d__law_same
  x__law_reads : DefX K mg "_law_reads" "_law_reads" (top 27) ["_law_word"] a.f__law_reads a.d__law_reads
  x__law_due_pour : DefX K mg "_law_due_pour" "_law_due_pour" (top 30) ["_law_rest"] a.f__law_due_pour a.d__law_due_pour
  x__law_words_row : DefX K mg "_law_words_row" "_law_words_row" (top 29) ["_law_words"] a.f__law_words_row a.d__law_words_row
  x__law_due_tie : DefX K mg "_law_due_tie" "_law_due_tie" (top 31) ["_law_words"] a.f__law_due_tie a.d__law_due_tie
  x__law_due : DefX K mg "_law_due" "_law_due" (top 32) ["_law_line"] a.f__law_due a.d__law_due
  x_number_of : DefX K mg "number_of" "number_of" (top 6) ["word"] a.f_number_of a.d_number_of
  x_read_pour : DefX K mg "read_pour" "read_pour" (top 10) ["rest"] a.f_read_pour a.d_read_pour
  x_numbers_of : DefX K mg "numbers_of" "numbers_of" (top 7) ["words"] a.f_numbers_of a.d_numbers_of
  x_stretch_of : DefX K mg "stretch_of" "stretch_of" (top 8) ["word"] a.f_stretch_of a.d_stretch_of
  x_row_of : DefX K mg "row_of" "row_of" (top 9) ["words"] a.f_row_of a.d_row_of
  x_read_tie : DefX K mg "read_tie" "read_tie" (top 11) ["words"] a.f_read_tie a.d_read_tie
  x_read_other : DefX K mg "read_other" "read_other" (top 12) ["name", "words"] a.f_read_other a.d_read_other
  x_read_deed : DefX K mg "read_deed" "read_deed" (top 13) ["text"] a.f_read_deed a.d_read_deed
  x__law_deed_or_none : DefX K mg "_law_deed_or_none" "_law_deed_or_none" (top 35) ["_law_line", "_law_any_one"] a.f__law_deed_or_none a.d__law_deed_or_none
  x_law : DefX K mg "law" "law" (top 36) ["_law_script"] a.f_law a.d_law
  b_bool : mg "bool" = none
  b_int : mg "int" = none
  b_isinstance : mg "isinstance" = none
  b_len : mg "len" = none
  b_list : mg "list" = none
  b_range : mg "range" = none
  b_str : mg "str" = none
  b_tuple : mg "tuple" = none
  b_zip : mg "zip" = none
  k_NUMBERS : KTb K mg w "NUMBERS" tb_NUMBERS
  k_ROWED : KTb K mg w "ROWED" tb_ROWED
  e_NoDeed : ∃ a, CAo mg "NoDeed" = some a ∧ mg "NoDeed" = some (.ref a) ∧ PySem.W.excIn K a [.type "ValueError", .type "Exception", .type "BaseException", .type "object"] "ValueError.__new__" = true ∧ PySem.W.keepIn K (.ref a) = true ∧ PySem.W.subIn K (.ref a) (.type "BaseException") = some true ∧ PySem.W.typeIn K (.ref a) = some (.type "type")
  c_InkError : ∃ a, CAo mg "InkError" = some a ∧ mg "InkError" = some (.ref a)
  c_NoDeed : ∃ a, CAo mg "NoDeed" = some a ∧ mg "NoDeed" = some (.ref a)
  hier : Hier K (CAo mg) hiL
noncomputable section
variable {P : Program} {w : World} {K : PySem.W.Frag} {mg : Str → Option Value} {base : Heap} {a : AX}
/-! #### _law_src -/
abbrev N__law_src : List Str := ["_law_script"]
theorem sc__law_src : FnScope N__law_src ["_law_script"] (defScope s__law_src) := ⟨rfl, rfl, rfl, by decide +kernel, rfl, by decide +kernel, by decide +kernel⟩
def m__law_src : MS := (mSeq (mRet (mLst (mCons (mListE (mSlScr (mScr 0) oNo (oQ (qC (.int 63))))) (mCons (mQ (qC (.int 0))) (mCons (mQ (qC (.int 0))) (mCons (mQ (qC (.int 1))) mNil)))))) mSkip)
def F__law_src : Fn := runF [.bo] 1 m__law_src
theorem ok__law_src (T : TX K mg w a) : FnOk P w K mg base (L2.CX P w) 1 a.f__law_src a.d__law_src ["_law_script"] (spF K (CAo mg) 1 F__law_src) :=
  fn_ok (K := K) (mg := mg) (CA := CAo mg) (N := N__law_src) (ms := [.bo]) (m := m__law_src) T.x__law_src.F sc__law_src rfl fun cdv A outer s H E H0 os0 B fx hfx hr => (
    have O : COk (cxOf (L2.CX P w) P w K mg base _ _ (defScope s__law_src) a.f__law_src cdv A outer s H E) ⟨K, CAo mg, H0, os0, B, fun cls d _ H' => E cls d H', fx, 1⟩ := ⟨rfl, takes_of rfl rfl rfl rfl⟩
    have hu := hr.units
    ((vb_cons (vs_ret (ve_lst (vl_cons (ve_listE O (ve_slScr O (ve_scr 0) vo_no (vo_q vq_int)) (by rfl) T.b_list) (vl_cons (VQ.e vq_int) (vl_cons (VQ.e vq_int) (vl_cons (VQ.e vq_int) vl_nil)))))) vb_nil)))
/-! #### _law_next -/
abbrev N__law_next : List Str := ["_law_src_here", "_law_base", "_law_cell", "_law_digit"]
theorem sc__law_next : FnScope N__law_next ["_law_src_here", "_law_base"] (defScope s__law_next) := ⟨rfl, rfl, rfl, by decide +kernel, rfl, by decide +kernel, by decide +kernel⟩
def m__law_next : MS := (mSeq (mIf (mTQ (qOp gLe (qIx (qV 0) (qC (.int 2))) (qC (.int 1)))) (mSeq (mAsg (mQ (qC (.int 7))) (gNm 2)) (mSeq (mIf (mTQ (qOp gLt (qIx (qV 0) (qC (.int 1))) (qLen (qIx (qV 0) (qC (.int 0)))))) (mSeq (mAsg (mQ (qIx (qIx (qV 0) (qC (.int 0))) (qIx (qV 0) (qC (.int 1))))) (gNm 2)) (mSeq (mAsg (mQ (qOp gAdd (qIx (qV 0) (qC (.int 1))) (qC (.int 1)))) (gIx (qV 0) (qC (.int 1)))) mSkip)) mSkip) (mSeq (mAsg (mQ (qOp gMod (qOp gAdd (qOp gAdd (qOp gMul (qIx (qV 0) (qC (.int 3))) (qC (.int 48271))) (qOp gMod (qV 2) (qC (.int 998244353)))) (qC (.int 1))) (qC (.int 2147483647)))) (gIx (qV 0) (qC (.int 3)))) (mSeq (mIf (mTQ (qOp gGe (qV 2) (qOp gPow (qC (.int 10)) (qC (.int 18))))) (mSeq (mAsg (mQ (qV 2)) (gIx (qV 0) (qC (.int 2)))) mSkip) mSkip) mSkip)))) mSkip) (mSeq (mIf (mTQ (qOp gGt (qIx (qV 0) (qC (.int 2))) (qC (.int 1)))) (mSeq (mAsg (mQ (qOp gMod (qIx (qV 0) (qC (.int 2))) (qV 1))) (gNm 3)) (mSeq (mAsg (mQ (qOp gDiv (qIx (qV 0) (qC (.int 2))) (qV 1))) (gIx (qV 0) (qC (.int 2)))) (mSeq (mRet (mMove 3)) mSkip))) mSkip) (mSeq (mRet (mQ (qOp gMod (qOp gDiv (qOp gMod (qOp gMul (qIx (qV 0) (qC (.int 3))) (qC (.int 40692))) (qC (.int 2147483399))) (qC (.int 3))) (qV 1)))) mSkip)))
def F__law_next : Fn := runF [.io, .bo] 4 m__law_next
theorem ok__law_next (T : TX K mg w a) : FnOk P w K mg base (L2.CX P w) 1 a.f__law_next a.d__law_next ["_law_src_here", "_law_base"] (spF K (CAo mg) 2 F__law_next) :=
  fn_ok (K := K) (mg := mg) (CA := CAo mg) (N := N__law_next) (ms := [.io, .bo]) (m := m__law_next) T.x__law_next.F sc__law_next rfl fun cdv A outer s H E H0 os0 B fx hfx hr => (
    have O : COk (cxOf (L2.CX P w) P w K mg base _ _ (defScope s__law_next) a.f__law_next cdv A outer s H E) ⟨K, CAo mg, H0, os0, B, fun cls d _ H' => E cls d H', fx, 4⟩ := ⟨rfl, takes_of rfl rfl rfl rfl⟩
    have hu := hr.units
    ((vb_cons (vs_if (VQ.tc (vq_le (vq_ix O (vq_v 0) vq_int) vq_int)) (vb_cons (vs_set (i := 2) sc__law_next.nd (VQ.e vq_int) (hfx 2 rfl)) (vb_cons (vs_if (VQ.tc (vq_lt (vq_ix O (vq_v 0) vq_int) (vq_len O (vq_ix O (vq_v 0) vq_int) (by rfl) T.b_len))) (vb_cons (vs_set (i := 2) sc__law_next.nd (VQ.e (vq_ix O (vq_ix O (vq_v 0) vq_int) (vq_ix O (vq_v 0) vq_int))) (hfx 2 rfl)) (vb_cons (vs_asg (VQ.e (vq_add (vq_ix O (vq_v 0) vq_int) vq_int)) (vg_ix (vq_v 0) vq_int)) vb_nil)) vb_nil) (vb_cons (vs_asg (VQ.e (vq_mod (vq_add (vq_add (vq_mul (vq_ix O (vq_v 0) vq_int) vq_int) (vq_mod (vq_v 2) vq_int)) vq_int) vq_int)) (vg_ix (vq_v 0) vq_int)) (vb_cons (vs_if (VQ.tc (vq_ge (vq_v 2) (vq_pow vq_int vq_int))) (vb_cons (vs_asg (VQ.e (vq_v 2)) (vg_ix (vq_v 0) vq_int)) vb_nil) vb_nil) vb_nil)))) vb_nil) (vb_cons (vs_if (VQ.tc (vq_gt (vq_ix O (vq_v 0) vq_int) vq_int)) (vb_cons (vs_set (i := 3) sc__law_next.nd (VQ.e (vq_mod (vq_ix O (vq_v 0) vq_int) (vq_v 1))) (hfx 3 rfl)) (vb_cons (vs_asg (VQ.e (vq_div (vq_ix O (vq_v 0) vq_int) (vq_v 1))) (vg_ix (vq_v 0) vq_int)) (vb_cons (vs_ret (ve_move 3)) vb_nil))) vb_nil) (vb_cons (vs_ret (VQ.e (vq_mod (vq_div (vq_mod (vq_mul (vq_ix O (vq_v 0) vq_int) vq_int) vq_int) vq_int) (vq_v 1)))) vb_nil)))))
/-! #### _law_stretches -/
abbrev N__law_stretches : List Str := ["_law_row", "_law_start", "_law_stop"]
theorem sc__law_stretches : FnScope N__law_stretches ["_law_row"] (defScope s__law_stretches) := ⟨rfl, rfl, rfl, by decide +kernel, rfl, by decide +kernel, by decide +kernel⟩
def lg__law_stretches_1 : MG := (gTu 2 (gC1 (gNm 1) (gC1 (gNm 2) gN0)))
def lt__law_stretches_1 : List D → R Bool := mYes
def le__law_stretches_1 : List D → R D := (mAdd (mAdd (mAdd (mQ (qC (.str " "))) (mStrI (mQ (qV 1)))) (mQ (qC (.str "-")))) (mStrI (mQ (qV 2))))
def m__law_stretches : MS := (mSeq (mRet (mJoin (mQ (qC (.str ""))) (mLcL (mQ (qV 0)) [1, 2] lg__law_stretches_1 lt__law_stretches_1 le__law_stretches_1))) mSkip)
def F__law_stretches : Fn := runF [.bo] 3 m__law_stretches
theorem ok__law_stretches (T : TX K mg w a) : FnOk P w K mg base (L2.CX P w) 1 a.f__law_stretches a.d__law_stretches ["_law_row"] (spF K (CAo mg) 1 F__law_stretches) :=
  fn_ok (K := K) (mg := mg) (CA := CAo mg) (N := N__law_stretches) (ms := [.bo]) (m := m__law_stretches) T.x__law_stretches.F sc__law_stretches rfl fun cdv A outer s H E H0 os0 B fx hfx hr => (
    have O : COk (cxOf (L2.CX P w) P w K mg base _ _ (defScope s__law_stretches) a.f__law_stretches cdv A outer s H E) ⟨K, CAo mg, H0, os0, B, fun cls d _ H' => E cls d H', fx, 3⟩ := ⟨rfl, takes_of rfl rfl rfl rfl⟩
    have hu := hr.units
    ((vb_cons (vs_ret (ve_join (VQ.e vq_str) (ve_lcL (own := [("_law_start", 1), ("_law_stop", 2)]) (g := lg__law_stretches_1) (mt := lt__law_stretches_1) (se := true) (me := le__law_stretches_1) O rfl sc__law_stretches.nd (fxs_cons (hfx 1 rfl) (fxs_cons (hfx 2 rfl) fxs_nil)) (VQ.e (vq_v 0)) ⟨blkC_by (Nn := N__law_stretches) (scn := defScope s__law_stretches) rfl rfl (by decide +kernel), fun _ _ _ _ _ O => (vgo_tup O rfl (vgso_cons (vgo_name (i := 1) sc__law_stretches.nd (by decide) (hfx 1 rfl)) (vgso_cons (vgo_name (i := 2) sc__law_stretches.nd (by decide) (hfx 2 rfl)) vgso_nil))), fun _ _ _ _ _ O => vts_nil, fun _ _ _ _ _ O => (ve_add O (ve_add O (ve_add O (VQ.e vq_str) (ve_strI (VQ.e (vq_v 1)) (by rfl) T.b_str)) (VQ.e vq_str)) (ve_strI (VQ.e (vq_v 2)) (by rfl) T.b_str))⟩))) vb_nil)))
/-! #### _law_line_of -/
abbrev N__law_line_of : List Str := ["_law_deed", "_law_line", "_law_piece"]
theorem sc__law_line_of : FnScope N__law_line_of ["_law_deed"] (defScope s__law_line_of) := ⟨rfl, rfl, rfl, by decide +kernel, rfl, by decide +kernel, by decide +kernel⟩
def lg__law_line_of_1 : MG := (gNm 2)
def lb__law_line_of_1 : MS := (mSeq (mIf (mTQ (qIsi "list" (qV 2))) (mSeq (mAsg (mAdd (mQ (qV 1)) (mCall [.bo] F__law_stretches (aPth (qV 2) aNil))) (gNm 1)) mSkip) (mSeq (mIf (mTQ (qIsi "str" (qV 2))) (mSeq (mAsg (mQ (qOp gAdd (qOp gAdd (qV 1) (qC (.str " "))) (qV 2))) (gNm 1)) mSkip) (mSeq (mAsg (mAdd (mQ (qOp gAdd (qV 1) (qC (.str " ")))) (mStrI (mQ (qV 2)))) (gNm 1)) mSkip)) mSkip)) mSkip)
def m__law_line_of : MS := (mSeq (mAsg (mQ (qIx (qV 0) (qC (.int 0)))) (gNm 1)) (mSeq (mIf (mTQ (qEq false (qV 1) (qC (.str "tie")))) (mSeq (mRet (mAdd (mAdd (mAdd (mQ (qV 1)) (mCall [.bo] F__law_stretches (aPth (qIx (qV 0) (qC (.int 1))) aNil))) (mQ (qC (.str " /")))) (mCall [.bo] F__law_stretches (aPth (qIx (qV 0) (qC (.int 2))) aNil)))) mSkip) mSkip) (mSeq (mForT (mSlQ (qV 0) (oQ (qC (.int 1))) oNo) lg__law_line_of_1 lb__law_line_of_1) (mSeq (mRet (mMove 1)) mSkip))))
def F__law_line_of : Fn := runF [.bo] 3 m__law_line_of
theorem ok__law_line_of (T : TX K mg w a) : FnOk P w K mg base (L2.CX P w) 2 a.f__law_line_of a.d__law_line_of ["_law_deed"] (spF K (CAo mg) 1 F__law_line_of) :=
  fn_ok (K := K) (mg := mg) (CA := CAo mg) (N := N__law_line_of) (ms := [.bo]) (m := m__law_line_of) T.x__law_line_of.F sc__law_line_of rfl fun cdv A outer s H E H0 os0 B fx hfx hr => (
    have O : COk (cxOf (L2.CX P w) P w K mg base _ _ (defScope s__law_line_of) a.f__law_line_of cdv A outer s H E) ⟨K, CAo mg, H0, os0, B, fun cls d _ H' => E cls d H', fx, 3⟩ := ⟨rfl, takes_of rfl rfl rfl rfl⟩
    have hu := hr.units
    ((vb_cons (vs_set (i := 1) sc__law_line_of.nd (VQ.e (vq_ix O (vq_v 0) vq_int)) (hfx 1 rfl)) (vb_cons (vs_if (VQ.tc (vq_eq O hu (vq_v 1) vq_str)) (vb_cons (vs_ret (ve_add O (ve_add O (ve_add O (VQ.e (vq_v 1)) (ve_call O (ok__law_stretches (P := P) (w := w) (base := base) T) rfl (hr.mono (by decide)) (by rfl) T.x__law_stretches.mg T.x__law_stretches.kp T.x__law_stretches.b (va_plc (vq_ix O (vq_v 0) vq_int) va_nil (.inl rfl)))) (VQ.e vq_str)) (ve_call O (ok__law_stretches (P := P) (w := w) (base := base) T) rfl (hr.mono (by decide)) (by rfl) T.x__law_stretches.mg T.x__law_stretches.kp T.x__law_stretches.b (va_plc (vq_ix O (vq_v 0) vq_int) va_nil (.inl rfl))))) vb_nil) vb_nil) (vb_cons (vs_forT O (passes_of rfl) rfl (ve_slQ O (vq_v 0) (vo_q vq_int) vo_no) (vg_name (i := 2) sc__law_line_of.nd (hfx 2 rfl)) (vb_cons (vs_if (VQ.t (vq_isi O "list" (vq_v 2) rfl (by rfl) T.b_list (by rfl) T.b_isinstance)) (vb_cons (vs_set (i := 1) sc__law_line_of.nd (ve_add O (VQ.e (vq_v 1)) (ve_call O (ok__law_stretches (P := P) (w := w) (base := base) T) rfl (hr.mono (by decide)) (by rfl) T.x__law_stretches.mg T.x__law_stretches.kp T.x__law_stretches.b (va_var 2 va_nil))) (hfx 1 rfl)) vb_nil) (vb_cons (vs_if (VQ.t (vq_isi O "str" (vq_v 2) rfl (by rfl) T.b_str (by rfl) T.b_isinstance)) (vb_cons (vs_set (i := 1) sc__law_line_of.nd (VQ.e (vq_add (vq_add (vq_v 1) vq_str) (vq_v 2))) (hfx 1 rfl)) vb_nil) (vb_cons (vs_set (i := 1) sc__law_line_of.nd (ve_add O (VQ.e (vq_add (vq_v 1) vq_str)) (ve_strI (VQ.e (vq_v 2)) (by rfl) T.b_str)) (hfx 1 rfl)) vb_nil)) vb_nil)) vb_nil)) (vb_cons (vs_ret (ve_move 1)) vb_nil))))))
/-! #### _law_number -/
abbrev N__law_number : List Str := ["_law_src_here"]
theorem sc__law_number : FnScope N__law_number ["_law_src_here"] (defScope s__law_number) := ⟨rfl, rfl, rfl, by decide +kernel, rfl, by decide +kernel, by decide +kernel⟩
def m__law_number : MS := (mSeq (mRet (mCall [.io, .bo] F__law_next (aPth (qV 0) (aVal (mIxE (mLst (mCons (mQ (qC (.int 12))) (mCons (mQ (qOp gPow (qC (.int 10)) (qC (.int 60)))) mNil))) (mCall [.io, .bo] F__law_next (aPth (qV 0) (aVal (mQ (qC (.int 2))) aNil)))) aNil)))) mSkip)
def F__law_number : Fn := runF [.io] 1 m__law_number
theorem ok__law_number (T : TX K mg w a) : FnOk P w K mg base (L2.CX P w) 2 a.f__law_number a.d__law_number ["_law_src_here"] (spF K (CAo mg) 1 F__law_number) :=
  fn_ok (K := K) (mg := mg) (CA := CAo mg) (N := N__law_number) (ms := [.io]) (m := m__law_number) T.x__law_number.F sc__law_number rfl fun cdv A outer s H E H0 os0 B fx hfx hr => (
    have O : COk (cxOf (L2.CX P w) P w K mg base _ _ (defScope s__law_number) a.f__law_number cdv A outer s H E) ⟨K, CAo mg, H0, os0, B, fun cls d _ H' => E cls d H', fx, 1⟩ := ⟨rfl, takes_of rfl rfl rfl rfl⟩
    have hu := hr.units
    ((vb_cons (vs_ret (ve_call O (ok__law_next (P := P) (w := w) (base := base) T) rfl (hr.mono (by decide)) (by rfl) T.x__law_next.mg T.x__law_next.kp T.x__law_next.b (va_var 0 (va_val (ve_ixE O (ve_lst (vl_cons (VQ.e vq_int) (vl_cons (VQ.e (vq_pow vq_int vq_int)) vl_nil))) (ve_call O (ok__law_next (P := P) (w := w) (base := base) T) rfl (hr.mono (by decide)) (by rfl) T.x__law_next.mg T.x__law_next.kp T.x__law_next.b (va_var 0 (va_val (VQ.e vq_int) va_nil)))) va_nil)))) vb_nil)))
/-! #### _law_plain_deed -/
abbrev N__law_plain_deed : List Str := ["_law_src_here", "_law_way", "_law_name", "_law_many", "_law_k"]
theorem sc__law_plain_deed : FnScope N__law_plain_deed ["_law_src_here", "_law_way"] (defScope s__law_plain_deed) := ⟨rfl, rfl, rfl, by decide +kernel, rfl, by decide +kernel, by decide +kernel⟩
def lg__law_plain_deed_1 : MG := (gNm 4)
def lt__law_plain_deed_1 : List D → R Bool := mYes
def le__law_plain_deed_1 : List D → R D := (mCall [.io] F__law_number (aPth (qV 0) aNil))
def m__law_plain_deed : MS := (mSeq (mAsg (mIxE (mLst (mCons (mQ (qC (.str "fresh"))) (mCons (mQ (qC (.str "fix"))) (mCons (mQ (qC (.str "untie"))) (mCons (mQ (qC (.str "read"))) (mCons (mQ (qC (.str "back"))) (mCons (mQ (qC (.str "fork"))) (mCons (mQ (qC (.str "cut"))) (mCons (mQ (qC (.str "window"))) (mCons (mQ (qC (.str "move"))) (mCons (mQ (qC (.str "quote"))) mNil))))))))))) (mQ (qV 1))) (gNm 2)) (mSeq (mAsg (mIxE (mLst (mCons (mQ (qC (.int 0))) (mCons (mQ (qC (.int 1))) (mCons (mQ (qC (.int 1))) (mCons (mQ (qC (.int 1))) (mCons (mQ (qC (.int 2))) (mCons (mQ (qC (.int 2))) (mCons (mQ (qC (.int 3))) (mCons (mQ (qC (.int 3))) (mCons (mQ (qC (.int 4))) (mCons (mQ (qC (.int 5))) mNil))))))))))) (mQ (qV 1))) (gNm 3)) (mSeq (mRet (mAddT (mTup (mCons (mMove 2) mNil)) (mTupL (mLcR1 (mQ (qV 3)) [4] lg__law_plain_deed_1 lt__law_plain_deed_1 le__law_plain_deed_1)))) mSkip)))
def F__law_plain_deed : Fn := runF [.io, .bo] 5 m__law_plain_deed
theorem ok__law_plain_deed (T : TX K mg w a) : FnOk P w K mg base (L2.CX P w) 3 a.f__law_plain_deed a.d__law_plain_deed ["_law_src_here", "_law_way"] (spF K (CAo mg) 2 F__law_plain_deed) :=
  fn_ok (K := K) (mg := mg) (CA := CAo mg) (N := N__law_plain_deed) (ms := [.io, .bo]) (m := m__law_plain_deed) T.x__law_plain_deed.F sc__law_plain_deed rfl fun cdv A outer s H E H0 os0 B fx hfx hr => (
    have O : COk (cxOf (L2.CX P w) P w K mg base _ _ (defScope s__law_plain_deed) a.f__law_plain_deed cdv A outer s H E) ⟨K, CAo mg, H0, os0, B, fun cls d _ H' => E cls d H', fx, 5⟩ := ⟨rfl, takes_of rfl rfl rfl rfl⟩
    have hu := hr.units
    ((vb_cons (vs_set (i := 2) sc__law_plain_deed.nd (ve_ixE O (ve_lst (vl_cons (VQ.e vq_str) (vl_cons (VQ.e vq_str) (vl_cons (VQ.e vq_str) (vl_cons (VQ.e vq_str) (vl_cons (VQ.e vq_str) (vl_cons (VQ.e vq_str) (vl_cons (VQ.e vq_str) (vl_cons (VQ.e vq_str) (vl_cons (VQ.e vq_str) (vl_cons (VQ.e vq_str) vl_nil))))))))))) (VQ.e (vq_v 1))) (hfx 2 rfl)) (vb_cons (vs_set (i := 3) sc__law_plain_deed.nd (ve_ixE O (ve_lst (vl_cons (VQ.e vq_int) (vl_cons (VQ.e vq_int) (vl_cons (VQ.e vq_int) (vl_cons (VQ.e vq_int) (vl_cons (VQ.e vq_int) (vl_cons (VQ.e vq_int) (vl_cons (VQ.e vq_int) (vl_cons (VQ.e vq_int) (vl_cons (VQ.e vq_int) (vl_cons (VQ.e vq_int) vl_nil))))))))))) (VQ.e (vq_v 1))) (hfx 3 rfl)) (vb_cons (vs_ret (ve_addT O (ve_tup (vl_cons (ve_move 2) vl_nil)) (ve_tupL (ve_lcR1 (own := [("_law_k", 4)]) (g := lg__law_plain_deed_1) (mt := lt__law_plain_deed_1) (se := false) (me := le__law_plain_deed_1) O rfl sc__law_plain_deed.nd (fxs_cons (hfx 4 rfl) fxs_nil) (VQ.e (vq_v 3)) ⟨blkC_by (Nn := N__law_plain_deed) (scn := defScope s__law_plain_deed) rfl rfl (by decide +kernel), fun _ _ _ _ _ O => (vgo_name (i := 4) sc__law_plain_deed.nd (by decide) (hfx 4 rfl)), fun _ _ _ _ _ O => vts_nil, fun _ _ _ _ _ O => (ve_call O (ok__law_number (P := P) (w := w) (base := base) T) rfl (hr.mono (by decide)) (by rfl) T.x__law_number.mg T.x__law_number.kp T.x__law_number.b (va_var 0 va_nil))⟩ (by rfl) T.b_range) (by rfl) T.b_tuple))) vb_nil)))))
/-! #### _law_sign -/
abbrev N__law_sign : List Str := ["_law_src_here", "_law_few", "_law_some"]
theorem sc__law_sign : FnScope N__law_sign ["_law_src_here", "_law_few"] (defScope s__law_sign) := ⟨rfl, rfl, rfl, by decide +kernel, rfl, by decide +kernel, by decide +kernel⟩
def m__law_sign : MS := (mSeq (mAsg (mQ (qC (.str " !\"#$&'()*+,-./0123456789:;<=>?@ABCDEFGHIJKLMNOPQRSTUVWXYZ[\\]^_`abcdefghijklmnopqrstuvwxyz{|}~"))) (gNm 2)) (mSeq (mIf (mTQ (qV 1)) (mSeq (mRet (mIxE (mQ (qC (.str "a# b"))) (mCall [.io, .bo] F__law_next (aPth (qV 0) (aVal (mQ (qC (.int 4))) aNil))))) mSkip) mSkip) (mSeq (mRet (mIxE (mQ (qV 2)) (mCall [.io, .bo] F__law_next (aPth (qV 0) (aVal (mQ (qC (.int 94))) aNil))))) mSkip)))
def F__law_sign : Fn := runF [.io, .bo] 3 m__law_sign
theorem ok__law_sign (T : TX K mg w a) : FnOk P w K mg base (L2.CX P w) 2 a.f__law_sign a.d__law_sign ["_law_src_here", "_law_few"] (spF K (CAo mg) 2 F__law_sign) :=
  fn_ok (K := K) (mg := mg) (CA := CAo mg) (N := N__law_sign) (ms := [.io, .bo]) (m := m__law_sign) T.x__law_sign.F sc__law_sign rfl fun cdv A outer s H E H0 os0 B fx hfx hr => (
    have O : COk (cxOf (L2.CX P w) P w K mg base _ _ (defScope s__law_sign) a.f__law_sign cdv A outer s H E) ⟨K, CAo mg, H0, os0, B, fun cls d _ H' => E cls d H', fx, 3⟩ := ⟨rfl, takes_of rfl rfl rfl rfl⟩
    have hu := hr.units
    ((vb_cons (vs_set (i := 2) sc__law_sign.nd (VQ.e vq_str) (hfx 2 rfl)) (vb_cons (vs_if (VQ.t (vq_v 1)) (vb_cons (vs_ret (ve_ixE O (VQ.e vq_str) (ve_call O (ok__law_next (P := P) (w := w) (base := base) T) rfl (hr.mono (by decide)) (by rfl) T.x__law_next.mg T.x__law_next.kp T.x__law_next.b (va_var 0 (va_val (VQ.e vq_int) va_nil))))) vb_nil) vb_nil) (vb_cons (vs_ret (ve_ixE O (VQ.e (vq_v 2)) (ve_call O (ok__law_next (P := P) (w := w) (base := base) T) rfl (hr.mono (by decide)) (by rfl) T.x__law_next.mg T.x__law_next.kp T.x__law_next.b (va_var 0 (va_val (VQ.e vq_int) va_nil))))) vb_nil)))))
/-! #### _law_text -/
abbrev N__law_text : List Str := ["_law_src_here", "_law_many", "_law_few", "_law_k"]
theorem sc__law_text : FnScope N__law_text ["_law_src_here", "_law_many"] (defScope s__law_text) := ⟨rfl, rfl, rfl, by decide +kernel, rfl, by decide +kernel, by decide +kernel⟩
def lg__law_text_1 : MG := (gNm 3)
def lt__law_text_1 : List D → R Bool := mYes
def le__law_text_1 : List D → R D := (mCall [.io, .bo] F__law_sign (aPth (qV 0) (aPth (qV 2) aNil)))
def m__law_text : MS := (mSeq (mAsg (mEq false (mCall [.io, .bo] F__law_next (aPth (qV 0) (aVal (mQ (qC (.int 2))) aNil))) (mQ (qC (.int 0)))) (gNm 2)) (mSeq (mRet (mJoin (mQ (qC (.str ""))) (mLcR1 (mQ (qV 1)) [3] lg__law_text_1 lt__law_text_1 le__law_text_1))) mSkip))
def F__law_text : Fn := runF [.io, .bo] 4 m__law_text
theorem ok__law_text (T : TX K mg w a) : FnOk P w K mg base (L2.CX P w) 3 a.f__law_text a.d__law_text ["_law_src_here", "_law_many"] (spF K (CAo mg) 2 F__law_text) :=
  fn_ok (K := K) (mg := mg) (CA := CAo mg) (N := N__law_text) (ms := [.io, .bo]) (m := m__law_text) T.x__law_text.F sc__law_text rfl fun cdv A outer s H E H0 os0 B fx hfx hr => (
    have O : COk (cxOf (L2.CX P w) P w K mg base _ _ (defScope s__law_text) a.f__law_text cdv A outer s H E) ⟨K, CAo mg, H0, os0, B, fun cls d _ H' => E cls d H', fx, 4⟩ := ⟨rfl, takes_of rfl rfl rfl rfl⟩
    have hu := hr.units
    ((vb_cons (vs_set (i := 2) sc__law_text.nd (ve_eq O hu (ve_call O (ok__law_next (P := P) (w := w) (base := base) T) rfl (hr.mono (by decide)) (by rfl) T.x__law_next.mg T.x__law_next.kp T.x__law_next.b (va_var 0 (va_val (VQ.e vq_int) va_nil))) (VQ.e vq_int)) (hfx 2 rfl)) (vb_cons (vs_ret (ve_join (VQ.e vq_str) (ve_lcR1 (own := [("_law_k", 3)]) (g := lg__law_text_1) (mt := lt__law_text_1) (se := false) (me := le__law_text_1) O rfl sc__law_text.nd (fxs_cons (hfx 3 rfl) fxs_nil) (VQ.e (vq_v 1)) ⟨blkC_by (Nn := N__law_text) (scn := defScope s__law_text) rfl rfl (by decide +kernel), fun _ _ _ _ _ O => (vgo_name (i := 3) sc__law_text.nd (by decide) (hfx 3 rfl)), fun _ _ _ _ _ O => vts_nil, fun _ _ _ _ _ O => (ve_call O (ok__law_sign (P := P) (w := w) (base := base) T) rfl (hr.mono (by decide)) (by rfl) T.x__law_sign.mg T.x__law_sign.kp T.x__law_sign.b (va_var 0 (va_var 2 va_nil)))⟩ (by rfl) T.b_range))) vb_nil))))
/-! #### _law_ink_by -/
abbrev N__law_ink_by : List Str := ["_law_src_here", "_law_many", "_law_k"]
theorem sc__law_ink_by : FnScope N__law_ink_by ["_law_src_here"] (defScope s__law_ink_by) := ⟨rfl, rfl, rfl, by decide +kernel, rfl, by decide +kernel, by decide +kernel⟩
def lg__law_ink_by_1 : MG := (gNm 2)
def lt__law_ink_by_1 : List D → R Bool := mYes
def le__law_ink_by_1 : List D → R D := (mTup (mCons (mCall [.io] F__law_number (aPth (qV 0) aNil)) (mCons (mCall [.io] F__law_number (aPth (qV 0) aNil)) mNil)))
def m__law_ink_by : MS := (mSeq (mAsg (mCall [.io, .bo] F__law_next (aPth (qV 0) (aVal (mIxE (mLst (mCons (mQ (qC (.int 4))) (mCons (mQ (qC (.int 4))) (mCons (mQ (qC (.int 4))) (mCons (mQ (qC (.int 30))) mNil))))) (mCall [.io, .bo] F__law_next (aPth (qV 0) (aVal (mQ (qC (.int 4))) aNil)))) aNil))) (gNm 1)) (mSeq (mRet (mLcR1 (mQ (qV 1)) [2] lg__law_ink_by_1 lt__law_ink_by_1 le__law_ink_by_1)) mSkip))
def F__law_ink_by : Fn := runF [.io] 3 m__law_ink_by
theorem ok__law_ink_by (T : TX K mg w a) : FnOk P w K mg base (L2.CX P w) 3 a.f__law_ink_by a.d__law_ink_by ["_law_src_here"] (spF K (CAo mg) 1 F__law_ink_by) :=
  fn_ok (K := K) (mg := mg) (CA := CAo mg) (N := N__law_ink_by) (ms := [.io]) (m := m__law_ink_by) T.x__law_ink_by.F sc__law_ink_by rfl fun cdv A outer s H E H0 os0 B fx hfx hr => (
    have O : COk (cxOf (L2.CX P w) P w K mg base _ _ (defScope s__law_ink_by) a.f__law_ink_by cdv A outer s H E) ⟨K, CAo mg, H0, os0, B, fun cls d _ H' => E cls d H', fx, 3⟩ := ⟨rfl, takes_of rfl rfl rfl rfl⟩
    have hu := hr.units
    ((vb_cons (vs_set (i := 1) sc__law_ink_by.nd (ve_call O (ok__law_next (P := P) (w := w) (base := base) T) rfl (hr.mono (by decide)) (by rfl) T.x__law_next.mg T.x__law_next.kp T.x__law_next.b (va_var 0 (va_val (ve_ixE O (ve_lst (vl_cons (VQ.e vq_int) (vl_cons (VQ.e vq_int) (vl_cons (VQ.e vq_int) (vl_cons (VQ.e vq_int) vl_nil))))) (ve_call O (ok__law_next (P := P) (w := w) (base := base) T) rfl (hr.mono (by decide)) (by rfl) T.x__law_next.mg T.x__law_next.kp T.x__law_next.b (va_var 0 (va_val (VQ.e vq_int) va_nil)))) va_nil))) (hfx 1 rfl)) (vb_cons (vs_ret (ve_lcR1 (own := [("_law_k", 2)]) (g := lg__law_ink_by_1) (mt := lt__law_ink_by_1) (se := (false && (false && true))) (me := le__law_ink_by_1) O rfl sc__law_ink_by.nd (fxs_cons (hfx 2 rfl) fxs_nil) (VQ.e (vq_v 1)) ⟨blkC_by (Nn := N__law_ink_by) (scn := defScope s__law_ink_by) rfl rfl (by decide +kernel), fun _ _ _ _ _ O => (vgo_name (i := 2) sc__law_ink_by.nd (by decide) (hfx 2 rfl)), fun _ _ _ _ _ O => vts_nil, fun _ _ _ _ _ O => (ve_tup (vl_cons (ve_call O (ok__law_number (P := P) (w := w) (base := base) T) rfl (hr.mono (by decide)) (by rfl) T.x__law_number.mg T.x__law_number.kp T.x__law_number.b (va_var 0 va_nil)) (vl_cons (ve_call O (ok__law_number (P := P) (w := w) (base := base) T) rfl (hr.mono (by decide)) (by rfl) T.x__law_number.mg T.x__law_number.kp T.x__law_number.b (va_var 0 va_nil)) vl_nil)))⟩ (by rfl) T.b_range)) vb_nil))))
/-! #### _law_deed_by -/
abbrev N__law_deed_by : List Str := ["_law_src_here", "_law_way", "_law_many"]
theorem sc__law_deed_by : FnScope N__law_deed_by ["_law_src_here"] (defScope s__law_deed_by) := ⟨rfl, rfl, rfl, by decide +kernel, rfl, by decide +kernel, by decide +kernel⟩
def m__law_deed_by : MS := (mSeq (mAsg (mCall [.io, .bo] F__law_next (aPth (qV 0) (aVal (mQ (qC (.int 16))) aNil))) (gNm 1)) (mSeq (mIf (mTQ (qOp gLt (qV 1) (qC (.int 10)))) (mSeq (mRet (mCall [.io, .bo] F__law_plain_deed (aPth (qV 0) (aPth (qV 1) aNil)))) mSkip) mSkip) (mSeq (mIf (mTQ (qEq false (qV 1) (qC (.int 10)))) (mSeq (mAsg (mIxE (mLst (mCons (mCall [.io, .bo] F__law_next (aPth (qV 0) (aVal (mQ (qC (.int 9))) aNil))) (mCons (mOp gSub (mQ (qC (.int 200))) (mCall [.io, .bo] F__law_next (aPth (qV 0) (aVal (mQ (qC (.int 9))) aNil)))) mNil))) (mOp gDiv (mCall [.io, .bo] F__law_next (aPth (qV 0) (aVal (mQ (qC (.int 5))) aNil))) (mQ (qC (.int 4))))) (gNm 2)) (mSeq (mRet (mTup (mCons (mQ (qC (.str "pour"))) (mCons (mCall [.io] F__law_number (aPth (qV 0) aNil)) (mCons (mCall [.io, .bo] F__law_text (aPth (qV 0) (aPth (qV 2) aNil))) mNil))))) mSkip)) mSkip) (mSeq (mIf (mTQ (qEq false (qV 1) (qC (.int 11)))) (mSeq (mRet (mTup (mCons (mQ (qC (.str "put"))) (mCons (mCall [.io] F__law_number (aPth (qV 0) aNil)) (mCons (mCall [.io] F__law_number (aPth (qV 0) aNil)) (mCons (mCall [.io] F__law_ink_by (aPth (qV 0) aNil)) mNil)))))) mSkip) mSkip) (mSeq (mIf (mTQ (qEq false (qV 1) (qC (.int 12)))) (mSeq (mRet (mTup (mCons (mQ (qC (.str "strike"))) (mCons (mCall [.io] F__law_ink_by (aPth (qV 0) aNil)) mNil)))) mSkip) mSkip) (mSeq (mIf (mTQ (qEq false (qV 1) (qC (.int 13)))) (mSeq (mRet (mTup (mCons (mQ (qC (.str "blot"))) (mCons (mCall [.io] F__law_number (aPth (qV 0) aNil)) (mCons (mCall [.io] F__law_ink_by (aPth (qV 0) aNil)) mNil))))) mSkip) mSkip) (mSeq (mIf (mTQ (qEq false (qV 1) (qC (.int 14)))) (mSeq (mRet (mTup (mCons (mQ (qC (.str "lift"))) (mCons (mCall [.io] F__law_number (aPth (qV 0) aNil)) (mCons (mCall [.io] F__law_ink_by (aPth (qV 0) aNil)) mNil))))) mSkip) mSkip) (mSeq (mRet (mTup (mCons (mQ (qC (.str "tie"))) (mCons (mCall [.io] F__law_ink_by (aPth (qV 0) aNil)) (mCons (mCall [.io] F__law_ink_by (aPth (qV 0) aNil)) mNil))))) mSkip))))))))
def F__law_deed_by : Fn := runF [.io] 3 m__law_deed_by
theorem ok__law_deed_by (T : TX K mg w a) : FnOk P w K mg base (L2.CX P w) 4 a.f__law_deed_by a.d__law_deed_by ["_law_src_here"] (spF K (CAo mg) 1 F__law_deed_by) :=
  fn_ok (K := K) (mg := mg) (CA := CAo mg) (N := N__law_deed_by) (ms := [.io]) (m := m__law_deed_by) T.x__law_deed_by.F sc__law_deed_by rfl fun cdv A outer s H E H0 os0 B fx hfx hr => (
    have O : COk (cxOf (L2.CX P w) P w K mg base _ _ (defScope s__law_deed_by) a.f__law_deed_by cdv A outer s H E) ⟨K, CAo mg, H0, os0, B, fun cls d _ H' => E cls d H', fx, 3⟩ := ⟨rfl, takes_of rfl rfl rfl rfl⟩
    have hu := hr.units
    ((vb_cons (vs_set (i := 1) sc__law_deed_by.nd (ve_call O (ok__law_next (P := P) (w := w) (base := base) T) rfl (hr.mono (by decide)) (by rfl) T.x__law_next.mg T.x__law_next.kp T.x__law_next.b (va_var 0 (va_val (VQ.e vq_int) va_nil))) (hfx 1 rfl)) (vb_cons (vs_if (VQ.tc (vq_lt (vq_v 1) vq_int)) (vb_cons (vs_ret (ve_call O (ok__law_plain_deed (P := P) (w := w) (base := base) T) rfl (hr.mono (by decide)) (by rfl) T.x__law_plain_deed.mg T.x__law_plain_deed.kp T.x__law_plain_deed.b (va_var 0 (va_var 1 va_nil)))) vb_nil) vb_nil) (vb_cons (vs_if (VQ.tc (vq_eq O hu (vq_v 1) vq_int)) (vb_cons (vs_set (i := 2) sc__law_deed_by.nd (ve_ixE O (ve_lst (vl_cons (ve_call O (ok__law_next (P := P) (w := w) (base := base) T) rfl (hr.mono (by decide)) (by rfl) T.x__law_next.mg T.x__law_next.kp T.x__law_next.b (va_var 0 (va_val (VQ.e vq_int) va_nil))) (vl_cons (ve_sub (VQ.e vq_int) (ve_call O (ok__law_next (P := P) (w := w) (base := base) T) rfl (hr.mono (by decide)) (by rfl) T.x__law_next.mg T.x__law_next.kp T.x__law_next.b (va_var 0 (va_val (VQ.e vq_int) va_nil)))) vl_nil))) (ve_div (ve_call O (ok__law_next (P := P) (w := w) (base := base) T) rfl (hr.mono (by decide)) (by rfl) T.x__law_next.mg T.x__law_next.kp T.x__law_next.b (va_var 0 (va_val (VQ.e vq_int) va_nil))) (VQ.e vq_int))) (hfx 2 rfl)) (vb_cons (vs_ret (ve_tup (vl_cons (VQ.e vq_str) (vl_cons (ve_call O (ok__law_number (P := P) (w := w) (base := base) T) rfl (hr.mono (by decide)) (by rfl) T.x__law_number.mg T.x__law_number.kp T.x__law_number.b (va_var 0 va_nil)) (vl_cons (ve_call O (ok__law_text (P := P) (w := w) (base := base) T) rfl (hr.mono (by decide)) (by rfl) T.x__law_text.mg T.x__law_text.kp T.x__law_text.b (va_var 0 (va_var 2 va_nil))) vl_nil))))) vb_nil)) vb_nil) (vb_cons (vs_if (VQ.tc (vq_eq O hu (vq_v 1) vq_int)) (vb_cons (vs_ret (ve_tup (vl_cons (VQ.e vq_str) (vl_cons (ve_call O (ok__law_number (P := P) (w := w) (base := base) T) rfl (hr.mono (by decide)) (by rfl) T.x__law_number.mg T.x__law_number.kp T.x__law_number.b (va_var 0 va_nil)) (vl_cons (ve_call O (ok__law_number (P := P) (w := w) (base := base) T) rfl (hr.mono (by decide)) (by rfl) T.x__law_number.mg T.x__law_number.kp T.x__law_number.b (va_var 0 va_nil)) (vl_cons (ve_call O (ok__law_ink_by (P := P) (w := w) (base := base) T) rfl (hr.mono (by decide)) (by rfl) T.x__law_ink_by.mg T.x__law_ink_by.kp T.x__law_ink_by.b (va_var 0 va_nil)) vl_nil)))))) vb_nil) vb_nil) (vb_cons (vs_if (VQ.tc (vq_eq O hu (vq_v 1) vq_int)) (vb_cons (vs_ret (ve_tup (vl_cons (VQ.e vq_str) (vl_cons (ve_call O (ok__law_ink_by (P := P) (w := w) (base := base) T) rfl (hr.mono (by decide)) (by rfl) T.x__law_ink_by.mg T.x__law_ink_by.kp T.x__law_ink_by.b (va_var 0 va_nil)) vl_nil)))) vb_nil) vb_nil) (vb_cons (vs_if (VQ.tc (vq_eq O hu (vq_v 1) vq_int)) (vb_cons (vs_ret (ve_tup (vl_cons (VQ.e vq_str) (vl_cons (ve_call O (ok__law_number (P := P) (w := w) (base := base) T) rfl (hr.mono (by decide)) (by rfl) T.x__law_number.mg T.x__law_number.kp T.x__law_number.b (va_var 0 va_nil)) (vl_cons (ve_call O (ok__law_ink_by (P := P) (w := w) (base := base) T) rfl (hr.mono (by decide)) (by rfl) T.x__law_ink_by.mg T.x__law_ink_by.kp T.x__law_ink_by.b (va_var 0 va_nil)) vl_nil))))) vb_nil) vb_nil) (vb_cons (vs_if (VQ.tc (vq_eq O hu (vq_v 1) vq_int)) (vb_cons (vs_ret (ve_tup (vl_cons (VQ.e vq_str) (vl_cons (ve_call O (ok__law_number (P := P) (w := w) (base := base) T) rfl (hr.mono (by decide)) (by rfl) T.x__law_number.mg T.x__law_number.kp T.x__law_number.b (va_var 0 va_nil)) (vl_cons (ve_call O (ok__law_ink_by (P := P) (w := w) (base := base) T) rfl (hr.mono (by decide)) (by rfl) T.x__law_ink_by.mg T.x__law_ink_by.kp T.x__law_ink_by.b (va_var 0 va_nil)) vl_nil))))) vb_nil) vb_nil) (vb_cons (vs_ret (ve_tup (vl_cons (VQ.e vq_str) (vl_cons (ve_call O (ok__law_ink_by (P := P) (w := w) (base := base) T) rfl (hr.mono (by decide)) (by rfl) T.x__law_ink_by.mg T.x__law_ink_by.kp T.x__law_ink_by.b (va_var 0 va_nil)) (vl_cons (ve_call O (ok__law_ink_by (P := P) (w := w) (base := base) T) rfl (hr.mono (by decide)) (by rfl) T.x__law_ink_by.mg T.x__law_ink_by.kp T.x__law_ink_by.b (va_var 0 va_nil)) vl_nil))))) vb_nil))))))))))
/-! #### _law_odd -/
abbrev N__law_odd : List Str := ["_law_src_here", "_law_odd_here"]
theorem sc__law_odd : FnScope N__law_odd ["_law_src_here"] (defScope s__law_odd) := ⟨rfl, rfl, rfl, by decide +kernel, rfl, by decide +kernel, by decide +kernel⟩
def m__law_odd : MS := (mSeq (mAsg (mLst (mCons (mQ (qC (.str ""))) (mCons (mQ (qC (.str " "))) (mCons (mQ (qC (.str "pour"))) (mCons (mQ (qC (.str "pour 3"))) (mCons (mQ (qC (.str "pour  a"))) (mCons (mQ (qC (.str "tie"))) (mCons (mQ (qC (.str "tie / /"))) (mCons (mQ (qC (.str "tie 1-2"))) (mCons (mQ (qC (.str "put"))) (mCons (mQ (qC (.str "fresh "))) (mCons (mQ (qC (.str "Fresh"))) (mCons (mQ (qC (.str "open"))) mNil))))))))))))) (gNm 1)) (mSeq (mRet (mIxE (mQ (qV 1)) (mCall [.io, .bo] F__law_next (aPth (qV 0) (aVal (mQ (qC (.int 12))) aNil))))) mSkip))
def F__law_odd : Fn := runF [.io] 2 m__law_odd
theorem ok__law_odd (T : TX K mg w a) : FnOk P w K mg base (L2.CX P w) 2 a.f__law_odd a.d__law_odd ["_law_src_here"] (spF K (CAo mg) 1 F__law_odd) :=
  fn_ok (K := K) (mg := mg) (CA := CAo mg) (N := N__law_odd) (ms := [.io]) (m := m__law_odd) T.x__law_odd.F sc__law_odd rfl fun cdv A outer s H E H0 os0 B fx hfx hr => (
    have O : COk (cxOf (L2.CX P w) P w K mg base _ _ (defScope s__law_odd) a.f__law_odd cdv A outer s H E) ⟨K, CAo mg, H0, os0, B, fun cls d _ H' => E cls d H', fx, 2⟩ := ⟨rfl, takes_of rfl rfl rfl rfl⟩
    have hu := hr.units
    ((vb_cons (vs_set (i := 1) sc__law_odd.nd (ve_lst (vl_cons (VQ.e vq_str) (vl_cons (VQ.e vq_str) (vl_cons (VQ.e vq_str) (vl_cons (VQ.e vq_str) (vl_cons (VQ.e vq_str) (vl_cons (VQ.e vq_str) (vl_cons (VQ.e vq_str) (vl_cons (VQ.e vq_str) (vl_cons (VQ.e vq_str) (vl_cons (VQ.e vq_str) (vl_cons (VQ.e vq_str) (vl_cons (VQ.e vq_str) vl_nil))))))))))))) (hfx 1 rfl)) (vb_cons (vs_ret (ve_ixE O (VQ.e (vq_v 1)) (ve_call O (ok__law_next (P := P) (w := w) (base := base) T) rfl (hr.mono (by decide)) (by rfl) T.x__law_next.mg T.x__law_next.kp T.x__law_next.b (va_var 0 (va_val (VQ.e vq_int) va_nil))))) vb_nil))))
/-! #### _law_spoilt -/
abbrev N__law_spoilt : List Str := ["_law_src_here", "_law_line", "_law_way", "_law_spot"]
theorem sc__law_spoilt : FnScope N__law_spoilt ["_law_src_here", "_law_line"] (defScope s__law_spoilt) := ⟨rfl, rfl, rfl, by decide +kernel, rfl, by decide +kernel, by decide +kernel⟩
def m__law_spoilt : MS := (mSeq (mAsg (mCall [.io, .bo] F__law_next (aPth (qV 0) (aVal (mQ (qC (.int 5))) aNil))) (gNm 2)) (mSeq (mAsg (mCall [.io, .bo] F__law_next (aPth (qV 0) (aVal (mQ (qOp gAdd (qLen (qV 1)) (qC (.int 1)))) aNil))) (gNm 3)) (mSeq (mIf (mTQ (qEq false (qV 2) (qC (.int 0)))) (mSeq (mRet (mAdd (mAdd (mSlQ (qV 1) oNo (oQ (qV 3))) (mIxE (mQ (qC (.str " -@/+0a1_."))) (mCall [.io, .bo] F__law_next (aPth (qV 0) (aVal (mQ (qC (.int 10))) aNil))))) (mSlQ (qV 1) (oQ (qV 3)) oNo))) mSkip) mSkip) (mSeq (mIf (mTQ (qEq false (qV 2) (qC (.int 1)))) (mSeq (mRet (mAdd (mSlQ (qV 1) oNo (oQ (qV 3))) (mSlQ (qV 1) (oQ (qOp gAdd (qV 3) (qC (.int 1)))) oNo))) mSkip) mSkip) (mSeq (mIf (mTQ (qEq false (qV 2) (qC (.int 2)))) (mSeq (mRet (mAdd (mAdd (mSlQ (qV 1) oNo (oQ (qV 3))) (mIxE (mQ (qC (.str " -@0"))) (mCall [.io, .bo] F__law_next (aPth (qV 0) (aVal (mQ (qC (.int 4))) aNil))))) (mSlQ (qV 1) (oQ (qOp gAdd (qV 3) (qC (.int 1)))) oNo))) mSkip) mSkip) (mSeq (mIf (mTQ (qEq false (qV 2) (qC (.int 3)))) (mSeq (mRet (mAdd (mQ (qV 1)) (mIxE (mLst (mCons (mQ (qC (.str " "))) (mCons (mQ (qC (.str "-"))) (mCons (mQ (qC (.str "@"))) (mCons (mQ (qC (.str "  "))) mNil))))) (mCall [.io, .bo] F__law_next (aPth (qV 0) (aVal (mQ (qC (.int 4))) aNil)))))) mSkip) mSkip) (mSeq (mRet (mAdd (mIxE (mLst (mCons (mQ (qC (.str " "))) (mCons (mQ (qC (.str "  "))) (mCons (mQ (qC (.str "-"))) (mCons (mQ (qC (.str "@"))) mNil))))) (mCall [.io, .bo] F__law_next (aPth (qV 0) (aVal (mQ (qC (.int 4))) aNil)))) (mQ (qV 1)))) mSkip)))))))
def F__law_spoilt : Fn := runF [.io, .bo] 4 m__law_spoilt
theorem ok__law_spoilt (T : TX K mg w a) : FnOk P w K mg base (L2.CX P w) 2 a.f__law_spoilt a.d__law_spoilt ["_law_src_here", "_law_line"] (spF K (CAo mg) 2 F__law_spoilt) :=
  fn_ok (K := K) (mg := mg) (CA := CAo mg) (N := N__law_spoilt) (ms := [.io, .bo]) (m := m__law_spoilt) T.x__law_spoilt.F sc__law_spoilt rfl fun cdv A outer s H E H0 os0 B fx hfx hr => (
    have O : COk (cxOf (L2.CX P w) P w K mg base _ _ (defScope s__law_spoilt) a.f__law_spoilt cdv A outer s H E) ⟨K, CAo mg, H0, os0, B, fun cls d _ H' => E cls d H', fx, 4⟩ := ⟨rfl, takes_of rfl rfl rfl rfl⟩
    have hu := hr.units
    ((vb_cons (vs_set (i := 2) sc__law_spoilt.nd (ve_call O (ok__law_next (P := P) (w := w) (base := base) T) rfl (hr.mono (by decide)) (by rfl) T.x__law_next.mg T.x__law_next.kp T.x__law_next.b (va_var 0 (va_val (VQ.e vq_int) va_nil))) (hfx 2 rfl)) (vb_cons (vs_set (i := 3) sc__law_spoilt.nd (ve_call O (ok__law_next (P := P) (w := w) (base := base) T) rfl (hr.mono (by decide)) (by rfl) T.x__law_next.mg T.x__law_next.kp T.x__law_next.b (va_var 0 (va_val (VQ.e (vq_add (vq_len O (vq_v 1) (by rfl) T.b_len) vq_int)) va_nil))) (hfx 3 rfl)) (vb_cons (vs_if (VQ.tc (vq_eq O hu (vq_v 2) vq_int)) (vb_cons (vs_ret (ve_add O (ve_add O (ve_slQ O (vq_v 1) vo_no (vo_q (vq_v 3))) (ve_ixE O (VQ.e vq_str) (ve_call O (ok__law_next (P := P) (w := w) (base := base) T) rfl (hr.mono (by decide)) (by rfl) T.x__law_next.mg T.x__law_next.kp T.x__law_next.b (va_var 0 (va_val (VQ.e vq_int) va_nil))))) (ve_slQ O (vq_v 1) (vo_q (vq_v 3)) vo_no))) vb_nil) vb_nil) (vb_cons (vs_if (VQ.tc (vq_eq O hu (vq_v 2) vq_int)) (vb_cons (vs_ret (ve_add O (ve_slQ O (vq_v 1) vo_no (vo_q (vq_v 3))) (ve_slQ O (vq_v 1) (vo_q (vq_add (vq_v 3) vq_int)) vo_no))) vb_nil) vb_nil) (vb_cons (vs_if (VQ.tc (vq_eq O hu (vq_v 2) vq_int)) (vb_cons (vs_ret (ve_add O (ve_add O (ve_slQ O (vq_v 1) vo_no (vo_q (vq_v 3))) (ve_ixE O (VQ.e vq_str) (ve_call O (ok__law_next (P := P) (w := w) (base := base) T) rfl (hr.mono (by decide)) (by rfl) T.x__law_next.mg T.x__law_next.kp T.x__law_next.b (va_var 0 (va_val (VQ.e vq_int) va_nil))))) (ve_slQ O (vq_v 1) (vo_q (vq_add (vq_v 3) vq_int)) vo_no))) vb_nil) vb_nil) (vb_cons (vs_if (VQ.tc (vq_eq O hu (vq_v 2) vq_int)) (vb_cons (vs_ret (ve_add O (VQ.e (vq_v 1)) (ve_ixE O (ve_lst (vl_cons (VQ.e vq_str) (vl_cons (VQ.e vq_str) (vl_cons (VQ.e vq_str) (vl_cons (VQ.e vq_str) vl_nil))))) (ve_call O (ok__law_next (P := P) (w := w) (base := base) T) rfl (hr.mono (by decide)) (by rfl) T.x__law_next.mg T.x__law_next.kp T.x__law_next.b (va_var 0 (va_val (VQ.e vq_int) va_nil)))))) vb_nil) vb_nil) (vb_cons (vs_ret (ve_add O (ve_ixE O (ve_lst (vl_cons (VQ.e vq_str) (vl_cons (VQ.e vq_str) (vl_cons (VQ.e vq_str) (vl_cons (VQ.e vq_str) vl_nil))))) (ve_call O (ok__law_next (P := P) (w := w) (base := base) T) rfl (hr.mono (by decide)) (by rfl) T.x__law_next.mg T.x__law_next.kp T.x__law_next.b (va_var 0 (va_val (VQ.e vq_int) va_nil)))) (VQ.e (vq_v 1)))) vb_nil)))))))))
/-! #### _law_line_by -/
abbrev N__law_line_by : List Str := ["_law_src_here", "_law_way", "_law_line"]
theorem sc__law_line_by : FnScope N__law_line_by ["_law_src_here"] (defScope s__law_line_by) := ⟨rfl, rfl, rfl, by decide +kernel, rfl, by decide +kernel, by decide +kernel⟩
def m__law_line_by : MS := (mSeq (mAsg (mCall [.io, .bo] F__law_next (aPth (qV 0) (aVal (mQ (qC (.int 6))) aNil))) (gNm 1)) (mSeq (mAsg (mCall [.bo] F__law_line_of (aVal (mCall [.io] F__law_deed_by (aPth (qV 0) aNil)) aNil)) (gNm 2)) (mSeq (mIf (mTQ (qEq false (qV 1) (qC (.int 0)))) (mSeq (mRet (mMove 2)) mSkip) mSkip) (mSeq (mIf (mTQ (qEq false (qV 1) (qC (.int 1)))) (mSeq (mRet (mCall [.io] F__law_odd (aPth (qV 0) aNil))) mSkip) mSkip) (mSeq (mIf (mTQ (qEq false (qV 1) (qC (.int 2)))) (mSeq (mRet (mAdd (mIxE (mCall [.io] F__law_deed_by (aPth (qV 0) aNil)) (mQ (qC (.int 0)))) (mSlF (mQ (qV 2)) (mS2 fFind (mQ (qV 2)) (mQ (qC (.str " "))))))) mSkip) mSkip) (mSeq (mIf (mTQ (qEq false (qV 1) (qC (.int 3)))) (mSeq (mRet (mAdd (mQ (qV 2)) (mIxE (mLst (mCons (mQ (qC (.str " 5"))) (mCons (mQ (qC (.str " 1-2"))) (mCons (mQ (qC (.str " /"))) (mCons (mQ (qC (.str " x"))) mNil))))) (mCall [.io, .bo] F__law_next (aPth (qV 0) (aVal (mQ (qC (.int 4))) aNil)))))) mSkip) mSkip) (mSeq (mRet (mCall [.io, .bo] F__law_spoilt (aPth (qV 0) (aPth (qV 2) aNil)))) mSkip)))))))
def F__law_line_by : Fn := runF [.io] 3 m__law_line_by
theorem ok__law_line_by (T : TX K mg w a) : FnOk P w K mg base (L2.CX P w) 5 a.f__law_line_by a.d__law_line_by ["_law_src_here"] (spF K (CAo mg) 1 F__law_line_by) :=
  fn_ok (K := K) (mg := mg) (CA := CAo mg) (N := N__law_line_by) (ms := [.io]) (m := m__law_line_by) T.x__law_line_by.F sc__law_line_by rfl fun cdv A outer s H E H0 os0 B fx hfx hr => (
    have O : COk (cxOf (L2.CX P w) P w K mg base _ _ (defScope s__law_line_by) a.f__law_line_by cdv A outer s H E) ⟨K, CAo mg, H0, os0, B, fun cls d _ H' => E cls d H', fx, 3⟩ := ⟨rfl, takes_of rfl rfl rfl rfl⟩
    have hu := hr.units
    ((vb_cons (vs_set (i := 1) sc__law_line_by.nd (ve_call O (ok__law_next (P := P) (w := w) (base := base) T) rfl (hr.mono (by decide)) (by rfl) T.x__law_next.mg T.x__law_next.kp T.x__law_next.b (va_var 0 (va_val (VQ.e vq_int) va_nil))) (hfx 1 rfl)) (vb_cons (vs_set (i := 2) sc__law_line_by.nd (ve_call O (ok__law_line_of (P := P) (w := w) (base := base) T) rfl (hr.mono (by decide)) (by rfl) T.x__law_line_of.mg T.x__law_line_of.kp T.x__law_line_of.b (va_val (ve_call O (ok__law_deed_by (P := P) (w := w) (base := base) T) rfl (hr.mono (by decide)) (by rfl) T.x__law_deed_by.mg T.x__law_deed_by.kp T.x__law_deed_by.b (va_var 0 va_nil)) va_nil)) (hfx 2 rfl)) (vb_cons (vs_if (VQ.tc (vq_eq O hu (vq_v 1) vq_int)) (vb_cons (vs_ret (ve_move 2)) vb_nil) vb_nil) (vb_cons (vs_if (VQ.tc (vq_eq O hu (vq_v 1) vq_int)) (vb_cons (vs_ret (ve_call O (ok__law_odd (P := P) (w := w) (base := base) T) rfl (hr.mono (by decide)) (by rfl) T.x__law_odd.mg T.x__law_odd.kp T.x__law_odd.b (va_var 0 va_nil))) vb_nil) vb_nil) (vb_cons (vs_if (VQ.tc (vq_eq O hu (vq_v 1) vq_int)) (vb_cons (vs_ret (ve_add O (ve_ixE O (ve_call O (ok__law_deed_by (P := P) (w := w) (base := base) T) rfl (hr.mono (by decide)) (by rfl) T.x__law_deed_by.mg T.x__law_deed_by.kp T.x__law_deed_by.b (va_var 0 va_nil)) (VQ.e vq_int)) (ve_slF O (VQ.e (vq_v 2)) (ve_findS (VQ.e (vq_v 2)) (VQ.e vq_str))))) vb_nil) vb_nil) (vb_cons (vs_if (VQ.tc (vq_eq O hu (vq_v 1) vq_int)) (vb_cons (vs_ret (ve_add O (VQ.e (vq_v 2)) (ve_ixE O (ve_lst (vl_cons (VQ.e vq_str) (vl_cons (VQ.e vq_str) (vl_cons (VQ.e vq_str) (vl_cons (VQ.e vq_str) vl_nil))))) (ve_call O (ok__law_next (P := P) (w := w) (base := base) T) rfl (hr.mono (by decide)) (by rfl) T.x__law_next.mg T.x__law_next.kp T.x__law_next.b (va_var 0 (va_val (VQ.e vq_int) va_nil)))))) vb_nil) vb_nil) (vb_cons (vs_ret (ve_call O (ok__law_spoilt (P := P) (w := w) (base := base) T) rfl (hr.mono (by decide)) (by rfl) T.x__law_spoilt.mg T.x__law_spoilt.kp T.x__law_spoilt.b (va_var 0 (va_var 2 va_nil)))) vb_nil)))))))))
/-! #### _law_whole -/
abbrev N__law_whole : List Str := ["_law_found"]
theorem sc__law_whole : FnScope N__law_whole ["_law_found"] (defScope s__law_whole) := ⟨rfl, rfl, rfl, by decide +kernel, rfl, by decide +kernel, by decide +kernel⟩
def m__law_whole : MS := (mSeq (mRet (mAndV (mQ (qIsi "int" (qV 0))) (mNotV (mQ (qIsi "bool" (qV 0)))))) mSkip)
def F__law_whole : Fn := runF [.bo] 1 m__law_whole
theorem ok__law_whole (T : TX K mg w a) : FnOk P w K mg base (L2.CX P w) 1 a.f__law_whole a.d__law_whole ["_law_found"] (spF K (CAo mg) 1 F__law_whole) :=
  fn_ok (K := K) (mg := mg) (CA := CAo mg) (N := N__law_whole) (ms := [.bo]) (m := m__law_whole) T.x__law_whole.F sc__law_whole rfl fun cdv A outer s H E H0 os0 B fx hfx hr => (
    have O : COk (cxOf (L2.CX P w) P w K mg base _ _ (defScope s__law_whole) a.f__law_whole cdv A outer s H E) ⟨K, CAo mg, H0, os0, B, fun cls d _ H' => E cls d H', fx, 1⟩ := ⟨rfl, takes_of rfl rfl rfl rfl⟩
    have hu := hr.units
    ((vb_cons (vs_ret (ve_and (VQ.e (vq_isi O "int" (vq_v 0) rfl (by rfl) T.b_int (by rfl) T.b_isinstance)) (ve_one (ve_not (VQ.e (vq_isi O "bool" (vq_v 0) rfl (by rfl) T.b_bool (by rfl) T.b_isinstance)))))) vb_nil)))
/-! #### _law_same -/
abbrev N__law_same : List Str := ["_law_found", "_law_due_here", "_law_one", "_law_other"]
theorem sc__law_same : FnScope N__law_same ["_law_found", "_law_due_here"] (defScope s__law_same) := ⟨rfl, rfl, rfl, by decide +kernel, rfl, by decide +kernel, by decide +kernel⟩
def lg__law_same_1 : MG := (gTu 2 (gC1 (gNm 2) (gC1 (gNm 3) gN0)))
def lb__law_same_1 (R__law_same : Fn) : MS := (mSeq (mIf (mNotT (mTE (mCall [.bo, .bo] R__law_same (aPth (qV 2) (aPth (qV 3) aNil))))) (mSeq (mRet (mQ (qC (.bl false)))) mSkip) mSkip) mSkip)
def m__law_same (R__law_same : Fn) : MS := (mSeq (mIf (mTQ (qIsN false (qV 1))) (mSeq (mRet (mQ (qIsN false (qV 0)))) mSkip) mSkip) (mSeq (mIf (mTQ (qIsi "bool" (qV 1))) (mSeq (mRet (mAndV (mQ (qIsi "bool" (qV 0))) (mQ (qEq false (qV 0) (qV 1))))) mSkip) mSkip) (mSeq (mIf (mTQ (qIsi "int" (qV 1))) (mSeq (mRet (mAndV (mCall [.bo] F__law_whole (aPth (qV 0) aNil)) (mQ (qEq false (qV 0) (qV 1))))) mSkip) mSkip) (mSeq (mIf (mTQ (qIsi "str" (qV 1))) (mSeq (mRet (mAndV (mQ (qIsi "str" (qV 0))) (mQ (qEq false (qV 0) (qV 1))))) mSkip) mSkip) (mSeq (mIf (mOrT (mTQ (qEq true (qIsi "list" (qV 1)) (qIsi "list" (qV 0)))) (mTQ (qEq true (qIsi "tuple" (qV 1)) (qIsi "tuple" (qV 0))))) (mSeq (mRet (mQ (qC (.bl false)))) mSkip) mSkip) (mSeq (mIf (mTQ (qEq true (qLen (qV 0)) (qLen (qV 1)))) (mSeq (mRet (mQ (qC (.bl false)))) mSkip) mSkip) (mSeq (mForZ (mQ (qV 0)) (mQ (qV 1)) lg__law_same_1 (lb__law_same_1 R__law_same)) (mSeq (mRet (mQ (qC (.bl true)))) mSkip))))))))
def F__law_same : Nat → Fn
  | 0 => fun _ => .stuck
  | n + 1 => runF [.bo, .bo] 4 (m__law_same (F__law_same n))
theorem okn__law_same (T : TX K mg w a) : ∀ n : Nat, FnOk P w K mg base (L2.CX P w) (n + 1) a.f__law_same a.d__law_same ["_law_found", "_law_due_here"] (spF K (CAo mg) 2 (F__law_same n))
  | 0 => fn_stuck (ps := ["_law_found", "_law_due_here"])
  | n + 1 => fn_ok (K := K) (mg := mg) (CA := CAo mg) (N := N__law_same) (k := n + 1) (ms := [.bo, .bo]) (m := m__law_same (F__law_same n)) T.x__law_same.F sc__law_same rfl fun cdv A outer s H E H0 os0 B fx hfx hr => (
    have O : COk (cxOf (L2.CX P w) P w K mg base _ _ (defScope s__law_same) a.f__law_same cdv A outer s H E) ⟨K, CAo mg, H0, os0, B, fun cls d _ H' => E cls d H', fx, 4⟩ := ⟨rfl, takes_of rfl rfl rfl rfl⟩
    have hu := hr.units
    have G__law_same := okn__law_same T n
    ((vb_cons (vs_if (VQ.tc (vq_isN (vq_v 1))) (vb_cons (vs_ret (VQ.e (vq_isN (vq_v 0)))) vb_nil) vb_nil) (vb_cons (vs_if (VQ.t (vq_isi O "bool" (vq_v 1) rfl (by rfl) T.b_bool (by rfl) T.b_isinstance)) (vb_cons (vs_ret (ve_and (VQ.e (vq_isi O "bool" (vq_v 0) rfl (by rfl) T.b_bool (by rfl) T.b_isinstance)) (ve_one (VQ.e (vq_eq O hu (vq_v 0) (vq_v 1)))))) vb_nil) vb_nil) (vb_cons (vs_if (VQ.t (vq_isi O "int" (vq_v 1) rfl (by rfl) T.b_int (by rfl) T.b_isinstance)) (vb_cons (vs_ret (ve_and (ve_call O (ok__law_whole (P := P) (w := w) (base := base) T) rfl (hr.mono (by omega)) (by rfl) T.x__law_whole.mg T.x__law_whole.kp T.x__law_whole.b (va_var 0 va_nil)) (ve_one (VQ.e (vq_eq O hu (vq_v 0) (vq_v 1)))))) vb_nil) vb_nil) (vb_cons (vs_if (VQ.t (vq_isi O "str" (vq_v 1) rfl (by rfl) T.b_str (by rfl) T.b_isinstance)) (vb_cons (vs_ret (ve_and (VQ.e (vq_isi O "str" (vq_v 0) rfl (by rfl) T.b_str (by rfl) T.b_isinstance)) (ve_one (VQ.e (vq_eq O hu (vq_v 0) (vq_v 1)))))) vb_nil) vb_nil) (vb_cons (vs_if (VW.t (VT.or (VQ.tc (vq_ne O hu (vq_isi O "list" (vq_v 1) rfl (by rfl) T.b_list (by rfl) T.b_isinstance) (vq_isi O "list" (vq_v 0) rfl (by rfl) T.b_list (by rfl) T.b_isinstance))) (VT.or1 (VQ.tc (vq_ne O hu (vq_isi O "tuple" (vq_v 1) rfl (by rfl) T.b_tuple (by rfl) T.b_isinstance) (vq_isi O "tuple" (vq_v 0) rfl (by rfl) T.b_tuple (by rfl) T.b_isinstance)))))) (vb_cons (vs_ret (VQ.e vq_bl)) vb_nil) vb_nil) (vb_cons (vs_if (VQ.tc (vq_ne O hu (vq_len O (vq_v 0) (by rfl) T.b_len) (vq_len O (vq_v 1) (by rfl) T.b_len))) (vb_cons (vs_ret (VQ.e vq_bl)) vb_nil) vb_nil) (vb_cons (vs_forZ O (passes_of rfl) rfl (VQ.e (vq_v 0)) (VQ.e (vq_v 1)) (vg_tup O rfl (vgs_cons (vg_name (i := 2) sc__law_same.nd (hfx 2 rfl)) (vgs_cons (vg_name (i := 3) sc__law_same.nd (hfx 3 rfl)) vgs_nil))) (vb_cons (vs_if (VT.not (VE.t (ve_call O G__law_same rfl hr (by rfl) T.x__law_same.mg T.x__law_same.kp T.x__law_same.b (va_var 2 (va_var 3 va_nil))))) (vb_cons (vs_ret (VQ.e vq_bl)) vb_nil) vb_nil) vb_nil) (by rfl) T.b_zip) (vb_cons (vs_ret (VQ.e vq_bl)) vb_nil))))))))))
def F__law_same_top : Fn := F__law_same 6
theorem ok__law_same (T : TX K mg w a) : FnOk P w K mg base (L2.CX P w) 7 a.f__law_same a.d__law_same ["_law_found", "_law_due_here"] (spF K (CAo mg) 2 F__law_same_top) := okn__law_same T 6
/-! #### _law_reads -/
abbrev N__law_reads : List Str := ["_law_word", "_law_sign_here"]
theorem sc__law_reads : FnScope N__law_reads ["_law_word"] (defScope s__law_reads) := ⟨rfl, rfl, rfl, by decide +kernel, rfl, by decide +kernel, by decide +kernel⟩
def lg__law_reads_1 : MG := (gNm 1)
def lb__law_reads_1 : MS := (mSeq (mIf (mTQ (qOp (gInS true) (qV 1) (qC (.str "0123456789")))) (mSeq (mRet (mQ (qNeg (qC (.int 1))))) mSkip) mSkip) mSkip)
def m__law_reads : MS := (mSeq (mIf (mOrT (mTQ (qEq false (qV 0) (qC (.str "")))) (mTQ (qOp gGt (qLen (qV 0)) (qC (.int 60))))) (mSeq (mRet (mQ (qNeg (qC (.int 1))))) mSkip) mSkip) (mSeq (mForS (mQ (qV 0)) lg__law_reads_1 lb__law_reads_1) (mSeq (mIf (mAndT (mTQ (qOp gGt (qLen (qV 0)) (qC (.int 1)))) (mTQ (qEq false (qIx (qV 0) (qC (.int 0))) (qC (.str "0"))))) (mSeq (mRet (mQ (qNeg (qC (.int 1))))) mSkip) mSkip) (mSeq (mRet (mIntS (mQ (qV 0)))) mSkip))))
def F__law_reads : Fn := runF [.bo] 2 m__law_reads
theorem ok__law_reads (T : TX K mg w a) : FnOk P w K mg base (L2.CX P w) 1 a.f__law_reads a.d__law_reads ["_law_word"] (spF K (CAo mg) 1 F__law_reads) :=
  fn_ok (K := K) (mg := mg) (CA := CAo mg) (N := N__law_reads) (ms := [.bo]) (m := m__law_reads) T.x__law_reads.F sc__law_reads rfl fun cdv A outer s H E H0 os0 B fx hfx hr => (
    have O : COk (cxOf (L2.CX P w) P w K mg base _ _ (defScope s__law_reads) a.f__law_reads cdv A outer s H E) ⟨K, CAo mg, H0, os0, B, fun cls d _ H' => E cls d H', fx, 2⟩ := ⟨rfl, takes_of rfl rfl rfl rfl⟩
    have hu := hr.units
    ((vb_cons (vs_if (VW.t (VT.or (VQ.tc (vq_eq O hu (vq_v 0) vq_str)) (VT.or1 (VQ.tc (vq_gt (vq_len O (vq_v 0) (by rfl) T.b_len) vq_int))))) (vb_cons (vs_ret (VQ.e (vq_neg vq_int))) vb_nil) vb_nil) (vb_cons (vs_forS (passes_of rfl) rfl (VQ.e (vq_v 0)) (vg_name (i := 1) sc__law_reads.nd (hfx 1 rfl)) (vb_cons (vs_if (VQ.tc (vq_notinS (vq_v 1) vq_str)) (vb_cons (vs_ret (VQ.e (vq_neg vq_int))) vb_nil) vb_nil) vb_nil)) (vb_cons (vs_if (VW.t (VT.and (VQ.tc (vq_gt (vq_len O (vq_v 0) (by rfl) T.b_len) vq_int)) (VT.and1 (VQ.tc (vq_eq O hu (vq_ix O (vq_v 0) vq_int) vq_str))))) (vb_cons (vs_ret (VQ.e (vq_neg vq_int))) vb_nil) vb_nil) (vb_cons (vs_ret (ve_intS (VQ.e (vq_v 0)) (by rfl) T.b_int)) vb_nil))))))
/-! #### _law_due_pour -/
abbrev N__law_due_pour : List Str := ["_law_rest", "_law_spot"]
theorem sc__law_due_pour : FnScope N__law_due_pour ["_law_rest"] (defScope s__law_due_pour) := ⟨rfl, rfl, rfl, by decide +kernel, rfl, by decide +kernel, by decide +kernel⟩
def m__law_due_pour : MS := (mSeq (mAsg (mS2 fFind (mQ (qV 0)) (mQ (qC (.str " ")))) (gNm 1)) (mSeq (mIf (mOrT (mTQ (qOp gLt (qV 1) (qC (.int 0)))) (mTE (mOp gLt (mCall [.bo] F__law_reads (aVal (mSlQ (qV 0) oNo (oQ (qV 1))) aNil)) (mQ (qC (.int 0)))))) (mSeq (mRet (mQ (qC .non))) mSkip) mSkip) (mSeq (mRet (mTup (mCons (mQ (qC (.str "pour"))) (mCons (mCall [.bo] F__law_reads (aVal (mSlQ (qV 0) oNo (oQ (qV 1))) aNil)) (mCons (mSlQ (qV 0) (oQ (qOp gAdd (qV 1) (qC (.int 1)))) oNo) mNil))))) mSkip)))
def F__law_due_pour : Fn := runF [.bo] 2 m__law_due_pour
theorem ok__law_due_pour (T : TX K mg w a) : FnOk P w K mg base (L2.CX P w) 2 a.f__law_due_pour a.d__law_due_pour ["_law_rest"] (spF K (CAo mg) 1 F__law_due_pour) :=
  fn_ok (K := K) (mg := mg) (CA := CAo mg) (N := N__law_due_pour) (ms := [.bo]) (m := m__law_due_pour) T.x__law_due_pour.F sc__law_due_pour rfl fun cdv A outer s H E H0 os0 B fx hfx hr => (
    have O : COk (cxOf (L2.CX P w) P w K mg base _ _ (defScope s__law_due_pour) a.f__law_due_pour cdv A outer s H E) ⟨K, CAo mg, H0, os0, B, fun cls d _ H' => E cls d H', fx, 2⟩ := ⟨rfl, takes_of rfl rfl rfl rfl⟩
    have hu := hr.units
    ((vb_cons (vs_set (i := 1) sc__law_due_pour.nd (ve_findS (VQ.e (vq_v 0)) (VQ.e vq_str)) (hfx 1 rfl)) (vb_cons (vs_if (VW.t (VT.or (VQ.tc (vq_lt (vq_v 1) vq_int)) (VT.or1 (VE.tc (ve_lt (ve_call O (ok__law_reads (P := P) (w := w) (base := base) T) rfl (hr.mono (by decide)) (by rfl) T.x__law_reads.mg T.x__law_reads.kp T.x__law_reads.b (va_val (ve_slQ O (vq_v 0) vo_no (vo_q (vq_v 1))) va_nil)) (VQ.e vq_int)))))) (vb_cons (vs_ret (VQ.e vq_non)) vb_nil) vb_nil) (vb_cons (vs_ret (ve_tup (vl_cons (VQ.e vq_str) (vl_cons (ve_call O (ok__law_reads (P := P) (w := w) (base := base) T) rfl (hr.mono (by decide)) (by rfl) T.x__law_reads.mg T.x__law_reads.kp T.x__law_reads.b (va_val (ve_slQ O (vq_v 0) vo_no (vo_q (vq_v 1))) va_nil)) (vl_cons (ve_slQ O (vq_v 0) (vo_q (vq_add (vq_v 1) vq_int)) vo_no) vl_nil))))) vb_nil)))))
/-! #### _law_words_row -/
abbrev N__law_words_row : List Str := ["_law_words", "_law_row", "_law_word", "_law_spot", "_law_start", "_law_stop"]
theorem sc__law_words_row : FnScope N__law_words_row ["_law_words"] (defScope s__law_words_row) := ⟨rfl, rfl, rfl, by decide +kernel, rfl, by decide +kernel, by decide +kernel⟩
def lg__law_words_row_1 : MG := (gNm 2)
def lb__law_words_row_1 : MS := (mSeq (mAsg (mS2 fFind (mQ (qV 2)) (mQ (qC (.str "-")))) (gNm 3)) (mSeq (mIf (mTE (mEq true (mS2 fCount (mQ (qV 2)) (mQ (qC (.str "-")))) (mQ (qC (.int 1))))) (mSeq (mRet (mQ (qC .non))) mSkip) mSkip) (mSeq (mAsg (mCall [.bo] F__law_reads (aVal (mSlQ (qV 2) oNo (oQ (qV 3))) aNil)) (gNm 4)) (mSeq (mAsg (mCall [.bo] F__law_reads (aVal (mSlQ (qV 2) (oQ (qOp gAdd (qV 3) (qC (.int 1)))) oNo) aNil)) (gNm 5)) (mSeq (mIf (mOrT (mTQ (qOp gLt (qV 4) (qC (.int 0)))) (mTQ (qOp gLt (qV 5) (qC (.int 0))))) (mSeq (mRet (mQ (qC .non))) mSkip) mSkip) (mSeq (mExpr (mAppend (qV 1) (mTup (mCons (mQ (qV 4)) (mCons (mQ (qV 5)) mNil))))) mSkip))))))
def m__law_words_row : MS := (mSeq (mAsg (mLst mNil) (gNm 1)) (mSeq (mForL (mQ (qV 0)) lg__law_words_row_1 lb__law_words_row_1) (mSeq (mRet (mMove 1)) mSkip)))
def F__law_words_row : Fn := runF [.bo] 6 m__law_words_row
theorem ok__law_words_row (T : TX K mg w a) : FnOk P w K mg base (L2.CX P w) 2 a.f__law_words_row a.d__law_words_row ["_law_words"] (spF K (CAo mg) 1 F__law_words_row) :=
  fn_ok (K := K) (mg := mg) (CA := CAo mg) (N := N__law_words_row) (ms := [.bo]) (m := m__law_words_row) T.x__law_words_row.F sc__law_words_row rfl fun cdv A outer s H E H0 os0 B fx hfx hr => (
    have O : COk (cxOf (L2.CX P w) P w K mg base _ _ (defScope s__law_words_row) a.f__law_words_row cdv A outer s H E) ⟨K, CAo mg, H0, os0, B, fun cls d _ H' => E cls d H', fx, 6⟩ := ⟨rfl, takes_of rfl rfl rfl rfl⟩
    have hu := hr.units
    ((vb_cons (vs_set (i := 1) sc__law_words_row.nd (ve_lst vl_nil) (hfx 1 rfl)) (vb_cons (vs_forL O (passes_of rfl) rfl (VQ.e (vq_v 0)) (vg_name (i := 2) sc__law_words_row.nd (hfx 2 rfl)) (vb_cons (vs_set (i := 3) sc__law_words_row.nd (ve_findS (VQ.e (vq_v 2)) (VQ.e vq_str)) (hfx 3 rfl)) (vb_cons (vs_if (VE.tc (ve_ne O hu (ve_countS (VQ.e (vq_v 2)) (VQ.e vq_str)) (VQ.e vq_int))) (vb_cons (vs_ret (VQ.e vq_non)) vb_nil) vb_nil) (vb_cons (vs_set (i := 4) sc__law_words_row.nd (ve_call O (ok__law_reads (P := P) (w := w) (base := base) T) rfl (hr.mono (by decide)) (by rfl) T.x__law_reads.mg T.x__law_reads.kp T.x__law_reads.b (va_val (ve_slQ O (vq_v 2) vo_no (vo_q (vq_v 3))) va_nil)) (hfx 4 rfl)) (vb_cons (vs_set (i := 5) sc__law_words_row.nd (ve_call O (ok__law_reads (P := P) (w := w) (base := base) T) rfl (hr.mono (by decide)) (by rfl) T.x__law_reads.mg T.x__law_reads.kp T.x__law_reads.b (va_val (ve_slQ O (vq_v 2) (vo_q (vq_add (vq_v 3) vq_int)) vo_no) va_nil)) (hfx 5 rfl)) (vb_cons (vs_if (VW.t (VT.or (VQ.tc (vq_lt (vq_v 4) vq_int)) (VT.or1 (VQ.tc (vq_lt (vq_v 5) vq_int))))) (vb_cons (vs_ret (VQ.e vq_non)) vb_nil) vb_nil) (vb_cons (vs_expr (ve_append O (vq_v 1) (ve_tup (vl_cons (VQ.e (vq_v 4)) (vl_cons (VQ.e (vq_v 5)) vl_nil))) (.inl rfl))) vb_nil))))))) (vb_cons (vs_ret (ve_move 1)) vb_nil)))))
/-! #### _law_due_tie -/
abbrev N__law_due_tie : List Str := ["_law_words", "_law_one", "_law_other"]
theorem sc__law_due_tie : FnScope N__law_due_tie ["_law_words"] (defScope s__law_due_tie) := ⟨rfl, rfl, rfl, by decide +kernel, rfl, by decide +kernel, by decide +kernel⟩
def m__law_due_tie : MS := (mSeq (mIf (mTE (mEq true (mL2 cntV (mQ (qV 0)) (mQ (qC (.str "/")))) (mQ (qC (.int 1))))) (mSeq (mRet (mQ (qC .non))) mSkip) mSkip) (mSeq (mAsg (mCall [.bo] F__law_words_row (aVal (mSlE (mQ (qV 0)) oNo (mL2 fstV (mQ (qV 0)) (mQ (qC (.str "/"))))) aNil)) (gNm 1)) (mSeq (mAsg (mCall [.bo] F__law_words_row (aVal (mSlG (mQ (qV 0)) (mAdd (mL2 fstV (mQ (qV 0)) (mQ (qC (.str "/")))) (mQ (qC (.int 1))))) aNil)) (gNm 2)) (mSeq (mIf (mOrT (mTQ (qIsN false (qV 1))) (mTQ (qIsN false (qV 2)))) (mSeq (mRet (mQ (qC .non))) mSkip) mSkip) (mSeq (mRet (mTup (mCons (mQ (qC (.str "tie"))) (mCons (mMove 1) (mCons (mMove 2) mNil))))) mSkip)))))
def F__law_due_tie : Fn := runF [.bo] 3 m__law_due_tie
theorem ok__law_due_tie (T : TX K mg w a) : FnOk P w K mg base (L2.CX P w) 3 a.f__law_due_tie a.d__law_due_tie ["_law_words"] (spF K (CAo mg) 1 F__law_due_tie) :=
  fn_ok (K := K) (mg := mg) (CA := CAo mg) (N := N__law_due_tie) (ms := [.bo]) (m := m__law_due_tie) T.x__law_due_tie.F sc__law_due_tie rfl fun cdv A outer s H E H0 os0 B fx hfx hr => (
    have O : COk (cxOf (L2.CX P w) P w K mg base _ _ (defScope s__law_due_tie) a.f__law_due_tie cdv A outer s H E) ⟨K, CAo mg, H0, os0, B, fun cls d _ H' => E cls d H', fx, 3⟩ := ⟨rfl, takes_of rfl rfl rfl rfl⟩
    have hu := hr.units
    ((vb_cons (vs_if (VE.tc (ve_ne O hu (ve_lcount (VQ.e (vq_v 0)) (VQ.e vq_str)) (VQ.e vq_int))) (vb_cons (vs_ret (VQ.e vq_non)) vb_nil) vb_nil) (vb_cons (vs_set (i := 1) sc__law_due_tie.nd (ve_call O (ok__law_words_row (P := P) (w := w) (base := base) T) rfl (hr.mono (by decide)) (by rfl) T.x__law_words_row.mg T.x__law_words_row.kp T.x__law_words_row.b (va_val (ve_slE O (VQ.e (vq_v 0)) vo_no (ve_lindex (VQ.e (vq_v 0)) (VQ.e vq_str))) va_nil)) (hfx 1 rfl)) (vb_cons (vs_set (i := 2) sc__law_due_tie.nd (ve_call O (ok__law_words_row (P := P) (w := w) (base := base) T) rfl (hr.mono (by decide)) (by rfl) T.x__law_words_row.mg T.x__law_words_row.kp T.x__law_words_row.b (va_val (ve_slG O (VQ.e (vq_v 0)) (ve_add O (ve_lindex (VQ.e (vq_v 0)) (VQ.e vq_str)) (VQ.e vq_int))) va_nil)) (hfx 2 rfl)) (vb_cons (vs_if (VW.t (VT.or (VQ.tc (vq_isN (vq_v 1))) (VT.or1 (VQ.tc (vq_isN (vq_v 2)))))) (vb_cons (vs_ret (VQ.e vq_non)) vb_nil) vb_nil) (vb_cons (vs_ret (ve_tup (vl_cons (VQ.e vq_str) (vl_cons (ve_move 1) (vl_cons (ve_move 2) vl_nil))))) vb_nil)))))))
/-! #### _law_due -/
abbrev N__law_due : List Str := ["_law_line", "_law_words", "_law_name", "_law_rowed", "_law_bare", "_law_many", "_law_numbers", "_law_row", "_law_word", "_law_number_here"]
theorem sc__law_due : FnScope N__law_due ["_law_line"] (defScope s__law_due) := ⟨rfl, rfl, rfl, by decide +kernel, rfl, by decide +kernel, by decide +kernel⟩
def lg__law_due_1 : MG := (gNm 8)
def lt__law_due_1 : List D → R Bool := mYes
def le__law_due_1 : List D → R D := (mCall [.bo] F__law_reads (aPth (qV 8) aNil))
def lg__law_due_2 : MG := (gNm 9)
def lt__law_due_2 : List D → R Bool := (mTQ (qOp gLt (qV 9) (qC (.int 0))))
def le__law_due_2 : List D → R D := (mQ (qV 9))
def m__law_due : MS := (mSeq (mIf (mTE (mEq false (mSlQ (qV 0) oNo (oQ (qC (.int 5)))) (mQ (qC (.str "pour "))))) (mSeq (mRet (mCall [.bo] F__law_due_pour (aVal (mSlQ (qV 0) (oQ (qC (.int 5))) oNo) aNil))) mSkip) mSkip) (mSeq (mAsg (mSplit (mQ (qV 0)) (mQ (qC (.str " ")))) (gNm 1)) (mSeq (mAsg (mQ (qIx (qV 1) (qC (.int 0)))) (gNm 2)) (mSeq (mIf (mTQ (qEq false (qV 2) (qC (.str "tie")))) (mSeq (mRet (mCall [.bo] F__law_due_tie (aVal (mSlQ (qV 1) (oQ (qC (.int 1))) oNo) aNil))) mSkip) mSkip) (mSeq (mAsg (mDisp [.inr "put", .inr "strike", .inr "blot", .inr "lift"] (mCons (mQ (qC (.int 2))) (mCons (mQ (qC (.int 0))) (mCons (mQ (qC (.int 1))) (mCons (mQ (qC (.int 1))) mNil))))) (gNm 3)) (mSeq (mAsg (mDisp [.inr "fresh", .inr "fix", .inr "untie", .inr "read", .inr "back", .inr "fork", .inr "cut", .inr "window"] (mCons (mQ (qC (.int 0))) (mCons (mQ (qC (.int 1))) (mCons (mQ (qC (.int 1))) (mCons (mQ (qC (.int 1))) (mCons (mQ (qC (.int 2))) (mCons (mQ (qC (.int 2))) (mCons (mQ (qC (.int 3))) (mCons (mQ (qC (.int 3))) mNil))))))))) (gNm 4)) (mSeq (mDPut (qV 4) (qC (.str "move")) (mQ (qC (.int 4)))) (mSeq (mDPut (qV 4) (qC (.str "quote")) (mQ (qC (.int 5)))) (mSeq (mAsg (mQ (qDget2 (qV 3) (qV 2) (qDget2 (qV 4) (qV 2) (qNeg (qC (.int 1)))))) (gNm 5)) (mSeq (mIf (mOrT (mTQ (qOp gLt (qV 5) (qC (.int 0)))) (mOrT (mTQ (qOp gLt (qLen (qV 1)) (qOp gAdd (qV 5) (qC (.int 1))))) (mAndT (mTQ (qDin false (qV 2) (qV 4))) (mTQ (qEq true (qLen (qV 1)) (qOp gAdd (qV 5) (qC (.int 1)))))))) (mSeq (mRet (mQ (qC .non))) mSkip) mSkip) (mSeq (mAsg (mLcL (mSlQ (qV 1) (oQ (qC (.int 1))) (oQ (qOp gAdd (qV 5) (qC (.int 1))))) [8] lg__law_due_1 lt__law_due_1 le__law_due_1) (gNm 6)) (mSeq (mIf (mTE (mOp gGt (mLen (mLcL (mQ (qV 6)) [9] lg__law_due_2 lt__law_due_2 le__law_due_2)) (mQ (qC (.int 0))))) (mSeq (mRet (mQ (qC .non))) mSkip) mSkip) (mSeq (mIf (mTQ (qDin false (qV 2) (qV 4))) (mSeq (mRet (mAddT (mTup (mCons (mMove 2) mNil)) (mTupL (mQ (qV 6))))) mSkip) mSkip) (mSeq (mAsg (mCall [.bo] F__law_words_row (aVal (mSlQ (qV 1) (oQ (qOp gAdd (qV 5) (qC (.int 1)))) oNo) aNil)) (gNm 7)) (mSeq (mIf (mTQ (qIsN false (qV 7))) (mSeq (mRet (mQ (qC .non))) mSkip) mSkip) (mSeq (mRet (mAddT (mAddT (mTup (mCons (mMove 2) mNil)) (mTupL (mQ (qV 6)))) (mTup (mCons (mMove 7) mNil)))) mSkip))))))))))))))))
def F__law_due : Fn := runF [.bo] 10 m__law_due
theorem ok__law_due (T : TX K mg w a) : FnOk P w K mg base (L2.CX P w) 4 a.f__law_due a.d__law_due ["_law_line"] (spF K (CAo mg) 1 F__law_due) :=
  fn_ok (K := K) (mg := mg) (CA := CAo mg) (N := N__law_due) (ms := [.bo]) (m := m__law_due) T.x__law_due.F sc__law_due rfl fun cdv A outer s H E H0 os0 B fx hfx hr => (
    have O : COk (cxOf (L2.CX P w) P w K mg base _ _ (defScope s__law_due) a.f__law_due cdv A outer s H E) ⟨K, CAo mg, H0, os0, B, fun cls d _ H' => E cls d H', fx, 10⟩ := ⟨rfl, takes_of rfl rfl rfl rfl⟩
    have hu := hr.units
    ((vb_cons (vs_if (VE.tc (ve_eq O hu (ve_slQ O (vq_v 0) vo_no (vo_q vq_int)) (VQ.e vq_str))) (vb_cons (vs_ret (ve_call O (ok__law_due_pour (P := P) (w := w) (base := base) T) rfl (hr.mono (by decide)) (by rfl) T.x__law_due_pour.mg T.x__law_due_pour.kp T.x__law_due_pour.b (va_val (ve_slQ O (vq_v 0) (vo_q vq_int) vo_no) va_nil))) vb_nil) vb_nil) (vb_cons (vs_set (i := 1) sc__law_due.nd (ve_split (VQ.e (vq_v 0)) (VQ.e vq_str)) (hfx 1 rfl)) (vb_cons (vs_set (i := 2) sc__law_due.nd (VQ.e (vq_ix O (vq_v 1) vq_int)) (hfx 2 rfl)) (vb_cons (vs_if (VQ.tc (vq_eq O hu (vq_v 2) vq_str)) (vb_cons (vs_ret (ve_call O (ok__law_due_tie (P := P) (w := w) (base := base) T) rfl (hr.mono (by decide)) (by rfl) T.x__law_due_tie.mg T.x__law_due_tie.kp T.x__law_due_tie.b (va_val (ve_slQ O (vq_v 1) (vo_q vq_int) vo_no) va_nil))) vb_nil) vb_nil) (vb_cons (vs_set (i := 3) sc__law_due.nd (ve_disp (vp_cons vq_str (VQ.e vq_int) (vp_cons vq_str (VQ.e vq_int) (vp_cons vq_str (VQ.e vq_int) (vp_cons vq_str (VQ.e vq_int) vp_nil))))) (hfx 3 rfl)) (vb_cons (vs_set (i := 4) sc__law_due.nd (ve_disp (vp_cons vq_str (VQ.e vq_int) (vp_cons vq_str (VQ.e vq_int) (vp_cons vq_str (VQ.e vq_int) (vp_cons vq_str (VQ.e vq_int) (vp_cons vq_str (VQ.e vq_int) (vp_cons vq_str (VQ.e vq_int) (vp_cons vq_str (VQ.e vq_int) (vp_cons vq_str (VQ.e vq_int) vp_nil))))))))) (hfx 4 rfl)) (vb_cons (vs_dput (vq_v 4) vq_str (VQ.e vq_int) (hu_of hr)) (vb_cons (vs_dput (vq_v 4) vq_str (VQ.e vq_int) (hu_of hr)) (vb_cons (vs_set (i := 5) sc__law_due.nd (VQ.e (vq_dget2 (vq_v 3) (vq_v 2) (vq_dget2 (vq_v 4) (vq_v 2) (vq_neg vq_int) (hu_of hr)) (hu_of hr))) (hfx 5 rfl)) (vb_cons (vs_if (VW.t (VT.or (VQ.tc (vq_lt (vq_v 5) vq_int)) (VT.or (VQ.tc (vq_lt (vq_len O (vq_v 1) (by rfl) T.b_len) (vq_add (vq_v 5) vq_int))) (VT.or1 (VW.t (VT.and (VQ.tc (vq_din (vq_v 2) (vq_v 4) (hu_of hr))) (VT.and1 (VQ.tc (vq_ne O hu (vq_len O (vq_v 1) (by rfl) T.b_len) (vq_add (vq_v 5) vq_int)))))))))) (vb_cons (vs_ret (VQ.e vq_non)) vb_nil) vb_nil) (vb_cons (vs_setLcL (i := 6) (own := [("_law_word", 8)]) (g := lg__law_due_1) (mt := lt__law_due_1) (se := true) (me := le__law_due_1) O rfl sc__law_due.nd (fxs_cons (hfx 8 rfl) fxs_nil) (ve_slQ O (vq_v 1) (vo_q vq_int) (vo_q (vq_add (vq_v 5) vq_int))) ⟨blkC_by (Nn := N__law_due) (scn := defScope s__law_due) rfl rfl (by decide +kernel), fun _ _ _ _ _ O => (vgo_name (i := 8) sc__law_due.nd (by decide) (hfx 8 rfl)), fun _ _ _ _ _ O => vts_nil, fun _ _ _ _ _ O => (ve_call O (ok__law_reads (P := P) (w := w) (base := base) T) rfl (hr.mono (by decide)) (by rfl) T.x__law_reads.mg T.x__law_reads.kp T.x__law_reads.b (va_var 8 va_nil))⟩ (hfx 6 rfl)) (vb_cons (vs_if (VE.tc (ve_gt (ve_len O (ve_lcL (own := [("_law_number_here", 9)]) (g := lg__law_due_2) (mt := lt__law_due_2) (se := true) (me := le__law_due_2) O rfl sc__law_due.nd (fxs_cons (hfx 9 rfl) fxs_nil) (VQ.e (vq_v 6)) ⟨blkC_by (Nn := N__law_due) (scn := defScope s__law_due) rfl rfl (by decide +kernel), fun _ _ _ _ _ O => (vgo_name (i := 9) sc__law_due.nd (by decide) (hfx 9 rfl)), fun _ _ _ _ _ O => (vts_one (VQ.tc (vq_lt (vq_v 9) vq_int))), fun _ _ _ _ _ O => (VQ.e (vq_v 9))⟩) (by rfl) T.b_len) (VQ.e vq_int))) (vb_cons (vs_ret (VQ.e vq_non)) vb_nil) vb_nil) (vb_cons (vs_if (VQ.tc (vq_din (vq_v 2) (vq_v 4) (hu_of hr))) (vb_cons (vs_ret (ve_addT O (ve_tup (vl_cons (ve_move 2) vl_nil)) (ve_tupL (VQ.e (vq_v 6)) (by rfl) T.b_tuple))) vb_nil) vb_nil) (vb_cons (vs_set (i := 7) sc__law_due.nd (ve_call O (ok__law_words_row (P := P) (w := w) (base := base) T) rfl (hr.mono (by decide)) (by rfl) T.x__law_words_row.mg T.x__law_words_row.kp T.x__law_words_row.b (va_val (ve_slQ O (vq_v 1) (vo_q (vq_add (vq_v 5) vq_int)) vo_no) va_nil)) (hfx 7 rfl)) (vb_cons (vs_if (VQ.tc (vq_isN (vq_v 7))) (vb_cons (vs_ret (VQ.e vq_non)) vb_nil) vb_nil) (vb_cons (vs_ret (ve_addT O (ve_addT O (ve_tup (vl_cons (ve_move 2) vl_nil)) (ve_tupL (VQ.e (vq_v 6)) (by rfl) T.b_tuple)) (ve_tup (vl_cons (ve_move 7) vl_nil)))) vb_nil))))))))))))))))))
/-! #### number_of -/
abbrev N_number_of : List Str := ["word", "sign"]
theorem sc_number_of : FnScope N_number_of ["word"] (defScope s_number_of) := ⟨rfl, rfl, rfl, by decide +kernel, rfl, by decide +kernel, by decide +kernel⟩
def lg_number_of_1 : MG := (gNm 1)
def lb_number_of_1 : MS := (mSeq (mIf (mTQ (qOp (gInS true) (qV 1) (qC (.str "0123456789")))) (mSeq (mRet (mQ (qC .non))) mSkip) mSkip) mSkip)
def m_number_of : MS := (mSeq (mIf (mOrT (mTQ (qEq false (qV 0) (qC (.str "")))) (mOrT (mTQ (qOp gGt (qLen (qV 0)) (qC (.int 60)))) (mAndT (mTQ (qOp gGt (qLen (qV 0)) (qC (.int 1)))) (mTQ (qEq false (qIx (qV 0) (qC (.int 0))) (qC (.str "0"))))))) (mSeq (mRet (mQ (qC .non))) mSkip) mSkip) (mSeq (mForS (mQ (qV 0)) lg_number_of_1 lb_number_of_1) (mSeq (mRet (mIntS (mQ (qV 0)))) mSkip)))
def F_number_of : Fn := runF [.bo] 2 m_number_of
theorem ok_number_of (T : TX K mg w a) : FnOk P w K mg base (L2.CX P w) 1 a.f_number_of a.d_number_of ["word"] (spF K (CAo mg) 1 F_number_of) :=
  fn_ok (K := K) (mg := mg) (CA := CAo mg) (N := N_number_of) (ms := [.bo]) (m := m_number_of) T.x_number_of.F sc_number_of rfl fun cdv A outer s H E H0 os0 B fx hfx hr => (
    have O : COk (cxOf (L2.CX P w) P w K mg base _ _ (defScope s_number_of) a.f_number_of cdv A outer s H E) ⟨K, CAo mg, H0, os0, B, fun cls d _ H' => E cls d H', fx, 2⟩ := ⟨rfl, takes_of rfl rfl rfl rfl⟩
    have hu := hr.units
    ((vb_cons (vs_if (VW.t (VT.or (VQ.tc (vq_eq O hu (vq_v 0) vq_str)) (VT.or (VQ.tc (vq_gt (vq_len O (vq_v 0) (by rfl) T.b_len) vq_int)) (VT.or1 (VW.t (VT.and (VQ.tc (vq_gt (vq_len O (vq_v 0) (by rfl) T.b_len) vq_int)) (VT.and1 (VQ.tc (vq_eq O hu (vq_ix O (vq_v 0) vq_int) vq_str))))))))) (vb_cons (vs_ret (VQ.e vq_non)) vb_nil) vb_nil) (vb_cons (vs_forS (passes_of rfl) rfl (VQ.e (vq_v 0)) (vg_name (i := 1) sc_number_of.nd (hfx 1 rfl)) (vb_cons (vs_if (VQ.tc (vq_notinS (vq_v 1) vq_str)) (vb_cons (vs_ret (VQ.e vq_non)) vb_nil) vb_nil) vb_nil)) (vb_cons (vs_ret (ve_intS (VQ.e (vq_v 0)) (by rfl) T.b_int)) vb_nil)))))
/-! #### read_pour -/
abbrev N_read_pour : List Str := ["rest", "word", "gap", "text", "hand"]
theorem sc_read_pour : FnScope N_read_pour ["rest"] (defScope s_read_pour) := ⟨rfl, rfl, rfl, by decide +kernel, rfl, by decide +kernel, by decide +kernel⟩
def m_read_pour : MS := (mSeq (mAsg (mPart (mQ (qV 0)) (mQ (qC (.str " ")))) (gTu 3 (gC1 (gNm 1) (gC1 (gNm 2) (gC1 (gNm 3) gN0))))) (mSeq (mAsg (mCall [.bo] F_number_of (aPth (qV 1) aNil)) (gNm 4)) (mSeq (mIf (mOrT (mTQ (qIsN false (qV 4))) (mTQ (qEq false (qV 2) (qC (.str ""))))) (mSeq (mRet (mQ (qC .non))) mSkip) mSkip) (mSeq (mRet (mTup (mCons (mQ (qC (.str "pour"))) (mCons (mMove 4) (mCons (mMove 3) mNil))))) mSkip))))
def F_read_pour : Fn := runF [.bo] 5 m_read_pour
theorem ok_read_pour (T : TX K mg w a) : FnOk P w K mg base (L2.CX P w) 2 a.f_read_pour a.d_read_pour ["rest"] (spF K (CAo mg) 1 F_read_pour) :=
  fn_ok (K := K) (mg := mg) (CA := CAo mg) (N := N_read_pour) (ms := [.bo]) (m := m_read_pour) T.x_read_pour.F sc_read_pour rfl fun cdv A outer s H E H0 os0 B fx hfx hr => (
    have O : COk (cxOf (L2.CX P w) P w K mg base _ _ (defScope s_read_pour) a.f_read_pour cdv A outer s H E) ⟨K, CAo mg, H0, os0, B, fun cls d _ H' => E cls d H', fx, 5⟩ := ⟨rfl, takes_of rfl rfl rfl rfl⟩
    have hu := hr.units
    ((vb_cons (vs_asg (ve_partition (VQ.e (vq_v 0)) (VQ.e vq_str)) (vg_tup O rfl (vgs_cons (vg_name (i := 1) sc_read_pour.nd (hfx 1 rfl)) (vgs_cons (vg_name (i := 2) sc_read_pour.nd (hfx 2 rfl)) (vgs_cons (vg_name (i := 3) sc_read_pour.nd (hfx 3 rfl)) vgs_nil))))) (vb_cons (vs_set (i := 4) sc_read_pour.nd (ve_call O (ok_number_of (P := P) (w := w) (base := base) T) rfl (hr.mono (by decide)) (by rfl) T.x_number_of.mg T.x_number_of.kp T.x_number_of.b (va_var 1 va_nil)) (hfx 4 rfl)) (vb_cons (vs_if (VW.t (VT.or (VQ.tc (vq_isN (vq_v 4))) (VT.or1 (VQ.tc (vq_eq O hu (vq_v 2) vq_str))))) (vb_cons (vs_ret (VQ.e vq_non)) vb_nil) vb_nil) (vb_cons (vs_ret (ve_tup (vl_cons (VQ.e vq_str) (vl_cons (ve_move 4) (vl_cons (ve_move 3) vl_nil))))) vb_nil))))))
/-! #### numbers_of -/
abbrev N_numbers_of : List Str := ["words", "found", "word", "number"]
theorem sc_numbers_of : FnScope N_numbers_of ["words"] (defScope s_numbers_of) := ⟨rfl, rfl, rfl, by decide +kernel, rfl, by decide +kernel, by decide +kernel⟩
def lg_numbers_of_1 : MG := (gNm 2)
def lb_numbers_of_1 : MS := (mSeq (mAsg (mCall [.bo] F_number_of (aPth (qV 2) aNil)) (gNm 3)) (mSeq (mIf (mTQ (qIsN false (qV 3))) (mSeq (mRet (mQ (qC .non))) mSkip) mSkip) (mSeq (mExpr (mAppend (qV 1) (mQ (qV 3)))) mSkip)))
def m_numbers_of : MS := (mSeq (mAsg (mLst mNil) (gNm 1)) (mSeq (mForL (mQ (qV 0)) lg_numbers_of_1 lb_numbers_of_1) (mSeq (mRet (mMove 1)) mSkip)))
def F_numbers_of : Fn := runF [.bo] 4 m_numbers_of
theorem ok_numbers_of (T : TX K mg w a) : FnOk P w K mg base (L2.CX P w) 2 a.f_numbers_of a.d_numbers_of ["words"] (spF K (CAo mg) 1 F_numbers_of) :=
  fn_ok (K := K) (mg := mg) (CA := CAo mg) (N := N_numbers_of) (ms := [.bo]) (m := m_numbers_of) T.x_numbers_of.F sc_numbers_of rfl fun cdv A outer s H E H0 os0 B fx hfx hr => (
    have O : COk (cxOf (L2.CX P w) P w K mg base _ _ (defScope s_numbers_of) a.f_numbers_of cdv A outer s H E) ⟨K, CAo mg, H0, os0, B, fun cls d _ H' => E cls d H', fx, 4⟩ := ⟨rfl, takes_of rfl rfl rfl rfl⟩
    have hu := hr.units
    ((vb_cons (vs_set (i := 1) sc_numbers_of.nd (ve_lst vl_nil) (hfx 1 rfl)) (vb_cons (vs_forL O (passes_of rfl) rfl (VQ.e (vq_v 0)) (vg_name (i := 2) sc_numbers_of.nd (hfx 2 rfl)) (vb_cons (vs_set (i := 3) sc_numbers_of.nd (ve_call O (ok_number_of (P := P) (w := w) (base := base) T) rfl (hr.mono (by decide)) (by rfl) T.x_number_of.mg T.x_number_of.kp T.x_number_of.b (va_var 2 va_nil)) (hfx 3 rfl)) (vb_cons (vs_if (VQ.tc (vq_isN (vq_v 3))) (vb_cons (vs_ret (VQ.e vq_non)) vb_nil) vb_nil) (vb_cons (vs_expr (ve_append O (vq_v 1) (VQ.e (vq_v 3)) (.inl rfl))) vb_nil)))) (vb_cons (vs_ret (ve_move 1)) vb_nil)))))
/-! #### stretch_of -/
abbrev N_stretch_of : List Str := ["word", "ends"]
theorem sc_stretch_of : FnScope N_stretch_of ["word"] (defScope s_stretch_of) := ⟨rfl, rfl, rfl, by decide +kernel, rfl, by decide +kernel, by decide +kernel⟩
def m_stretch_of : MS := (mSeq (mAsg (mCall [.bo] F_numbers_of (aVal (mSplit (mQ (qV 0)) (mQ (qC (.str "-")))) aNil)) (gNm 1)) (mSeq (mIf (mOrT (mTQ (qIsN false (qV 1))) (mTQ (qEq true (qLen (qV 1)) (qC (.int 2))))) (mSeq (mRet (mQ (qC .non))) mSkip) mSkip) (mSeq (mRet (mTup (mCons (mQ (qIx (qV 1) (qC (.int 0)))) (mCons (mQ (qIx (qV 1) (qC (.int 1)))) mNil)))) mSkip)))
def F_stretch_of : Fn := runF [.bo] 2 m_stretch_of
theorem ok_stretch_of (T : TX K mg w a) : FnOk P w K mg base (L2.CX P w) 3 a.f_stretch_of a.d_stretch_of ["word"] (spF K (CAo mg) 1 F_stretch_of) :=
  fn_ok (K := K) (mg := mg) (CA := CAo mg) (N := N_stretch_of) (ms := [.bo]) (m := m_stretch_of) T.x_stretch_of.F sc_stretch_of rfl fun cdv A outer s H E H0 os0 B fx hfx hr => (
    have O : COk (cxOf (L2.CX P w) P w K mg base _ _ (defScope s_stretch_of) a.f_stretch_of cdv A outer s H E) ⟨K, CAo mg, H0, os0, B, fun cls d _ H' => E cls d H', fx, 2⟩ := ⟨rfl, takes_of rfl rfl rfl rfl⟩
    have hu := hr.units
    ((vb_cons (vs_set (i := 1) sc_stretch_of.nd (ve_call O (ok_numbers_of (P := P) (w := w) (base := base) T) rfl (hr.mono (by decide)) (by rfl) T.x_numbers_of.mg T.x_numbers_of.kp T.x_numbers_of.b (va_val (ve_split (VQ.e (vq_v 0)) (VQ.e vq_str)) va_nil)) (hfx 1 rfl)) (vb_cons (vs_if (VW.t (VT.or (VQ.tc (vq_isN (vq_v 1))) (VT.or1 (VQ.tc (vq_ne O hu (vq_len O (vq_v 1) (by rfl) T.b_len) vq_int))))) (vb_cons (vs_ret (VQ.e vq_non)) vb_nil) vb_nil) (vb_cons (vs_ret (ve_tup (vl_cons (VQ.e (vq_ix O (vq_v 1) vq_int)) (vl_cons (VQ.e (vq_ix O (vq_v 1) vq_int)) vl_nil)))) vb_nil)))))
/-! #### row_of -/
abbrev N_row_of : List Str := ["words", "found", "word", "stretch"]
theorem sc_row_of : FnScope N_row_of ["words"] (defScope s_row_of) := ⟨rfl, rfl, rfl, by decide +kernel, rfl, by decide +kernel, by decide +kernel⟩
def lg_row_of_1 : MG := (gNm 2)
def lb_row_of_1 : MS := (mSeq (mAsg (mCall [.bo] F_stretch_of (aPth (qV 2) aNil)) (gNm 3)) (mSeq (mIf (mTQ (qIsN false (qV 3))) (mSeq (mRet (mQ (qC .non))) mSkip) mSkip) (mSeq (mExpr (mAppend (qV 1) (mQ (qV 3)))) mSkip)))
def m_row_of : MS := (mSeq (mAsg (mLst mNil) (gNm 1)) (mSeq (mForL (mQ (qV 0)) lg_row_of_1 lb_row_of_1) (mSeq (mRet (mMove 1)) mSkip)))
def F_row_of : Fn := runF [.bo] 4 m_row_of
theorem ok_row_of (T : TX K mg w a) : FnOk P w K mg base (L2.CX P w) 4 a.f_row_of a.d_row_of ["words"] (spF K (CAo mg) 1 F_row_of) :=
  fn_ok (K := K) (mg := mg) (CA := CAo mg) (N := N_row_of) (ms := [.bo]) (m := m_row_of) T.x_row_of.F sc_row_of rfl fun cdv A outer s H E H0 os0 B fx hfx hr => (
    have O : COk (cxOf (L2.CX P w) P w K mg base _ _ (defScope s_row_of) a.f_row_of cdv A outer s H E) ⟨K, CAo mg, H0, os0, B, fun cls d _ H' => E cls d H', fx, 4⟩ := ⟨rfl, takes_of rfl rfl rfl rfl⟩
    have hu := hr.units
    ((vb_cons (vs_set (i := 1) sc_row_of.nd (ve_lst vl_nil) (hfx 1 rfl)) (vb_cons (vs_forL O (passes_of rfl) rfl (VQ.e (vq_v 0)) (vg_name (i := 2) sc_row_of.nd (hfx 2 rfl)) (vb_cons (vs_set (i := 3) sc_row_of.nd (ve_call O (ok_stretch_of (P := P) (w := w) (base := base) T) rfl (hr.mono (by decide)) (by rfl) T.x_stretch_of.mg T.x_stretch_of.kp T.x_stretch_of.b (va_var 2 va_nil)) (hfx 3 rfl)) (vb_cons (vs_if (VQ.tc (vq_isN (vq_v 3))) (vb_cons (vs_ret (VQ.e vq_non)) vb_nil) vb_nil) (vb_cons (vs_expr (ve_append O (vq_v 1) (VQ.e (vq_v 3)) (.inl rfl))) vb_nil)))) (vb_cons (vs_ret (ve_move 1)) vb_nil)))))
/-! #### read_tie -/
abbrev N_read_tie : List Str := ["words", "middle", "one", "other"]
theorem sc_read_tie : FnScope N_read_tie ["words"] (defScope s_read_tie) := ⟨rfl, rfl, rfl, by decide +kernel, rfl, by decide +kernel, by decide +kernel⟩
def m_read_tie : MS := (mSeq (mIf (mTE (mEq true (mL2 cntV (mQ (qV 0)) (mQ (qC (.str "/")))) (mQ (qC (.int 1))))) (mSeq (mRet (mQ (qC .non))) mSkip) mSkip) (mSeq (mAsg (mL2 fstV (mQ (qV 0)) (mQ (qC (.str "/")))) (gNm 1)) (mSeq (mAsg (mCall [.bo] F_row_of (aVal (mSlQ (qV 0) oNo (oQ (qV 1))) aNil)) (gNm 2)) (mSeq (mAsg (mCall [.bo] F_row_of (aVal (mSlQ (qV 0) (oQ (qOp gAdd (qV 1) (qC (.int 1)))) oNo) aNil)) (gNm 3)) (mSeq (mIf (mOrT (mTQ (qIsN false (qV 2))) (mTQ (qIsN false (qV 3)))) (mSeq (mRet (mQ (qC .non))) mSkip) mSkip) (mSeq (mRet (mTup (mCons (mQ (qC (.str "tie"))) (mCons (mMove 2) (mCons (mMove 3) mNil))))) mSkip))))))
def F_read_tie : Fn := runF [.bo] 4 m_read_tie
theorem ok_read_tie (T : TX K mg w a) : FnOk P w K mg base (L2.CX P w) 5 a.f_read_tie a.d_read_tie ["words"] (spF K (CAo mg) 1 F_read_tie) :=
  fn_ok (K := K) (mg := mg) (CA := CAo mg) (N := N_read_tie) (ms := [.bo]) (m := m_read_tie) T.x_read_tie.F sc_read_tie rfl fun cdv A outer s H E H0 os0 B fx hfx hr => (
    have O : COk (cxOf (L2.CX P w) P w K mg base _ _ (defScope s_read_tie) a.f_read_tie cdv A outer s H E) ⟨K, CAo mg, H0, os0, B, fun cls d _ H' => E cls d H', fx, 4⟩ := ⟨rfl, takes_of rfl rfl rfl rfl⟩
    have hu := hr.units
    ((vb_cons (vs_if (VE.tc (ve_ne O hu (ve_lcount (VQ.e (vq_v 0)) (VQ.e vq_str)) (VQ.e vq_int))) (vb_cons (vs_ret (VQ.e vq_non)) vb_nil) vb_nil) (vb_cons (vs_set (i := 1) sc_read_tie.nd (ve_lindex (VQ.e (vq_v 0)) (VQ.e vq_str)) (hfx 1 rfl)) (vb_cons (vs_set (i := 2) sc_read_tie.nd (ve_call O (ok_row_of (P := P) (w := w) (base := base) T) rfl (hr.mono (by decide)) (by rfl) T.x_row_of.mg T.x_row_of.kp T.x_row_of.b (va_val (ve_slQ O (vq_v 0) vo_no (vo_q (vq_v 1))) va_nil)) (hfx 2 rfl)) (vb_cons (vs_set (i := 3) sc_read_tie.nd (ve_call O (ok_row_of (P := P) (w := w) (base := base) T) rfl (hr.mono (by decide)) (by rfl) T.x_row_of.mg T.x_row_of.kp T.x_row_of.b (va_val (ve_slQ O (vq_v 0) (vo_q (vq_add (vq_v 1) vq_int)) vo_no) va_nil)) (hfx 3 rfl)) (vb_cons (vs_if (VW.t (VT.or (VQ.tc (vq_isN (vq_v 2))) (VT.or1 (VQ.tc (vq_isN (vq_v 3)))))) (vb_cons (vs_ret (VQ.e vq_non)) vb_nil) vb_nil) (vb_cons (vs_ret (ve_tup (vl_cons (VQ.e vq_str) (vl_cons (ve_move 2) (vl_cons (ve_move 3) vl_nil))))) vb_nil))))))))
/-! #### read_other -/
abbrev N_read_other : List Str := ["name", "words", "numbers", "many", "row"]
theorem sc_read_other : FnScope N_read_other ["name", "words"] (defScope s_read_other) := ⟨rfl, rfl, rfl, by decide +kernel, rfl, by decide +kernel, by decide +kernel⟩
def m_read_other : MS := (mSeq (mIf (mTQ (qKIn false tb_NUMBERS (qV 0))) (mSeq (mAsg (mCall [.bo] F_numbers_of (aPth (qV 1) aNil)) (gNm 2)) (mSeq (mIf (mOrT (mTQ (qIsN false (qV 2))) (mTQ (qEq true (qLen (qV 2)) (qKIx tb_NUMBERS (qV 0))))) (mSeq (mRet (mQ (qC .non))) mSkip) mSkip) (mSeq (mRet (mAddT (mTup (mCons (mQ (qV 0)) mNil)) (mTupL (mQ (qV 2))))) mSkip))) mSkip) (mSeq (mIf (mTQ (qKIn false tb_ROWED (qV 0))) (mSeq (mAsg (mQ (qKIx tb_ROWED (qV 0))) (gNm 3)) (mSeq (mAsg (mCall [.bo] F_numbers_of (aVal (mSlQ (qV 1) oNo (oQ (qV 3))) aNil)) (gNm 2)) (mSeq (mAsg (mCall [.bo] F_row_of (aVal (mSlQ (qV 1) (oQ (qV 3)) oNo) aNil)) (gNm 4)) (mSeq (mIf (mOrT (mTQ (qIsN false (qV 2))) (mOrT (mTQ (qIsN false (qV 4))) (mTQ (qEq true (qLen (qV 2)) (qV 3))))) (mSeq (mRet (mQ (qC .non))) mSkip) mSkip) (mSeq (mRet (mAddT (mAddT (mTup (mCons (mQ (qV 0)) mNil)) (mTupL (mQ (qV 2)))) (mTup (mCons (mMove 4) mNil)))) mSkip))))) mSkip) (mSeq (mRet (mQ (qC .non))) mSkip)))
def F_read_other : Fn := runF [.bo, .bo] 5 m_read_other
theorem ok_read_other (T : TX K mg w a) : FnOk P w K mg base (L2.CX P w) 5 a.f_read_other a.d_read_other ["name", "words"] (spF K (CAo mg) 2 F_read_other) :=
  fn_ok (K := K) (mg := mg) (CA := CAo mg) (N := N_read_other) (ms := [.bo, .bo]) (m := m_read_other) T.x_read_other.F sc_read_other rfl fun cdv A outer s H E H0 os0 B fx hfx hr => (
    have O : COk (cxOf (L2.CX P w) P w K mg base _ _ (defScope s_read_other) a.f_read_other cdv A outer s H E) ⟨K, CAo mg, H0, os0, B, fun cls d _ H' => E cls d H', fx, 5⟩ := ⟨rfl, takes_of rfl rfl rfl rfl⟩
    have hu := hr.units
    ((vb_cons (vs_if (VQ.tc (vq_kin T.k_NUMBERS (vq_v 0) (by rfl))) (vb_cons (vs_set (i := 2) sc_read_other.nd (ve_call O (ok_numbers_of (P := P) (w := w) (base := base) T) rfl (hr.mono (by decide)) (by rfl) T.x_numbers_of.mg T.x_numbers_of.kp T.x_numbers_of.b (va_var 1 va_nil)) (hfx 2 rfl)) (vb_cons (vs_if (VW.t (VT.or (VQ.tc (vq_isN (vq_v 2))) (VT.or1 (VQ.tc (vq_ne O hu (vq_len O (vq_v 2) (by rfl) T.b_len) (vq_kix T.k_NUMBERS (vq_v 0) (by rfl))))))) (vb_cons (vs_ret (VQ.e vq_non)) vb_nil) vb_nil) (vb_cons (vs_ret (ve_addT O (ve_tup (vl_cons (VQ.e (vq_v 0)) vl_nil)) (ve_tupL (VQ.e (vq_v 2)) (by rfl) T.b_tuple))) vb_nil))) vb_nil) (vb_cons (vs_if (VQ.tc (vq_kin T.k_ROWED (vq_v 0) (by rfl))) (vb_cons (vs_set (i := 3) sc_read_other.nd (VQ.e (vq_kix T.k_ROWED (vq_v 0) (by rfl))) (hfx 3 rfl)) (vb_cons (vs_set (i := 2) sc_read_other.nd (ve_call O (ok_numbers_of (P := P) (w := w) (base := base) T) rfl (hr.mono (by decide)) (by rfl) T.x_numbers_of.mg T.x_numbers_of.kp T.x_numbers_of.b (va_val (ve_slQ O (vq_v 1) vo_no (vo_q (vq_v 3))) va_nil)) (hfx 2 rfl)) (vb_cons (vs_set (i := 4) sc_read_other.nd (ve_call O (ok_row_of (P := P) (w := w) (base := base) T) rfl (hr.mono (by decide)) (by rfl) T.x_row_of.mg T.x_row_of.kp T.x_row_of.b (va_val (ve_slQ O (vq_v 1) (vo_q (vq_v 3)) vo_no) va_nil)) (hfx 4 rfl)) (vb_cons (vs_if (VW.t (VT.or (VQ.tc (vq_isN (vq_v 2))) (VT.or (VQ.tc (vq_isN (vq_v 4))) (VT.or1 (VQ.tc (vq_ne O hu (vq_len O (vq_v 2) (by rfl) T.b_len) (vq_v 3))))))) (vb_cons (vs_ret (VQ.e vq_non)) vb_nil) vb_nil) (vb_cons (vs_ret (ve_addT O (ve_addT O (ve_tup (vl_cons (VQ.e (vq_v 0)) vl_nil)) (ve_tupL (VQ.e (vq_v 2)) (by rfl) T.b_tuple)) (ve_tup (vl_cons (ve_move 4) vl_nil)))) vb_nil))))) vb_nil) (vb_cons (vs_ret (VQ.e vq_non)) vb_nil)))))
/-! #### read_deed -/
abbrev N_read_deed : List Str := ["text", "name", "gap", "rest", "words", "found"]
theorem sc_read_deed : FnScope N_read_deed ["text"] (defScope s_read_deed) := ⟨rfl, rfl, rfl, by decide +kernel, rfl, by decide +kernel, by decide +kernel⟩
def m_read_deed : MS := (mSeq (mAsg (mPart (mQ (qV 0)) (mQ (qC (.str " ")))) (gTu 3 (gC1 (gNm 1) (gC1 (gNm 2) (gC1 (gNm 3) gN0))))) (mSeq (mAsg (mLst mNil) (gNm 4)) (mSeq (mIf (mTQ (qEq true (qV 2) (qC (.str "")))) (mSeq (mAsg (mSplit (mQ (qV 3)) (mQ (qC (.str " ")))) (gNm 4)) mSkip) mSkip) (mSeq (mIf (mTQ (qEq false (qV 1) (qC (.str "pour")))) (mSeq (mAsg (mCall [.bo] F_read_pour (aPth (qV 3) aNil)) (gNm 5)) mSkip) (mSeq (mIf (mTQ (qEq false (qV 1) (qC (.str "tie")))) (mSeq (mAsg (mCall [.bo] F_read_tie (aPth (qV 4) aNil)) (gNm 5)) mSkip) (mSeq (mAsg (mCall [.bo, .bo] F_read_other (aPth (qV 1) (aPth (qV 4) aNil))) (gNm 5)) mSkip)) mSkip)) (mSeq (mIf (mTQ (qIsN false (qV 5))) (mSeq (mRaise "NoDeed") mSkip) mSkip) (mSeq (mRet (mMove 5)) mSkip))))))
def F_read_deed : Fn := runF [.bo] 6 m_read_deed
theorem ok_read_deed (T : TX K mg w a) : FnOk P w K mg base (L2.CX P w) 6 a.f_read_deed a.d_read_deed ["text"] (spF K (CAo mg) 1 F_read_deed) :=
  fn_ok (K := K) (mg := mg) (CA := CAo mg) (N := N_read_deed) (ms := [.bo]) (m := m_read_deed) T.x_read_deed.F sc_read_deed rfl fun cdv A outer s H E H0 os0 B fx hfx hr => (
    have O : COk (cxOf (L2.CX P w) P w K mg base _ _ (defScope s_read_deed) a.f_read_deed cdv A outer s H E) ⟨K, CAo mg, H0, os0, B, fun cls d _ H' => E cls d H', fx, 6⟩ := ⟨rfl, takes_of rfl rfl rfl rfl⟩
    have hu := hr.units
    ((vb_cons (vs_asg (ve_partition (VQ.e (vq_v 0)) (VQ.e vq_str)) (vg_tup O rfl (vgs_cons (vg_name (i := 1) sc_read_deed.nd (hfx 1 rfl)) (vgs_cons (vg_name (i := 2) sc_read_deed.nd (hfx 2 rfl)) (vgs_cons (vg_name (i := 3) sc_read_deed.nd (hfx 3 rfl)) vgs_nil))))) (vb_cons (vs_set (i := 4) sc_read_deed.nd (ve_lst vl_nil) (hfx 4 rfl)) (vb_cons (vs_if (VQ.tc (vq_ne O hu (vq_v 2) vq_str)) (vb_cons (vs_set (i := 4) sc_read_deed.nd (ve_split (VQ.e (vq_v 3)) (VQ.e vq_str)) (hfx 4 rfl)) vb_nil) vb_nil) (vb_cons (vs_if (VQ.tc (vq_eq O hu (vq_v 1) vq_str)) (vb_cons (vs_set (i := 5) sc_read_deed.nd (ve_call O (ok_read_pour (P := P) (w := w) (base := base) T) rfl (hr.mono (by decide)) (by rfl) T.x_read_pour.mg T.x_read_pour.kp T.x_read_pour.b (va_var 3 va_nil)) (hfx 5 rfl)) vb_nil) (vb_cons (vs_if (VQ.tc (vq_eq O hu (vq_v 1) vq_str)) (vb_cons (vs_set (i := 5) sc_read_deed.nd (ve_call O (ok_read_tie (P := P) (w := w) (base := base) T) rfl (hr.mono (by decide)) (by rfl) T.x_read_tie.mg T.x_read_tie.kp T.x_read_tie.b (va_var 4 va_nil)) (hfx 5 rfl)) vb_nil) (vb_cons (vs_set (i := 5) sc_read_deed.nd (ve_call O (ok_read_other (P := P) (w := w) (base := base) T) rfl (hr.mono (by decide)) (by rfl) T.x_read_other.mg T.x_read_other.kp T.x_read_other.b (va_var 1 (va_var 4 va_nil))) (hfx 5 rfl)) vb_nil)) vb_nil)) (vb_cons (vs_if (VQ.tc (vq_isN (vq_v 5))) (vb_cons (vs_raise O rfl ⟨T.e_NoDeed⟩ (by rfl)) vb_nil) vb_nil) (vb_cons (vs_ret (ve_move 5)) vb_nil))))))))
/-! #### _law_deed_or_none -/
abbrev N__law_deed_or_none : List Str := ["_law_line", "_law_any_one", "_law_told"]
theorem sc__law_deed_or_none : FnScope N__law_deed_or_none ["_law_line", "_law_any_one"] (defScope s__law_deed_or_none) := ⟨rfl, rfl, rfl, by decide +kernel, rfl, by decide +kernel, by decide +kernel⟩
def m__law_deed_or_none : MS := (mSeq (mAsg (mQ (qC .non)) (gNm 2)) (mSeq (mIf (mTQ (qV 1)) (mSeq (mTry hiL (mSeq (mAsg (mCall [.bo] F_read_deed (aPth (qV 0) aNil)) (gNm 2)) mSkip) [("InkError", (mSeq (mAsg (mQ (qC .non)) (gNm 2)) mSkip))]) mSkip) (mSeq (mTry hiL (mSeq (mAsg (mCall [.bo] F_read_deed (aPth (qV 0) aNil)) (gNm 2)) mSkip) [("NoDeed", (mSeq (mAsg (mQ (qC .non)) (gNm 2)) mSkip))]) mSkip)) (mSeq (mRet (mMove 2)) mSkip)))
def F__law_deed_or_none : Fn := runF [.bo, .bo] 3 m__law_deed_or_none
theorem ok__law_deed_or_none (T : TX K mg w a) : FnOk P w K mg base (L2.CX P w) 7 a.f__law_deed_or_none a.d__law_deed_or_none ["_law_line", "_law_any_one"] (spF K (CAo mg) 2 F__law_deed_or_none) :=
  fn_ok (K := K) (mg := mg) (CA := CAo mg) (N := N__law_deed_or_none) (ms := [.bo, .bo]) (m := m__law_deed_or_none) T.x__law_deed_or_none.F sc__law_deed_or_none rfl fun cdv A outer s H E H0 os0 B fx hfx hr => (
    have O : COk (cxOf (L2.CX P w) P w K mg base _ _ (defScope s__law_deed_or_none) a.f__law_deed_or_none cdv A outer s H E) ⟨K, CAo mg, H0, os0, B, fun cls d _ H' => E cls d H', fx, 3⟩ := ⟨rfl, takes_of rfl rfl rfl rfl⟩
    have hu := hr.units
    ((vb_cons (vs_set (i := 2) sc__law_deed_or_none.nd (VQ.e vq_non) (hfx 2 rfl)) (vb_cons (vs_if (VQ.t (vq_v 1)) (vb_cons (vs_try O T.hier rfl rfl (fun W pn xe O pa => (vb_cons (vs_set (i := 2) sc__law_deed_or_none.nd (ve_call O (ok_read_deed (P := P) (w := w) (base := base) T) rfl (hr.mono (by decide)) (by rfl) T.x_read_deed.mg T.x_read_deed.kp T.x_read_deed.b (va_var 0 va_nil)) (hfx 2 rfl)) vb_nil)) (VHs.cons (by rfl) (by decide) T.c_InkError (fun _ _ _ => (vb_cons (vs_set (i := 2) sc__law_deed_or_none.nd (VQ.e vq_non) (hfx 2 rfl)) vb_nil)) VHs.nil)) vb_nil) (vb_cons (vs_try O T.hier rfl rfl (fun W pn xe O pa => (vb_cons (vs_set (i := 2) sc__law_deed_or_none.nd (ve_call O (ok_read_deed (P := P) (w := w) (base := base) T) rfl (hr.mono (by decide)) (by rfl) T.x_read_deed.mg T.x_read_deed.kp T.x_read_deed.b (va_var 0 va_nil)) (hfx 2 rfl)) vb_nil)) (VHs.cons (by rfl) (by decide) T.c_NoDeed (fun _ _ _ => (vb_cons (vs_set (i := 2) sc__law_deed_or_none.nd (VQ.e vq_non) (hfx 2 rfl)) vb_nil)) VHs.nil)) vb_nil)) (vb_cons (vs_ret (ve_move 2)) vb_nil)))))
/-! #### law -/
abbrev N_law : List Str := ["_law_script", "_law_src_here", "_law_line"]
theorem sc_law : FnScope N_law ["_law_script"] (defScope s_law) := ⟨rfl, rfl, rfl, by decide +kernel, rfl, by decide +kernel, by decide +kernel⟩
def m_law : MS := (mSeq (mAsg (mCall [.bo] F__law_src (aVal (mScr 0) aNil)) (gNm 1)) (mSeq (mAsg (mCall [.io] F__law_line_by (aPth (qV 1) aNil)) (gNm 2)) (mSeq (mRet (mCall [.bo, .bo] F__law_same_top (aVal (mCall [.bo, .bo] F__law_deed_or_none (aPth (qV 2) (aVal (mEq false (mCall [.io, .bo] F__law_next (aPth (qV 1) (aVal (mQ (qC (.int 2))) aNil))) (mQ (qC (.int 0)))) aNil))) (aVal (mCall [.bo] F__law_due (aPth (qV 2) aNil)) aNil)))) mSkip)))
def F_law : Fn := runF [.bo] 3 m_law
theorem ok_law (T : TX K mg w a) : FnOk P w K mg base (L2.CX P w) 8 a.f_law a.d_law ["_law_script"] (spF K (CAo mg) 1 F_law) :=
  fn_ok (K := K) (mg := mg) (CA := CAo mg) (N := N_law) (ms := [.bo]) (m := m_law) T.x_law.F sc_law rfl fun cdv A outer s H E H0 os0 B fx hfx hr => (
    have O : COk (cxOf (L2.CX P w) P w K mg base _ _ (defScope s_law) a.f_law cdv A outer s H E) ⟨K, CAo mg, H0, os0, B, fun cls d _ H' => E cls d H', fx, 3⟩ := ⟨rfl, takes_of rfl rfl rfl rfl⟩
    have hu := hr.units
    ((vb_cons (vs_set (i := 1) sc_law.nd (ve_call O (ok__law_src (P := P) (w := w) (base := base) T) rfl (hr.mono (by decide)) (by rfl) T.x__law_src.mg T.x__law_src.kp T.x__law_src.b (va_val (ve_scr 0) va_nil)) (hfx 1 rfl)) (vb_cons (vs_set (i := 2) sc_law.nd (ve_call O (ok__law_line_by (P := P) (w := w) (base := base) T) rfl (hr.mono (by decide)) (by rfl) T.x__law_line_by.mg T.x__law_line_by.kp T.x__law_line_by.b (va_var 1 va_nil)) (hfx 2 rfl)) (vb_cons (vs_ret (ve_call O (ok__law_same (P := P) (w := w) (base := base) T) rfl (hr.mono (by decide)) (by rfl) T.x__law_same.mg T.x__law_same.kp T.x__law_same.b (va_val (ve_call O (ok__law_deed_or_none (P := P) (w := w) (base := base) T) rfl (hr.mono (by decide)) (by rfl) T.x__law_deed_or_none.mg T.x__law_deed_or_none.kp T.x__law_deed_or_none.b (va_var 2 (va_val (ve_eq O hu (ve_call O (ok__law_next (P := P) (w := w) (base := base) T) rfl (hr.mono (by decide)) (by rfl) T.x__law_next.mg T.x__law_next.kp T.x__law_next.b (va_var 1 (va_val (VQ.e vq_int) va_nil))) (VQ.e vq_int)) va_nil))) (va_val (ve_call O (ok__law_due (P := P) (w := w) (base := base) T) rfl (hr.mono (by decide)) (by rfl) T.x__law_due.mg T.x__law_due.kp T.x__law_due.b (va_var 2 va_nil)) va_nil)))) vb_nil)))))
end
end Law
namespace Law
open PySem L2 PV
/-- the source of numbers -/
structure Sr where
  cs : List Int
  p : Int
  n : Int
  r : Int
  hp : 0 ≤ p
  hr : 0 ≤ r
  hr2 : r < 2147483647
def srcD (s : Sr) : D := .nd (.lst .own) [.nd (.lst .own) (s.cs.map D.int), .int s.p, .int s.n, .int s.r]
@[simp] theorem noBor_srcD (s : Sr) : D.noBor (srcD s) = true := by simp [srcD]
@[simp] theorem plD0_srcD (r : Nat) (p : Pth) (s : Sr) : plD0 r p (srcD s) = some (.pth r p) := rfl
theorem src_ok (cs : List Int) : ∃ s : Sr, F__law_src [.scr cs] = .ok (srcD s) [.un] := ⟨⟨cutL cs none (some 63), 0, 0, 1, by decide, by decide, by decide⟩, by
  simp [F__law_src, runF_eq, m__law_src, chk_of, PySem.sizeLine_eq, srcD]⟩
theorem next_sat (s : Sr) (b : Int) (hb : 0 < b) (hb1 : b < 10000000000000000000000000000000000000000000000000000000000000000000000) : (F__law_next [srcD s, .int b]).sat fun d o => ∃ (v : Int) (s' : Sr), 0 ≤ v ∧ v < b ∧ d = .int v ∧ o = [srcD s', .un] := by
  have hb2 : b.natAbs.log2 < 9000 := log2_ok (by omega)
  obtain ⟨cs, p, n, r, hp, hr, hr2⟩ := s
  rw [F__law_next, runF_eq]
  unfold m__law_next
  refine seq_cut (fun st => ∃ (s : Sr) (d2 : D), st = [srcD s, .int b, d2, .un]) ?_ ?_
  · have e1 : ∀ c : Int, 0 ≤ (r * 48271 + c % 998244353 + 1) % 2147483647 := fun c => Int.emod_nonneg _ (by decide)
    have e2 : ∀ c : Int, (r * 48271 + c % 998244353 + 1) % 2147483647 < 2147483647 := fun c => Int.emod_lt_of_pos _ (by decide)
    by_cases h1 : n ≤ 1
    · by_cases h2 : p < cs.length
      · obtain ⟨c, hc⟩ : ∃ c, cs[p.toNat]? = some c := ⟨cs[p.toNat]'(by omega), by simp⟩
        have hc' : cs[p.toNat]'(by omega) = c := by simpa using (List.getElem?_eq_some_iff.mp hc).2
        by_cases h3 : (1000000000000000000 : Int) ≤ c
        · exact ⟨_, by simp [srcD, h1, h2, h3, hc', chkO_of, ixN, hp, hc], ⟨cs, p + 1, c, _, by omega, e1 c, e2 c⟩, .int c, rfl⟩
        · exact ⟨_, by simp [srcD, h1, h2, h3, hc', chkO_of, ixN, hp, hc], ⟨cs, p + 1, n, _, by omega, e1 c, e2 c⟩, .int c, rfl⟩
      · exact ⟨_, by simp [srcD, h1, h2, chkO_of, ixN, hp], ⟨cs, p, n, _, hp, e1 7, e2 7⟩, .int 7, rfl⟩
    · exact ⟨_, by simp [srcD, h1, chkO_of, ixN]; rfl, ⟨cs, p, n, r, hp, hr, hr2⟩, _, rfl⟩
  · rintro st1 ⟨⟨cs, p, n, r, hp, hr, hr2⟩, d2, rfl⟩
    by_cases h1 : 1 < n
    · exact ⟨_, _, by simp [srcD, h1, chkO_of, ixN, hb, hb2], n % b, ⟨cs, p, n / b, r, hp, hr, hr2⟩, Int.emod_nonneg _ (by omega), Int.emod_lt_of_pos _ hb, rfl, rfl⟩
    · exact ⟨_, _, by simp [srcD, h1, chkO_of, ixN, hb, hb2], _, ⟨cs, p, n, r, hp, hr, hr2⟩, Int.emod_nonneg (r * 40692 % 2147483399 / 3) (by omega), Int.emod_lt_of_pos _ hb, rfl, rfl⟩
theorem next_ok (s : Sr) (b : Int) (hb : 0 < b) (hb1 : b < 10000000000000000000000000000000000000000000000000000000000000000000000) : ∃ (v : Int) (s' : Sr), 0 ≤ v ∧ v < b ∧ F__law_next [srcD s, .int b] = .ok (.int v) [srcD s', .un] := by
  obtain ⟨d, o, e, v, s', h0, h1, rfl, rfl⟩ := next_sat s b hb hb1
  exact ⟨v, s', h0, h1, e⟩

theorem rangeD_eq (a b : Int) : rangeD a b = ((List.range (b - a).toNat).map fun i => a + (i : Nat)).map D.int := by
  simp [rangeD]

@[simp] theorem atI3_0 {α : Type} (x y z : α) : atI [x, y, z] 0 = some x := rfl
@[simp] theorem atI3_1 {α : Type} (x y z : α) : atI [x, y, z] 1 = some y := rfl
@[simp] theorem atI3_2 {α : Type} (x y z : α) : atI [x, y, z] 2 = some z := rfl
@[simp] theorem whole_non : F__law_whole [.non] = .ok (.bl false) [.un] := by simp [F__law_whole, runF_eq, m__law_whole]
@[simp] theorem whole_bl (b : Bool) : F__law_whole [.bl b] = .ok (.bl false) [.un] := by simp [F__law_whole, runF_eq, m__law_whole]
@[simp] theorem whole_int (b : Int) : F__law_whole [.int b] = .ok (.bl true) [.un] := by simp [F__law_whole, runF_eq, m__law_whole]
@[simp] theorem whole_str (b : Str) : F__law_whole [.str b] = .ok (.bl false) [.un] := by simp [F__law_whole, runF_eq, m__law_whole]
@[simp] theorem whole_lst (f : Fl) (xs : List D) : F__law_whole [.nd (.lst f) xs] = .ok (.bl false) [.un] := by simp [F__law_whole, runF_eq, m__law_whole]
@[simp] theorem whole_tup (xs : List D) : F__law_whole [.nd .tup xs] = .ok (.bl false) [.un] := by simp [F__law_whole, runF_eq, m__law_whole]
/-- the loop over both -/
theorem same_loop (R : Fn) (n : Nat) (hR : ∀ x y, D.ok x n = true → D.ok y n = true → R [x, y] = .ok (.bl (D.same x y)) [.un, .un]) (x0 y0 : D) : ∀ (xs ys : List D) (x y : D), xs.length = ys.length → D.okL xs n = true → D.okL ys n = true →
    ∃ x' y', forL lg__law_same_1 (lb__law_same_1 R) (zipD xs ys) [x0, y0, x, y] = if D.sameL xs ys = true then .nx [x0, y0, x', y'] else .rt (.bl false) [x0, y0, x', y']
  | [], [], x, y, _, _, _ => ⟨x, y, by simp [zipD]⟩
  | [], b :: ys, x, y, h, _, _ => by simp at h
  | a :: xs, [], x, y, h, _, _ => by simp at h
  | a :: xs, b :: ys, x, y, h, h1, h2 => by
    simp at h h1 h2
    obtain ⟨x', y', e⟩ := same_loop R n hR x0 y0 xs ys a b h h1.2 h2.2
    have e2 := hR a.len b.len (by rw [ok_set]; exact h1.1) (by rw [ok_set]; exact h2.1)
    rw [same_set] at e2
    have turn : tgR (lg__law_same_1 (.nd .tup [a, b]) [x0, y0, x, y]) (lb__law_same_1 R) = if D.same a b = true then .nx [x0, y0, a, b] else .rt (.bl false) [x0, y0, a, b] := by
      rcases plD0_ok h1.1 2 [] with p1 | p1 <;> rcases plD0_ok h2.1 3 [] with p2 | p2 <;> cases hs : D.same a b <;> rw [hs] at e2 <;> simp [lg__law_same_1, lb__law_same_1, chkO_of, chk_of, p1, p2, e2]
    cases hs : D.same a b with
    | true => exact ⟨x', y', by simp [zipD, forL_cons, turn, hs, e]⟩
    | false => exact ⟨a, b, by simp [zipD, forL_cons, turn, hs]⟩
theorem same_step (R : Fn) (n : Nat) (hR : ∀ m x y, n = m + 1 → D.ok x m = true → D.ok y m = true → R [x, y] = .ok (.bl (D.same x y)) [.un, .un]) (x y : D) (hx : D.ok x n = true) (hy : D.ok y n = true) : runF [.bo, .bo] 4 (m__law_same R) [x, y] = .ok (.bl (D.same x y)) [.un, .un] := by
  rcases ok_cases hx with rfl | ⟨b, rfl⟩ | ⟨b, rfl⟩ | ⟨b, rfl, hb⟩ | ⟨f, xs, m, rfl, rfl, hb⟩ | ⟨xs, m, rfl, rfl, hb⟩ <;> rcases ok_cases hy with rfl | ⟨c, rfl⟩ | ⟨c, rfl⟩ | ⟨c, rfl, hc⟩ | ⟨g, ys, m', rfl, hm, hc⟩ | ⟨ys, m', rfl, hm, hc⟩
  all_goals try (simp [runF_eq, m__law_same, chkO_of, chk_of, D.same]; done)
  · simp [runF_eq, m__law_same, chkO_of, chk_of]
  · have e : eqD (.str b) (.str c) = some (b == c) := by rw [eqD_ok (by simpa using hb) (by simpa using hc)]; simp
    simp [runF_eq, m__law_same, chkO_of, chk_of, e]
  · cases f <;> simp [runF_eq, m__law_same, chkO_of, chk_of, D.same]
  · obtain rfl : m = m' := by omega
    by_cases hl : xs.length = ys.length
    · obtain ⟨x', y', e⟩ := same_loop R m (fun x y h1 h2 => hR m x y rfl h1 h2) (.nd (.lst (if f = .own then .fz else f)) (D.setL .fz xs)) (.nd (.lst (if g = .own then .fz else g)) (D.setL .fz ys)) (D.setL .fz xs) (D.setL .fz ys) .un .un (by simpa using hl) (by rw [ok_setL]; exact hb) (by rw [ok_setL]; exact hc)
      rw [same_setL] at e
      cases hs : D.sameL xs ys <;> rw [hs] at e <;> cases f <;> cases g <;> simp at e <;> simp [runF_eq, m__law_same, chkO_of, chk_of, chkS_of, hl, e, hs]
    · have hs : D.sameL xs ys = false := by
        cases h : D.sameL xs ys with
        | true => exact absurd (sameL_len h) hl
        | false => rfl
      have hl' : ¬ ((xs.length : Int) = (ys.length : Int)) := by omega
      cases f <;> cases g <;> simp [runF_eq, m__law_same, chkO_of, chk_of, chkS_of, hl, hl', hs]
  · obtain rfl : m = m' := by omega
    by_cases hl : xs.length = ys.length
    · obtain ⟨x', y', e⟩ := same_loop R m (fun x y h1 h2 => hR m x y rfl h1 h2) (.nd .tup (D.setL .fz xs)) (.nd .tup (D.setL .fz ys)) (D.setL .fz xs) (D.setL .fz ys) .un .un (by simpa using hl) (by rw [ok_setL]; exact hb) (by rw [ok_setL]; exact hc)
      rw [same_setL] at e
      cases hs : D.sameL xs ys <;> rw [hs] at e <;> simp at e <;> simp [runF_eq, m__law_same, chkO_of, chk_of, chkS_of, hl, e, hs]
    · have hs : D.sameL xs ys = false := by
        cases h : D.sameL xs ys with
        | true => exact absurd (sameL_len h) hl
        | false => rfl
      have hl' : ¬ ((xs.length : Int) = (ys.length : Int)) := by omega
      simp [runF_eq, m__law_same, chkO_of, chk_of, chkS_of, hl, hl', hs]
theorem same_eqn : ∀ (n : Nat) (x y : D), D.ok x n = true → D.ok y n = true → F__law_same (n + 1) [x, y] = .ok (.bl (D.same x y)) [.un, .un]
  | 0, x, y, hx, hy => same_step _ 0 (fun m x y h => by omega) x y hx hy
  | n + 1, x, y, hx, hy => same_step _ (n + 1) (fun m x y h h1 h2 => by
      obtain rfl : n = m := by omega
      exact same_eqn n x y h1 h2) x y hx hy
theorem same_eq (x y : D) (hx : D.ok x 5 = true) (hy : D.ok y 5 = true) : F__law_same_top [x, y] = .ok (.bl (D.same x y)) [.un, .un] := same_eqn 5 x y hx hy

/-- texts by their codes -/
def tx (cs : List Nat) : Str := ⟨cs.toArray⟩
@[simp] theorem tx_len (cs : List Nat) : (tx cs).length = cs.length := by simp [tx, Str.length]
@[simp] theorem tx_app (a b : List Nat) : tx a ++ tx b = tx (a ++ b) := by
  show Str.append _ _ = _
  simp [tx, Str.append]
@[simp] theorem tx_codes (cs : List Nat) : (tx cs).cps.toList = cs := by simp [tx]
@[simp] theorem signsD_tx (cs : List Nat) : signsD (tx cs) = cs.map fun c => .str (tx [c]) := by simp [signsD, tx]
theorem tx_inj {a b : List Nat} (h : tx a = tx b) : a = b := by
  have := congrArg (fun z : Str => z.cps.toList) h
  simpa using this
theorem cutS_tx (cs : List Nat) (lo hi : Option Int) : cutS (tx cs) lo hi = tx (cutL cs lo hi) := by
  unfold cutS cutL
  rw [tx_len, tx_codes]
  rfl

theorem join_tx (l : List (List Nat)) : Txt.join (Str.ofString "") (l.map tx) = tx l.flatten := by
  cases l with
  | nil => decide
  | cons x r =>
    have e : (Str.ofString "").cps = #[] := by decide
    have key : ∀ (r : List (List Nat)) (a : List Nat), List.foldl (fun acc (p : Str) => acc ++ (Str.ofString "").cps ++ p.cps) a.toArray (r.map tx) = (a ++ r.flatten).toArray := by
      intro r
      induction r with
      | nil => intro a; simp
      | cons y r ih =>
        intro a
        rw [List.map_cons, List.foldl_cons]
        have : a.toArray ++ (Str.ofString "").cps ++ (tx y).cps = (a ++ y).toArray := by rw [e]; simp [tx]
        rw [this, ih]; simp
    have k := key r x
    simp only [Txt.join, Builtin.Str.glued, List.map_cons, List.headD_cons, List.drop_succ_cons, List.drop_zero]
    unfold tx at k ⊢
    rw [k]; simp
theorem tx1 (c : Nat) : (⟨#[c]⟩ : Str) = tx [c] := rfl

theorem cutL_to {α : Type} {xs : List α} {y : Int} (h2 : 0 ≤ y) (h3 : y ≤ xs.length) : cutL xs none (some y) = xs.take y.toNat := by
  have e1 : HT.sIx xs.length 0 none = 0 := by simp [HT.sIx]
  have e2 : HT.sIx xs.length xs.length (some y) = y.toNat := by unfold HT.sIx; simp only; rw [if_neg (by omega)]; omega
  rw [cutL, e1, e2]; simp
theorem cutL_from {α : Type} {xs : List α} {y : Int} (h2 : 0 ≤ y) (h3 : y ≤ xs.length) : cutL xs (some y) none = xs.drop y.toNat := by
  have e1 : HT.sIx xs.length 0 (some y) = y.toNat := by unfold HT.sIx; simp only; rw [if_neg (by omega)]; omega
  have e2 : HT.sIx xs.length xs.length none = xs.length := by simp [HT.sIx]
  rw [cutL, e1, e2, List.take_of_length_le (by simp)]

open TL
@[simp] theorem setL_sD (g : Fl) : ∀ zs : List Str, D.setL g (zs.map D.str) = zs.map D.str
  | [] => by simp
  | w :: ws => by simp [setL_sD g ws]
@[simp] theorem noBorL_sD : ∀ zs : List Str, D.noBorL (zs.map D.str) = true
  | [] => by simp
  | w :: ws => by simp [noBorL_sD ws]
/-! numbers as texts -/
theorem s_empty : Str.ofString "" = tx [] := by decide +kernel
theorem s_zero : Str.ofString "0" = tx [48] := by decide +kernel
theorem s_sp : Str.ofString " " = tx [32] := by decide +kernel
theorem s_da : Str.ofString "-" = tx [45] := by decide +kernel
theorem tl_tx (cs : List Nat) : tl (tx cs) = cs := tx_codes cs
theorem nS_tx {n : Int} (h : 0 ≤ n) : nS n = tx (numL n.toNat) := by
  apply ext_tl
  obtain ⟨k, rfl⟩ : ∃ k : Nat, n = k := ⟨n.toNat, by omega⟩
  show tl (Str.ofString (toString ((k : Nat) : Int))) = _
  rw [tl_num, tl_tx]; rfl
def Cd (cs : List Nat) : Prop := ∀ c ∈ cs, c < 1114112
theorem cd_num (n : Nat) : Cd (numL n) := fun c hc => by have := numL_digits n c hc; omega
theorem Cd.app {a b : List Nat} (h : Cd a) (k : Cd b) : Cd (a ++ b) := fun c hc => by
  rcases List.mem_append.mp hc with hc | hc
  · exact h c hc
  · exact k c hc
theorem ok_tx {cs : List Nat} (h : Cd cs) (n : Nat) : D.ok (.str (tx cs)) n = true := by
  have : (tx cs).cps.all (fun c => decide (c < 1114112)) = true := by
    rw [← Array.all_toList]
    simp only [tx_codes, List.all_eq_true, decide_eq_true_eq]
    exact h
  simpa [D.ok, PyData.strOk] using this
theorem eq_tx {a b : List Nat} (ha : Cd a) (hb : Cd b) : eqD (.str (tx a)) (.str (tx b)) = some (decide (a = b)) := by
  rw [eqD_ok (ok_tx ha 60) (ok_tx hb 60)]
  congr 1
  by_cases c : a = b
  · subst c; simp
  · have : ¬ tx a = tx b := fun h => c (tx_inj h)
    simp [c, this]
def digs (cs : List Nat) : Bool := cs.all fun c => decide (48 ≤ c ∧ c ≤ 57)
theorem digs_mem (c : Nat) : decide (c ∈ (Str.ofString "0123456789").cps.toList) = decide (48 ≤ c ∧ c ≤ 57) := by
  have e : (Str.ofString "0123456789").cps.toList = [48, 49, 50, 51, 52, 53, 54, 55, 56, 57] := by decide +kernel
  rw [e, decide_eq_decide]
  simp
  omega
theorem gInS_tx (neg : Bool) (c : Nat) (z : Str) : gInS neg (.str (tx [c])) (.str z) = some (.bl (if neg = true then !decide (c ∈ z.cps.toList) else decide (c ∈ z.cps.toList))) := rfl
theorem num_loop (d0 : D) : ∀ (cs : List Nat) (x : D), ∃ x' : D, forL lg_number_of_1 lb_number_of_1 (cs.map fun c => D.str (tx [c])) [d0, x] = if digs cs = true then .nx [d0, x'] else .rt .non [d0, x']
  | [], x => ⟨x, by simp [digs]⟩
  | c :: cs, x => by
    obtain ⟨x', e⟩ := num_loop d0 cs (.str (tx [c]))
    have g := fun z => gInS_tx true c z
    have dm := digs_mem c
    rw [List.map_cons, forL_cons]
    by_cases h : 48 ≤ c ∧ c ≤ 57
    · have turn : tgR (lg_number_of_1 (.str (tx [c])) [d0, x]) lb_number_of_1 = .nx [d0, .str (tx [c])] := by
        rw [decide_eq_true h] at dm
        simp only [dm] at g
        have g' := g (Str.ofString "0123456789")
        rw [dm] at g'
        simp [lg_number_of_1, lb_number_of_1, chk_of, chkO_of, g']
      refine ⟨x', ?_⟩
      rw [turn]
      simp only [RS.lp]
      rw [e]
      have : digs (c :: cs) = digs cs := by simp [digs, h]
      rw [this]
    · have turn : tgR (lg_number_of_1 (.str (tx [c])) [d0, x]) lb_number_of_1 = .rt .non [d0, .str (tx [c])] := by
        rw [decide_eq_false h] at dm
        have g' := g (Str.ofString "0123456789")
        rw [dm] at g'
        simp [lg_number_of_1, lb_number_of_1, chk_of, chkO_of, g']
      refine ⟨.str (tx [c]), ?_⟩
      rw [turn]
      have : ¬ digs (c :: cs) = true := by
        intro q
        simp only [digs, List.all_cons, Bool.and_eq_true, decide_eq_true_eq] at q
        exact h q.1
      rw [if_neg this]; rfl
def numOf (cs : List Nat) : Option Int := if cs = [] ∨ 60 < cs.length ∨ (1 < cs.length ∧ cs.head? = some 48) then none else if digs cs = true then some ((NumText.digitsVal cs : Nat) : Int) else none
def oi : Option Int → D
  | none => .non
  | some n => .int n
theorem number_of_eq (cs : List Nat) (hc : Cd cs) (hl : cs.length ≤ 10000000) : F_number_of [.str (tx cs)] = .ok (oi (numOf cs)) [.un] := by
  have q0 := eq_tx hc (b := []) (by simp [Cd])
  have kl : cs.length ≤ 16777216 := by omega
  cases cs with
  | nil => simp [F_number_of, runF_eq, m_number_of, chk_of, chkO_of, s_empty, q0, numOf, oi]
  | cons c r =>
    have cn : ¬ (c :: r) = [] := by simp
    rw [decide_eq_false cn] at q0
    have a0 : atI (c :: r) 0 = some c := by
      have hx : ixN (c :: r).length 0 = some 0 := by unfold ixN; rw [if_pos (by omega), if_pos (by simp only [List.length_cons]; omega)]; rfl
      unfold atI; rw [hx]; rfl
    have q1 := eq_tx (a := [c]) (b := [48]) (fun z hz => by simp at hz; subst hz; exact hc _ (by simp)) (by simp [Cd])
    obtain ⟨x', e⟩ := num_loop (.str (tx (c :: r))) (c :: r) .un
    have hd : (c :: r).head? = some c := rfl
    have tx1' : (⟨#[c]⟩ : Str) = tx [c] := rfl
    have iT : digs (c :: r) = true → intText? (tx (c :: r)) = some ((NumText.digitsVal (c :: r) : Nat) : Int) ∨ 4300 < (c :: r).length := fun h => by
      by_cases hz : (c :: r).length ≤ 4300
      · left
        have := PySem.intText_digits (x := tx (c :: r)) (by
          rw [tx_codes]
          intro z hz
          have := List.all_eq_true.mp h z hz
          simpa using this) (by rw [tx_codes]; simp) (by rw [tx_len]; exact hz)
        rw [tx_codes] at this
        exact this
      · right; omega
    generalize hw : c :: r = w at *
    unfold numOf
    by_cases c1 : 60 < (w.length : Int)
    · have : w = [] ∨ 60 < w.length ∨ (1 < w.length ∧ w.head? = some 48) := .inr (.inl (by omega))
      rw [if_pos this]
      simp [F_number_of, runF_eq, m_number_of, chk_of, chkO_of, s_empty, q0, kl, c1, oi]
    · have n60 : w.length ≤ 60 := by omega
      have kw : w.length ≤ 640 := by omega
      have fin : F_number_of [.str (tx w)] = if 1 < w.length ∧ c = 48 then .ok .non [.un] else if digs w = true then .ok (.int ((NumText.digitsVal w : Nat) : Int)) [.un] else .ok .non [.un] := by
        by_cases c2 : 1 < (w.length : Int)
        · have c2' : 1 < w.length := by omega
          by_cases c3 : c = 48
          · rw [if_pos ⟨c2', c3⟩]
            have q1' : eqD (.str (tx [c])) (.str (tx [48])) = some true := by rw [q1, c3]; simp
            simp [F_number_of, runF_eq, m_number_of, chk_of, chkO_of, s_empty, s_zero, q0, kl, c1, c2, a0, tx1', q1']
          · rw [if_neg (fun z => c3 z.2)]
            have q1' : eqD (.str (tx [c])) (.str (tx [48])) = some false := by rw [q1]; simp [c3]
            by_cases d : digs w = true
            · rw [if_pos d] at e ⊢
              have iT' := (iT d).resolve_right (by omega)
              simp [F_number_of, runF_eq, m_number_of, chk_of, chkO_of, s_empty, s_zero, q0, kl, c1, c2, a0, tx1', q1', e, iT', kw]
            · rw [if_neg d] at e ⊢
              simp [F_number_of, runF_eq, m_number_of, chk_of, chkO_of, s_empty, s_zero, q0, kl, c1, c2, a0, tx1', q1', e]
        · rw [if_neg (fun z => c2 (by omega))]
          by_cases d : digs w = true
          · rw [if_pos d] at e ⊢
            have iT' := (iT d).resolve_right (by omega)
            simp [F_number_of, runF_eq, m_number_of, chk_of, chkO_of, s_empty, s_zero, q0, kl, c1, c2, e, iT', kw]
          · rw [if_neg d] at e ⊢
            simp [F_number_of, runF_eq, m_number_of, chk_of, chkO_of, s_empty, s_zero, q0, kl, c1, c2, e]
      rw [fin]
      have hw0 : ¬ w = [] := by rw [← hw]; simp
      have eqc : (w = [] ∨ 60 < w.length ∨ (1 < w.length ∧ w.head? = some 48)) ↔ (1 < w.length ∧ c = 48) := by
        constructor
        · rintro (h | h | ⟨h1, h2⟩)
          · exact absurd h hw0
          · omega
          · rw [hd] at h2; exact ⟨h1, Option.some.inj h2⟩
        · rintro ⟨h1, h2⟩
          exact .inr (.inr ⟨h1, by rw [hd, h2]⟩)
      by_cases c4 : 1 < w.length ∧ c = 48
      · rw [if_pos c4, if_pos (eqc.mpr c4)]; rfl
      · rw [if_neg c4, if_neg fun z => c4 (eqc.mp z)]
        split <;> rfl
def wD (cs : List Nat) : D := .str (tx cs)
@[simp] theorem setL_wD (g : Fl) : ∀ ws : List (List Nat), D.setL g (ws.map wD) = ws.map wD
  | [] => by simp
  | w :: ws => by simp [setL_wD g ws, wD]
@[simp] theorem noBorL_wD : ∀ ws : List (List Nat), D.noBorL (ws.map wD) = true
  | [] => by simp
  | w :: ws => by simp [noBorL_wD ws, wD]
def numsOf : List (List Nat) → Option (List Int)
  | [] => some []
  | w :: ws => match numOf w with
    | none => none
    | some n => (numsOf ws).map fun ns => n :: ns
theorem numsOf_len : ∀ {ws : List (List Nat)} {ns : List Int}, numsOf ws = some ns → ns.length = ws.length
  | [], ns, h => by simp [numsOf] at h; subst h; rfl
  | w :: ws, ns, h => by
    simp only [numsOf] at h
    cases q : numOf w with
    | none => rw [q] at h; cases h
    | some n =>
      rw [q] at h
      cases q2 : numsOf ws with
      | none => rw [q2] at h; cases h
      | some l => rw [q2] at h; simp at h; subst h; simp [numsOf_len q2]
theorem nums_loop (d0 : D) : ∀ (ws : List (List Nat)) (A : List Int) (x y : D), (∀ w ∈ ws, Cd w ∧ w.length ≤ 10000000) → A.length + ws.length ≤ 10000000 → ∃ (A' : List Int) (x' y' : D), forL lg_numbers_of_1 lb_numbers_of_1 (ws.map wD) [d0, .nd (.lst .own) (A.map D.int), x, y] = match numsOf ws with
    | some ns => .nx [d0, .nd (.lst .own) ((A ++ ns).map D.int), x', y']
    | none => .rt .non [d0, .nd (.lst .own) (A'.map D.int), x', y']
  | [], A, x, y, _, _ => ⟨A, x, y, by simp [numsOf]⟩
  | w :: ws, A, x, y, h, hl => by
    simp at hl
    obtain ⟨w1, w2⟩ := h w (by simp)
    have e1 := number_of_eq w w1 w2
    have k1 : A.length < 16777216 := by omega
    cases q : numOf w with
    | none =>
      rw [q] at e1
      refine ⟨A, wD w, .non, ?_⟩
      have turn : tgR (lg_numbers_of_1 (wD w) [d0, .nd (.lst .own) (A.map D.int), x, y]) lb_numbers_of_1 = .rt .non [d0, .nd (.lst .own) (A.map D.int), wD w, .non] := by
        simp [lg_numbers_of_1, lb_numbers_of_1, wD, chk_of, chkO_of, e1, oi]
      rw [List.map_cons, forL_cons, turn]
      simp [RS.lp, numsOf, q]
    | some n =>
      rw [q] at e1
      obtain ⟨A', x', y', e⟩ := nums_loop d0 ws (A ++ [n]) (wD w) (.int n) (fun v hv => h v (by simp [hv])) (by simp; omega)
      refine ⟨A', x', y', ?_⟩
      have turn : tgR (lg_numbers_of_1 (wD w) [d0, .nd (.lst .own) (A.map D.int), x, y]) lb_numbers_of_1 = .nx [d0, .nd (.lst .own) ((A ++ [n]).map D.int), wD w, .int n] := by
        simp [lg_numbers_of_1, lb_numbers_of_1, wD, chk_of, chkO_of, e1, oi, k1]
      rw [List.map_cons, forL_cons, turn]
      simp only [RS.lp]
      rw [e]
      cases q2 : numsOf ws with
      | none => simp [numsOf, q, q2]
      | some l => simp [numsOf, q, q2]
def oL : Option (List Int) → D
  | none => .non
  | some ns => .nd (.lst .own) (ns.map D.int)
theorem numbers_of_eq (f : Fl) (ws : List (List Nat)) (h : ∀ w ∈ ws, Cd w ∧ w.length ≤ 10000000) (hl : ws.length ≤ 10000000) : F_numbers_of [.nd (.lst f) (ws.map wD)] = .ok (oL (numsOf ws)) [.un] := by
  obtain ⟨A', x', y', e⟩ := nums_loop (D.nd (.lst f) (ws.map wD)).frz ws [] .un .un h (by simp; omega)
  cases q : numsOf ws with
  | none =>
    rw [q] at e
    cases f <;> simp [D.frz] at e <;> simp [F_numbers_of, runF_eq, m_numbers_of, chk_of, chkO_of, oL, e]
  | some ns =>
    rw [q] at e
    cases f <;> simp [D.frz] at e <;> simp [F_numbers_of, runF_eq, m_numbers_of, chk_of, chkO_of, oL, e]
/-! stretches, items, rows -/
theorem spl_facts (s : Nat) : ∀ (l acc : List Nat), (∀ w ∈ spl [s] 0 acc l, (∀ c ∈ w, c ∈ acc ∨ c ∈ l) ∧ w.length ≤ acc.length + l.length) ∧ (spl [s] 0 acc l).length ≤ l.length + 1
  | [], acc => by
    rw [spl_nil]
    simp
  | c :: r, acc => by
    cases h : pre [s] (c :: r) with
    | true =>
      rw [spl_hit h]
      obtain ⟨h1, h2⟩ := spl_facts s r []
      have e : [s].length - 1 = 0 := rfl
      rw [e]
      refine ⟨fun w hw => ?_, by simp; omega⟩
      rcases List.mem_cons.mp hw with rfl | hw
      · exact ⟨fun c hc => .inl hc, by omega⟩
      · obtain ⟨h3, h4⟩ := h1 w hw
        refine ⟨fun z hz => ?_, by simp at h4 ⊢; omega⟩
        rcases h3 z hz with h | h
        · simp at h
        · exact .inr (by simp [h])
    | false =>
      rw [spl_miss h]
      obtain ⟨h1, h2⟩ := spl_facts s r (acc ++ [c])
      refine ⟨fun w hw => ?_, by simp; omega⟩
      obtain ⟨h3, h4⟩ := h1 w hw
      refine ⟨fun z hz => ?_, by simp at h4 ⊢; omega⟩
      rcases h3 z hz with h | h
      · rcases List.mem_append.mp h with h | h
        · exact .inl h
        · simp at h; subst h; exact .inr (by simp)
      · exact .inr (by simp [h])
def cutAt (s : Nat) (cs : List Nat) : List (List Nat) := spl [s] 0 [] cs
theorem cutAt_ok (s : Nat) {cs : List Nat} (h : Cd cs) (hl : cs.length ≤ 1000000) : (∀ w ∈ cutAt s cs, Cd w ∧ w.length ≤ 1000000) ∧ (cutAt s cs).length ≤ 1000001 := by
  obtain ⟨h1, h2⟩ := spl_facts s cs []
  refine ⟨fun w hw => ?_, by unfold cutAt; omega⟩
  obtain ⟨h3, h4⟩ := h1 w hw
  refine ⟨fun c hc => ?_, by simp at h4; omega⟩
  rcases h3 c hc with h' | h'
  · simp at h'
  · exact h c h'
theorem split_tx (cs : List Nat) (s : Nat) (hs : s < 256) : Txt.split (tx cs) (tx [s]) = (cutAt s cs).map tx := by
  apply map_tl_inj
  rw [split_spl _ _ (by rw [tl_tx]; simp) (kind_ok (by simp [tx, hs])), tl_tx, tl_tx, List.map_map]
  have : (tl ∘ tx) = id := by funext x; exact tl_tx x
  rw [this, List.map_id]; rfl
def stretchOf (cs : List Nat) : Option (Int × Int) := match numsOf (cutAt 45 cs) with
  | some [a, b] => some (a, b)
  | _ => none
def oP : Option (Int × Int) → D
  | none => .non
  | some p => .nd .tup [.int p.1, .int p.2]
theorem stretch_of_eq (cs : List Nat) (hc : Cd cs) (hl : cs.length ≤ 1000000) : F_stretch_of [.str (tx cs)] = .ok (oP (stretchOf cs)) [.un] := by
  obtain ⟨h1, h2⟩ := cutAt_ok 45 hc hl
  have e1 := fun f => numbers_of_eq f (cutAt 45 cs) (fun w hw => ⟨(h1 w hw).1, by have := (h1 w hw).2; omega⟩) (by omega)
  have sp := split_tx cs 45 (by decide)
  have hw : (cutAt 45 cs).map wD = ((cutAt 45 cs).map tx).map D.str := by rw [List.map_map]; rfl
  have k1' : cs.length + 2 ≤ 16777216 := by omega
  have nl := fun {ns} (h : numsOf (cutAt 45 cs) = some ns) => numsOf_len h
  unfold stretchOf
  rw [hw, ← sp] at e1
  cases q : numsOf (cutAt 45 cs) with
  | none =>
    rw [q] at e1
    simp [oL] at e1
    simp [F_stretch_of, runF_eq, m_stretch_of, chk_of, chkO_of, s_da, k1', e1, oP]
  | some ns =>
    rw [q] at e1
    have hns := nl q
    simp [oL] at e1
    have kn : ns.length ≤ 16777216 := by omega
    match ns, e1, kn with
    | [], e1, kn => simp [F_stretch_of, runF_eq, m_stretch_of, chk_of, chkO_of, s_da, k1', e1, oP] 
    | [a], e1, kn => simp [F_stretch_of, runF_eq, m_stretch_of, chk_of, chkO_of, s_da, k1', e1, oP] 
    | [a, b], e1, kn => simp [F_stretch_of, runF_eq, m_stretch_of, chk_of, chkO_of, s_da, k1', e1, oP] 
    | a :: b :: c :: r, e1, kn =>
      have k3 : ¬ (r.length : Int) + 1 + 1 + 1 = 2 := by omega
      simp at kn
      simp [F_stretch_of, runF_eq, m_stretch_of, chk_of, chkO_of, s_da, k1', e1, oP, kn, k3]

@[simp] theorem setL_strD (g : Fl) : ∀ zs : List Str, D.setL g (zs.map D.str) = zs.map D.str
  | [] => by simp
  | w :: ws => by simp [setL_strD g ws]
@[simp] theorem noBorL_strD : ∀ zs : List Str, D.noBorL (zs.map D.str) = true
  | [] => by simp
  | w :: ws => by simp [noBorL_strD ws]

/-! the places of a sign -/
open PySem.Builtin.Str PySem.StrLaws in
theorem occ_run (cs : List Nat) (c L : Nat) : ∀ (n i : Nat) (arr : Array Nat) (free : Nat), free ≤ i → arr.size ≤ L → i + n = cs.length + 1 →
    (forIn (List.range' i n) (arr, free) (occBody (tx cs) (tx [c]) cs.length L)).run.fst.toList = arr.toList ++ ((List.range' i n).filter fun j => decide (cs[j]? = some c)).take (L - arr.size)
  | 0, i, arr, free, _, _, _ => by simp
  | n + 1, i, arr, free, h1, h2, h3 => by
    rw [List.range'_succ, List.forIn_cons]
    have hl : (tx [c]).length = 1 := by simp
    have hs : subAt (tx cs) (tx [c]) i = true ↔ cs[i]? = some c := by
      have := subAt_one (tx cs) c i
      rw [tx_codes] at this
      have hc : (tx [c] : Str) = ⟨#[c]⟩ := rfl
      rw [hc]
      constructor
      · intro h
        by_cases q : i + 1 ≤ cs.length
        · exact this.mp ⟨by show i + 1 ≤ (tx cs).length; rw [tx_len]; exact q, h⟩
        · exfalso
          have e : i = cs.length := by omega
          unfold subAt at h
          simp only [beq_iff_eq] at h
          have := congrArg Array.size h
          simp [tx, Str.length] at this
          omega
      · intro h
        exact (this.mpr h).2
    by_cases q : cs[i]? = some c
    · have hi : i < cs.length := (List.getElem?_eq_some_iff.mp q).1
      by_cases q2 : arr.size < L
      · have cond : ((arr.size < L ∧ free ≤ i) ∧ i + (tx [c]).length ≤ cs.length) ∧ subAt (tx cs) (tx [c]) i = true := ⟨⟨⟨q2, h1⟩, by rw [hl]; omega⟩, hs.mpr q⟩
        unfold occBody
        simp only
        rw [if_pos cond]
        have ih := occ_run cs c L n (i + 1) (arr.push i) (i + (tx [c]).length) (by rw [hl]; omega) (by simp; omega) (by omega)
        have e1 : L - arr.size = (L - (arr.push i).size) + 1 := by simp; omega
        rw [List.filter_cons, if_pos (by simpa using q), e1, List.take_succ_cons]
        rw [Array.toList_push] at ih
        rw [show arr.toList ++ i :: List.take (L - (arr.push i).size) (List.filter (fun j => decide (cs[j]? = some c)) (List.range' (i + 1) n)) = (arr.toList ++ [i]) ++ List.take (L - (arr.push i).size) (List.filter (fun j => decide (cs[j]? = some c)) (List.range' (i + 1) n)) by simp]
        exact ih
      · have cond : ¬ (((arr.size < L ∧ free ≤ i) ∧ i + (tx [c]).length ≤ cs.length) ∧ subAt (tx cs) (tx [c]) i = true) := fun z => q2 z.1.1.1
        unfold occBody
        simp only
        rw [if_neg cond]
        have ih := occ_run cs c L n (i + 1) arr free (by omega) h2 (by omega)
        have e1 : L - arr.size = 0 := by omega
        rw [e1, List.take_zero] at ih ⊢
        exact ih
    · have cond : ¬ (((arr.size < L ∧ free ≤ i) ∧ i + (tx [c]).length ≤ cs.length) ∧ subAt (tx cs) (tx [c]) i = true) := fun z => q (hs.mp z.2)
      unfold occBody
      simp only
      rw [if_neg cond]
      have ih := occ_run cs c L n (i + 1) arr free (by omega) h2 (by omega)
      rw [List.filter_cons, if_neg (by simpa using q)]
      exact ih
def posL (c : Nat) (cs : List Nat) : List Nat := (List.range' 0 (cs.length + 1)).filter fun j => decide (cs[j]? = some c)
open PySem.Builtin.Str PySem.StrLaws in
theorem occ_pos (cs : List Nat) (c L : Nat) : occurrences (tx cs) (tx [c]) 0 (tx cs).length L = (posL c cs).take L := by
  rw [occ_eq, tx_len]
  have := occ_run cs c L (cs.length + 1) 0 #[] 0 (Nat.le_refl _) (Nat.zero_le _) (by omega)
  simpa [posL] using this
theorem posL_nil (c : Nat) : posL c [] = [] := by simp [posL]
theorem posL_cons (c d : Nat) (cs : List Nat) : posL c (d :: cs) = (if d = c then [0] else []) ++ (posL c cs).map (· + 1) := by
  unfold posL
  have e : (d :: cs).length + 1 = (cs.length + 1) + 1 := rfl
  rw [e, List.range'_succ, List.filter_cons]
  have h0 : (d :: cs)[0]? = some d := rfl
  have hr : List.range' (0 + 1) (cs.length + 1) = (List.range' 0 (cs.length + 1)).map (· + 1) := by
    have := List.map_add_range' (a := 1) 0 (cs.length + 1) 1
    rw [show (fun x => x + 1) = (fun x : Nat => 1 + x) from funext fun x => Nat.add_comm _ _, this]
  have e2 : (List.range' (0 + 1) (cs.length + 1)).filter (fun j => decide ((d :: cs)[j]? = some c)) = ((List.range' 0 (cs.length + 1)).filter fun j => decide (cs[j]? = some c)).map (· + 1) := by
    rw [hr, List.filter_map]
    congr 1
  rw [e2, h0]
  by_cases q : d = c <;> simp [q]
theorem posL_len (c : Nat) : ∀ cs : List Nat, (posL c cs).length = cs.count c
  | [] => by simp [posL_nil]
  | d :: cs => by
    rw [posL_cons, List.length_append, List.length_map, posL_len c cs, List.count_cons]
    by_cases q : d = c <;> simp [q] <;> omega
theorem posL_head (c : Nat) : ∀ cs : List Nat, (posL c cs).head? = if c ∈ cs then some (cs.idxOf c) else none
  | [] => by simp [posL_nil]
  | d :: cs => by
    rw [posL_cons, List.idxOf_cons]
    by_cases q : d = c
    · subst q; simp
    · have ih := posL_head c cs
      have hq : ¬ c = d := fun z => q z.symm
      simp only [if_neg q, List.nil_append, List.head?_map, ih, List.mem_cons]
      by_cases q2 : c ∈ cs
      · simp [q2, q, hq, show (d == c) = false by simpa using q]
      · simp [q2, hq]
theorem count_tx (cs : List Nat) (c : Nat) : fCount (tx cs) (tx [c]) = some (cs.count c : Nat) := by
  unfold fCount Txt.count
  rw [occ_pos, tx_len, List.length_take, posL_len]
  have := List.count_le_length (a := c) (l := cs)
  congr 2
  omega
theorem find_tx (cs : List Nat) (c : Nat) : fFind (tx cs) (tx [c]) = some (if c ∈ cs then ((cs.idxOf c : Nat) : Int) else -1) := by
  unfold fFind Txt.find
  rw [occ_pos]
  have h := posL_head c cs
  cases q : posL c cs with
  | nil =>
    rw [q] at h
    by_cases q2 : c ∈ cs
    · rw [if_pos q2] at h; simp at h
    · simp [q2]
  | cons i r =>
    rw [q] at h
    by_cases q2 : c ∈ cs
    · rw [if_pos q2] at h; simp at h; simp [q2, h]
    · rw [if_neg q2] at h; simp at h
/-! a cut at one sign, by its places -/
theorem cutAt_nil (s : Nat) : cutAt s [] = [[]] := by unfold cutAt; rw [spl_nil]
theorem spl_cons (s : Nat) : ∀ (l acc : List Nat), spl [s] 0 acc l = match spl [s] 0 [] l with
    | [] => []
    | w :: r => (acc ++ w) :: r
  | [], acc => by rw [spl_nil, spl_nil]; simp
  | c :: r, acc => by
    cases h : pre [s] (c :: r) with
    | true =>
      rw [spl_hit h, spl_hit h]; simp
    | false =>
      rw [spl_miss h, spl_miss h, spl_cons s r (acc ++ [c]), spl_cons s r ([] ++ [c])]
      cases spl [s] 0 [] r <;> simp
theorem pre_one (s c : Nat) (r : List Nat) : pre [s] (c :: r) = decide (s = c) := by
  by_cases q : s = c
  · subst q; simp [pre]
  · have : ¬ (c = s) := fun z => q z.symm
    simp [pre, q, this]
theorem cutAt_cons (s c : Nat) (r : List Nat) : cutAt s (c :: r) = if c = s then [] :: cutAt s r else match cutAt s r with
    | [] => []
    | w :: l => (c :: w) :: l := by
  unfold cutAt
  by_cases q : c = s
  · subst q
    rw [if_pos rfl, spl_hit (by rw [pre_one]; simp)]
    rfl
  · rw [if_neg q, spl_miss (by rw [pre_one]; simp; exact fun z => q z.symm), spl_cons]
    simp
theorem cutAt_len (s : Nat) : ∀ cs : List Nat, (cutAt s cs).length = cs.count s + 1
  | [] => by rw [cutAt_nil]; simp
  | c :: r => by
    have ih := cutAt_len s r
    rw [cutAt_cons, List.count_cons]
    by_cases q : c = s
    · rw [if_pos q, List.length_cons, ih]; simp [q]
    · rw [if_neg q]
      cases h : cutAt s r with
      | nil => rw [h] at ih; simp at ih
      | cons w l => rw [h] at ih; simp at ih; simp [q, ih]
theorem cutAt_two (s : Nat) : ∀ cs : List Nat, cs.count s = 1 → cutAt s cs = [cs.take (cs.idxOf s), cs.drop (cs.idxOf s + 1)]
  | [], h => by simp at h
  | c :: r, h => by
    rw [cutAt_cons]
    by_cases q : c = s
    · subst q
      rw [List.count_cons_self] at h
      have hc : r.count c = 0 := by omega
      have l := cutAt_len c r
      have : cutAt c r = [r] := by
        clear h l
        induction r with
        | nil => exact cutAt_nil c
        | cons d r ih =>
          rw [List.count_cons] at hc
          have hd : ¬ d = c := fun z => by simp [z] at hc
          rw [cutAt_cons, if_neg hd, ih (by simp [hd] at hc; simpa using hc)]
      rw [if_pos rfl, this]
      simp
    · have hc : r.count s = 1 := by rw [List.count_cons] at h; simpa [q] using h
      rw [if_neg q, cutAt_two s r hc]
      have e : (c :: r).idxOf s = r.idxOf s + 1 := by rw [List.idxOf_cons]; simp [show (c == s) = false by simpa using q]
      rw [e]
      simp

open TL in
theorem nS_num {n : Int} (h : 0 ≤ n) : nS n = tx (numL n.toNat) := by
  apply ext_tl
  obtain ⟨k, rfl⟩ : ∃ k : Nat, n = k := ⟨n.toNat, by omega⟩
  show tl (Str.ofString (toString ((k : Nat) : Int))) = _
  rw [tl_num]
  show _ = (tx _).cps.toList
  rw [tx_codes]; rfl
def Bg (n : Int) : Prop := 0 ≤ n ∧ n < 1000000000000000000000000000000000000000000000000000000000000
theorem bg_log {n : Int} (h : Bg n) : n.natAbs.log2 < 1920 := by
  obtain ⟨h0, h1⟩ := h
  by_cases z : n.natAbs = 0
  · rw [z]; decide
  · rw [Nat.log2_lt z]
    exact Nat.lt_trans (show n.natAbs < 1000000000000000000000000000000000000000000000000000000000000 by omega) (by decide +kernel)
open TL in
theorem bg_len {n : Int} (h : Bg n) : (nS n).length ≤ 60 := by
  rw [nS_num h.1, tx_len]
  exact numL_len (by decide) (by
    obtain ⟨h0, h1⟩ := h
    have : (10 : Nat) ^ 60 = 1000000000000000000000000000000000000000000000000000000000000 := by decide +kernel
    rw [this]; omega)
theorem cutL_tl {α : Type} (x : α) (xs : List α) : cutL (x :: xs) (some 1) none = xs := by
  have := cutL_from (xs := x :: xs) (y := 1) (by omega) (by simp only [List.length_cons]; omega)
  simpa using this
def stS (p : Int × Int) : Str := nS p.1 ++ Str.ofString "-" ++ nS p.2

theorem atI_any {α : Type} {xs : List α} {v : Int} (h0 : 0 ≤ v) (h1 : v < xs.length) : ∃ c ∈ xs, atI xs v = some c := by
  have hx : ixN xs.length v = some v.toNat := by unfold ixN; rw [if_pos h0, if_pos h1]
  have hv : v.toNat < xs.length := by omega
  exact ⟨xs[v.toNat], List.getElem_mem _, by simp [atI, hx, hv]⟩
theorem sign_ok (s : Sr) (b : Bool) : ∃ (c : Nat) (s' : Sr), c < 1114112 ∧ c ≠ 10 ∧ F__law_sign [srcD s, .bl b] = .ok (.str (tx [c])) [srcD s', .un] := by
  cases b with
  | true =>
    obtain ⟨v, s1, v0, v1, e1⟩ := next_ok s 4 (by decide) (by decide)
    have hl : ((Str.ofString "a# b").cps.toList.length : Int) = 4 := by decide
    have hz : (Str.ofString "a# b").length ≤ 16777216 := by decide
    have hk : ∀ c ∈ (Str.ofString "a# b").cps.toList, c < 1114112 ∧ c ≠ 10 := by decide
    obtain ⟨c, hm, hc⟩ := atI_any (xs := (Str.ofString "a# b").cps.toList) v0 (by rw [hl]; exact v1)
    exact ⟨c, s1, (hk c hm).1, (hk c hm).2, by simp [F__law_sign, runF_eq, m__law_sign, chk_of, chkO_of, e1, hc, hz, tx1]⟩
  | false =>
    obtain ⟨v, s1, v0, v1, e1⟩ := next_ok s 94 (by decide) (by decide)
    generalize hS : Str.ofString " !\"#$&'()*+,-./0123456789:;<=>?@ABCDEFGHIJKLMNOPQRSTUVWXYZ[\\]^_`abcdefghijklmnopqrstuvwxyz{|}~" = S
    have hl : (S.cps.toList.length : Int) = 94 := by rw [← hS]; decide +kernel
    have hz : S.length ≤ 16777216 := by rw [← hS]; decide +kernel
    have hk : ∀ c ∈ S.cps.toList, c < 1114112 ∧ c ≠ 10 := by rw [← hS]; decide +kernel
    obtain ⟨c, hm, hc⟩ := atI_any (xs := S.cps.toList) v0 (by rw [hl]; exact v1)
    exact ⟨c, s1, (hk c hm).1, (hk c hm).2, by simp [F__law_sign, runF_eq, m__law_sign, hS, chk_of, chkO_of, e1, hc, hz, tx1]⟩
theorem law_text_ok (s : Sr) (m : Int) (h0 : 0 ≤ m) (h1 : m ≤ 1000) : ∃ (cs : List Nat) (s' : Sr), cs.length = m.toNat ∧ (∀ c ∈ cs, c < 1114112 ∧ c ≠ 10) ∧ F__law_text [srcD s, .int m] = .ok (.str (tx cs)) [srcD s', .un] := by
  obtain ⟨v, s1, v0, v1, e1⟩ := next_ok s 2 (by decide) (by decide)
  obtain ⟨acc, st', e, s2, cs, rfl, rfl, hl, hb, hk⟩ := lcL_inv (T := lcT [3] lg__law_text_1 lt__law_text_1 le__law_text_1) (f := D.int) (fun pre post acc st => ∃ (s : Sr) (cs : List Nat), acc = cs.map (fun c => D.str (tx [c])) ∧ st = [srcD s, .int m, .bl (decide (v = 0)), .un] ∧ cs.length = pre.length ∧ pre.length + post.length ≤ 1000 ∧ ∀ c ∈ cs, c < 1114112 ∧ c ≠ 10)
    (fun pre x post acc st ⟨s, cs, ea, es, hl, hb, hk⟩ => by
      subst ea es
      obtain ⟨c, s', hc, hc', e⟩ := sign_ok s (decide (v = 0))
      simp at hb
      exact ⟨some (.str (tx [c])), [srcD s', .int m, .bl (decide (v = 0)), .un], by simp [lg__law_text_1, lt__law_text_1, le__law_text_1, chk_of, chkO_of, e], by simp; omega, s', cs ++ [c], by simp, rfl, by simp [hl], by simp; omega, fun z hz => by rcases List.mem_append.mp hz with hz | hz; exact hk z hz; simp at hz; subst hz; exact ⟨hc, hc'⟩⟩)
    ((List.range m.toNat).map fun i => (0 : Int) + (i : Nat)) [] [] [srcD s1, .int m, .bl (decide (v = 0)), .un] ⟨s1, [], rfl, rfl, rfl, by simp; omega, by simp⟩
  simp at hl hb
  refine ⟨cs, s2, hl, hk, ?_⟩
  have h6 : -4611686018427387904 ≤ m ∧ m < 4611686018427387904 := ⟨by omega, by omega⟩
  have e5 : strsD (cs.map fun c => D.str (tx [c])) = some (cs.map fun c => tx [c]) := by
    have := strsD_map (cs.map fun c => tx [c])
    rw [List.map_map] at this
    exact this
  have e3 : Txt.join (Str.ofString "") (cs.map fun c => tx [c]) = tx cs := by
    have := join_tx (cs.map fun c => [c])
    rw [List.map_map] at this
    rw [show (cs.map fun c => tx [c]) = cs.map (tx ∘ fun c => [c]) from rfl, this]
    congr 1
    clear this e e5 hl hb hk
    induction cs with
    | nil => rfl
    | cons c cs ih => simp at ih ⊢; exact ih
  have e4 : PV.JoinOk (Str.ofString "") (cs.map fun c => tx [c]) := by
    have q : ((cs.map fun c => tx [c]).map Str.length).sum = cs.length := by
      clear e e5 e3 hl hb hk
      induction cs with
      | nil => rfl
      | cons c cs ih => simp at ih ⊢; omega
    have z : (Str.ofString "").length = 0 := by decide
    unfold PV.JoinOk
    rw [q, z]; omega
  simp [F__law_text, runF_eq, m__law_text, e1, chk_of, chkO_of, chkS_of, h6, rangeD_eq] at e ⊢
  simp [e, e3, e4, e5, chk_of]

/-! deeds as texts, read -/
theorem bg_lenL {n : Int} (h : Bg n) : (numL n.toNat).length ≤ 60 := by
  have := bg_len h
  rw [nS_num h.1, tx_len] at this
  exact this
def nL (n : Int) : List Nat := numL n.toNat
def stL (p : Int × Int) : List Nat := numL p.1.toNat ++ ([45] ++ numL p.2.toNat)
/-- a word that a deed's text is made of -/
structure Wd (w : List Nat) : Prop where
  cd : Cd w
  len : w.length ≤ 200
  sp : 32 ∉ w
theorem wd_n {n : Int} (h : Bg n) : Wd (nL n) := ⟨cd_num _, by have := bg_lenL h; unfold nL; omega, numL_free (by omega)⟩
theorem wd_st {p : Int × Int} (h1 : Bg p.1) (h2 : Bg p.2) : Wd (stL p) := by
  have l1 := bg_lenL h1
  have l2 := bg_lenL h2
  refine ⟨(cd_num _).app (Cd.app (by simp [Cd]) (cd_num _)), by unfold stL; simp; omega, fun hm => ?_⟩
  unfold stL at hm
  rcases List.mem_append.mp hm with hm | hm
  · exact numL_free (by omega) hm
  · rcases List.mem_append.mp hm with hm | hm
    · simp at hm
    · exact numL_free (by omega) hm
def rowP : List (List Nat) → Option (List (Int × Int))
  | [] => some []
  | w :: ws => match stretchOf w with
    | none => none
    | some p => (rowP ws).map fun ps => p :: ps
theorem oP_pD (p : Int × Int) : oP (some p) = pD p := rfl
theorem rowof_loop (d0 : D) : ∀ (ws : List (List Nat)) (A : List (Int × Int)) (x y : D), (∀ w ∈ ws, Cd w ∧ w.length ≤ 1000000) → A.length + ws.length ≤ 10000000 → ∃ (A' : List (Int × Int)) (x' y' : D), forL lg_row_of_1 lb_row_of_1 (ws.map wD) [d0, .nd (.lst .own) (A.map pD), x, y] = match rowP ws with
    | some ps => .nx [d0, .nd (.lst .own) ((A ++ ps).map pD), x', y']
    | none => .rt .non [d0, .nd (.lst .own) (A'.map pD), x', y']
  | [], A, x, y, _, _ => ⟨A, x, y, by simp [rowP]⟩
  | w :: ws, A, x, y, h, hl => by
    simp at hl
    obtain ⟨w1, w2⟩ := h w (by simp)
    have e1 := stretch_of_eq w w1 w2
    have k1 : A.length < 16777216 := by omega
    cases q : stretchOf w with
    | none =>
      rw [q] at e1
      refine ⟨A, wD w, .non, ?_⟩
      have turn : tgR (lg_row_of_1 (wD w) [d0, .nd (.lst .own) (A.map pD), x, y]) lb_row_of_1 = .rt .non [d0, .nd (.lst .own) (A.map pD), wD w, .non] := by
        simp [lg_row_of_1, lb_row_of_1, wD, chk_of, chkO_of, e1, oP]
      rw [List.map_cons, forL_cons, turn]
      simp [RS.lp, rowP, q]
    | some p =>
      rw [q, oP_pD] at e1
      obtain ⟨A', x', y', e⟩ := rowof_loop d0 ws (A ++ [p]) (wD w) (pD p) (fun v hv => h v (by simp [hv])) (by simp; omega)
      refine ⟨A', x', y', ?_⟩
      have turn : tgR (lg_row_of_1 (wD w) [d0, .nd (.lst .own) (A.map pD), x, y]) lb_row_of_1 = .nx [d0, .nd (.lst .own) ((A ++ [p]).map pD), wD w, pD p] := by
        simp [lg_row_of_1, lb_row_of_1, wD, chk_of, chkO_of, e1, k1, pD]
      rw [List.map_cons, forL_cons, turn]
      simp only [RS.lp]
      rw [e]
      cases q2 : rowP ws with
      | none => simp [rowP, q, q2]
      | some l => simp [rowP, q, q2]
def oR : Option (List (Int × Int)) → D
  | none => .non
  | some ps => .nd (.lst .own) (ps.map pD)
theorem row_of_eq' (f : Fl) (ws : List (List Nat)) (h : ∀ w ∈ ws, Cd w ∧ w.length ≤ 1000000) (hl : ws.length ≤ 10000000) : F_row_of [.nd (.lst f) (ws.map wD)] = .ok (oR (rowP ws)) [.un] := by
  obtain ⟨A', x', y', e⟩ := rowof_loop (D.nd (.lst f) (ws.map wD)).frz ws [] .un .un h (by simp; omega)
  cases q : rowP ws with
  | none =>
    rw [q] at e
    cases f <;> simp [D.frz] at e <;> simp [F_row_of, runF_eq, m_row_of, chk_of, chkO_of, oR, e]
  | some ns =>
    rw [q] at e
    cases f <;> simp [D.frz] at e <;> simp [F_row_of, runF_eq, m_row_of, chk_of, chkO_of, oR, e]
/-! what read_pour, read_tie, read_other tell -/
def oD : Option D → D
  | none => .non
  | some d => d
def jn (x : List Nat) (l : List (List Nat)) : List Nat := x ++ l.flatMap fun w => 32 :: w
theorem lookup_mem {tb : List (Str × Int)} {x : Str} {k : Int} (h : tb.lookup x = some k) : ∃ y, (y, k) ∈ tb := by
  induction tb with
  | nil => simp at h
  | cons p tb ih =>
    obtain ⟨a, b⟩ := p
    rw [List.lookup_cons] at h
    split at h
    · cases h; exact ⟨a, by simp⟩
    · obtain ⟨y, hy⟩ := ih h
      exact ⟨y, by simp [hy]⟩
theorem rowed_k {x : Str} {k : Int} (h : tb_ROWED.lookup x = some k) : 0 ≤ k ∧ k ≤ 2 := by
  obtain ⟨y, hy⟩ := lookup_mem h
  simp [tb_ROWED] at hy
  rcases hy with ⟨_, rfl⟩ | ⟨_, rfl⟩ | ⟨_, rfl⟩ | ⟨_, rfl⟩ <;> decide
theorem cutL_to' {α : Type} (xs : List α) {y : Int} (h : 0 ≤ y) : cutL xs none (some y) = xs.take y.toNat := by
  by_cases c : y ≤ xs.length
  · exact cutL_to h c
  · have e1 : HT.sIx xs.length 0 none = 0 := by simp [HT.sIx]
    have e2 : HT.sIx xs.length xs.length (some y) = xs.length := by unfold HT.sIx; simp only; rw [if_neg (by omega)]; omega
    rw [cutL, e1, e2, List.drop_zero, Nat.sub_zero, List.take_of_length_le (Nat.le_refl _), List.take_of_length_le (by omega)]
theorem cutL_from' {α : Type} (xs : List α) {y : Int} (h : 0 ≤ y) : cutL xs (some y) none = xs.drop y.toNat := by
  by_cases c : y ≤ xs.length
  · exact cutL_from h c
  · have e1 : HT.sIx xs.length 0 (some y) = xs.length := by unfold HT.sIx; simp only; rw [if_neg (by omega)]; omega
    have e2 : HT.sIx xs.length xs.length none = xs.length := by simp [HT.sIx]
    rw [cutL, e1, e2, List.take_of_length_le (by simp), List.drop_of_length_le (by simp), List.drop_of_length_le (by omega)]
def readO (name : Str) (ws : List (List Nat)) : Option D := match tb_NUMBERS.lookup name with
  | some k => match numsOf ws with
    | some ns => if (ns.length : Int) = k then some (.nd .tup (.str name :: ns.map D.int)) else none
    | none => none
  | none => match tb_ROWED.lookup name with
    | some k => match numsOf (ws.take k.toNat), rowP (ws.drop k.toNat) with
      | some ns, some ps => if (ns.length : Int) = k then some (.nd .tup (.str name :: (ns.map D.int ++ [.nd (.lst .own) (ps.map pD)]))) else none
      | _, _ => none
    | none => none
theorem read_other_eq (name : Str) (ws : List (List Nat)) (h : ∀ w ∈ ws, Cd w ∧ w.length ≤ 1000000) (hl : ws.length ≤ 1000001) : F_read_other [.str name, .nd (.lst .bor) (ws.map wD)] = .ok (oD (readO name ws)) [.un, .un] := by
  have e1 := fun f => numbers_of_eq f ws (fun w hw => ⟨(h w hw).1, by have := (h w hw).2; omega⟩) (by omega)
  unfold readO
  cases q1 : tb_NUMBERS.lookup name with
  | some k =>
    simp only
    cases q2 : numsOf ws with
    | none =>
      simp only [q2, oL] at e1
      simp [F_read_other, runF_eq, m_read_other, chk_of, chkO_of, q1, e1, oD]
    | some ns =>
      have ev := fun ns : List Int => vsOf_ints ns
      simp only [q2, oL] at e1
      have hn := numsOf_len q2
      have kn : ns.length ≤ 16777216 := by omega
      have kn1 : 1 + ns.length ≤ 16777216 := by omega
      by_cases c : (ns.length : Int) = k
      · simp [F_read_other, runF_eq, m_read_other, chk_of, chkO_of, q1, e1, oD, c, kn, kn1, ev]
      · simp [F_read_other, runF_eq, m_read_other, chk_of, chkO_of, q1, e1, oD, c, kn, ev]
  | none =>
    simp only
    cases q3 : tb_ROWED.lookup name with
    | none => simp [F_read_other, runF_eq, m_read_other, chk_of, chkO_of, q1, q3, oD]
    | some k =>
      obtain ⟨k0, k2⟩ := rowed_k q3
      have ht : ∀ w ∈ ws.take k.toNat, Cd w ∧ w.length ≤ 1000000 := fun w hw => h w (List.mem_of_mem_take hw)
      have hd : ∀ w ∈ ws.drop k.toNat, Cd w ∧ w.length ≤ 1000000 := fun w hw => h w (List.mem_of_mem_drop hw)
      have e2 := fun f => numbers_of_eq f (ws.take k.toNat) (fun w hw => ⟨(ht w hw).1, by have := (ht w hw).2; omega⟩) (by rw [List.length_take]; omega)
      have e3 := fun f => row_of_eq' f (ws.drop k.toNat) hd (by rw [List.length_drop]; omega)
      have c1 := cutL_to' (ws.map wD) k0
      have c2 := cutL_from' (ws.map wD) k0
      simp only [List.map_take] at e2
      simp only [List.map_drop] at e3
      have ev := fun ns : List Int => vsOf_ints ns
      have kw : ws.length ≤ 16777216 := by omega
      have st1 : ∀ (g : Fl) (n : Nat), D.setL g ((ws.map wD).take n) = (ws.map wD).take n := fun g n => by rw [← List.map_take, setL_wD]
      have st2 : ∀ (g : Fl) (n : Nat), D.setL g ((ws.map wD).drop n) = (ws.map wD).drop n := fun g n => by rw [← List.map_drop, setL_wD]
      have nb1 : ∀ n : Nat, D.noBorL ((ws.map wD).take n) = true := fun n => by rw [← List.map_take, noBorL_wD]
      have nb2 : ∀ n : Nat, D.noBorL ((ws.map wD).drop n) = true := fun n => by rw [← List.map_drop, noBorL_wD]
      have rl : ∀ {ps}, rowP (ws.drop k.toNat) = some ps → ps.length ≤ 16777216 := fun {ps} hp => by
        have : ∀ (l : List (List Nat)) (ps : List (Int × Int)), rowP l = some ps → ps.length = l.length := fun l => by
          induction l with
          | nil => intro ps hp; simp [rowP] at hp; subst hp; rfl
          | cons w l ih =>
            intro ps hp
            simp only [rowP] at hp
            cases q : stretchOf w with
            | none => rw [q] at hp; cases hp
            | some p =>
              rw [q] at hp
              cases q2 : rowP l with
              | none => rw [q2] at hp; cases hp
              | some l2 => rw [q2] at hp; simp at hp; subst hp; simp [ih l2 q2]
        rw [this _ _ hp, List.length_drop]; omega
      simp only
      cases q4 : numsOf (ws.take k.toNat) with
      | none =>
        simp only [q4, oL] at e2
        cases q5 : rowP (ws.drop k.toNat) with
        | none =>
          simp only [q5, oR] at e3
          simp [F_read_other, runF_eq, m_read_other, chk_of, chkO_of, q1, q3, e2, e3, oD, c1, c2, st1, st2, nb1, nb2, kw, ev]
        | some ps =>
          simp only [q5, oR] at e3
          simp [F_read_other, runF_eq, m_read_other, chk_of, chkO_of, q1, q3, e2, e3, oD, c1, c2, st1, st2, nb1, nb2, kw, ev]
      | some ns =>
        simp only [q4, oL] at e2
        have hn := numsOf_len q4
        rw [List.length_take] at hn
        have kn : ns.length ≤ 16777216 := by omega
        have kn1 : 1 + ns.length ≤ 16777216 := by omega
        have kn2 : 1 + ns.length + 1 ≤ 16777216 := by omega
        have kn3 : ns.length ≤ 16777214 := by omega
        cases q5 : rowP (ws.drop k.toNat) with
        | none =>
          simp only [q5, oR] at e3
          simp [F_read_other, runF_eq, m_read_other, chk_of, chkO_of, q1, q3, e2, e3, oD, c1, c2, st1, st2, nb1, nb2, kw, ev]
        | some ps =>
          simp only [q5, oR] at e3
          by_cases c : (ns.length : Int) = k
          · simp [F_read_other, runF_eq, m_read_other, chk_of, chkO_of, q1, q3, e2, e3, oD, c1, c2, st1, st2, nb1, nb2, kw, c, kn, kn1, kn2, kn3, ev]
          · simp [F_read_other, runF_eq, m_read_other, chk_of, chkO_of, q1, q3, e2, e3, oD, c1, c2, st1, st2, nb1, nb2, kw, c, kn, ev]

/-! deeds, drawn, written, read -/
theorem s_sl : Str.ofString "/" = tx [47] := by decide +kernel
theorem vsOf_wD : ∀ ws : List (List Nat), vsOf (ws.map wD) = some (ws.map fun w => V.str (tx w))
  | [] => rfl
  | w :: ws => by simp [vsOf, vOf, wD, vsOf_wD ws]
theorem eqV_tx (a b : List Nat) : eqV (.str (tx a)) (.str (tx b)) = decide (a = b) := by
  show (tx a == tx b) = _
  by_cases c : a = b
  · subst c; simp
  · have : ¬ tx a = tx b := fun h => c (tx_inj h)
    simp [c, this]
theorem cnt_sl (ws : List (List Nat)) : cntV (.str (tx [47])) (ws.map fun w => V.str (tx w)) = some ((ws.countP fun w => decide (w = [47]) : Nat) : Int) := by
  unfold cntV
  rw [List.countP_map]
  congr 3
  funext w
  exact eqV_tx w [47]
theorem fst_sl (ws : List (List Nat)) : fstV (.str (tx [47])) (ws.map fun w => V.str (tx w)) = (ws.findIdx? fun w => decide (w = [47])).map fun n => (n : Int) := by
  have key : (ws.map fun w => V.str (tx w)).findIdx? (fun z => eqV z (.str (tx [47]))) = ws.findIdx? fun w => decide (w = [47]) := by
    induction ws with
    | nil => rfl
    | cons w ws ih => rw [List.map_cons, List.findIdx?_cons, List.findIdx?_cons, ih, eqV_tx]
  unfold fstV
  rw [key]
def tieW (a b : List (Int × Int)) : List (List Nat) := a.map stL ++ [47] :: b.map stL
def rdOf (cs : List Nat) : Int := match numOf cs with
  | some n => n
  | none => -1
theorem numOf_nn {cs : List Nat} {n : Int} (h : numOf cs = some n) : 0 ≤ n := by
  unfold numOf at h
  split at h
  · cases h
  · split at h
    · cases h; omega
    · cases h
theorem rd_loop (d0 : D) : ∀ (cs : List Nat) (x : D), ∃ x' : D, forL lg__law_reads_1 lb__law_reads_1 (cs.map fun c => D.str (tx [c])) [d0, x] = if digs cs = true then .nx [d0, x'] else .rt (.int (-1)) [d0, x']
  | [], x => ⟨x, by simp [digs]⟩
  | c :: cs, x => by
    obtain ⟨x', e⟩ := rd_loop d0 cs (.str (tx [c]))
    have g := fun z => gInS_tx true c z
    have dm := digs_mem c
    rw [List.map_cons, forL_cons]
    by_cases h : 48 ≤ c ∧ c ≤ 57
    · have turn : tgR (lg__law_reads_1 (.str (tx [c])) [d0, x]) lb__law_reads_1 = .nx [d0, .str (tx [c])] := by
        rw [decide_eq_true h] at dm
        have g' := g (Str.ofString "0123456789")
        rw [dm] at g'
        simp [lg__law_reads_1, lb__law_reads_1, chk_of, chkO_of, g']
      refine ⟨x', ?_⟩
      rw [turn]
      simp only [RS.lp]
      rw [e]
      have : digs (c :: cs) = digs cs := by simp [digs, h]
      rw [this]
    · have turn : tgR (lg__law_reads_1 (.str (tx [c])) [d0, x]) lb__law_reads_1 = .rt (.int (-1)) [d0, .str (tx [c])] := by
        rw [decide_eq_false h] at dm
        have g' := g (Str.ofString "0123456789")
        rw [dm] at g'
        simp [lg__law_reads_1, lb__law_reads_1, chk_of, chkO_of, g']
      refine ⟨.str (tx [c]), ?_⟩
      rw [turn]
      have : ¬ digs (c :: cs) = true := by
        intro q
        simp only [digs, List.all_cons, Bool.and_eq_true, decide_eq_true_eq] at q
        exact h q.1
      rw [if_neg this]; rfl
theorem reads_eq (cs : List Nat) (hc : Cd cs) (hl : cs.length ≤ 10000000) : F__law_reads [.str (tx cs)] = .ok (.int (rdOf cs)) [.un] := by
  have q0 := eq_tx hc (b := []) (by simp [Cd])
  have kl : cs.length ≤ 16777216 := by omega
  cases cs with
  | nil => simp [F__law_reads, runF_eq, m__law_reads, chk_of, chkO_of, s_empty, q0, rdOf, numOf]
  | cons c r =>
    have cn : ¬ (c :: r) = [] := by simp
    rw [decide_eq_false cn] at q0
    have a0 : atI (c :: r) 0 = some c := by
      have hx : ixN (c :: r).length 0 = some 0 := by unfold ixN; rw [if_pos (by omega), if_pos (by simp only [List.length_cons]; omega)]; rfl
      unfold atI; rw [hx]; rfl
    have q1 := eq_tx (a := [c]) (b := [48]) (fun z hz => by simp at hz; subst hz; exact hc _ (by simp)) (by simp [Cd])
    obtain ⟨x', e⟩ := rd_loop (.str (tx (c :: r))) (c :: r) .un
    have hd : (c :: r).head? = some c := rfl
    have tx1' : (⟨#[c]⟩ : Str) = tx [c] := rfl
    have iT : digs (c :: r) = true → intText? (tx (c :: r)) = some ((NumText.digitsVal (c :: r) : Nat) : Int) ∨ 4300 < (c :: r).length := fun h => by
      by_cases hz : (c :: r).length ≤ 4300
      · left
        have := PySem.intText_digits (x := tx (c :: r)) (by
          rw [tx_codes]
          intro z hz
          have := List.all_eq_true.mp h z hz
          simpa using this) (by rw [tx_codes]; simp) (by rw [tx_len]; exact hz)
        rw [tx_codes] at this
        exact this
      · right; omega
    generalize hw : c :: r = w at *
    unfold rdOf numOf
    by_cases c1 : 60 < (w.length : Int)
    · have : w = [] ∨ 60 < w.length ∨ (1 < w.length ∧ w.head? = some 48) := .inr (.inl (by omega))
      rw [if_pos this]
      simp [F__law_reads, runF_eq, m__law_reads, chk_of, chkO_of, s_empty, q0, kl, c1]
    · have n60 : w.length ≤ 60 := by omega
      have kw : w.length ≤ 640 := by omega
      have hw0 : ¬ w = [] := by rw [← hw]; simp
      have eqc : (w = [] ∨ 60 < w.length ∨ (1 < w.length ∧ w.head? = some 48)) ↔ (1 < w.length ∧ c = 48) := by
        constructor
        · rintro (h | h | ⟨h1, h2⟩)
          · exact absurd h hw0
          · omega
          · rw [hd] at h2; exact ⟨h1, Option.some.inj h2⟩
        · rintro ⟨h1, h2⟩
          exact .inr (.inr ⟨h1, by rw [hd, h2]⟩)
      by_cases d : digs w = true
      · rw [if_pos d] at e
        have iT' := (iT d).resolve_right (by omega)
        by_cases c2 : 1 < (w.length : Int)
        · have c2' : 1 < w.length := by omega
          by_cases c3 : c = 48
          · rw [if_pos (eqc.mpr ⟨c2', c3⟩)]
            have q1' : eqD (.str (tx [c])) (.str (tx [48])) = some true := by rw [q1, c3]; simp
            simp [F__law_reads, runF_eq, m__law_reads, chk_of, chkO_of, s_empty, s_zero, q0, kl, c1, c2, a0, tx1', q1', e]
          · rw [if_neg (fun z => c3 (eqc.mp z).2), if_pos d]
            have q1' : eqD (.str (tx [c])) (.str (tx [48])) = some false := by rw [q1]; simp [c3]
            simp [F__law_reads, runF_eq, m__law_reads, chk_of, chkO_of, s_empty, s_zero, q0, kl, c1, c2, a0, tx1', q1', e, iT', kw]
        · rw [if_neg (fun z => c2 (by have := (eqc.mp z).1; omega)), if_pos d]
          simp [F__law_reads, runF_eq, m__law_reads, chk_of, chkO_of, s_empty, s_zero, q0, kl, c1, c2, e, iT', kw]
      · rw [if_neg d] at e
        rw [if_neg d]
        simp [F__law_reads, runF_eq, m__law_reads, chk_of, chkO_of, s_empty, q0, kl, c1, e]
theorem stretch_two (cs : List Nat) : stretchOf cs = if cs.count 45 = 1 then (match numOf (cs.take (cs.idxOf 45)), numOf (cs.drop (cs.idxOf 45 + 1)) with
    | some a, some b => some (a, b)
    | _, _ => none) else none := by
  unfold stretchOf
  by_cases q : cs.count 45 = 1
  · rw [if_pos q, cutAt_two 45 cs q]
    cases h1 : numOf (cs.take (cs.idxOf 45)) with
    | none => simp [numsOf, h1]
    | some a =>
      cases h2 : numOf (cs.drop (cs.idxOf 45 + 1)) with
      | none => simp [numsOf, h1, h2]
      | some b => simp [numsOf, h1, h2]
  · rw [if_neg q]
    have l := cutAt_len 45 cs
    cases h : numsOf (cutAt 45 cs) with
    | none => rfl
    | some ns =>
      have l2 := numsOf_len h
      match ns, l2 with
      | [], _ => rfl
      | [a], _ => rfl
      | [a, b], l2 => simp at l2; omega
      | a :: b :: c :: r, _ => rfl
theorem rd_neg {cs : List Nat} (h : numOf cs = none) : rdOf cs = -1 := by simp [rdOf, h]
theorem rd_some {cs : List Nat} {n : Int} (h : numOf cs = some n) : rdOf cs = n := by simp [rdOf, h]
def Ln (n : Nat) (z : Str) : Prop := ∃ w, z = tx w ∧ Cd w ∧ w.length ≤ n
theorem tx_of (z : Str) : z = tx z.cps.toList := by cases z; simp [tx]
def lnB (n : Nat) (z : Str) : Bool := z.cps.toList.all (fun c => decide (c < 1114112)) && decide (z.cps.toList.length ≤ n)
theorem ln_of {n : Nat} {z : Str} (h : lnB n z = true) : Ln n z := by
  simp only [lnB, Bool.and_eq_true, List.all_eq_true, decide_eq_true_eq] at h
  exact ⟨z.cps.toList, tx_of z, h.1, h.2⟩
theorem Ln.app {m n : Nat} {x y : Str} (h : Ln m x) (k : Ln n y) : Ln (m + n) (x ++ y) := by
  obtain ⟨a, rfl, h1, h2⟩ := h
  obtain ⟨b, rfl, k1, k2⟩ := k
  exact ⟨a ++ b, by simp, h1.app k1, by simp; omega⟩
theorem Ln.mono {m n : Nat} {x : Str} (h : Ln m x) (k : m ≤ n) : Ln n x := by
  obtain ⟨a, e, h1, h2⟩ := h
  exact ⟨a, e, h1, by omega⟩
theorem Ln.len {n : Nat} {x : Str} (h : Ln n x) : x.length ≤ n := by
  obtain ⟨a, rfl, h1, h2⟩ := h
  simpa using h2
theorem Ln.cut {n : Nat} {x : Str} (h : Ln n x) (lo hi : Option Int) : Ln n (cutS x lo hi) := by
  obtain ⟨a, rfl, h1, h2⟩ := h
  rw [cutS_tx]
  refine ⟨_, rfl, fun c hc => h1 c ?_, ?_⟩
  · exact List.mem_of_mem_drop (List.mem_of_mem_take (show c ∈ (a.drop _).take _ from hc))
  · have : (cutL a lo hi).length ≤ a.length := by
      unfold cutL
      rw [List.length_take, List.length_drop]
      omega
    omega
theorem pick4 {a b c d : D} {v : Int} (h0 : 0 ≤ v) (h1 : v < 4) : ∃ z, atI [a, b, c, d] v = some z ∧ z ∈ [a, b, c, d] := by
  have : v = 0 ∨ v = 1 ∨ v = 2 ∨ v = 3 := by omega
  rcases this with rfl | rfl | rfl | rfl
  all_goals exact ⟨_, rfl, by simp⟩
theorem sign_of (z : Str) (hz : lnB 20 z = true) {v : Int} (h0 : 0 ≤ v) (h1 : v < z.length) : z.length ≤ 16777216 ∧ ∃ c, atI z.cps.toList v = some c ∧ Ln 1 (⟨#[c]⟩ : Str) := by
  obtain ⟨w, rfl, hw, hl⟩ := ln_of hz
  rw [tx_len] at h1
  refine ⟨by rw [tx_len]; omega, ?_⟩
  have hx : ixN w.length v = some v.toNat := ixN_int h0 h1
  have hi : v.toNat < w.length := by omega
  exact ⟨w[v.toNat], by rw [tx_codes]; unfold atI; rw [hx]; simp [hi], ⟨[w[v.toNat]], rfl, fun c hc => by simp at hc; subst hc; exact hw _ (List.getElem_mem hi), by simp⟩⟩
inductive Pc | n (i : Int) | r (ps : List (Int × Int)) | t (cs : List Nat)
def pcD (f : Fl) : Pc → D
  | .n i => .int i
  | .r ps => .nd (.lst f) (ps.map pD)
  | .t cs => .str (tx cs)
def pcL : Pc → List Nat
  | .n i => 32 :: nL i
  | .r ps => ps.flatMap fun p => 32 :: stL p
  | .t cs => 32 :: cs
def PcOk : Pc → Prop
  | .n i => Bg i
  | .r ps => (∀ p ∈ ps, Bg p.1 ∧ Bg p.2) ∧ ps.length ≤ 40
  | .t cs => Cd cs ∧ cs.length ≤ 300
theorem stl_len {ps : List (Int × Int)} (h : ∀ p ∈ ps, Bg p.1 ∧ Bg p.2) : (ps.flatMap fun p => 32 :: stL p).length ≤ 201 * ps.length := by
  induction ps with
  | nil => simp
  | cons p ps ih =>
    have h1 := (wd_st (h p (by simp)).1 (h p (by simp)).2).len
    have h2 := ih fun q hq => h q (by simp [hq])
    rw [List.flatMap_cons, List.length_append, List.length_cons, List.length_cons]
    omega
theorem pcL_len {p : Pc} (h : PcOk p) : (pcL p).length ≤ 9000 := by
  cases p with
  | n i => have := (wd_n h).len; simp [pcL]; omega
  | r ps => have := stl_len h.1; have := h.2; simp only [pcL]; omega
  | t cs => have := h.2; simp [pcL]; omega
theorem pcL_cd {p : Pc} (h : PcOk p) : Cd (pcL p) := by
  cases p with
  | n i => exact Cd.app (a := [32]) (by simp [Cd]) (wd_n h).cd
  | r ps =>
    intro c hc
    obtain ⟨p, hp, hc⟩ := List.mem_flatMap.mp hc
    rcases List.mem_cons.mp hc with rfl | hc
    · decide
    · exact (wd_st (h.1 p hp).1 (h.1 p hp).2).cd c hc
  | t cs => exact Cd.app (a := [32]) (by simp [Cd]) h.1
theorem flat_join : ∀ ps : List (Int × Int), (ps.map fun p => 32 :: stL p).flatten = ps.flatMap fun p => 32 :: stL p := fun ps => by
  rw [List.flatMap_def]
theorem stretches_ok (f : Fl) (ps : List (Int × Int)) (h : ∀ p ∈ ps, Bg p.1 ∧ Bg p.2) (hl : ps.length ≤ 40) : F__law_stretches [.nd (.lst f) (ps.map pD)] = .ok (.str (tx (ps.flatMap fun p => 32 :: stL p))) [.un] := by
  have tn : ∀ (d0 d1 d2 : D) (p : Int × Int), Bg p.1 → Bg p.2 → lcT [1, 2] lg__law_stretches_1 lt__law_stretches_1 le__law_stretches_1 (pD p) [d0, .un, .un] = .ok (some (.str (tx (32 :: stL p)))) [d0, .un, .un] := fun d0 d1 d2 p h1 h2 => by
    have l1 := bg_lenL h1
    have l2 := bg_lenL h2
    have g1 := bg_log h1
    have g2 := bg_log h2
    have n1 := nS_tx h1.1
    have n2 := nS_tx h2.1
    have k1 : 1 + (numL p.1.toNat).length ≤ 16777216 := by omega
    have k2 : 1 + (numL p.1.toNat).length + 1 ≤ 16777216 := by omega
    have k3 : 1 + (numL p.1.toNat).length + 1 + (numL p.2.toNat).length ≤ 16777216 := by omega
    have k4 : (numL p.1.toNat).length + 1 ≤ 16777216 := by omega
    have k5 : (numL p.1.toNat).length + 1 + 1 ≤ 16777216 := by omega
    have k6 : (numL p.1.toNat).length + 1 + 1 + (numL p.2.toNat).length ≤ 16777216 := by omega
    have k7 : (numL p.1.toNat).length + 1 + (numL p.2.toNat).length + 1 ≤ 16777216 := by omega
    simp [lg__law_stretches_1, lt__law_stretches_1, le__law_stretches_1, pD, chk_of, chkO_of, g1, g2, n1, n2, s_da, s_sp, k1, k2, k3, k4, k5, k6, k7, stL]
    try omega
  have e1 : ∀ d0 : D, lcL (lcT [1, 2] lg__law_stretches_1 lt__law_stretches_1 le__law_stretches_1) (ps.map pD) [] [d0, .un, .un] = .ok (((ps.map fun p => 32 :: stL p).map tx).map D.str) [d0, .un, .un] := fun d0 => by
    rw [lcL_pure (f := pD) (fun p => some (D.str (tx (32 :: stL p)))) ps [] (by simp; omega) (fun p hp => tn d0 .un .un p (h p hp).1 (h p hp).2)]
    simp [Function.comp_def]
  have jn := join_tx (ps.map fun p => 32 :: stL p)
  rw [flat_join] at jn
  have jo : PV.JoinOk (Str.ofString "") ((ps.map fun p => 32 :: stL p).map tx) := by
    unfold PV.JoinOk
    have e : (Str.ofString "").length = 0 := by decide
    have q : (((ps.map fun p => 32 :: stL p).map tx).map (·.length)).sum ≤ 201 * ps.length := by
      clear hl e1 jn
      induction ps with
      | nil => simp
      | cons p ps ih =>
        have h1 := (wd_st (h p (by simp)).1 (h p (by simp)).2).len
        have h2 := ih fun q hq => h q (by simp [hq])
        simp only [List.map_cons, List.sum_cons, List.length_cons, tx_len]
        omega
    rw [e]
    omega
  generalize (ps.map fun p => 32 :: stL p).map tx = Z at *
  cases f <;> simp [F__law_stretches, runF_eq, m__law_stretches, chk_of, chkO_of, e1, jo, jn]
theorem line_loop (f : Fl) (d0 : D) : ∀ (pcs : List Pc) (acc : List Nat) (x : D), (∀ p ∈ pcs, PcOk p) → acc.length + 9000 * pcs.length ≤ 100000 → ∃ x', forL lg__law_line_of_1 lb__law_line_of_1 (pcs.map (pcD f)) [d0, .str (tx acc), x] = .nx [d0, .str (tx (acc ++ pcs.flatMap pcL)), x']
  | [], acc, x, _, _ => ⟨x, by simp⟩
  | p :: pcs, acc, x, h, hl => by
    have hp := h p (by simp)
    have lp := pcL_len hp
    simp only [List.length_cons] at hl
    obtain ⟨x', e⟩ := line_loop f d0 pcs (acc ++ pcL p) (pcD f p) (fun q hq => h q (by simp [hq])) (by rw [List.length_append]; omega)
    refine ⟨x', ?_⟩
    have turn : tgR (lg__law_line_of_1 (pcD f p) [d0, .str (tx acc), x]) lb__law_line_of_1 = .nx [d0, .str (tx (acc ++ pcL p)), pcD f p] := by
      cases p with
      | n i =>
        have l1 := bg_lenL (show Bg i from hp)
        have g1 := bg_log (show Bg i from hp)
        have n1 := nS_tx (show Bg i from hp).1
        have k1 : acc.length + 1 ≤ 16777216 := by omega
        have k2 : acc.length + 1 + (numL i.toNat).length ≤ 16777216 := by omega
        have k3 : acc.length + ((numL i.toNat).length + 1) ≤ 16777216 := by omega
        simp [lg__law_line_of_1, lb__law_line_of_1, pcD, pcL, nL, chk_of, chkO_of, s_sp, gAdd, k1, k2, k3, g1, n1]
      | r ps =>
        have e1 := fun g => stretches_ok g ps hp.1 hp.2
        have k1 : acc.length + (ps.flatMap fun p => 32 :: stL p).length ≤ 16777216 := by
          have : (ps.flatMap fun p => 32 :: stL p).length ≤ 9000 := lp
          omega
        generalize hT : (ps.flatMap fun p => 32 :: stL p) = T at *
        have hT' : pcL (.r ps) = T := hT
        cases f <;> simp [lg__law_line_of_1, lb__law_line_of_1, pcD, hT', chk_of, chkO_of, e1, k1]
      | t cs =>
        have l1 := hp.2
        have k1 : acc.length + 1 ≤ 16777216 := by omega
        have k2 : acc.length + 1 + cs.length ≤ 16777216 := by omega
        have k3 : acc.length + (cs.length + 1) ≤ 16777216 := by omega
        simp [lg__law_line_of_1, lb__law_line_of_1, pcD, pcL, chk_of, chkO_of, s_sp, gAdd, k1, k2, k3]
    rw [List.map_cons, forL_cons, turn]
    simp only [RS.lp]
    rw [e]
    simp [List.append_assoc]
def ddD (f : Fl) (name : Str) (pcs : List Pc) : D := .nd .tup (.str name :: pcs.map (pcD f))
theorem set_pcs (g : Fl) : ∀ pcs : List Pc, D.setL g (pcs.map (pcD .own)) = pcs.map (pcD g)
  | [] => by simp
  | p :: pcs => by cases p <;> simp [set_pcs g pcs, pcD]
theorem set_pcb : ∀ pcs : List Pc, D.setL .fz (pcs.map (pcD .bor)) = pcs.map (pcD .bor)
  | [] => by simp
  | p :: pcs => by cases p <;> simp [set_pcb pcs, pcD]
theorem line_of_ok (name : Str) (nm : List Nat) (hnm : name = tx nm) (w : Wd nm) (h2 : eqD (.str name) (.str "tie") = some false) (pcs : List Pc) (h : ∀ p ∈ pcs, PcOk p) (hl : pcs.length ≤ 6) : F__law_line_of [ddD .bor name pcs] = .ok (.str (tx (nm ++ pcs.flatMap pcL))) [.un] := by
  have lw := w.len
  obtain ⟨x', e⟩ := line_loop .bor (ddD .bor name pcs) pcs nm .un h (by omega)
  have c1 : cutL (.str name :: pcs.map (pcD .bor)) (some 1) none = pcs.map (pcD .bor) := cutL_tl _ _
  have ix : ixN (pcs.length + 1) 0 = some 0 := by simp [ixN]
  have sb := set_pcb pcs
  have s1 : HT.sIx (pcs.length + 1) 0 (some 1) = 1 := by
    unfold HT.sIx
    simp
    try omega
  have kl : pcs.length ≤ 16777214 := by omega
  have kl2 : pcs.length + 1 ≤ 16777216 := by omega
  subst hnm
  unfold ddD at e ⊢
  simp [F__law_line_of, runF_eq, m__law_line_of, chk_of, chkO_of, chkS_of, h2, ix, s1, c1, sb, e, kl, kl2]
theorem line_tie_ok (a b : List (Int × Int)) (ha : ∀ p ∈ a, Bg p.1 ∧ Bg p.2) (hb : ∀ p ∈ b, Bg p.1 ∧ Bg p.2) (la : a.length ≤ 40) (lb : b.length ≤ 40) : F__law_line_of [ddD .bor "tie" [.r a, .r b]] = .ok (.str (tx ([116, 105, 101] ++ (a.flatMap fun p => 32 :: stL p) ++ [32, 47] ++ (b.flatMap fun p => 32 :: stL p)))) [.un] := by
  have e1 := fun g => stretches_ok g a ha la
  have e2 := fun g => stretches_ok g b hb lb
  have l1 := stl_len ha
  have l2 := stl_len hb
  have s1 : Str.ofString "tie" = tx [116, 105, 101] := by decide +kernel
  have s2 : Str.ofString " /" = tx [32, 47] := by decide +kernel
  have q := eq_tx (a := [116, 105, 101]) (b := [116, 105, 101]) (by simp [Cd]) (by simp [Cd])
  simp at q
  generalize (a.flatMap fun p => 32 :: stL p) = A at *
  generalize (b.flatMap fun p => 32 :: stL p) = B at *
  have k1 : 3 + A.length ≤ 16777216 := by omega
  have k2 : 3 + A.length + 2 ≤ 16777216 := by omega
  have k3 : 3 + A.length + 2 + B.length ≤ 16777216 := by omega
  have k4 : A.length + 1 + 1 + 1 ≤ 16777216 := by omega
  have k5 : A.length + 2 + 1 + 1 + 1 ≤ 16777216 := by omega
  have k6 : A.length + 1 + 1 + 1 + 1 + 1 + B.length ≤ 16777216 := by omega
  have k7 : A.length ≤ 16777000 := by omega
  simp [F__law_line_of, runF_eq, m__law_line_of, ddD, pcD, chk_of, chkO_of, chkS_of, s1, s2, q, e1, e2, k1, k2, k3, k4, k5, k6]
  try omega
theorem number_bg (s : Sr) : ∃ (v : Int) (s' : Sr), Bg v ∧ F__law_number [srcD s] = .ok (.int v) [srcD s'] := by
  obtain ⟨u, s1, u0, u1, e1⟩ := next_ok s 2 (by decide) (by decide)
  have hu : u = 0 ∨ u = 1 := by omega
  rcases hu with rfl | rfl
  · obtain ⟨v, s2, v0, v1, e2⟩ := next_ok s1 12 (by decide) (by decide)
    have a : ∀ x y : D, atI [x, y] 0 = some x := fun x y => rfl
    exact ⟨v, s2, ⟨v0, by omega⟩, by simp [F__law_number, runF_eq, m__law_number, chk_of, chkO_of, e1, e2, a]⟩
  · obtain ⟨v, s2, v0, v1, e2⟩ := next_ok s1 1000000000000000000000000000000000000000000000000000000000000 (by decide) (by decide)
    have a : ∀ x y : D, atI [x, y] 1 = some y := fun x y => rfl
    exact ⟨v, s2, ⟨v0, by omega⟩, by simp [F__law_number, runF_eq, m__law_number, chk_of, chkO_of, e1, e2, a]⟩
theorem ink_ok (s : Sr) : ∃ (ps : List (Int × Int)) (s' : Sr), ps.length ≤ 40 ∧ (∀ p ∈ ps, Bg p.1 ∧ Bg p.2) ∧ F__law_ink_by [srcD s] = .ok (.nd (.lst .own) (ps.map pD)) [srcD s'] := by
  obtain ⟨u, s1, u0, u1, e1⟩ := next_ok s 4 (by decide) (by decide)
  obtain ⟨z, hz, hz1⟩ : ∃ z : Int, atI [D.int 4, .int 4, .int 4, .int 30] u = some (.int z) ∧ (z = 4 ∨ z = 30) := by
    have : u = 0 ∨ u = 1 ∨ u = 2 ∨ u = 3 := by omega
    rcases this with rfl | rfl | rfl | rfl
    · exact ⟨4, rfl, .inl rfl⟩
    · exact ⟨4, rfl, .inl rfl⟩
    · exact ⟨4, rfl, .inl rfl⟩
    · exact ⟨30, rfl, .inr rfl⟩
  obtain ⟨v, s2, v0, v1, e2⟩ := next_ok s1 z (by omega) (by omega)
  have v40 : v < 40 := by omega
  obtain ⟨acc, st', e, s3, ps, rfl, rfl, hl, hb, hk⟩ := lcL_inv (T := lcT [2] lg__law_ink_by_1 lt__law_ink_by_1 le__law_ink_by_1) (f := D.int) (fun pre post acc st => ∃ (s : Sr) (ps : List (Int × Int)), acc = ps.map pD ∧ st = [srcD s, .int v, .un] ∧ ps.length = pre.length ∧ pre.length + post.length ≤ 40 ∧ ∀ p ∈ ps, Bg p.1 ∧ Bg p.2)
    (fun pre x post acc st ⟨s, ps, ea, es, hl, hb, hk⟩ => by
      subst ea es
      obtain ⟨a, s', ha, f1⟩ := number_bg s
      obtain ⟨b, s'', hb', f2⟩ := number_bg s'
      simp at hb
      exact ⟨some (pD (a, b)), [srcD s'', .int v, .un], by simp [lg__law_ink_by_1, lt__law_ink_by_1, le__law_ink_by_1, chk_of, chkO_of, f1, f2, pD], by simp; omega, s'', ps ++ [(a, b)], by simp, rfl, by simp [hl], by simp; omega, fun p hp => by rcases List.mem_append.mp hp with hp | hp; exact hk p hp; simp at hp; subst hp; exact ⟨ha, hb'⟩⟩)
    ((List.range v.toNat).map fun i => (0 : Int) + (i : Nat)) [] [] [srcD s2, .int v, .un] ⟨s2, [], rfl, rfl, rfl, by simp; omega, by simp⟩
  simp at hl hb
  refine ⟨ps, s3, by omega, hk, ?_⟩
  have h6 : -4611686018427387904 ≤ v ∧ v < 4611686018427387904 := ⟨by omega, by omega⟩
  simp [F__law_ink_by, runF_eq, m__law_ink_by, e1, hz, e2, chk_of, chkO_of, chkS_of, h6, rangeD_eq] at e ⊢
  simp [e, chk_of]
theorem nums_lc (d1 d2 : D) (m : Int) (h0 : 0 ≤ m) (h1 : m ≤ 5) (s : Sr) : ∃ (ns : List Int) (s' : Sr), ns.length = m.toNat ∧ (∀ n ∈ ns, Bg n) ∧ lcL (lcT [4] lg__law_plain_deed_1 lt__law_plain_deed_1 le__law_plain_deed_1) (((List.range m.toNat).map fun i => (0 : Int) + (i : Nat)).map D.int) [] [srcD s, d1, d2, .int m, .un] = .ok (ns.map D.int) [srcD s', d1, d2, .int m, .un] := by
  obtain ⟨acc, st', e, s3, ps, rfl, rfl, hl, hb, hk⟩ := lcL_inv (T := lcT [4] lg__law_plain_deed_1 lt__law_plain_deed_1 le__law_plain_deed_1) (f := D.int) (fun pre post acc st => ∃ (s : Sr) (ps : List Int), acc = ps.map D.int ∧ st = [srcD s, d1, d2, .int m, .un] ∧ ps.length = pre.length ∧ pre.length + post.length ≤ 40 ∧ ∀ p ∈ ps, Bg p)
    (fun pre x post acc st ⟨s, ps, ea, es, hl, hb, hk⟩ => by
      subst ea es
      obtain ⟨a, s', ha, f1⟩ := number_bg s
      simp at hb
      exact ⟨some (.int a), [srcD s', d1, d2, .int m, .un], by simp [lg__law_plain_deed_1, lt__law_plain_deed_1, le__law_plain_deed_1, chk_of, chkO_of, f1], by simp; omega, s', ps ++ [a], by simp, rfl, by simp [hl], by simp; omega, fun p hp => by rcases List.mem_append.mp hp with hp | hp; exact hk p hp; simp at hp; subst hp; exact ha⟩)
    ((List.range m.toNat).map fun i => (0 : Int) + (i : Nat)) [] [] [srcD s, d1, d2, .int m, .un] ⟨s, [], rfl, rfl, rfl, by simp; omega, by simp⟩
  simp at hl hb
  exact ⟨ps, s3, hl, hk, e⟩
theorem plain_deed_ok (s : Sr) (way k : Int) (name : Str) (hn : atI [D.str "fresh", D.str "fix", D.str "untie", D.str "read", D.str "back", D.str "fork", D.str "cut", D.str "window", D.str "move", D.str "quote"] way = some (.str name)) (hk : atI [D.int 0, D.int 1, D.int 1, D.int 1, D.int 2, D.int 2, D.int 3, D.int 3, D.int 4, D.int 5] way = some (.int k)) (k0 : 0 ≤ k) (k1 : k ≤ 5) : ∃ (ns : List Int) (s' : Sr), ns.length = k.toNat ∧ (∀ n ∈ ns, Bg n) ∧ F__law_plain_deed [srcD s, .int way] = .ok (.nd .tup (.str name :: ns.map D.int)) [srcD s', .un] := by
  obtain ⟨ns, s', hl, hb, e⟩ := nums_lc (.int way) .un k k0 k1 s
  refine ⟨ns, s', hl, hb, ?_⟩
  have h6 : -4611686018427387904 ≤ k ∧ k < 4611686018427387904 := ⟨by omega, by omega⟩
  have ev := vsOf_ints ns
  have kn : ns.length ≤ 16777215 := by omega
  have kn1 : 1 + ns.length ≤ 16777216 := by omega
  simp [F__law_plain_deed, runF_eq, m__law_plain_deed, hn, hk, chk_of, chkO_of, chkS_of, h6, rangeD_eq] at e ⊢
  simp [e, chk_of, ev, kn, kn1]
theorem noBor_pcs : ∀ pcs : List Pc, D.noBorL (pcs.map (pcD .own)) = true
  | [] => by simp
  | p :: pcs => by cases p <;> simp [noBor_pcs pcs, pcD]
structure GoodD (name : Str) (nm : List Nat) (pcs : List Pc) (ln : List Nat) : Prop where
  hnm : name = tx nm
  w : Wd nm
  nl : nm.length ≤ 10
  ok : ∀ p ∈ pcs, PcOk p
  line : F__law_line_of [ddD .bor name pcs] = .ok (.str (tx ln)) [.un]
  cd : Cd ln
  len : ln.length ≤ 60000
theorem good_of (name : Str) (nm : List Nat) (hnm : name = tx nm) (w : Wd nm) (hln : nm.length ≤ 10) (h2 : (name == Str.ofString "tie") = false) (pcs : List Pc) (ok : ∀ p ∈ pcs, PcOk p) (hl : pcs.length ≤ 6) : GoodD name nm pcs (nm ++ pcs.flatMap pcL) := by
  have q2 : eqD (.str name) (.str "tie") = some false := by rw [eqD_txs]; exact congrArg some h2
  have cd : ∀ pcs : List Pc, (∀ p ∈ pcs, PcOk p) → Cd (pcs.flatMap pcL) ∧ (pcs.flatMap pcL).length ≤ 9000 * pcs.length := fun pcs => by
    induction pcs with
    | nil => intro _; exact ⟨by simp [Cd], by simp⟩
    | cons p pcs ih =>
      intro h
      obtain ⟨i1, i2⟩ := ih fun q hq => h q (by simp [hq])
      have p1 := pcL_len (h p (by simp))
      have p2 := pcL_cd (h p (by simp))
      rw [List.flatMap_cons]
      exact ⟨p2.app i1, by rw [List.length_append, List.length_cons]; omega⟩
  obtain ⟨c1, c2⟩ := cd pcs ok
  exact ⟨hnm, w, hln, ok, line_of_ok name nm hnm w q2 _ ok hl, w.cd.app c1, by rw [List.length_append]; omega⟩
theorem good_plain (name : Str) (nm : List Nat) (hnm : name = tx nm) (w : Wd nm) (hln : nm.length ≤ 10) (h1 : (name == Str.ofString "pour") = false) (h2 : (name == Str.ofString "tie") = false) (ns : List Int) (h : ∀ n ∈ ns, Bg n) (hl : ns.length ≤ 5) : GoodD name nm (ns.map .n) (nm ++ (ns.map Pc.n).flatMap pcL) :=
  good_of name nm hnm w hln h2 _ (fun p hp => by
    obtain ⟨n, hn, rfl⟩ := List.mem_map.mp hp
    exact h n hn) (by simp; omega)
theorem good_row (name : Str) (nm : List Nat) (hnm : name = tx nm) (w : Wd nm) (hln : nm.length ≤ 10) (h1 : (name == Str.ofString "pour") = false) (h2 : (name == Str.ofString "tie") = false) (ns : List Int) (h : ∀ n ∈ ns, Bg n) (hl : ns.length ≤ 5) (ps : List (Int × Int)) (hp : ∀ p ∈ ps, Bg p.1 ∧ Bg p.2) (hpl : ps.length ≤ 40) : GoodD name nm (ns.map Pc.n ++ [Pc.r ps]) (nm ++ (ns.map Pc.n ++ [Pc.r ps]).flatMap pcL) :=
  good_of name nm hnm w hln h2 _ (fun p hm => by
    rcases List.mem_append.mp hm with hm | hm
    · obtain ⟨n, hn, rfl⟩ := List.mem_map.mp hm
      exact h n hn
    · simp at hm; subst hm; exact ⟨hp, hpl⟩) (by simp; omega)
theorem good_pour (h : Int) (cs : List Nat) (hh : Bg h) (hc : Cd cs) (hl : cs.length ≤ 300) : GoodD "pour" [112, 111, 117, 114] [.n h, .t cs] ([112, 111, 117, 114] ++ [Pc.n h, .t cs].flatMap pcL) :=
  good_of "pour" _ (by decide +kernel) ⟨by simp [Cd], by simp, by simp⟩ (by simp) (by decide +kernel) _ (fun p hp => by
    simp at hp
    rcases hp with rfl | rfl
    · exact hh
    · exact ⟨hc, hl⟩) (by simp)
theorem good_tie (a b : List (Int × Int)) (ha : ∀ p ∈ a, Bg p.1 ∧ Bg p.2) (hb : ∀ p ∈ b, Bg p.1 ∧ Bg p.2) (la : a.length ≤ 40) (lb : b.length ≤ 40) : GoodD "tie" [116, 105, 101] [.r a, .r b] ([116, 105, 101] ++ (a.flatMap fun p => 32 :: stL p) ++ [32, 47] ++ (b.flatMap fun p => 32 :: stL p)) := by
  have oka : PcOk (.r a) := ⟨ha, la⟩
  have okb : PcOk (.r b) := ⟨hb, lb⟩
  have l1 := pcL_len oka
  have l2 := pcL_len okb
  have c1 := pcL_cd oka
  have c2 := pcL_cd okb
  simp only [pcL] at l1 l2 c1 c2
  refine ⟨by decide +kernel, ⟨by simp [Cd], by simp, by simp⟩, by simp, fun p hp => ?_, line_tie_ok a b ha hb la lb, ((Cd.app (by simp [Cd]) c1).app (by simp [Cd])).app c2, by simp only [List.length_append, List.length_cons, List.length_nil]; omega⟩
  simp at hp
  rcases hp with rfl | rfl
  · exact oka
  · exact okb

theorem deed_by_ok (s : Sr) : ∃ (name : Str) (nm : List Nat) (pcs : List Pc) (ln : List Nat) (s' : Sr), GoodD name nm pcs ln ∧ F__law_deed_by [srcD s] = .ok (ddD .own name pcs) [srcD s'] := by
  obtain ⟨v, s1, v0, v1, e1⟩ := next_ok s 16 (by decide) (by decide)
  have hv : v = 0 ∨ v = 1 ∨ v = 2 ∨ v = 3 ∨ v = 4 ∨ v = 5 ∨ v = 6 ∨ v = 7 ∨ v = 8 ∨ v = 9 ∨ v = 10 ∨ v = 11 ∨ v = 12 ∨ v = 13 ∨ v = 14 ∨ v = 15 := by omega
  have fin : ∀ (way k : Int) (name : Str) (nm : List Nat), v = way → way < 10 → atI [D.str "fresh", D.str "fix", D.str "untie", D.str "read", D.str "back", D.str "fork", D.str "cut", D.str "window", D.str "move", D.str "quote"] way = some (.str name) → atI [D.int 0, D.int 1, D.int 1, D.int 1, D.int 2, D.int 2, D.int 3, D.int 3, D.int 4, D.int 5] way = some (.int k) → 0 ≤ k → k ≤ 5 → name = tx nm → Wd nm → nm.length ≤ 10 → (name == Str.ofString "pour") = false → (name == Str.ofString "tie") = false → ∃ (name : Str) (nm : List Nat) (pcs : List Pc) (ln : List Nat) (s' : Sr), GoodD name nm pcs ln ∧ F__law_deed_by [srcD s] = .ok (ddD .own name pcs) [srcD s'] := fun way k name nm hw h10 a1 a2 k0 k1 hnm w hl h1 h2 => by
    obtain ⟨ns, s2, hln, hb, e2⟩ := plain_deed_ok s1 way k name a1 a2 k0 k1
    refine ⟨name, nm, ns.map .n, _, s2, good_plain name nm hnm w hl h1 h2 ns hb (by omega), ?_⟩
    have dd : ddD .own name (ns.map .n) = .nd .tup (.str name :: ns.map D.int) := by
      unfold ddD
      rw [List.map_map]; rfl
    rw [dd]
    subst hw
    simp [F__law_deed_by, runF_eq, m__law_deed_by, chk_of, chkO_of, e1, h10, e2]
  rcases hv with hv | hv | hv | hv | hv | hv | hv | hv | hv | hv | hv | hv | hv | hv | hv | hv
  · exact fin 0 0 "fresh" [102, 114, 101, 115, 104] hv (by decide) rfl rfl (by decide) (by decide) (by decide +kernel) ⟨by simp [Cd], by simp, by simp⟩ (by simp) (by decide +kernel) (by decide +kernel)
  · exact fin 1 1 "fix" [102, 105, 120] hv (by decide) rfl rfl (by decide) (by decide) (by decide +kernel) ⟨by simp [Cd], by simp, by simp⟩ (by simp) (by decide +kernel) (by decide +kernel)
  · exact fin 2 1 "untie" [117, 110, 116, 105, 101] hv (by decide) rfl rfl (by decide) (by decide) (by decide +kernel) ⟨by simp [Cd], by simp, by simp⟩ (by simp) (by decide +kernel) (by decide +kernel)
  · exact fin 3 1 "read" [114, 101, 97, 100] hv (by decide) rfl rfl (by decide) (by decide) (by decide +kernel) ⟨by simp [Cd], by simp, by simp⟩ (by simp) (by decide +kernel) (by decide +kernel)
  · exact fin 4 2 "back" [98, 97, 99, 107] hv (by decide) rfl rfl (by decide) (by decide) (by decide +kernel) ⟨by simp [Cd], by simp, by simp⟩ (by simp) (by decide +kernel) (by decide +kernel)
  · exact fin 5 2 "fork" [102, 111, 114, 107] hv (by decide) rfl rfl (by decide) (by decide) (by decide +kernel) ⟨by simp [Cd], by simp, by simp⟩ (by simp) (by decide +kernel) (by decide +kernel)
  · exact fin 6 3 "cut" [99, 117, 116] hv (by decide) rfl rfl (by decide) (by decide) (by decide +kernel) ⟨by simp [Cd], by simp, by simp⟩ (by simp) (by decide +kernel) (by decide +kernel)
  · exact fin 7 3 "window" [119, 105, 110, 100, 111, 119] hv (by decide) rfl rfl (by decide) (by decide) (by decide +kernel) ⟨by simp [Cd], by simp, by simp⟩ (by simp) (by decide +kernel) (by decide +kernel)
  · exact fin 8 4 "move" [109, 111, 118, 101] hv (by decide) rfl rfl (by decide) (by decide) (by decide +kernel) ⟨by simp [Cd], by simp, by simp⟩ (by simp) (by decide +kernel) (by decide +kernel)
  · exact fin 9 5 "quote" [113, 117, 111, 116, 101] hv (by decide) rfl rfl (by decide) (by decide) (by decide +kernel) ⟨by simp [Cd], by simp, by simp⟩ (by simp) (by decide +kernel) (by decide +kernel)
  · subst hv
    obtain ⟨a, s2, a0, a1, f1⟩ := next_ok s1 9 (by decide) (by decide)
    obtain ⟨b, s3, b0, b1, f2⟩ := next_ok s2 9 (by decide) (by decide)
    obtain ⟨c, s4, c0, c1, f3⟩ := next_ok s3 5 (by decide) (by decide)
    obtain ⟨m, hm, m0, m1⟩ : ∃ m : Int, atI [D.int a, .int (200 - b)] (c / 4) = some (.int m) ∧ 0 ≤ m ∧ m ≤ 200 := by
      have : c / 4 = 0 ∨ c / 4 = 1 := by omega
      rcases this with h | h <;> rw [h]
      · exact ⟨a, rfl, a0, by omega⟩
      · exact ⟨200 - b, rfl, by omega, by omega⟩
    obtain ⟨h, s5, hh, f4⟩ := number_bg s4
    obtain ⟨cs, s6, hl, hc, f5⟩ := law_text_ok s5 m m0 (by omega)
    refine ⟨_, _, _, _, s6, good_pour h cs hh (fun c hx => (hc c hx).1) (by omega), ?_⟩
    simp [F__law_deed_by, runF_eq, m__law_deed_by, chk_of, chkO_of, e1, f1, f2, f3, hm, f4, f5, ddD, pcD]
  · subst hv
    obtain ⟨a, s2, ha, f1⟩ := number_bg s1
    obtain ⟨b, s3, hb, f2⟩ := number_bg s2
    obtain ⟨ps, s4, pl, hp, f3⟩ := ink_ok s3
    refine ⟨"put", [112, 117, 116], _, _, s4, good_row "put" [112, 117, 116] (by decide +kernel) ⟨by simp [Cd], by simp, by simp⟩ (by simp) (by decide +kernel) (by decide +kernel) [a, b] (fun n hn => by simp at hn; rcases hn with rfl | rfl; exact ha; exact hb) (by simp) ps hp pl, ?_⟩
    simp [F__law_deed_by, runF_eq, m__law_deed_by, chk_of, chkO_of, e1, f1, f2, f3, ddD, pcD]
  · subst hv
    obtain ⟨ps, s4, pl, hp, f3⟩ := ink_ok s1
    refine ⟨"strike", [115, 116, 114, 105, 107, 101], _, _, s4, good_row "strike" [115, 116, 114, 105, 107, 101] (by decide +kernel) ⟨by simp [Cd], by simp, by simp⟩ (by simp) (by decide +kernel) (by decide +kernel) [] (fun n hn => by simp at hn) (by simp) ps hp pl, ?_⟩
    simp [F__law_deed_by, runF_eq, m__law_deed_by, chk_of, chkO_of, e1, f3, ddD, pcD]
  · subst hv
    obtain ⟨a, s2, ha, f1⟩ := number_bg s1
    obtain ⟨ps, s4, pl, hp, f3⟩ := ink_ok s2
    refine ⟨"blot", [98, 108, 111, 116], _, _, s4, good_row "blot" [98, 108, 111, 116] (by decide +kernel) ⟨by simp [Cd], by simp, by simp⟩ (by simp) (by decide +kernel) (by decide +kernel) [a] (fun n hn => by simp at hn; rcases hn with rfl; exact ha) (by simp) ps hp pl, ?_⟩
    simp [F__law_deed_by, runF_eq, m__law_deed_by, chk_of, chkO_of, e1, f1, f3, ddD, pcD]
  · subst hv
    obtain ⟨a, s2, ha, f1⟩ := number_bg s1
    obtain ⟨ps, s4, pl, hp, f3⟩ := ink_ok s2
    refine ⟨"lift", [108, 105, 102, 116], _, _, s4, good_row "lift" [108, 105, 102, 116] (by decide +kernel) ⟨by simp [Cd], by simp, by simp⟩ (by simp) (by decide +kernel) (by decide +kernel) [a] (fun n hn => by simp at hn; rcases hn with rfl; exact ha) (by simp) ps hp pl, ?_⟩
    simp [F__law_deed_by, runF_eq, m__law_deed_by, chk_of, chkO_of, e1, f1, f3, ddD, pcD]
  · subst hv
    obtain ⟨as, s2, al, ha, f1⟩ := ink_ok s1
    obtain ⟨bs, s3, bl, hb, f2⟩ := ink_ok s2
    refine ⟨_, _, _, _, s3, good_tie as bs ha hb al bl, ?_⟩
    simp [F__law_deed_by, runF_eq, m__law_deed_by, chk_of, chkO_of, e1, f1, f2, ddD, pcD]

theorem same_self : ∀ (n : Nat) (x : D), D.ok x n = true → D.same x x = true
  | n, x, h => by
    rcases ok_cases h with rfl | ⟨b, rfl⟩ | ⟨b, rfl⟩ | ⟨b, rfl, hb⟩ | ⟨f, xs, m, rfl, rfl, hb⟩ | ⟨xs, m, rfl, rfl, hb⟩
    · simp [D.same]
    · simp [D.same]
    · simp [D.same]
    · simp [D.same]
    · have key : ∀ ys : List D, D.okL ys m = true → D.sameL ys ys = true := fun ys => by
        induction ys with
        | nil => intro _; simp [D.sameL]
        | cons y ys ih =>
          intro hy
          simp at hy
          simp [D.sameL, same_self m y hy.1, ih hy.2]
      simp [D.same, key xs hb]
    · have key : ∀ ys : List D, D.okL ys m = true → D.sameL ys ys = true := fun ys => by
        induction ys with
        | nil => intro _; simp [D.sameL]
        | cons y ys ih =>
          intro hy
          simp at hy
          simp [D.sameL, same_self m y hy.1, ih hy.2]
      simp [D.same, key xs hb]

open TL
/-! law 33 -/
theorem spoilt_ok (s : Sr) (z : Str) (hz : Ln 60000 z) : ∃ (y : Str) (s' : Sr), Ln 130000 y ∧ F__law_spoilt [srcD s, .str z] = .ok (.str y) [srcD s', .un] := by
  obtain ⟨u, s1, u0, u1, e1⟩ := next_ok s 5 (by decide) (by decide)
  have hzl := hz.len
  have kz : z.length ≤ 16777216 := by omega
  obtain ⟨v, s2, v0, v1, e2⟩ := next_ok s1 ((z.length : Int) + 1) (by omega) (by omega)
  have A := hz.cut none (some v)
  have B := hz.cut (some v) none
  have B1 := hz.cut (some (v + 1)) none
  have la := A.len
  have lb := B.len
  have lc := B1.len
  by_cases c0 : u = 0
  · obtain ⟨k, s3, k0, k1, e3⟩ := next_ok s2 10 (by decide) (by decide)
    have hk0 : (Str.ofString " -@/+0a1_.").length = 10 := by decide +kernel
    have hk : k < ((Str.ofString " -@/+0a1_.").length : Nat) := by rw [hk0]; exact k1
    obtain ⟨q1, c, q2, q3⟩ := sign_of (Str.ofString " -@/+0a1_.") (by decide +kernel) k0 hk
    have l1 := (A.app q3).len
    have lq := q3.len
    have m1 : (cutS z none (some v)).length + (⟨#[c]⟩ : Str).length ≤ 16777216 := by omega
    have m2 : (cutS z none (some v) ++ (⟨#[c]⟩ : Str)).length + (cutS z (some v) none).length ≤ 16777216 := by omega
    exact ⟨_, s3, ((A.app q3).app B).mono (by omega), by simp [F__law_spoilt, runF_eq, m__law_spoilt, chk_of, chkO_of, e1, kz, e2, c0, e3, q1, q2, m1, m2]⟩
  by_cases c1 : u = 1
  · have m1 : (cutS z none (some v)).length + (cutS z (some (v + 1)) none).length ≤ 16777216 := by omega
    exact ⟨_, s2, (A.app B1).mono (by omega), by simp [F__law_spoilt, runF_eq, m__law_spoilt, chk_of, chkO_of, e1, kz, e2, c1, m1]⟩
  by_cases c2 : u = 2
  · obtain ⟨k, s3, k0, k1, e3⟩ := next_ok s2 4 (by decide) (by decide)
    have hk0 : (Str.ofString " -@0").length = 4 := by decide +kernel
    have hk : k < ((Str.ofString " -@0").length : Nat) := by rw [hk0]; exact k1
    obtain ⟨q1, c, q2, q3⟩ := sign_of (Str.ofString " -@0") (by decide +kernel) k0 hk
    have l1 := (A.app q3).len
    have lq := q3.len
    have m1 : (cutS z none (some v)).length + (⟨#[c]⟩ : Str).length ≤ 16777216 := by omega
    have m2 : (cutS z none (some v) ++ (⟨#[c]⟩ : Str)).length + (cutS z (some (v + 1)) none).length ≤ 16777216 := by omega
    exact ⟨_, s3, ((A.app q3).app B1).mono (by omega), by simp [F__law_spoilt, runF_eq, m__law_spoilt, chk_of, chkO_of, e1, kz, e2, c2, e3, q1, q2, m1, m2]⟩
  obtain ⟨k, s3, k0, k1, e3⟩ := next_ok s2 4 (by decide) (by decide)
  by_cases c3 : u = 3
  · obtain ⟨y, hy, hm⟩ := pick4 (a := .str (Str.ofString " ")) (b := .str (Str.ofString "-")) (c := .str (Str.ofString "@")) (d := .str (Str.ofString "  ")) k0 k1
    have : ∃ x, y = .str x ∧ Ln 2 x := by
      simp only [List.mem_cons, List.not_mem_nil, or_false] at hm
      rcases hm with rfl | rfl | rfl | rfl
      all_goals exact ⟨_, rfl, ln_of (by decide +kernel)⟩
    obtain ⟨x, rfl, hx⟩ := this
    have lx := hx.len
    have m1 : z.length + x.length ≤ 16777216 := by omega
    exact ⟨_, s3, (hz.app hx).mono (by omega), by simp [F__law_spoilt, runF_eq, m__law_spoilt, chk_of, chkO_of, e1, kz, e2, c3, e3, hy, m1]⟩
  · obtain ⟨y, hy, hm⟩ := pick4 (a := .str (Str.ofString " ")) (b := .str (Str.ofString "  ")) (c := .str (Str.ofString "-")) (d := .str (Str.ofString "@")) k0 k1
    have : ∃ x, y = .str x ∧ Ln 2 x := by
      simp only [List.mem_cons, List.not_mem_nil, or_false] at hm
      rcases hm with rfl | rfl | rfl | rfl
      all_goals exact ⟨_, rfl, ln_of (by decide +kernel)⟩
    obtain ⟨x, rfl, hx⟩ := this
    have lx := hx.len
    have m1 : x.length + z.length ≤ 16777216 := by omega
    exact ⟨_, s3, (hx.app hz).mono (by omega), by simp [F__law_spoilt, runF_eq, m__law_spoilt, chk_of, chkO_of, e1, kz, e2, c0, c1, c2, c3, e3, hy, m1]⟩

def fstW (w : List Nat) : List Nat := w.take (w.idxOf 32)
def rstW (w : List Nat) : List Nat := w.drop (w.idxOf 32 + 1)
def wordsW (w : List Nat) : List (List Nat) := if 32 ∈ w then cutAt 32 (rstW w) else []
theorem take_idx (c : Nat) : ∀ w : List Nat, c ∉ w.take (w.idxOf c)
  | [] => by simp
  | d :: w => by
    by_cases q : d = c
    · subst q; simp
    · have e : (d :: w).idxOf c = w.idxOf c + 1 := by rw [List.idxOf_cons]; simp [show (d == c) = false by simpa using q]
      rw [e, List.take_succ_cons]
      simp only [List.mem_cons, not_or]
      exact ⟨fun z => q z.symm, take_idx c w⟩
theorem cut_idx (c : Nat) : ∀ w : List Nat, c ∈ w → w = w.take (w.idxOf c) ++ [c] ++ w.drop (w.idxOf c + 1)
  | [], h => by simp at h
  | d :: w, h => by
    by_cases q : d = c
    · subst q; simp
    · have e : (d :: w).idxOf c = w.idxOf c + 1 := by rw [List.idxOf_cons]; simp [show (d == c) = false by simpa using q]
      have hw : c ∈ w := by
        rcases List.mem_cons.mp h with h | h
        · exact absurd h.symm q
        · exact h
      have ih := cut_idx c w hw
      rw [e, List.take_succ_cons, List.drop_succ_cons]
      simp only [List.cons_append]
      rw [← ih]
theorem no_idx (c : Nat) (w : List Nat) (h : c ∉ w) : w.idxOf c = w.length := List.idxOf_eq_length h
theorem fst_no {w : List Nat} (h : 32 ∉ w) : fstW w = w := by unfold fstW; rw [no_idx 32 w h, List.take_length]
theorem rst_no {w : List Nat} (h : 32 ∉ w) : rstW w = [] := by unfold rstW; rw [no_idx 32 w h]; simp
theorem fst_len (w : List Nat) : (fstW w).length ≤ w.length := by unfold fstW; rw [List.length_take]; omega
theorem rst_len (w : List Nat) : (rstW w).length ≤ w.length := by unfold rstW; rw [List.length_drop]; omega
theorem fst_cd {w : List Nat} (h : Cd w) : Cd (fstW w) := fun c hc => h c (List.mem_of_mem_take hc)
theorem rst_cd {w : List Nat} (h : Cd w) : Cd (rstW w) := fun c hc => h c (List.mem_of_mem_drop hc)
theorem words_ok {w : List Nat} (h : Cd w) (hl : w.length ≤ 1000000) : (∀ v ∈ wordsW w, Cd v ∧ v.length ≤ 1000000) ∧ (wordsW w).length ≤ 1000001 := by
  unfold wordsW
  split
  · exact cutAt_ok 32 (rst_cd h) (by have := rst_len w; omega)
  · simp
theorem part_w (w : List Nat) : Txt.partition (tx w) (tx [32]) = (tx (fstW w), tx (if 32 ∈ w then [32] else []), tx (rstW w)) := by
  by_cases h : 32 ∈ w
  · rw [if_pos h]
    have e := cut_idx 32 w h
    have p := partition_app (y := tx [32]) (s := 32) (S := []) (tl_tx _) (a := tx (fstW w)) (b := tx (rstW w)) (by rw [tl_tx]; exact take_idx 32 w)
    have e2 : tx (fstW w) ++ tx [32] ++ tx (rstW w) = tx w := by
      rw [tx_app, tx_app]
      unfold fstW rstW
      rw [← e]
    rw [e2] at p
    exact p
  · rw [if_neg h, fst_no h, rst_no h, partition_none (s := 32) (S := []) (tl_tx _) (by rw [tl_tx]; exact h)]
    rfl
theorem cut_first : ∀ w : List Nat, cutAt 32 w = fstW w :: wordsW w
  | [] => by rw [cutAt_nil]; simp [fstW, wordsW]
  | c :: r => by
    have ih := cut_first r
    rw [cutAt_cons]
    by_cases q : c = 32
    · subst q
      simp [fstW, wordsW, rstW]
    · have e : (c :: r).idxOf 32 = r.idxOf 32 + 1 := by rw [List.idxOf_cons]; simp [show (c == 32) = false by simpa using q]
      have e1 : fstW (c :: r) = c :: fstW r := by unfold fstW; rw [e, List.take_succ_cons]
      have e2 : rstW (c :: r) = rstW r := by unfold rstW; rw [e, List.drop_succ_cons]
      have e3 : wordsW (c :: r) = wordsW r := by
        unfold wordsW
        rw [e2]
        have : (32 ∈ c :: r) ↔ 32 ∈ r := by simp [show ¬ (32 = c) from fun z => q z.symm]
        simp only [this]
      rw [if_neg q, ih, e1, e3]
/-! what read_deed tells of any text -/
def readP (r : List Nat) : Option D := if 32 ∈ r then (match numOf (fstW r) with
  | some h => some (.nd .tup [.str "pour", .int h, .str (tx (rstW r))])
  | none => none) else none
def isSl (w : List Nat) : Bool := decide (w = [47])
def readT (ws : List (List Nat)) : Option D := if ws.countP isSl = 1 then (match rowP (ws.take ((ws.findIdx? isSl).getD 0)), rowP (ws.drop ((ws.findIdx? isSl).getD 0 + 1)) with
  | some a, some b => some (.nd .tup [.str "tie", .nd (.lst .own) (a.map pD), .nd (.lst .own) (b.map pD)])
  | _, _ => none) else none
def readAll (w : List Nat) : Option D := if fstW w = [112, 111, 117, 114] then readP (rstW w) else if fstW w = [116, 105, 101] then readT (wordsW w) else readO (tx (fstW w)) (wordsW w)
theorem read_pour_any (r : List Nat) (hc : Cd r) (hl : r.length ≤ 1000000) : F_read_pour [.str (tx r)] = .ok (oD (readP r)) [.un] := by
  have p := part_w r
  have e1 := number_of_eq (fstW r) (fst_cd hc) (by have := fst_len r; omega)
  have k1 : r.length ≤ 16777216 := by omega
  have q1 := eq_tx (a := [32]) (b := []) (by simp [Cd]) (by simp [Cd])
  have q2 := eq_tx (a := []) (b := []) (by simp [Cd]) (by simp [Cd])
  simp at q1 q2
  unfold readP
  by_cases h : 32 ∈ r
  · rw [if_pos h] at p ⊢
    cases n : numOf (fstW r) with
    | none =>
      rw [n] at e1
      simp only [oi] at e1
      simp [F_read_pour, runF_eq, m_read_pour, chk_of, chkO_of, s_sp, s_empty, p, e1, k1, oD]
    | some v =>
      rw [n] at e1
      simp only [oi] at e1
      simp [F_read_pour, runF_eq, m_read_pour, chk_of, chkO_of, s_sp, s_empty, p, e1, q1, k1, oD]
  · rw [if_neg h] at p ⊢
    cases n : numOf (fstW r) with
    | none =>
      rw [n] at e1
      simp only [oi] at e1
      simp [F_read_pour, runF_eq, m_read_pour, chk_of, chkO_of, s_sp, s_empty, p, e1, k1, oD]
    | some v =>
      rw [n] at e1
      simp only [oi] at e1
      simp [F_read_pour, runF_eq, m_read_pour, chk_of, chkO_of, s_sp, s_empty, p, e1, q2, k1, oD]
theorem rowP_len : ∀ {l : List (List Nat)} {ps : List (Int × Int)}, rowP l = some ps → ps.length = l.length
  | [], ps, hp => by simp [rowP] at hp; subst hp; rfl
  | w :: l, ps, hp => by
    simp only [rowP] at hp
    cases q : stretchOf w with
    | none => rw [q] at hp; cases hp
    | some p =>
      rw [q] at hp
      cases q2 : rowP l with
      | none => rw [q2] at hp; cases hp
      | some l2 => rw [q2] at hp; simp at hp; subst hp; simp [rowP_len q2]
theorem find_of (ws : List (List Nat)) (h : ws.countP isSl = 1) : ∃ i, ws.findIdx? isSl = some i ∧ i < ws.length := by
  cases q : ws.findIdx? isSl with
  | none =>
    rw [List.findIdx?_eq_none_iff] at q
    have : ws.countP isSl = 0 := by
      rw [List.countP_eq_zero]
      intro w hw
      rw [q w hw]; decide
    omega
  | some i =>
    have := (List.findIdx?_eq_some_iff_getElem.mp q).1
    exact ⟨i, rfl, this⟩
/-- what both ways of reading a tie share: the words, the count, the place -/
theorem tie_facts (ws : List (List Nat)) (hw : ∀ w ∈ ws, Cd w ∧ w.length ≤ 1000000) (hl : ws.length ≤ 1000001) (h : ws.countP isSl = 1) : ∃ z : Int, 0 ≤ z ∧ z ≤ 1000001 ∧ fstV (.str (tx [47])) (ws.map fun w => V.str (tx w)) = some z ∧ cutL (ws.map wD) none (some z) = (ws.take ((ws.findIdx? isSl).getD 0)).map wD ∧ cutL (ws.map wD) (some (z + 1)) none = (ws.drop ((ws.findIdx? isSl).getD 0 + 1)).map wD := by
  obtain ⟨i, hi, il⟩ := find_of ws h
  have v3 := fst_sl ws
  have e : (ws.findIdx? fun w => decide (w = [47])) = some i := hi
  rw [e] at v3
  refine ⟨(i : Int), by omega, by omega, v3, ?_, ?_⟩
  · rw [cutL_to' _ (by omega), hi, List.map_take]; simp
  · rw [cutL_from' _ (by omega), hi, List.map_drop]
    congr 1
theorem read_tie_any (ws : List (List Nat)) (hw : ∀ w ∈ ws, Cd w ∧ w.length ≤ 1000000) (hl : ws.length ≤ 1000001) : F_read_tie [.nd (.lst .bor) (ws.map wD)] = .ok (oD (readT ws)) [.un] := by
  have v1 := vsOf_wD ws
  have v2 := cnt_sl ws
  have vo : vOf (D.str (tx [47])) = some (.str (tx [47])) := rfl
  unfold readT
  by_cases c : ws.countP isSl = 1
  · rw [if_pos c]
    have v2' : cntV (.str (tx [47])) (ws.map fun w => V.str (tx w)) = some 1 := by rw [v2]; exact congrArg some (congrArg Int.ofNat c)
    obtain ⟨z, z0, z1, v3, k1, k2⟩ := tie_facts ws hw hl c
    have la : (ws.take ((ws.findIdx? isSl).getD 0)).length ≤ 1000001 := by rw [List.length_take]; omega
    have lb : (ws.drop ((ws.findIdx? isSl).getD 0 + 1)).length ≤ 1000001 := by rw [List.length_drop]; omega
    have wa : ∀ w ∈ ws.take ((ws.findIdx? isSl).getD 0), Cd w ∧ w.length ≤ 1000000 := fun w h => hw w (List.mem_of_mem_take h)
    have wb : ∀ w ∈ ws.drop ((ws.findIdx? isSl).getD 0 + 1), Cd w ∧ w.length ≤ 1000000 := fun w h => hw w (List.mem_of_mem_drop h)
    generalize ws.take ((ws.findIdx? isSl).getD 0) = A at *
    generalize ws.drop ((ws.findIdx? isSl).getD 0 + 1) = B at *
    have r1 := row_of_eq' .bor A wa (by omega)
    have r2 := row_of_eq' .bor B wb (by omega)
    have kz : -4611686018427387904 ≤ z ∧ z < 4611686018427387904 := by omega
    have kz1 : -4611686018427387904 ≤ z + 1 ∧ z + 1 < 4611686018427387904 := by omega
    generalize hW : ws.map wD = W at *
    have sl : ∀ g, D.setL g W = W := fun g => by rw [← hW, setL_wD]
    have sA : ∀ g, D.setL g (A.map wD) = A.map wD := fun g => setL_wD g _
    have sB : ∀ g, D.setL g (B.map wD) = B.map wD := fun g => setL_wD g _
    have nA : D.noBorL (A.map wD) = true := noBorL_wD _
    have nB : D.noBorL (B.map wD) = true := noBorL_wD _
    cases qa : rowP A with
    | none =>
      rw [qa] at r1
      simp only [oR] at r1
      cases qb : rowP B with
      | none =>
        rw [qb] at r2
        simp only [oR] at r2
        simp [F_read_tie, runF_eq, m_read_tie, chk_of, chkO_of, chkS_of, vo, v1, v2', v3, s_sl, k1, k2, r1, r2, sl, kz, kz1, z0, z1, sA, sB, nA, nB, oD]
      | some b =>
        rw [qb] at r2
        simp only [oR] at r2
        simp [F_read_tie, runF_eq, m_read_tie, chk_of, chkO_of, chkS_of, vo, v1, v2', v3, s_sl, k1, k2, r1, r2, sl, kz, kz1, z0, z1, sA, sB, nA, nB, oD]
    | some a =>
      rw [qa] at r1
      simp only [oR] at r1
      have l1 := rowP_len qa
      cases qb : rowP B with
      | none =>
        rw [qb] at r2
        simp only [oR] at r2
        simp [F_read_tie, runF_eq, m_read_tie, chk_of, chkO_of, chkS_of, vo, v1, v2', v3, s_sl, k1, k2, r1, r2, sl, kz, kz1, z0, z1, sA, sB, nA, nB, oD]
      | some b =>
        rw [qb] at r2
        simp only [oR] at r2
        have l2 := rowP_len qb
        have ka : a.length ≤ 16777216 := by omega
        have kb : b.length ≤ 16777216 := by omega
        simp [F_read_tie, runF_eq, m_read_tie, chk_of, chkO_of, chkS_of, vo, v1, v2', v3, s_sl, k1, k2, r1, r2, sl, kz, kz1, z0, z1, sA, sB, nA, nB, ka, kb, oD]
  · rw [if_neg c]
    have c' : ¬ (((ws.countP fun w => decide (w = [47])) : Nat) : Int) = 1 := fun h => c (Int.ofNat.inj h)
    generalize hW : ws.map wD = W at *
    have sl : ∀ g, D.setL g W = W := fun g => by rw [← hW, setL_wD]
    simp [F_read_tie, runF_eq, m_read_tie, chk_of, chkO_of, chkS_of, vo, v1, v2, c', s_sl, sl, oD]
theorem readO_tup {name : Str} {ws : List (List Nat)} {d : D} (h : readO name ws = some d) : ∃ xs, d = .nd .tup xs ∧ D.noBorL xs = true := by
  unfold readO at h
  split at h
  · split at h
    · split at h
      · cases h; exact ⟨_, rfl, by simp⟩
      · cases h
    · cases h
  · split at h
    · split at h
      · split at h
        · cases h; exact ⟨_, rfl, by simp⟩
        · cases h
      · cases h
    · cases h
theorem readP_tup {r : List Nat} {d : D} (h : readP r = some d) : ∃ xs, d = .nd .tup xs ∧ D.noBorL xs = true := by
  unfold readP at h
  split at h
  · split at h
    · cases h; exact ⟨_, rfl, by simp⟩
    · cases h
  · cases h
theorem readT_tup {ws : List (List Nat)} {d : D} (h : readT ws = some d) : ∃ xs, d = .nd .tup xs ∧ D.noBorL xs = true := by
  unfold readT at h
  split at h
  · split at h
    · cases h; exact ⟨_, rfl, by simp⟩
    · cases h
  · cases h
theorem readAll_tup {w : List Nat} {d : D} (h : readAll w = some d) : ∃ xs, d = .nd .tup xs ∧ D.noBorL xs = true := by
  unfold readAll at h
  split at h
  · exact readP_tup h
  · split at h
    · exact readT_tup h
    · exact readO_tup h
theorem read_deed_any (w : List Nat) (hc : Cd w) (hl : w.length ≤ 1000000) : F_read_deed [.str (tx w)] = match readAll w with
    | some d => .ok d [.un]
    | none => .ex ⟨"NoDeed", "", none⟩ [.un] := by
  have p := part_w w
  have k1 : w.length ≤ 16777216 := by omega
  have k2 : (rstW w).length + 2 ≤ 16777216 := by have := rst_len w; omega
  have sp := split_tx (rstW w) 32 (by decide)
  have e1 := read_pour_any (rstW w) (rst_cd hc) (by have := rst_len w; omega)
  obtain ⟨w1, w2⟩ := words_ok hc hl
  have e2 := read_tie_any (wordsW w) w1 w2
  have e3 := read_other_eq (tx (fstW w)) (wordsW w) w1 w2
  have s4 : Str.ofString "pour" = tx [112, 111, 117, 114] := by decide +kernel
  have s5 : Str.ofString "tie" = tx [116, 105, 101] := by decide +kernel
  have q1 := eq_tx (a := fstW w) (b := [112, 111, 117, 114]) (fst_cd hc) (by simp [Cd])
  have q2 := eq_tx (a := fstW w) (b := [116, 105, 101]) (fst_cd hc) (by simp [Cd])
  have g1 := eq_tx (a := [32]) (b := []) (by simp [Cd]) (by simp [Cd])
  have g0 := eq_tx (a := []) (b := []) (by simp [Cd]) (by simp [Cd])
  simp at g1 g0
  have wsp : 32 ∈ w → (wordsW w).map wD = (Txt.split (tx (rstW w)) (tx [32])).map D.str := fun h => by
    rw [sp, List.map_map]; unfold wordsW; rw [if_pos h]; rfl
  have wsn : 32 ∉ w → (wordsW w).map wD = [] := fun h => by unfold wordsW; rw [if_neg h]; rfl
  unfold readAll
  generalize hZ : Txt.split (tx (rstW w)) (tx [32]) = Z at *
  have sZ : ∀ g, D.setL g (Z.map D.str) = Z.map D.str := fun g => setL_strD g Z
  by_cases a1 : fstW w = [112, 111, 117, 114]
  · rw [if_pos a1]
    rw [decide_eq_true a1] at q1
    cases r : readP (rstW w) with
    | none =>
      rw [r] at e1; simp only [oD] at e1
      by_cases h : 32 ∈ w
      · rw [if_pos h] at p
        simp [F_read_deed, runF_eq, m_read_deed, chk_of, chkO_of, s_sp, s_empty, s4, p, g1, q1, e1, k1, k2, hZ]
      · rw [if_neg h] at p
        simp [F_read_deed, runF_eq, m_read_deed, chk_of, chkO_of, s_sp, s_empty, s4, p, g0, q1, e1, k1, k2]
    | some d =>
      obtain ⟨xs, rfl, hx⟩ := readP_tup r
      rw [r] at e1; simp only [oD] at e1
      by_cases h : 32 ∈ w
      · rw [if_pos h] at p
        simp [F_read_deed, runF_eq, m_read_deed, chk_of, chkO_of, s_sp, s_empty, s4, p, g1, q1, e1, k1, k2, hZ, hx]
      · rw [if_neg h] at p
        simp [F_read_deed, runF_eq, m_read_deed, chk_of, chkO_of, s_sp, s_empty, s4, p, g0, q1, e1, k1, k2, hx]
  · rw [if_neg a1]
    rw [decide_eq_false a1] at q1
    by_cases a2 : fstW w = [116, 105, 101]
    · rw [if_pos a2]
      rw [decide_eq_true a2] at q2
      cases r : readT (wordsW w) with
      | none =>
        rw [r] at e2; simp only [oD] at e2
        by_cases h : 32 ∈ w
        · rw [if_pos h] at p
          rw [wsp h] at e2
          simp [F_read_deed, runF_eq, m_read_deed, chk_of, chkO_of, s_sp, s_empty, s4, s5, p, g1, q1, q2, e2, k1, k2, hZ, sZ]
        · rw [if_neg h] at p
          rw [wsn h] at e2
          simp [F_read_deed, runF_eq, m_read_deed, chk_of, chkO_of, s_sp, s_empty, s4, s5, p, g0, q1, q2, e2, k1, k2]
      | some d =>
        obtain ⟨xs, rfl, hx⟩ := readT_tup r
        rw [r] at e2; simp only [oD] at e2
        by_cases h : 32 ∈ w
        · rw [if_pos h] at p
          rw [wsp h] at e2
          simp [F_read_deed, runF_eq, m_read_deed, chk_of, chkO_of, s_sp, s_empty, s4, s5, p, g1, q1, q2, e2, k1, k2, hZ, sZ, hx]
        · rw [if_neg h] at p
          rw [wsn h] at e2
          simp [F_read_deed, runF_eq, m_read_deed, chk_of, chkO_of, s_sp, s_empty, s4, s5, p, g0, q1, q2, e2, k1, k2, hx]
    · rw [if_neg a2]
      rw [decide_eq_false a2] at q2
      cases r : readO (tx (fstW w)) (wordsW w) with
      | none =>
        rw [r] at e3; simp only [oD] at e3
        by_cases h : 32 ∈ w
        · rw [if_pos h] at p
          rw [wsp h] at e3
          simp [F_read_deed, runF_eq, m_read_deed, chk_of, chkO_of, s_sp, s_empty, s4, s5, p, g1, q1, q2, e3, k1, k2, hZ, sZ]
        · rw [if_neg h] at p
          rw [wsn h] at e3
          simp [F_read_deed, runF_eq, m_read_deed, chk_of, chkO_of, s_sp, s_empty, s4, s5, p, g0, q1, q2, e3, k1, k2]
      | some d =>
        obtain ⟨xs, rfl, hx⟩ := readO_tup r
        rw [r] at e3; simp only [oD] at e3
        by_cases h : 32 ∈ w
        · rw [if_pos h] at p
          rw [wsp h] at e3
          simp [F_read_deed, runF_eq, m_read_deed, chk_of, chkO_of, s_sp, s_empty, s4, s5, p, g1, q1, q2, e3, k1, k2, hZ, sZ, hx]
        · rw [if_neg h] at p
          rw [wsn h] at e3
          simp [F_read_deed, runF_eq, m_read_deed, chk_of, chkO_of, s_sp, s_empty, s4, s5, p, g0, q1, q2, e3, k1, k2, hx]
theorem deed_or_none (w : List Nat) (b : Bool) (hc : Cd w) (hl : w.length ≤ 1000000) : F__law_deed_or_none [.str (tx w), .bl b] = .ok (oD (readAll w)) [.un, .un] := by
  have e := read_deed_any w hc hl
  cases r : readAll w with
  | none =>
    rw [r] at e
    simp only at e
    cases b <;> simp [F__law_deed_or_none, runF_eq, m__law_deed_or_none, chk_of, chkO_of, e, Ex.ds, oD]
  | some d =>
    obtain ⟨xs, rfl, hx⟩ := readAll_tup r
    rw [r] at e
    simp only at e
    cases b <;> simp [F__law_deed_or_none, runF_eq, m__law_deed_or_none, chk_of, chkO_of, e, oD, hx]

/-! what the law says is due -/
theorem cut_fst {r : List Nat} (h : 32 ∈ r) : cutL r none (some ((r.idxOf 32 : Nat) : Int)) = fstW r := by
  rw [cutL_to' _ (by omega)]; simp [fstW]
theorem cut_rst {r : List Nat} (h : 32 ∈ r) : cutL r (some (((r.idxOf 32 : Nat) : Int) + 1)) none = rstW r := by
  rw [cutL_from' _ (by omega)]
  unfold rstW
  congr 1
theorem due_pour_any (r : List Nat) (hc : Cd r) (hl : r.length ≤ 1000000) : F__law_due_pour [.str (tx r)] = .ok (oD (readP r)) [.un] := by
  have f := find_tx r 32
  have e1 := reads_eq (fstW r) (fst_cd hc) (by have := fst_len r; omega)
  have k1 : r.length ≤ 16777216 := by omega
  unfold readP
  by_cases h : 32 ∈ r
  · rw [if_pos h] at f ⊢
    have c1 := cut_fst h
    have c2 := cut_rst h
    have hi := List.idxOf_lt_length_of_mem h
    generalize hz : ((r.idxOf 32 : Nat) : Int) = z at *
    have z0 : ¬ z < 0 := by omega
    cases n : numOf (fstW r) with
    | none =>
      rw [rd_neg n] at e1
      simp [F__law_due_pour, runF_eq, m__law_due_pour, chk_of, chkO_of, s_sp, f, z0, cutS_tx, c1, e1, k1, oD]
    | some v =>
      rw [rd_some n] at e1
      have v0 : ¬ v < 0 := by have := numOf_nn n; omega
      simp [F__law_due_pour, runF_eq, m__law_due_pour, chk_of, chkO_of, s_sp, f, z0, cutS_tx, c1, c2, e1, k1, v0, oD]
  · rw [if_neg h] at f ⊢
    simp [F__law_due_pour, runF_eq, m__law_due_pour, chk_of, chkO_of, s_sp, f, oD]
theorem wr_turn (d0 x y z u : D) (A : List (Int × Int)) (w : List Nat) (hc : Cd w) (hl : w.length ≤ 1000000) (k1 : A.length < 16777216) : ∃ y' z' u', tgR (lg__law_words_row_1 (wD w) [d0, .nd (.lst .own) (A.map pD), x, y, z, u]) lb__law_words_row_1 = match stretchOf w with
    | some p => .nx [d0, .nd (.lst .own) ((A ++ [p]).map pD), wD w, y', z', u']
    | none => .rt .non [d0, .nd (.lst .own) (A.map pD), wD w, y', z', u'] := by
  have cn := count_tx w 45
  have f := find_tx w 45
  have kw : w.length ≤ 16777216 := by omega
  rw [stretch_two]
  by_cases c1 : w.count 45 = 1
  · rw [if_pos c1]
    have hm : 45 ∈ w := List.count_pos_iff.mp (by omega)
    have hi := List.idxOf_lt_length_of_mem hm
    rw [if_pos hm] at f
    have e3 := reads_eq (w.take (w.idxOf 45)) (fun c h => hc c (List.mem_of_mem_take h)) (by rw [List.length_take]; omega)
    have e4 := reads_eq (w.drop (w.idxOf 45 + 1)) (fun c h => hc c (List.mem_of_mem_drop h)) (by rw [List.length_drop]; omega)
    have s3 : cutL w none (some ((w.idxOf 45 : Nat) : Int)) = w.take (w.idxOf 45) := by rw [cutL_to' _ (by omega)]; simp
    have s4 : cutL w (some (((w.idxOf 45 : Nat) : Int) + 1)) none = w.drop (w.idxOf 45 + 1) := by rw [cutL_from' _ (by omega)]; congr 1
    have cn' : fCount (tx w) (tx [45]) = some 1 := by rw [cn, c1]; rfl
    generalize hk : ((w.idxOf 45 : Nat) : Int) = k at *
    generalize hP : w.take (w.idxOf 45) = P at *
    generalize hQ : w.drop (w.idxOf 45 + 1) = Q at *
    cases n1 : numOf P with
    | none =>
      rw [rd_neg n1] at e3
      refine ⟨.int k, .int (-1), .int (rdOf Q), ?_⟩
      simp [lg__law_words_row_1, lb__law_words_row_1, wD, chk_of, chkO_of, s_da, cutS_tx, s3, s4, kw, f, cn', e3, e4]
    | some a =>
      rw [rd_some n1] at e3
      have a0 : ¬ a < 0 := by have := numOf_nn n1; omega
      cases n2 : numOf Q with
      | none =>
        rw [rd_neg n2] at e4
        refine ⟨.int k, .int a, .int (-1), ?_⟩
        simp [lg__law_words_row_1, lb__law_words_row_1, wD, chk_of, chkO_of, s_da, cutS_tx, s3, s4, kw, f, cn', e3, e4, a0]
      | some b =>
        rw [rd_some n2] at e4
        have b0 : ¬ b < 0 := by have := numOf_nn n2; omega
        refine ⟨.int k, .int a, .int b, ?_⟩
        simp [lg__law_words_row_1, lb__law_words_row_1, wD, chk_of, chkO_of, s_da, cutS_tx, s3, s4, kw, f, cn', e3, e4, a0, b0, k1, pD]
  · rw [if_neg c1]
    have c2 : ¬ ((w.count 45 : Nat) : Int) = 1 := by omega
    refine ⟨.int (if 45 ∈ w then ((w.idxOf 45 : Nat) : Int) else -1), z, u, ?_⟩
    generalize (if 45 ∈ w then ((w.idxOf 45 : Nat) : Int) else -1) = i at *
    have c3 : decide (((w.count 45 : Nat) : Int) = 1) = false := decide_eq_false c2
    simp [lg__law_words_row_1, lb__law_words_row_1, wD, chk_of, chkO_of, s_da, f, cn, c3]
theorem wr_loop (d0 : D) : ∀ (ws : List (List Nat)) (A : List (Int × Int)) (x y z u : D), (∀ w ∈ ws, Cd w ∧ w.length ≤ 1000000) → A.length + ws.length ≤ 10000000 → ∃ (A' : List (Int × Int)) (x' y' z' u' : D), forL lg__law_words_row_1 lb__law_words_row_1 (ws.map wD) [d0, .nd (.lst .own) (A.map pD), x, y, z, u] = match rowP ws with
    | some ps => .nx [d0, .nd (.lst .own) ((A ++ ps).map pD), x', y', z', u']
    | none => .rt .non [d0, .nd (.lst .own) (A'.map pD), x', y', z', u']
  | [], A, x, y, z, u, _, _ => ⟨A, x, y, z, u, by simp [rowP]⟩
  | w :: ws, A, x, y, z, u, h, hl => by
    simp at hl
    obtain ⟨w1, w2⟩ := h w (by simp)
    obtain ⟨y1, z1, u1, turn⟩ := wr_turn d0 x y z u A w w1 w2 (by omega)
    cases q : stretchOf w with
    | none =>
      rw [q] at turn
      refine ⟨A, wD w, y1, z1, u1, ?_⟩
      rw [List.map_cons, forL_cons, turn]
      simp [RS.lp, rowP, q]
    | some p =>
      rw [q] at turn
      obtain ⟨A', x', y', z', u', e⟩ := wr_loop d0 ws (A ++ [p]) (wD w) y1 z1 u1 (fun v hv => h v (by simp [hv])) (by simp; omega)
      refine ⟨A', x', y', z', u', ?_⟩
      rw [List.map_cons, forL_cons, turn]
      simp only [RS.lp]
      rw [e]
      cases q2 : rowP ws with
      | none => simp [rowP, q, q2]
      | some l => simp [rowP, q, q2]
theorem words_row_eq (f : Fl) (ws : List (List Nat)) (h : ∀ w ∈ ws, Cd w ∧ w.length ≤ 1000000) (hl : ws.length ≤ 10000000) : F__law_words_row [.nd (.lst f) (ws.map wD)] = .ok (oR (rowP ws)) [.un] := by
  obtain ⟨A', x', y', z', u', e⟩ := wr_loop (D.nd (.lst f) (ws.map wD)).frz ws [] .un .un .un .un h (by simp; omega)
  cases q : rowP ws with
  | none =>
    rw [q] at e
    cases f <;> simp [D.frz] at e <;> simp [F__law_words_row, runF_eq, m__law_words_row, chk_of, chkO_of, oR, e]
  | some ns =>
    rw [q] at e
    cases f <;> simp [D.frz] at e <;> simp [F__law_words_row, runF_eq, m__law_words_row, chk_of, chkO_of, oR, e]
theorem due_tie_any (ws : List (List Nat)) (hw : ∀ w ∈ ws, Cd w ∧ w.length ≤ 1000000) (hl : ws.length ≤ 1000001) : F__law_due_tie [.nd (.lst .bor) (ws.map wD)] = .ok (oD (readT ws)) [.un] := by
  have v1 := vsOf_wD ws
  have v2 := cnt_sl ws
  have vo : vOf (D.str (tx [47])) = some (.str (tx [47])) := rfl
  unfold readT
  by_cases c : ws.countP isSl = 1
  · rw [if_pos c]
    have v2' : cntV (.str (tx [47])) (ws.map fun w => V.str (tx w)) = some 1 := by rw [v2]; exact congrArg some (congrArg Int.ofNat c)
    obtain ⟨z, z0, z1, v3, k1, k2⟩ := tie_facts ws hw hl c
    have la : (ws.take ((ws.findIdx? isSl).getD 0)).length ≤ 1000001 := by rw [List.length_take]; omega
    have lb : (ws.drop ((ws.findIdx? isSl).getD 0 + 1)).length ≤ 1000001 := by rw [List.length_drop]; omega
    have wa : ∀ w ∈ ws.take ((ws.findIdx? isSl).getD 0), Cd w ∧ w.length ≤ 1000000 := fun w h => hw w (List.mem_of_mem_take h)
    have wb : ∀ w ∈ ws.drop ((ws.findIdx? isSl).getD 0 + 1), Cd w ∧ w.length ≤ 1000000 := fun w h => hw w (List.mem_of_mem_drop h)
    generalize ws.take ((ws.findIdx? isSl).getD 0) = A at *
    generalize ws.drop ((ws.findIdx? isSl).getD 0 + 1) = B at *
    have r1 := fun f => words_row_eq f A wa (by omega)
    have r2 := fun f => words_row_eq f B wb (by omega)
    have kz : -4611686018427387904 ≤ z ∧ z < 4611686018427387904 := by omega
    have kz1 : -4611686018427387904 ≤ z + 1 ∧ z + 1 < 4611686018427387904 := by omega
    generalize hW : ws.map wD = W at *
    have sl : ∀ g, D.setL g W = W := fun g => by rw [← hW, setL_wD]
    have sA : ∀ g, D.setL g (A.map wD) = A.map wD := fun g => setL_wD g _
    have sB : ∀ g, D.setL g (B.map wD) = B.map wD := fun g => setL_wD g _
    have nA : D.noBorL (A.map wD) = true := noBorL_wD _
    have nB : D.noBorL (B.map wD) = true := noBorL_wD _
    cases qa : rowP A with
    | none =>
      rw [qa] at r1
      simp only [oR] at r1
      cases qb : rowP B with
      | none =>
        rw [qb] at r2
        simp only [oR] at r2
        simp [F__law_due_tie, runF_eq, m__law_due_tie, chk_of, chkO_of, chkS_of, vo, v1, v2', v3, s_sl, k1, k2, r1, r2, sl, kz, kz1, z0, z1, sA, sB, nA, nB, oD]
      | some b =>
        rw [qb] at r2
        simp only [oR] at r2
        simp [F__law_due_tie, runF_eq, m__law_due_tie, chk_of, chkO_of, chkS_of, vo, v1, v2', v3, s_sl, k1, k2, r1, r2, sl, kz, kz1, z0, z1, sA, sB, nA, nB, oD]
    | some a =>
      rw [qa] at r1
      simp only [oR] at r1
      have l1 := rowP_len qa
      cases qb : rowP B with
      | none =>
        rw [qb] at r2
        simp only [oR] at r2
        simp [F__law_due_tie, runF_eq, m__law_due_tie, chk_of, chkO_of, chkS_of, vo, v1, v2', v3, s_sl, k1, k2, r1, r2, sl, kz, kz1, z0, z1, sA, sB, nA, nB, oD]
      | some b =>
        rw [qb] at r2
        simp only [oR] at r2
        have l2 := rowP_len qb
        have ka : a.length ≤ 16777216 := by omega
        have kb : b.length ≤ 16777216 := by omega
        simp [F__law_due_tie, runF_eq, m__law_due_tie, chk_of, chkO_of, chkS_of, vo, v1, v2', v3, s_sl, k1, k2, r1, r2, sl, kz, kz1, z0, z1, sA, sB, nA, nB, ka, kb, oD]
  · rw [if_neg c]
    have c' : ¬ (((ws.countP fun w => decide (w = [47])) : Nat) : Int) = 1 := fun h => c (Int.ofNat.inj h)
    generalize hW : ws.map wD = W at *
    have sl : ∀ g, D.setL g W = W := fun g => by rw [← hW, setL_wD]
    simp [F__law_due_tie, runF_eq, m__law_due_tie, chk_of, chkO_of, chkS_of, vo, v1, v2, c', s_sl, sl, oD]
/-! the names -/
theorem name_bar {s : Str} {j : Nat} (h : kpos [(.inr "fresh" : Key), .inr "fix", .inr "untie", .inr "read", .inr "back", .inr "fork", .inr "cut", .inr "window", .inr "move", .inr "quote"] (.inr s) = some j) : s = "fresh" ∨ s = "fix" ∨ s = "untie" ∨ s = "read" ∨ s = "back" ∨ s = "fork" ∨ s = "cut" ∨ s = "window" ∨ s = "move" ∨ s = "quote" := by
  have h1 := kpos_lt h
  have h2 := kpos_get h
  simp only [List.length_cons, List.length_nil] at h1
  have : j = 0 ∨ j = 1 ∨ j = 2 ∨ j = 3 ∨ j = 4 ∨ j = 5 ∨ j = 6 ∨ j = 7 ∨ j = 8 ∨ j = 9 := by omega
  rcases this with rfl | rfl | rfl | rfl | rfl | rfl | rfl | rfl | rfl | rfl <;> simp at h2 <;> simp [← h2]
theorem name_row {s : Str} {j : Nat} (h : kpos [(.inr "put" : Key), .inr "strike", .inr "blot", .inr "lift"] (.inr s) = some j) : s = "put" ∨ s = "strike" ∨ s = "blot" ∨ s = "lift" := by
  have h1 := kpos_lt h
  have h2 := kpos_get h
  simp only [List.length_cons, List.length_nil] at h1
  have : j = 0 ∨ j = 1 ∨ j = 2 ∨ j = 3 := by omega
  rcases this with rfl | rfl | rfl | rfl <;> simp at h2 <;> simp [← h2]
theorem look_no {tb : List (Str × Int)} {s : Str} (h : ∀ q ∈ tb, ¬ q.1 = s) : tb.lookup s = none := by
  induction tb with
  | nil => rfl
  | cons p tb ih =>
    obtain ⟨a, b⟩ := p
    have h1 : ¬ a = s := h (a, b) (by simp)
    have h2 : (s == a) = false := by simp; exact fun e => h1 e.symm
    rw [List.lookup_cons, h2]
    exact ih fun q hq => h q (by simp [hq])
theorem bar_no {s : Str} (h : kpos [(.inr "fresh" : Key), .inr "fix", .inr "untie", .inr "read", .inr "back", .inr "fork", .inr "cut", .inr "window", .inr "move", .inr "quote"] (.inr s) = none) : tb_NUMBERS.lookup s = none := by
  have hn := kpos_none h
  refine look_no fun q hq e => ?_
  subst e
  simp [tb_NUMBERS] at hq
  rcases hq with rfl | rfl | rfl | rfl | rfl | rfl | rfl | rfl | rfl | rfl <;> exact hn _ (by simp) rfl
theorem row_no {s : Str} (h : kpos [(.inr "put" : Key), .inr "strike", .inr "blot", .inr "lift"] (.inr s) = none) : tb_ROWED.lookup s = none := by
  have hn := kpos_none h
  refine look_no fun q hq e => ?_
  subst e
  simp [tb_ROWED] at hq
  rcases hq with rfl | rfl | rfl | rfl <;> exact hn _ (by simp) rfl
def Kind (s : Str) (k : Int) : Prop := (k = -1 ∧ tb_NUMBERS.lookup s = none ∧ tb_ROWED.lookup s = none) ∨ (0 ≤ k ∧ k ≤ 5 ∧ tb_NUMBERS.lookup s = some k ∧ (kpos [(.inr "fresh" : Key), .inr "fix", .inr "untie", .inr "read", .inr "back", .inr "fork", .inr "cut", .inr "window", .inr "move", .inr "quote"] (.inr s)).isSome = true) ∨ (0 ≤ k ∧ k ≤ 2 ∧ tb_NUMBERS.lookup s = none ∧ tb_ROWED.lookup s = some k ∧ (kpos [(.inr "fresh" : Key), .inr "fix", .inr "untie", .inr "read", .inr "back", .inr "fork", .inr "cut", .inr "window", .inr "move", .inr "quote"] (.inr s)).isSome = false)
theorem kpB_fresh : kpos [(.inr "fresh" : Key), .inr "fix", .inr "untie", .inr "read", .inr "back", .inr "fork", .inr "cut", .inr "window", .inr "move", .inr "quote"] (.inr "fresh") = some 0 := by decide +kernel
theorem kpR_fresh : kpos [(.inr "put" : Key), .inr "strike", .inr "blot", .inr "lift"] (.inr "fresh") = none := by decide +kernel
theorem kpB_fix : kpos [(.inr "fresh" : Key), .inr "fix", .inr "untie", .inr "read", .inr "back", .inr "fork", .inr "cut", .inr "window", .inr "move", .inr "quote"] (.inr "fix") = some 1 := by decide +kernel
theorem kpR_fix : kpos [(.inr "put" : Key), .inr "strike", .inr "blot", .inr "lift"] (.inr "fix") = none := by decide +kernel
theorem kpB_untie : kpos [(.inr "fresh" : Key), .inr "fix", .inr "untie", .inr "read", .inr "back", .inr "fork", .inr "cut", .inr "window", .inr "move", .inr "quote"] (.inr "untie") = some 2 := by decide +kernel
theorem kpR_untie : kpos [(.inr "put" : Key), .inr "strike", .inr "blot", .inr "lift"] (.inr "untie") = none := by decide +kernel
theorem kpB_read : kpos [(.inr "fresh" : Key), .inr "fix", .inr "untie", .inr "read", .inr "back", .inr "fork", .inr "cut", .inr "window", .inr "move", .inr "quote"] (.inr "read") = some 3 := by decide +kernel
theorem kpR_read : kpos [(.inr "put" : Key), .inr "strike", .inr "blot", .inr "lift"] (.inr "read") = none := by decide +kernel
theorem kpB_back : kpos [(.inr "fresh" : Key), .inr "fix", .inr "untie", .inr "read", .inr "back", .inr "fork", .inr "cut", .inr "window", .inr "move", .inr "quote"] (.inr "back") = some 4 := by decide +kernel
theorem kpR_back : kpos [(.inr "put" : Key), .inr "strike", .inr "blot", .inr "lift"] (.inr "back") = none := by decide +kernel
theorem kpB_fork : kpos [(.inr "fresh" : Key), .inr "fix", .inr "untie", .inr "read", .inr "back", .inr "fork", .inr "cut", .inr "window", .inr "move", .inr "quote"] (.inr "fork") = some 5 := by decide +kernel
theorem kpR_fork : kpos [(.inr "put" : Key), .inr "strike", .inr "blot", .inr "lift"] (.inr "fork") = none := by decide +kernel
theorem kpB_cut : kpos [(.inr "fresh" : Key), .inr "fix", .inr "untie", .inr "read", .inr "back", .inr "fork", .inr "cut", .inr "window", .inr "move", .inr "quote"] (.inr "cut") = some 6 := by decide +kernel
theorem kpR_cut : kpos [(.inr "put" : Key), .inr "strike", .inr "blot", .inr "lift"] (.inr "cut") = none := by decide +kernel
theorem kpB_window : kpos [(.inr "fresh" : Key), .inr "fix", .inr "untie", .inr "read", .inr "back", .inr "fork", .inr "cut", .inr "window", .inr "move", .inr "quote"] (.inr "window") = some 7 := by decide +kernel
theorem kpR_window : kpos [(.inr "put" : Key), .inr "strike", .inr "blot", .inr "lift"] (.inr "window") = none := by decide +kernel
theorem kpB_move : kpos [(.inr "fresh" : Key), .inr "fix", .inr "untie", .inr "read", .inr "back", .inr "fork", .inr "cut", .inr "window", .inr "move", .inr "quote"] (.inr "move") = some 8 := by decide +kernel
theorem kpR_move : kpos [(.inr "put" : Key), .inr "strike", .inr "blot", .inr "lift"] (.inr "move") = none := by decide +kernel
theorem kpB_quote : kpos [(.inr "fresh" : Key), .inr "fix", .inr "untie", .inr "read", .inr "back", .inr "fork", .inr "cut", .inr "window", .inr "move", .inr "quote"] (.inr "quote") = some 9 := by decide +kernel
theorem kpR_quote : kpos [(.inr "put" : Key), .inr "strike", .inr "blot", .inr "lift"] (.inr "quote") = none := by decide +kernel
theorem kpB_put : kpos [(.inr "fresh" : Key), .inr "fix", .inr "untie", .inr "read", .inr "back", .inr "fork", .inr "cut", .inr "window", .inr "move", .inr "quote"] (.inr "put") = none := by decide +kernel
theorem kpR_put : kpos [(.inr "put" : Key), .inr "strike", .inr "blot", .inr "lift"] (.inr "put") = some 0 := by decide +kernel
theorem kpB_strike : kpos [(.inr "fresh" : Key), .inr "fix", .inr "untie", .inr "read", .inr "back", .inr "fork", .inr "cut", .inr "window", .inr "move", .inr "quote"] (.inr "strike") = none := by decide +kernel
theorem kpR_strike : kpos [(.inr "put" : Key), .inr "strike", .inr "blot", .inr "lift"] (.inr "strike") = some 1 := by decide +kernel
theorem kpB_blot : kpos [(.inr "fresh" : Key), .inr "fix", .inr "untie", .inr "read", .inr "back", .inr "fork", .inr "cut", .inr "window", .inr "move", .inr "quote"] (.inr "blot") = none := by decide +kernel
theorem kpR_blot : kpos [(.inr "put" : Key), .inr "strike", .inr "blot", .inr "lift"] (.inr "blot") = some 2 := by decide +kernel
theorem kpB_lift : kpos [(.inr "fresh" : Key), .inr "fix", .inr "untie", .inr "read", .inr "back", .inr "fork", .inr "cut", .inr "window", .inr "move", .inr "quote"] (.inr "lift") = none := by decide +kernel
theorem kpR_lift : kpos [(.inr "put" : Key), .inr "strike", .inr "blot", .inr "lift"] (.inr "lift") = some 3 := by decide +kernel
theorem due_many (d0 d1 : D) (s : Str) : ∃ k : Int, Kind s k ∧ (mAsg (mQ (qDget2 (qV 3) (qV 2) (qDget2 (qV 4) (qV 2) (qNeg (qC (.int 1)))))) (gNm 5)) [d0, d1, .str s, .nd (.dct .own [(.inr "put" : Key), .inr "strike", .inr "blot", .inr "lift"]) [D.int 2, .int 0, .int 1, .int 1], .nd (.dct .own [(.inr "fresh" : Key), .inr "fix", .inr "untie", .inr "read", .inr "back", .inr "fork", .inr "cut", .inr "window", .inr "move", .inr "quote"]) [D.int 0, .int 1, .int 1, .int 1, .int 2, .int 2, .int 3, .int 3, .int 4, .int 5], .un, .un, .un, .un, .un] = .nx [d0, d1, .str s, .nd (.dct .own [(.inr "put" : Key), .inr "strike", .inr "blot", .inr "lift"]) [D.int 2, .int 0, .int 1, .int 1], .nd (.dct .own [(.inr "fresh" : Key), .inr "fix", .inr "untie", .inr "read", .inr "back", .inr "fork", .inr "cut", .inr "window", .inr "move", .inr "quote"]) [D.int 0, .int 1, .int 1, .int 1, .int 2, .int 2, .int 3, .int 3, .int 4, .int 5], .int k, .un, .un, .un, .un] := by
  cases hB : kpos [(.inr "fresh" : Key), .inr "fix", .inr "untie", .inr "read", .inr "back", .inr "fork", .inr "cut", .inr "window", .inr "move", .inr "quote"] (.inr s) with
  | some j =>
    have := name_bar hB
    rcases this with h | h | h | h | h | h | h | h | h | h
    · subst h
      refine ⟨0, .inr (.inl ⟨by decide, by decide, by decide +kernel, by decide +kernel⟩), ?_⟩
      simp [chk_of, chkO_of, dget2At_old, dget2At_new, kpB_fresh, kpR_fresh]
    · subst h
      refine ⟨1, .inr (.inl ⟨by decide, by decide, by decide +kernel, by decide +kernel⟩), ?_⟩
      simp [chk_of, chkO_of, dget2At_old, dget2At_new, kpB_fix, kpR_fix]
    · subst h
      refine ⟨1, .inr (.inl ⟨by decide, by decide, by decide +kernel, by decide +kernel⟩), ?_⟩
      simp [chk_of, chkO_of, dget2At_old, dget2At_new, kpB_untie, kpR_untie]
    · subst h
      refine ⟨1, .inr (.inl ⟨by decide, by decide, by decide +kernel, by decide +kernel⟩), ?_⟩
      simp [chk_of, chkO_of, dget2At_old, dget2At_new, kpB_read, kpR_read]
    · subst h
      refine ⟨2, .inr (.inl ⟨by decide, by decide, by decide +kernel, by decide +kernel⟩), ?_⟩
      simp [chk_of, chkO_of, dget2At_old, dget2At_new, kpB_back, kpR_back]
    · subst h
      refine ⟨2, .inr (.inl ⟨by decide, by decide, by decide +kernel, by decide +kernel⟩), ?_⟩
      simp [chk_of, chkO_of, dget2At_old, dget2At_new, kpB_fork, kpR_fork]
    · subst h
      refine ⟨3, .inr (.inl ⟨by decide, by decide, by decide +kernel, by decide +kernel⟩), ?_⟩
      simp [chk_of, chkO_of, dget2At_old, dget2At_new, kpB_cut, kpR_cut]
    · subst h
      refine ⟨3, .inr (.inl ⟨by decide, by decide, by decide +kernel, by decide +kernel⟩), ?_⟩
      simp [chk_of, chkO_of, dget2At_old, dget2At_new, kpB_window, kpR_window]
    · subst h
      refine ⟨4, .inr (.inl ⟨by decide, by decide, by decide +kernel, by decide +kernel⟩), ?_⟩
      simp [chk_of, chkO_of, dget2At_old, dget2At_new, kpB_move, kpR_move]
    · subst h
      refine ⟨5, .inr (.inl ⟨by decide, by decide, by decide +kernel, by decide +kernel⟩), ?_⟩
      simp [chk_of, chkO_of, dget2At_old, dget2At_new, kpB_quote, kpR_quote]
  | none =>
    have hN := bar_no hB
    cases hR : kpos [(.inr "put" : Key), .inr "strike", .inr "blot", .inr "lift"] (.inr s) with
    | none =>
      refine ⟨-1, .inl ⟨rfl, hN, row_no hR⟩, ?_⟩
      simp [chk_of, chkO_of, dget2At_new, hB, hR]
    | some j =>
      have := name_row hR
      rcases this with h | h | h | h
      · subst h
        refine ⟨2, .inr (.inr ⟨by decide, by decide, by decide +kernel, by decide +kernel, by decide +kernel⟩), ?_⟩
        simp [chk_of, chkO_of, dget2At_old, dget2At_new, kpB_put, kpR_put]
      · subst h
        refine ⟨0, .inr (.inr ⟨by decide, by decide, by decide +kernel, by decide +kernel, by decide +kernel⟩), ?_⟩
        simp [chk_of, chkO_of, dget2At_old, dget2At_new, kpB_strike, kpR_strike]
      · subst h
        refine ⟨1, .inr (.inr ⟨by decide, by decide, by decide +kernel, by decide +kernel, by decide +kernel⟩), ?_⟩
        simp [chk_of, chkO_of, dget2At_old, dget2At_new, kpB_blot, kpR_blot]
      · subst h
        refine ⟨1, .inr (.inr ⟨by decide, by decide, by decide +kernel, by decide +kernel, by decide +kernel⟩), ?_⟩
        simp [chk_of, chkO_of, dget2At_old, dget2At_new, kpB_lift, kpR_lift]
theorem nums_rd : ∀ l : List (List Nat), numsOf l = if l.any (fun w => decide (rdOf w < 0)) = true then none else some (l.map rdOf)
  | [] => rfl
  | w :: l => by
    have ih := nums_rd l
    cases h : numOf w with
    | none => simp [numsOf, h, rd_neg h]
    | some n =>
      have n0 : ¬ n < 0 := by have := numOf_nn h; omega
      simp only [numsOf, h, ih, List.any_cons, rd_some h, decide_eq_false n0, Bool.false_or, List.map_cons]
      split <;> rfl
theorem cut_1k {α : Type} (x : α) (xs : List α) {k : Int} (h0 : 0 ≤ k) (h : k ≤ xs.length) : cutL (x :: xs) (some 1) (some (k + 1)) = xs.take k.toNat := by
  obtain ⟨n, rfl⟩ : ∃ n : Nat, k = n := ⟨k.toNat, by omega⟩
  have e1 : HT.sIx (x :: xs).length 0 (some 1) = 1 := by
    unfold HT.sIx
    simp only [List.length_cons]
    split <;> omega
  have e2 : HT.sIx (x :: xs).length (x :: xs).length (some ((n : Int) + 1)) = n + 1 := by
    unfold HT.sIx
    simp only [List.length_cons]
    split <;> omega
  unfold cutL
  rw [e1, e2]
  simp
theorem cut_k1 {α : Type} (x : α) (xs : List α) {k : Int} (h0 : 0 ≤ k) : cutL (x :: xs) (some (k + 1)) none = xs.drop k.toNat := by
  rw [cutL_from' _ (by omega)]
  have : (k + 1).toNat = k.toNat + 1 := by omega
  rw [this, List.drop_succ_cons]
theorem due_lc1 (d0 d1 d2 d3 d4 d5 d9 : D) (ws : List (List Nat)) (h : ∀ v ∈ ws, Cd v ∧ v.length ≤ 1000000) (hl : ws.length ≤ 16777216) : lcL (lcT [8] lg__law_due_1 lt__law_due_1 le__law_due_1) (ws.map wD) [] [d0, d1, d2, d3, d4, d5, .un, .un, .un, d9] = .ok ((ws.map rdOf).map D.int) [d0, d1, d2, d3, d4, d5, .un, .un, .un, d9] := by
  rw [lcL_pure (f := wD) (fun w => some (D.int (rdOf w))) ws [] (by simpa using hl) (fun w hw => by
    have e := reads_eq w (h w hw).1 (by have := (h w hw).2; omega)
    simp [lg__law_due_1, lt__law_due_1, le__law_due_1, wD, chk_of, chkO_of, e])]
  simp [Function.comp_def]
theorem due_lc2 (d0 d1 d2 d3 d4 d5 : D) (ns : List Int) (hl : ns.length ≤ 16777216) : ∀ d6 d7 d8 : D, lcL (lcT [9] lg__law_due_2 lt__law_due_2 le__law_due_2) (ns.map D.int) [] [d0, d1, d2, d3, d4, d5, d6, d7, d8, .un] = .ok ((ns.filter (fun n => decide (n < 0))).map D.int) [d0, d1, d2, d3, d4, d5, d6, d7, d8, .un] := by
  intro d6 d7 d8
  rw [lcL_pure (f := D.int) (fun n => if n < 0 then some (D.int n) else none) ns [] (by simpa using hl) (fun n hn => by
    by_cases c : n < 0 <;> simp [lg__law_due_2, lt__law_due_2, le__law_due_2, chk_of, chkO_of, c])]
  congr 1
  simp only [List.nil_append]
  clear hl
  induction ns with
  | nil => rfl
  | cons n ns ih =>
    by_cases c : n < 0
    · simp [c, ih]
    · simp [c, ih]
theorem pour5 {w : List Nat} : w.take 5 = [112, 111, 117, 114, 32] ↔ fstW w = [112, 111, 117, 114] ∧ 32 ∈ w := by
  constructor
  · intro h
    have e : w = [112, 111, 117, 114, 32] ++ w.drop 5 := by rw [← h, List.take_append_drop]
    generalize w.drop 5 = r at e
    subst e
    exact ⟨rfl, by simp⟩
  · rintro ⟨h1, h2⟩
    have e := cut_idx 32 w h2
    have h1' : w.take (w.idxOf 32) = [112, 111, 117, 114] := h1
    rw [h1'] at e
    rw [e]
    rfl
theorem pour5_drop {w : List Nat} (h : w.take 5 = [112, 111, 117, 114, 32]) : w.drop 5 = rstW w := by
  obtain ⟨h1, h2⟩ := pour5.mp h
  have e := cut_idx 32 w h2
  have h1' : w.take (w.idxOf 32) = [112, 111, 117, 114] := h1
  rw [h1'] at e
  have : w.drop 5 = ([112, 111, 117, 114] ++ [32] ++ w.drop (w.idxOf 32 + 1)).drop 5 := by rw [← e]
  rw [this]
  rfl
theorem due_any (w : List Nat) (hc : Cd w) (hl : w.length ≤ 1000000) : F__law_due [.str (tx w)] = .ok (oD (readAll w)) [.un] := by
  have k1 : w.length ≤ 16777216 := by omega
  have k2 : w.length + 2 ≤ 16777216 := by omega
  have s5 : Str.ofString "pour " = tx [112, 111, 117, 114, 32] := by decide +kernel
  have st : Str.ofString "tie" = tx [116, 105, 101] := by decide +kernel
  have q5 := eq_tx (a := w.take 5) (b := [112, 111, 117, 114, 32]) (fun c h => hc c (List.mem_of_mem_take h)) (by simp [Cd])
  have c5 : cutL w none (some 5) = w.take 5 := by rw [cutL_to' _ (by omega)]; rfl
  have d5 : cutL w (some 5) none = w.drop 5 := by rw [cutL_from' _ (by omega)]; rfl
  obtain ⟨SA, hSA⟩ : ∃ SA, SA = (mAsg (mQ (qDget2 (qV 3) (qV 2) (qDget2 (qV 4) (qV 2) (qNeg (qC (.int 1)))))) (gNm 5)) := ⟨_, rfl⟩
  have em : m__law_due = (mSeq (mIf (mTE (mEq false (mSlQ (qV 0) oNo (oQ (qC (.int 5)))) (mQ (qC (.str "pour "))))) (mSeq (mRet (mCall [.bo] F__law_due_pour (aVal (mSlQ (qV 0) (oQ (qC (.int 5))) oNo) aNil))) mSkip) mSkip) (mSeq (mAsg (mSplit (mQ (qV 0)) (mQ (qC (.str " ")))) (gNm 1)) (mSeq (mAsg (mQ (qIx (qV 1) (qC (.int 0)))) (gNm 2)) (mSeq (mIf (mTQ (qEq false (qV 2) (qC (.str "tie")))) (mSeq (mRet (mCall [.bo] F__law_due_tie (aVal (mSlQ (qV 1) (oQ (qC (.int 1))) oNo) aNil))) mSkip) mSkip) (mSeq (mAsg (mDisp [.inr "put", .inr "strike", .inr "blot", .inr "lift"] (mCons (mQ (qC (.int 2))) (mCons (mQ (qC (.int 0))) (mCons (mQ (qC (.int 1))) (mCons (mQ (qC (.int 1))) mNil))))) (gNm 3)) (mSeq (mAsg (mDisp [.inr "fresh", .inr "fix", .inr "untie", .inr "read", .inr "back", .inr "fork", .inr "cut", .inr "window"] (mCons (mQ (qC (.int 0))) (mCons (mQ (qC (.int 1))) (mCons (mQ (qC (.int 1))) (mCons (mQ (qC (.int 1))) (mCons (mQ (qC (.int 2))) (mCons (mQ (qC (.int 2))) (mCons (mQ (qC (.int 3))) (mCons (mQ (qC (.int 3))) mNil))))))))) (gNm 4)) (mSeq (mDPut (qV 4) (qC (.str "move")) (mQ (qC (.int 4)))) (mSeq (mDPut (qV 4) (qC (.str "quote")) (mQ (qC (.int 5)))) (mSeq SA (mSeq (mIf (mOrT (mTQ (qOp gLt (qV 5) (qC (.int 0)))) (mOrT (mTQ (qOp gLt (qLen (qV 1)) (qOp gAdd (qV 5) (qC (.int 1))))) (mAndT (mTQ (qDin false (qV 2) (qV 4))) (mTQ (qEq true (qLen (qV 1)) (qOp gAdd (qV 5) (qC (.int 1)))))))) (mSeq (mRet (mQ (qC .non))) mSkip) mSkip) (mSeq (mAsg (mLcL (mSlQ (qV 1) (oQ (qC (.int 1))) (oQ (qOp gAdd (qV 5) (qC (.int 1))))) [8] lg__law_due_1 lt__law_due_1 le__law_due_1) (gNm 6)) (mSeq (mIf (mTE (mOp gGt (mLen (mLcL (mQ (qV 6)) [9] lg__law_due_2 lt__law_due_2 le__law_due_2)) (mQ (qC (.int 0))))) (mSeq (mRet (mQ (qC .non))) mSkip) mSkip) (mSeq (mIf (mTQ (qDin false (qV 2) (qV 4))) (mSeq (mRet (mAddT (mTup (mCons (mMove 2) mNil)) (mTupL (mQ (qV 6))))) mSkip) mSkip) (mSeq (mAsg (mCall [.bo] F__law_words_row (aVal (mSlQ (qV 1) (oQ (qOp gAdd (qV 5) (qC (.int 1)))) oNo) aNil)) (gNm 7)) (mSeq (mIf (mTQ (qIsN false (qV 7))) (mSeq (mRet (mQ (qC .non))) mSkip) mSkip) (mSeq (mRet (mAddT (mAddT (mTup (mCons (mMove 2) mNil)) (mTupL (mQ (qV 6)))) (mTup (mCons (mMove 7) mNil)))) mSkip)))))))))))))))) := by rw [hSA]; rfl
  by_cases a5 : w.take 5 = [112, 111, 117, 114, 32]
  · have e1 := due_pour_any (rstW w) (rst_cd hc) (by have := rst_len w; omega)
    rw [decide_eq_true a5] at q5
    obtain ⟨h1, h2⟩ := pour5.mp a5
    rw [pour5_drop a5] at d5
    unfold readAll
    rw [if_pos h1]
    clear em hSA
    cases r : readP (rstW w) with
    | none =>
      rw [r] at e1; simp only [oD] at e1
      simp [F__law_due, runF_eq, m__law_due, chk_of, chkO_of, cutS_tx, k1, s5, c5, d5, q5, e1, oD]
    | some d =>
      obtain ⟨xs, rfl, hx⟩ := readP_tup r
      rw [r] at e1; simp only [oD] at e1
      simp [F__law_due, runF_eq, m__law_due, chk_of, chkO_of, cutS_tx, k1, s5, c5, d5, q5, e1, hx, oD]
  · rw [decide_eq_false a5] at q5
    have sp := split_tx w 32 (by decide)
    rw [cut_first w] at sp
    obtain ⟨w1, w2⟩ := words_ok hc hl
    have q2 := eq_tx (a := fstW w) (b := [116, 105, 101]) (fst_cd hc) (by simp [Cd])
    obtain ⟨L, hL⟩ : ∃ L, L = (wordsW w).map wD := ⟨_, rfl⟩
    have sp' : (Txt.split (tx w) (tx [32])).map D.str = .str (tx (fstW w)) :: L := by rw [sp, hL, List.map_map]; rfl
    have lL : L.length = (wordsW w).length := by rw [hL]; simp
    have ix : ixN (L.length + 1) 0 = some 0 := by simp [ixN]
    have sL : ∀ g, D.setL g L = L := fun g => by rw [hL, setL_wD]
    have nL : D.noBorL L = true := by rw [hL]; exact noBorL_wD _
    by_cases a2 : fstW w = [116, 105, 101]
    · have e2 := due_tie_any (wordsW w) w1 w2
      rw [← hL] at e2
      rw [decide_eq_true a2] at q2
      have hp : ¬ fstW w = [112, 111, 117, 114] := by rw [a2]; decide
      have c1 : cutL (D.str (tx (fstW w)) :: L) (some 1) none = L := cutL_tl _ _
      unfold readAll
      rw [if_neg hp, if_pos a2]
      clear em hSA
      generalize hT : Txt.split (tx w) (tx [32]) = T at *
      cases r : readT (wordsW w) with
      | none =>
        rw [r] at e2; simp only [oD] at e2
        simp [F__law_due, runF_eq, m__law_due, chk_of, chkO_of, cutS_tx, s_sp, k1, k2, s5, c5, q5, st, hT, sp', ix, q2, c1, sL, nL, e2, oD]
      | some d =>
        obtain ⟨xs, rfl, hx⟩ := readT_tup r
        rw [r] at e2; simp only [oD] at e2
        simp [F__law_due, runF_eq, m__law_due, chk_of, chkO_of, cutS_tx, s_sp, k1, k2, s5, c5, q5, st, hT, sp', ix, q2, c1, sL, nL, e2, hx, oD]
    · rw [decide_eq_false a2] at q2
      have rA : readAll w = readO (tx (fstW w)) (wordsW w) := by
        unfold readAll
        by_cases hp : fstW w = [112, 111, 117, 114]
        · have h32 : ¬ 32 ∈ w := fun h => a5 (pour5.mpr ⟨hp, h⟩)
          rw [if_pos hp, hp]
          unfold readP
          rw [rst_no h32, if_neg (by simp)]
          unfold readO
          have e1 : tb_NUMBERS.lookup (tx [112, 111, 117, 114]) = none := by decide +kernel
          have e2 : tb_ROWED.lookup (tx [112, 111, 117, 114]) = none := by decide +kernel
          rw [e1, e2]
        · rw [if_neg hp, if_neg a2]
      rw [rA]
      obtain ⟨k, hk, eA⟩ := due_many (.str (tx w)) (.nd (.lst .own) (.str (tx (fstW w)) :: L)) (tx (fstW w))
      rw [← hSA] at eA
      have kp1 : kpos [(.inr "fresh" : Key), .inr "fix", .inr "untie", .inr "read", .inr "back", .inr "fork", .inr "cut", .inr "window"] (.inr "move") = none := by decide +kernel
      have kp2 : kpos [(.inr "fresh" : Key), .inr "fix", .inr "untie", .inr "read", .inr "back", .inr "fork", .inr "cut", .inr "window", .inr "move"] (.inr "quote") = none := by decide +kernel
      generalize hT : Txt.split (tx w) (tx [32]) = T at *
      have run : ∀ (d : D) (xs : List D), True := fun _ _ => trivial
      unfold Kind at hk
      rcases hk with ⟨rfl, hN, hR⟩ | ⟨k0, k5, hN, hB⟩ | ⟨k0, k5, hN, hR, hB⟩
      · have rO : readO (tx (fstW w)) (wordsW w) = none := by unfold readO; rw [hN, hR]
        rw [rO]
        simp [F__law_due, runF_eq, em, chk_of, chkO_of, chkS_of, cutS_tx, s_sp, k1, k2, s5, c5, q5, st, hT, sp', ix, q2, sL, nL, oD, dpS_new, kp1, kp2, eA]
      · have kn : ¬ k < 0 := by omega
        by_cases c : (L.length : Int) = k
        · have ck : cutL (D.str (tx (fstW w)) :: L) (some 1) (some (k + 1)) = L := by
            rw [cut_1k _ _ k0 (by omega), List.take_of_length_le (by omega)]
          have c' : ¬ (L.length : Int) < k := by omega
          have lc1 := fun d0 d1 d2 d3 d4 d5 d9 => due_lc1 d0 d1 d2 d3 d4 d5 d9 (wordsW w) w1 (by omega)
          have lc2 := fun d0 d1 d2 d3 d4 d5 => due_lc2 d0 d1 d2 d3 d4 d5 ((wordsW w).map rdOf) (by rw [List.length_map]; omega)
          rw [← hL] at lc1
          have nr := nums_rd (wordsW w)
          have ev := vsOf_ints ((wordsW w).map rdOf)
          have rl : ((wordsW w).map rdOf).length = L.length := by rw [List.length_map, lL]
          unfold readO
          rw [hN]
          simp only
          obtain ⟨R, hR⟩ : ∃ R, R = (wordsW w).map rdOf := ⟨_, rfl⟩
          rw [← hR] at nr ev rl lc1 lc2
          have k5' : L.length ≤ 5 := by omega
          have kf : (R.filter (fun n => decide (n < 0))).length ≤ 16777216 := by have := List.length_filter_le (fun n => decide (n < 0)) R; omega
          by_cases an : (wordsW w).any (fun v => decide (rdOf v < 0)) = true
          · rw [if_pos an] at nr
            have pf : 0 < (R.filter (fun n => decide (n < 0))).length := by
              rw [List.length_pos_iff_exists_mem]
              obtain ⟨v, hv, hn⟩ := List.any_eq_true.mp an
              exact ⟨rdOf v, List.mem_filter.mpr ⟨by rw [hR]; exact List.mem_map.mpr ⟨v, hv, rfl⟩, hn⟩⟩
            rw [nr]
            simp only
            generalize R.filter (fun n => decide (n < 0)) = G at *
            have pf' : ¬ G = [] := fun h => by rw [h] at pf; simp at pf
            simp [F__law_due, runF_eq, em, chk_of, chkO_of, chkS_of, cutS_tx, s_sp, k1, k2, s5, c5, q5, st, hT, sp', ix, q2, sL, nL, oD, dpS_new, kp1, kp2, eA, k0, kn, c, c', hB, ck, lc1, lc2, kf, pf, pf']
          · rw [if_neg an] at nr
            have nf : R.filter (fun n => decide (n < 0)) = [] := by
              rw [List.filter_eq_nil_iff]
              intro x hx hn
              rw [hR] at hx
              obtain ⟨v, hv, rfl⟩ := List.mem_map.mp hx
              exact an (List.any_eq_true.mpr ⟨v, hv, hn⟩)
            rw [nf] at lc2
            rw [nr]
            have rk : (R.length : Int) = k := by omega
            have r5 : R.length ≤ 16777215 := by omega
            have r6 : 1 + R.length ≤ 16777216 := by omega
            simp only [rk, if_true]
            simp [F__law_due, runF_eq, em, chk_of, chkO_of, chkS_of, cutS_tx, s_sp, k1, k2, s5, c5, q5, st, hT, sp', ix, q2, sL, nL, oD, dpS_new, kp1, kp2, eA, k0, kn, c, c', hB, ck, lc1, lc2, ev, r5, r6]
        · have rO : readO (tx (fstW w)) (wordsW w) = none := by
            unfold readO
            rw [hN]
            cases h : numsOf (wordsW w) with
            | none => simp
            | some ns =>
              have := numsOf_len h
              have hne : ¬ (ns.length : Int) = k := by omega
              simp [hne]
          rw [rO]
          by_cases c' : (L.length : Int) < k
          · simp [F__law_due, runF_eq, em, chk_of, chkO_of, chkS_of, cutS_tx, s_sp, k1, k2, s5, c5, q5, st, hT, sp', ix, q2, sL, nL, oD, dpS_new, kp1, kp2, eA, k0, kn, c, c', hB]
          · simp [F__law_due, runF_eq, em, chk_of, chkO_of, chkS_of, cutS_tx, s_sp, k1, k2, s5, c5, q5, st, hT, sp', ix, q2, sL, nL, oD, dpS_new, kp1, kp2, eA, k0, kn, c, c', hB]
      · have kn : ¬ k < 0 := by omega
        by_cases c : (L.length : Int) < k
        · have rO : readO (tx (fstW w)) (wordsW w) = none := by
            unfold readO
            rw [hN, hR]
            cases h : numsOf ((wordsW w).take k.toNat) with
            | none => simp [h]
            | some ns =>
              have := numsOf_len h
              rw [List.length_take] at this
              have hne : ¬ (ns.length : Int) = k := by omega
              cases q : rowP ((wordsW w).drop k.toNat) <;> simp [h, q, hne]
          rw [rO]
          simp [F__law_due, runF_eq, em, chk_of, chkO_of, chkS_of, cutS_tx, s_sp, k1, k2, s5, c5, q5, st, hT, sp', ix, q2, sL, nL, oD, dpS_new, kp1, kp2, eA, k0, kn, c, hB]
        · have rO : readO (tx (fstW w)) (wordsW w) = match numsOf ((wordsW w).take k.toNat), rowP ((wordsW w).drop k.toNat) with
            | some ns, some ps => if (ns.length : Int) = k then some (.nd .tup (.str (tx (fstW w)) :: (ns.map D.int ++ [.nd (.lst .own) (ps.map pD)]))) else none
            | _, _ => none := by
            unfold readO
            rw [hN, hR]
            try rfl
          rw [rO]
          have ck : cutL (D.str (tx (fstW w)) :: L) (some 1) (some (k + 1)) = ((wordsW w).take k.toNat).map wD := by
            rw [cut_1k _ _ k0 (by omega), hL, List.map_take]
          have cb : cutL (D.str (tx (fstW w)) :: L) (some (k + 1)) none = ((wordsW w).drop k.toNat).map wD := by
            rw [cut_k1 _ _ k0, hL, List.map_drop]
          have wa : ∀ v ∈ (wordsW w).take k.toNat, Cd v ∧ v.length ≤ 1000000 := fun v h => w1 v (List.mem_of_mem_take h)
          have wb : ∀ v ∈ (wordsW w).drop k.toNat, Cd v ∧ v.length ≤ 1000000 := fun v h => w1 v (List.mem_of_mem_drop h)
          have la : (((wordsW w).take k.toNat).length : Int) = k := by rw [List.length_take]; omega
          have lb : ((wordsW w).drop k.toNat).length ≤ 1000001 := by rw [List.length_drop]; omega
          generalize (wordsW w).take k.toNat = A at *
          generalize (wordsW w).drop k.toNat = B at *
          have lc1 := fun d0 d1 d2 d3 d4 d5 d9 => due_lc1 d0 d1 d2 d3 d4 d5 d9 A wa (by omega)
          have lc2 := fun d0 d1 d2 d3 d4 d5 => due_lc2 d0 d1 d2 d3 d4 d5 (A.map rdOf) (by rw [List.length_map]; omega)
          have wr := fun f => words_row_eq f B wb (by omega)
          have nr := nums_rd A
          have ev := vsOf_ints (A.map rdOf)
          have rl : ((A.map rdOf).length : Int) = k := by rw [List.length_map, la]
          obtain ⟨R, hRR⟩ : ∃ R, R = A.map rdOf := ⟨_, rfl⟩
          rw [← hRR] at nr ev rl lc1 lc2
          have sA : ∀ g, D.setL g (A.map wD) = A.map wD := fun g => setL_wD g _
          have sB : ∀ g, D.setL g (B.map wD) = B.map wD := fun g => setL_wD g _
          have nA : D.noBorL (A.map wD) = true := noBorL_wD _
          have nB : D.noBorL (B.map wD) = true := noBorL_wD _
          have kf : (R.filter (fun n => decide (n < 0))).length ≤ 16777216 := by have := List.length_filter_le (fun n => decide (n < 0)) R; omega
          by_cases an : A.any (fun v => decide (rdOf v < 0)) = true
          · rw [if_pos an] at nr
            have pf : 0 < (R.filter (fun n => decide (n < 0))).length := by
              rw [List.length_pos_iff_exists_mem]
              obtain ⟨v, hv, hn⟩ := List.any_eq_true.mp an
              exact ⟨rdOf v, List.mem_filter.mpr ⟨by rw [hRR]; exact List.mem_map.mpr ⟨v, hv, rfl⟩, hn⟩⟩
            rw [nr]
            simp only
            generalize R.filter (fun n => decide (n < 0)) = G at *
            have pf' : ¬ G = [] := fun h => by rw [h] at pf; simp at pf
            simp [F__law_due, runF_eq, em, chk_of, chkO_of, chkS_of, cutS_tx, s_sp, k1, k2, s5, c5, q5, st, hT, sp', ix, q2, sL, nL, sA, nA, oD, dpS_new, kp1, kp2, eA, k0, kn, c, hB, ck, lc1, lc2, kf, pf, pf']
          · rw [if_neg an] at nr
            have nf : R.filter (fun n => decide (n < 0)) = [] := by
              rw [List.filter_eq_nil_iff]
              intro x hx hn
              rw [hRR] at hx
              obtain ⟨v, hv, rfl⟩ := List.mem_map.mp hx
              exact an (List.any_eq_true.mpr ⟨v, hv, hn⟩)
            rw [nf] at lc2
            rw [nr]
            have r5 : R.length ≤ 16777215 := by omega
            have r6 : 1 + R.length ≤ 16777216 := by omega
            have r7 : 1 + R.length + 1 ≤ 16777216 := by omega
            have r8 : R.length ≤ 16777214 := by omega
            cases q : rowP B with
            | none =>
              simp only [q, oR] at wr
              simp [F__law_due, runF_eq, em, chk_of, chkO_of, chkS_of, cutS_tx, s_sp, k1, k2, s5, c5, q5, st, hT, sp', ix, q2, sL, nL, sA, nA, sB, nB, oD, dpS_new, kp1, kp2, eA, k0, kn, c, hB, ck, cb, lc1, lc2, wr]
            | some ps =>
              simp only [q, oR] at wr
              have := rowP_len q
              have kps : ps.length ≤ 16777216 := by omega
              simp [rl, F__law_due, runF_eq, em, chk_of, chkO_of, chkS_of, cutS_tx, s_sp, k1, k2, s5, c5, q5, st, hT, sp', ix, q2, sL, nL, sA, nA, sB, nB, oD, dpS_new, kp1, kp2, eA, k0, kn, c, hB, ck, cb, lc1, lc2, wr, ev, r5, r6, r7, r8, kps]
theorem pick12 {a b c d e f g h i j k l : D} {v : Int} (h0 : 0 ≤ v) (h1 : v < 12) : ∃ z, atI [a, b, c, d, e, f, g, h, i, j, k, l] v = some z ∧ z ∈ [a, b, c, d, e, f, g, h, i, j, k, l] := by
  have : v = 0 ∨ v = 1 ∨ v = 2 ∨ v = 3 ∨ v = 4 ∨ v = 5 ∨ v = 6 ∨ v = 7 ∨ v = 8 ∨ v = 9 ∨ v = 10 ∨ v = 11 := by omega
  rcases this with rfl | rfl | rfl | rfl | rfl | rfl | rfl | rfl | rfl | rfl | rfl | rfl
  all_goals exact ⟨_, rfl, by simp⟩
theorem odd_ok (s : Sr) : ∃ (z : Str) (s' : Sr), Ln 20 z ∧ F__law_odd [srcD s] = .ok (.str z) [srcD s'] := by
  obtain ⟨v, s1, v0, v1, e1⟩ := next_ok s 12 (by decide) (by decide)
  obtain ⟨z, hz, hm⟩ := pick12 (a := .str (Str.ofString "")) (b := .str (Str.ofString " ")) (c := .str (Str.ofString "pour")) (d := .str (Str.ofString "pour 3")) (e := .str (Str.ofString "pour  a")) (f := .str (Str.ofString "tie")) (g := .str (Str.ofString "tie / /")) (h := .str (Str.ofString "tie 1-2")) (i := .str (Str.ofString "put")) (j := .str (Str.ofString "fresh ")) (k := .str (Str.ofString "Fresh")) (l := .str (Str.ofString "open")) v0 v1
  have : ∃ y, z = .str y ∧ Ln 20 y := by
    simp only [List.mem_cons, List.not_mem_nil, or_false] at hm
    rcases hm with rfl | rfl | rfl | rfl | rfl | rfl | rfl | rfl | rfl | rfl | rfl | rfl
    all_goals exact ⟨_, rfl, ln_of (by decide +kernel)⟩
  obtain ⟨y, rfl, hy⟩ := this
  exact ⟨y, s1, hy, by simp [F__law_odd, runF_eq, m__law_odd, chk_of, chkO_of, e1, hz]⟩
theorem line_by_ok (s : Sr) : ∃ (z : Str) (s' : Sr), Ln 1000000 z ∧ F__law_line_by [srcD s] = .ok (.str z) [srcD s'] := by
  obtain ⟨u, s1, u0, u1, e1⟩ := next_ok s 6 (by decide) (by decide)
  obtain ⟨name, nm, pcs, ln, s2, G, e2⟩ := deed_by_ok s1
  have st : D.set .bor (ddD .own name pcs) = ddD .bor name pcs := by simp [ddD, set_pcs]
  have nb : D.noBor (ddD .own name pcs) = true := by simp [ddD, noBor_pcs]
  have l := G.line
  have hz : Ln 60000 (tx ln) := ⟨ln, rfl, G.cd, G.len⟩
  have kz : ln.length ≤ 60000 := G.len
  obtain ⟨Df, hD⟩ : ∃ Df : Fl → D, ∀ f, Df f = ddD f name pcs := ⟨fun f => ddD f name pcs, fun _ => rfl⟩
  simp only [← hD] at st nb l e2
  by_cases c0 : u = 0
  · exact ⟨_, s2, hz.mono (by omega), by simp [F__law_line_by, runF_eq, m__law_line_by, chk_of, chkO_of, e1, e2, st, nb, l, c0]⟩
  by_cases c1 : u = 1
  · obtain ⟨z, s3, hy, e3⟩ := odd_ok s2
    exact ⟨z, s3, hy.mono (by omega), by simp [F__law_line_by, runF_eq, m__law_line_by, chk_of, chkO_of, e1, e2, st, nb, l, c1, e3]⟩
  by_cases c2 : u = 2
  · obtain ⟨name2, nm2, pcs2, ln2, s3, G2, e3⟩ := deed_by_ok s2
    have f := find_tx ln 32
    generalize (if 32 ∈ ln then ((ln.idxOf 32 : Nat) : Int) else -1) = z at f
    have A := hz.cut (some z) none
    have la := A.len
    have hn : Ln 10 name2 := ⟨nm2, G2.hnm, G2.w.cd, G2.nl⟩
    have ln' := hn.len
    have a0 : atI (D.str name2 :: pcs2.map (pcD .own)) 0 = some (.str name2) := by
      have hx : ixN (D.str name2 :: pcs2.map (pcD .own)).length 0 = some 0 := by simp [ixN]
      unfold atI; rw [hx]; rfl
    have m1 : name2.length + (cutS (tx ln) (some z) none).length ≤ 16777216 := by omega
    have nb2 : D.noBorL (pcs2.map (pcD .own)) = true := noBor_pcs pcs2
    have k1 : ln.length ≤ 16777216 := by omega
    have dd2 : ddD .own name2 pcs2 = .nd .tup (.str name2 :: pcs2.map (pcD .own)) := rfl
    rw [dd2] at e3
    generalize pcs2.map (pcD .own) = P2 at *
    exact ⟨_, s3, (hn.app A).mono (by omega), by simp [F__law_line_by, runF_eq, m__law_line_by, chk_of, chkO_of, e1, e2, st, nb, l, c2, e3, nb2, s_sp, f, k1, a0, m1]⟩
  by_cases c3 : u = 3
  · obtain ⟨k, s3, k0, k1, e3⟩ := next_ok s2 4 (by decide) (by decide)
    obtain ⟨y, hy, hm⟩ := pick4 (a := .str (Str.ofString " 5")) (b := .str (Str.ofString " 1-2")) (c := .str (Str.ofString " /")) (d := .str (Str.ofString " x")) k0 k1
    have : ∃ x, y = .str x ∧ Ln 4 x := by
      simp only [List.mem_cons, List.not_mem_nil, or_false] at hm
      rcases hm with rfl | rfl | rfl | rfl
      all_goals exact ⟨_, rfl, ln_of (by decide +kernel)⟩
    obtain ⟨x, rfl, hx⟩ := this
    have lx := hx.len
    have m1 : ln.length + x.length ≤ 16777216 := by omega
    exact ⟨_, s3, (hz.app hx).mono (by omega), by simp [F__law_line_by, runF_eq, m__law_line_by, chk_of, chkO_of, e1, e2, st, nb, l, c3, e3, hy, m1]⟩
  obtain ⟨y, s3, hy, e3⟩ := spoilt_ok s2 (tx ln) hz
  exact ⟨y, s3, hy.mono (by omega), by simp [F__law_line_by, runF_eq, m__law_line_by, chk_of, chkO_of, e1, e2, st, nb, l, c0, c1, c2, c3, e3]⟩
theorem okL_pD (ps : List (Int × Int)) (n : Nat) : D.okL (ps.map pD) (n + 1) = true := by
  rw [okL_all, List.all_eq_true]
  intro x hx
  obtain ⟨p, _, rfl⟩ := List.mem_map.mp hx
  simp [pD]
theorem okL_int (ns : List Int) (n : Nat) : D.okL (ns.map D.int) n = true := by
  rw [okL_all, List.all_eq_true]
  intro x hx
  obtain ⟨p, _, rfl⟩ := List.mem_map.mp hx
  simp
theorem okL_app (a b : List D) (n : Nat) : D.okL (a ++ b) n = (D.okL a n && D.okL b n) := by
  rw [okL_all, okL_all, okL_all, List.all_append]
theorem readAll_ok {w : List Nat} {d : D} (hc : Cd w) (h : readAll w = some d) : D.ok d 5 = true := by
  have n1 : ∀ n, D.ok (.str (tx (fstW w))) n = true := fun n => ok_tx (fst_cd hc) n
  have n2 : ∀ n, D.ok (.str (tx (rstW (rstW w)))) n = true := fun n => ok_tx (rst_cd (rst_cd hc)) n
  have s4 : Str.ofString "pour" = tx [112, 111, 117, 114] := by decide +kernel
  have s5 : Str.ofString "tie" = tx [116, 105, 101] := by decide +kernel
  have g4 : ∀ n, D.ok (.str (tx [112, 111, 117, 114])) n = true := fun n => ok_tx (by simp [Cd]) n
  have g5 : ∀ n, D.ok (.str (tx [116, 105, 101])) n = true := fun n => ok_tx (by simp [Cd]) n
  unfold readAll at h
  split at h
  · unfold readP at h
    split at h
    · split at h
      · cases h
        rw [ok_tup, okL_all]
        simp only [List.all_cons, List.all_nil, s4, g4, n2, ok_int, Bool.and_true]
      · cases h
    · cases h
  · split at h
    · unfold readT at h
      split at h
      · split at h
        · cases h
          rw [ok_tup, okL_all]
          simp only [List.all_cons, List.all_nil, s5, g5, ok_lst, okL_pD, Bool.and_true]
        · cases h
      · cases h
    · unfold readO at h
      split at h
      · split at h
        · split at h
          · cases h
            rw [ok_tup, okL_cons, n1, okL_int]; rfl
          · cases h
        · cases h
      · split at h
        · split at h
          · split at h
            · cases h
              rw [ok_tup, okL_cons, n1, okL_app, okL_int, okL_cons, ok_lst, okL_pD]; simp
            · cases h
          · cases h
        · cases h
theorem law_true (ns : List Int) (hn : ns.length ≤ 63) : F_law [.scr ns] = .ok (.bl true) [.un] := by
  obtain ⟨s, e1⟩ := src_ok ns
  obtain ⟨z, s1, ⟨w, rfl, hc, hl⟩, e2⟩ := line_by_ok s
  obtain ⟨x, s2, x0, x1, e3⟩ := next_ok s1 2 (by decide) (by decide)
  have e4 := deed_or_none w (decide (x = 0)) hc hl
  have e5 := due_any w hc hl
  have o : D.ok (oD (readAll w)) 5 = true := by
    cases r : readAll w with
    | none => simp [oD]
    | some d => exact readAll_ok hc r
  have nb : D.noBor (oD (readAll w)) = true := by
    cases r : readAll w with
    | none => simp [oD]
    | some d =>
      obtain ⟨xs, rfl, hx⟩ := readAll_tup r
      simp [oD, hx]
  have o2 : D.ok (D.set .bor (oD (readAll w))) 5 = true := by rw [ok_set]; exact o
  have e6 := same_eq _ _ o2 o2
  rw [same_self 5 _ o2] at e6
  generalize oD (readAll w) = d at *
  simp [F_law, runF_eq, m_law, chk_of, chkO_of, chkS_of, e1, e2, e3, e4, e5, e6, nb]

end Law
namespace Law
open PySem PySem.Spec PyProof.Rows L2 PV
theorem headRun (w : World) : HandSHeadRun.RunEq Rw (PySem.W.view Rw.prog [36]) hk ob 12000 names w := PySem.W.byRow2 "special-get-raises" (P := HandSHeadRun.RunEq Rw (PySem.W.view Rw.prog [36]) hk ob 12000 names) headF headT w
theorem facts {w : World} {K : PySem.W.Frag} {h : Heap} {mg : Str → Option Value} {fa0 : Addr} (X : K.In h) (G : h.Ns mainGlobals mg) (hfa : mg ("law" : Str) = some (.ref fa0)) (c : SaysP fa fn ts exK w K) :
    ∃ fd : FuncData, (∀ (s : Shared) (v : Value), BindsTo s fd ⟨[v], []⟩ [("_law_script", v)]) ∧ ∀ base : Heap, K.In base → base.Ns mainGlobals mg → FnOk PySem.Challenge.rw_inkroot_k33_lines_read.prog w K mg base (L2.CX PySem.Challenge.rw_inkroot_k33_lines_read.prog w) 8 fa0 fd ["_law_script"] (spLaw K) := by
  have cd := c.t.d
  have c0 := c
  obtain ⟨fd__law_src, D__law_src⟩ := cd.def_ 0 (d := dd__law_src) (by rfl)
  have F__law_src : L2.Fun K "_law_src" "_law_src" s__law_src (He.fAd K dd__law_src.at_) fd__law_src := fun_of D__law_src
  have b__law_src := F__law_src.binds (ps := ["_law_script"]) fun _ _ _ _ _ _ us hl => match us, hl with | [_], _ => rfl
  obtain ⟨fd__law_next, D__law_next⟩ := cd.def_ 1 (d := dd__law_next) (by rfl)
  have F__law_next : L2.Fun K "_law_next" "_law_next" s__law_next (He.fAd K dd__law_next.at_) fd__law_next := fun_of D__law_next
  have b__law_next := F__law_next.binds (ps := ["_law_src_here", "_law_base"]) fun _ _ _ _ _ _ us hl => match us, hl with | [_, _], _ => rfl
  obtain ⟨fd__law_stretches, D__law_stretches⟩ := cd.def_ 2 (d := dd__law_stretches) (by rfl)
  have F__law_stretches : L2.Fun K "_law_stretches" "_law_stretches" s__law_stretches (He.fAd K dd__law_stretches.at_) fd__law_stretches := fun_of D__law_stretches
  have b__law_stretches := F__law_stretches.binds (ps := ["_law_row"]) fun _ _ _ _ _ _ us hl => match us, hl with | [_], _ => rfl
  obtain ⟨fd__law_line_of, D__law_line_of⟩ := cd.def_ 3 (d := dd__law_line_of) (by rfl)
  have F__law_line_of : L2.Fun K "_law_line_of" "_law_line_of" s__law_line_of (He.fAd K dd__law_line_of.at_) fd__law_line_of := fun_of D__law_line_of
  have b__law_line_of := F__law_line_of.binds (ps := ["_law_deed"]) fun _ _ _ _ _ _ us hl => match us, hl with | [_], _ => rfl
  obtain ⟨fd__law_number, D__law_number⟩ := cd.def_ 4 (d := dd__law_number) (by rfl)
  have F__law_number : L2.Fun K "_law_number" "_law_number" s__law_number (He.fAd K dd__law_number.at_) fd__law_number := fun_of D__law_number
  have b__law_number := F__law_number.binds (ps := ["_law_src_here"]) fun _ _ _ _ _ _ us hl => match us, hl with | [_], _ => rfl
  obtain ⟨fd__law_plain_deed, D__law_plain_deed⟩ := cd.def_ 5 (d := dd__law_plain_deed) (by rfl)
  have F__law_plain_deed : L2.Fun K "_law_plain_deed" "_law_plain_deed" s__law_plain_deed (He.fAd K dd__law_plain_deed.at_) fd__law_plain_deed := fun_of D__law_plain_deed
  have b__law_plain_deed := F__law_plain_deed.binds (ps := ["_law_src_here", "_law_way"]) fun _ _ _ _ _ _ us hl => match us, hl with | [_, _], _ => rfl
  obtain ⟨fd__law_sign, D__law_sign⟩ := cd.def_ 6 (d := dd__law_sign) (by rfl)
  have F__law_sign : L2.Fun K "_law_sign" "_law_sign" s__law_sign (He.fAd K dd__law_sign.at_) fd__law_sign := fun_of D__law_sign
  have b__law_sign := F__law_sign.binds (ps := ["_law_src_here", "_law_few"]) fun _ _ _ _ _ _ us hl => match us, hl with | [_, _], _ => rfl
  obtain ⟨fd__law_text, D__law_text⟩ := cd.def_ 7 (d := dd__law_text) (by rfl)
  have F__law_text : L2.Fun K "_law_text" "_law_text" s__law_text (He.fAd K dd__law_text.at_) fd__law_text := fun_of D__law_text
  have b__law_text := F__law_text.binds (ps := ["_law_src_here", "_law_many"]) fun _ _ _ _ _ _ us hl => match us, hl with | [_, _], _ => rfl
  obtain ⟨fd__law_ink_by, D__law_ink_by⟩ := cd.def_ 8 (d := dd__law_ink_by) (by rfl)
  have F__law_ink_by : L2.Fun K "_law_ink_by" "_law_ink_by" s__law_ink_by (He.fAd K dd__law_ink_by.at_) fd__law_ink_by := fun_of D__law_ink_by
  have b__law_ink_by := F__law_ink_by.binds (ps := ["_law_src_here"]) fun _ _ _ _ _ _ us hl => match us, hl with | [_], _ => rfl
  obtain ⟨fd__law_deed_by, D__law_deed_by⟩ := cd.def_ 9 (d := dd__law_deed_by) (by rfl)
  have F__law_deed_by : L2.Fun K "_law_deed_by" "_law_deed_by" s__law_deed_by (He.fAd K dd__law_deed_by.at_) fd__law_deed_by := fun_of D__law_deed_by
  have b__law_deed_by := F__law_deed_by.binds (ps := ["_law_src_here"]) fun _ _ _ _ _ _ us hl => match us, hl with | [_], _ => rfl
  obtain ⟨fd__law_odd, D__law_odd⟩ := cd.def_ 10 (d := dd__law_odd) (by rfl)
  have F__law_odd : L2.Fun K "_law_odd" "_law_odd" s__law_odd (He.fAd K dd__law_odd.at_) fd__law_odd := fun_of D__law_odd
  have b__law_odd := F__law_odd.binds (ps := ["_law_src_here"]) fun _ _ _ _ _ _ us hl => match us, hl with | [_], _ => rfl
  obtain ⟨fd__law_spoilt, D__law_spoilt⟩ := cd.def_ 11 (d := dd__law_spoilt) (by rfl)
  have F__law_spoilt : L2.Fun K "_law_spoilt" "_law_spoilt" s__law_spoilt (He.fAd K dd__law_spoilt.at_) fd__law_spoilt := fun_of D__law_spoilt
  have b__law_spoilt := F__law_spoilt.binds (ps := ["_law_src_here", "_law_line"]) fun _ _ _ _ _ _ us hl => match us, hl with | [_, _], _ => rfl
  obtain ⟨fd__law_line_by, D__law_line_by⟩ := cd.def_ 12 (d := dd__law_line_by) (by rfl)
  have F__law_line_by : L2.Fun K "_law_line_by" "_law_line_by" s__law_line_by (He.fAd K dd__law_line_by.at_) fd__law_line_by := fun_of D__law_line_by
  have b__law_line_by := F__law_line_by.binds (ps := ["_law_src_here"]) fun _ _ _ _ _ _ us hl => match us, hl with | [_], _ => rfl
  obtain ⟨fd__law_whole, D__law_whole⟩ := cd.def_ 13 (d := dd__law_whole) (by rfl)
  have F__law_whole : L2.Fun K "_law_whole" "_law_whole" s__law_whole (He.fAd K dd__law_whole.at_) fd__law_whole := fun_of D__law_whole
  have b__law_whole := F__law_whole.binds (ps := ["_law_found"]) fun _ _ _ _ _ _ us hl => match us, hl with | [_], _ => rfl
  obtain ⟨fd__law_same, D__law_same⟩ := cd.def_ 14 (d := dd__law_same) (by rfl)
  have F__law_same : L2.Fun K "_law_same" "_law_same" s__law_same (He.fAd K dd__law_same.at_) fd__law_same := fun_of D__law_same
  have b__law_same := F__law_same.binds (ps := ["_law_found", "_law_due_here"]) fun _ _ _ _ _ _ us hl => match us, hl with | [_, _], _ => rfl
  obtain ⟨fd__law_reads, D__law_reads⟩ := cd.def_ 15 (d := dd__law_reads) (by rfl)
  have F__law_reads : L2.Fun K "_law_reads" "_law_reads" s__law_reads (He.fAd K dd__law_reads.at_) fd__law_reads := fun_of D__law_reads
  have b__law_reads := F__law_reads.binds (ps := ["_law_word"]) fun _ _ _ _ _ _ us hl => match us, hl with | [_], _ => rfl
  obtain ⟨fd__law_due_pour, D__law_due_pour⟩ := cd.def_ 16 (d := dd__law_due_pour) (by rfl)
  have F__law_due_pour : L2.Fun K "_law_due_pour" "_law_due_pour" s__law_due_pour (He.fAd K dd__law_due_pour.at_) fd__law_due_pour := fun_of D__law_due_pour
  have b__law_due_pour := F__law_due_pour.binds (ps := ["_law_rest"]) fun _ _ _ _ _ _ us hl => match us, hl with | [_], _ => rfl
  obtain ⟨fd__law_words_row, D__law_words_row⟩ := cd.def_ 17 (d := dd__law_words_row) (by rfl)
  have F__law_words_row : L2.Fun K "_law_words_row" "_law_words_row" s__law_words_row (He.fAd K dd__law_words_row.at_) fd__law_words_row := fun_of D__law_words_row
  have b__law_words_row := F__law_words_row.binds (ps := ["_law_words"]) fun _ _ _ _ _ _ us hl => match us, hl with | [_], _ => rfl
  obtain ⟨fd__law_due_tie, D__law_due_tie⟩ := cd.def_ 18 (d := dd__law_due_tie) (by rfl)
  have F__law_due_tie : L2.Fun K "_law_due_tie" "_law_due_tie" s__law_due_tie (He.fAd K dd__law_due_tie.at_) fd__law_due_tie := fun_of D__law_due_tie
  have b__law_due_tie := F__law_due_tie.binds (ps := ["_law_words"]) fun _ _ _ _ _ _ us hl => match us, hl with | [_], _ => rfl
  obtain ⟨fd__law_due, D__law_due⟩ := cd.def_ 19 (d := dd__law_due) (by rfl)
  have F__law_due : L2.Fun K "_law_due" "_law_due" s__law_due (He.fAd K dd__law_due.at_) fd__law_due := fun_of D__law_due
  have b__law_due := F__law_due.binds (ps := ["_law_line"]) fun _ _ _ _ _ _ us hl => match us, hl with | [_], _ => rfl
  obtain ⟨fd_number_of, D_number_of⟩ := cd.def_ 20 (d := dd_number_of) (by rfl)
  have F_number_of : L2.Fun K "number_of" "number_of" s_number_of (He.fAd K dd_number_of.at_) fd_number_of := fun_of D_number_of
  have b_number_of := F_number_of.binds (ps := ["word"]) fun _ _ _ _ _ _ us hl => match us, hl with | [_], _ => rfl
  obtain ⟨fd_read_pour, D_read_pour⟩ := cd.def_ 21 (d := dd_read_pour) (by rfl)
  have F_read_pour : L2.Fun K "read_pour" "read_pour" s_read_pour (He.fAd K dd_read_pour.at_) fd_read_pour := fun_of D_read_pour
  have b_read_pour := F_read_pour.binds (ps := ["rest"]) fun _ _ _ _ _ _ us hl => match us, hl with | [_], _ => rfl
  obtain ⟨fd_numbers_of, D_numbers_of⟩ := cd.def_ 22 (d := dd_numbers_of) (by rfl)
  have F_numbers_of : L2.Fun K "numbers_of" "numbers_of" s_numbers_of (He.fAd K dd_numbers_of.at_) fd_numbers_of := fun_of D_numbers_of
  have b_numbers_of := F_numbers_of.binds (ps := ["words"]) fun _ _ _ _ _ _ us hl => match us, hl with | [_], _ => rfl
  obtain ⟨fd_stretch_of, D_stretch_of⟩ := cd.def_ 23 (d := dd_stretch_of) (by rfl)
  have F_stretch_of : L2.Fun K "stretch_of" "stretch_of" s_stretch_of (He.fAd K dd_stretch_of.at_) fd_stretch_of := fun_of D_stretch_of
  have b_stretch_of := F_stretch_of.binds (ps := ["word"]) fun _ _ _ _ _ _ us hl => match us, hl with | [_], _ => rfl
  obtain ⟨fd_row_of, D_row_of⟩ := cd.def_ 24 (d := dd_row_of) (by rfl)
  have F_row_of : L2.Fun K "row_of" "row_of" s_row_of (He.fAd K dd_row_of.at_) fd_row_of := fun_of D_row_of
  have b_row_of := F_row_of.binds (ps := ["words"]) fun _ _ _ _ _ _ us hl => match us, hl with | [_], _ => rfl
  obtain ⟨fd_read_tie, D_read_tie⟩ := cd.def_ 25 (d := dd_read_tie) (by rfl)
  have F_read_tie : L2.Fun K "read_tie" "read_tie" s_read_tie (He.fAd K dd_read_tie.at_) fd_read_tie := fun_of D_read_tie
  have b_read_tie := F_read_tie.binds (ps := ["words"]) fun _ _ _ _ _ _ us hl => match us, hl with | [_], _ => rfl
  obtain ⟨fd_read_other, D_read_other⟩ := cd.def_ 26 (d := dd_read_other) (by rfl)
  have F_read_other : L2.Fun K "read_other" "read_other" s_read_other (He.fAd K dd_read_other.at_) fd_read_other := fun_of D_read_other
  have b_read_other := F_read_other.binds (ps := ["name", "words"]) fun _ _ _ _ _ _ us hl => match us, hl with | [_, _], _ => rfl
  obtain ⟨fd_read_deed, D_read_deed⟩ := cd.def_ 27 (d := dd_read_deed) (by rfl)
  have F_read_deed : L2.Fun K "read_deed" "read_deed" s_read_deed (He.fAd K dd_read_deed.at_) fd_read_deed := fun_of D_read_deed
  have b_read_deed := F_read_deed.binds (ps := ["text"]) fun _ _ _ _ _ _ us hl => match us, hl with | [_], _ => rfl
  obtain ⟨fd__law_deed_or_none, D__law_deed_or_none⟩ := cd.def_ 28 (d := dd__law_deed_or_none) (by rfl)
  have F__law_deed_or_none : L2.Fun K "_law_deed_or_none" "_law_deed_or_none" s__law_deed_or_none (He.fAd K dd__law_deed_or_none.at_) fd__law_deed_or_none := fun_of D__law_deed_or_none
  have b__law_deed_or_none := F__law_deed_or_none.binds (ps := ["_law_line", "_law_any_one"]) fun _ _ _ _ _ _ us hl => match us, hl with | [_, _], _ => rfl
  obtain ⟨fd_law, D_law⟩ := cd.def_ 29 (d := dd_law) (by rfl)
  have F_law : L2.Fun K "law" "law" s_law (He.fAd K dd_law.at_) fd_law := fun_of D_law
  have b_law := F_law.binds (ps := ["_law_script"]) fun _ _ _ _ _ _ us hl => match us, hl with | [_], _ => rfl
  have e0 := hfa.symm.trans (He.glo_ok X G (cd.fact 29 (f := .glo "law") (by rfl)))
  cases e0
  have m_NoDeed := (He.glo_ok X G (cd.fact 39 (f := .glo "NoDeed") (by rfl)))
  have ca_NoDeed : CAo mg "NoDeed" = some (He.ga K "NoDeed") := by unfold CAo; rw [m_NoDeed]
  have m_InkError := (He.glo_ok X G (cd.fact 40 (f := .glo "InkError") (by rfl)))
  have ca_InkError : CAo mg "InkError" = some (He.ga K "InkError") := by unfold CAo; rw [m_InkError]
  have kt_NUMBERS : KTb K mg w "NUMBERS" tb_NUMBERS := ktb_of (He.glo_ok X G (cd.fact 41 (f := .glo "NUMBERS") (by rfl))) (tab_eq c.t 0 (by rfl)) (by rfl) (by have h := c.more; simp only [exK, Bool.and_eq_true] at h; exact h.1)
  have kt_ROWED : KTb K mg w "ROWED" tb_ROWED := ktb_of (He.glo_ok X G (cd.fact 42 (f := .glo "ROWED") (by rfl))) (tab_eq c.t 1 (by rfl)) (by rfl) (by have h := c.more; simp only [exK, Bool.and_eq_true] at h; exact h.2)
  have z_NoDeed := He.exc_ok (cd.fact 43 (f := .exc "NoDeed") (by rfl))
  have T : TX K mg w ⟨He.fAd K dd__law_src.at_, fd__law_src, He.fAd K dd__law_next.at_, fd__law_next, He.fAd K dd__law_stretches.at_, fd__law_stretches, He.fAd K dd__law_line_of.at_, fd__law_line_of, He.fAd K dd__law_number.at_, fd__law_number, He.fAd K dd__law_plain_deed.at_, fd__law_plain_deed, He.fAd K dd__law_sign.at_, fd__law_sign, He.fAd K dd__law_text.at_, fd__law_text, He.fAd K dd__law_ink_by.at_, fd__law_ink_by, He.fAd K dd__law_deed_by.at_, fd__law_deed_by, He.fAd K dd__law_odd.at_, fd__law_odd, He.fAd K dd__law_spoilt.at_, fd__law_spoilt, He.fAd K dd__law_line_by.at_, fd__law_line_by, He.fAd K dd__law_whole.at_, fd__law_whole, He.fAd K dd__law_same.at_, fd__law_same, He.fAd K dd__law_reads.at_, fd__law_reads, He.fAd K dd__law_due_pour.at_, fd__law_due_pour, He.fAd K dd__law_words_row.at_, fd__law_words_row, He.fAd K dd__law_due_tie.at_, fd__law_due_tie, He.fAd K dd__law_due.at_, fd__law_due, He.fAd K dd_number_of.at_, fd_number_of, He.fAd K dd_read_pour.at_, fd_read_pour, He.fAd K dd_numbers_of.at_, fd_numbers_of, He.fAd K dd_stretch_of.at_, fd_stretch_of, He.fAd K dd_row_of.at_, fd_row_of, He.fAd K dd_read_tie.at_, fd_read_tie, He.fAd K dd_read_other.at_, fd_read_other, He.fAd K dd_read_deed.at_, fd_read_deed, He.fAd K dd__law_deed_or_none.at_, fd__law_deed_or_none, He.fAd K dd_law.at_, fd_law⟩ := ⟨⟨F__law_src, (He.glo_ok X G (cd.fact 0 (f := .glo "_law_src") (by rfl))), F__law_src.kp, b__law_src⟩, ⟨F__law_next, (He.glo_ok X G (cd.fact 1 (f := .glo "_law_next") (by rfl))), F__law_next.kp, b__law_next⟩, ⟨F__law_stretches, (He.glo_ok X G (cd.fact 2 (f := .glo "_law_stretches") (by rfl))), F__law_stretches.kp, b__law_stretches⟩, ⟨F__law_line_of, (He.glo_ok X G (cd.fact 3 (f := .glo "_law_line_of") (by rfl))), F__law_line_of.kp, b__law_line_of⟩, ⟨F__law_number, (He.glo_ok X G (cd.fact 4 (f := .glo "_law_number") (by rfl))), F__law_number.kp, b__law_number⟩, ⟨F__law_plain_deed, (He.glo_ok X G (cd.fact 5 (f := .glo "_law_plain_deed") (by rfl))), F__law_plain_deed.kp, b__law_plain_deed⟩, ⟨F__law_sign, (He.glo_ok X G (cd.fact 6 (f := .glo "_law_sign") (by rfl))), F__law_sign.kp, b__law_sign⟩, ⟨F__law_text, (He.glo_ok X G (cd.fact 7 (f := .glo "_law_text") (by rfl))), F__law_text.kp, b__law_text⟩, ⟨F__law_ink_by, (He.glo_ok X G (cd.fact 8 (f := .glo "_law_ink_by") (by rfl))), F__law_ink_by.kp, b__law_ink_by⟩, ⟨F__law_deed_by, (He.glo_ok X G (cd.fact 9 (f := .glo "_law_deed_by") (by rfl))), F__law_deed_by.kp, b__law_deed_by⟩, ⟨F__law_odd, (He.glo_ok X G (cd.fact 10 (f := .glo "_law_odd") (by rfl))), F__law_odd.kp, b__law_odd⟩, ⟨F__law_spoilt, (He.glo_ok X G (cd.fact 11 (f := .glo "_law_spoilt") (by rfl))), F__law_spoilt.kp, b__law_spoilt⟩, ⟨F__law_line_by, (He.glo_ok X G (cd.fact 12 (f := .glo "_law_line_by") (by rfl))), F__law_line_by.kp, b__law_line_by⟩, ⟨F__law_whole, (He.glo_ok X G (cd.fact 13 (f := .glo "_law_whole") (by rfl))), F__law_whole.kp, b__law_whole⟩, ⟨F__law_same, (He.glo_ok X G (cd.fact 14 (f := .glo "_law_same") (by rfl))), F__law_same.kp, b__law_same⟩, ⟨F__law_reads, (He.glo_ok X G (cd.fact 15 (f := .glo "_law_reads") (by rfl))), F__law_reads.kp, b__law_reads⟩, ⟨F__law_due_pour, (He.glo_ok X G (cd.fact 16 (f := .glo "_law_due_pour") (by rfl))), F__law_due_pour.kp, b__law_due_pour⟩, ⟨F__law_words_row, (He.glo_ok X G (cd.fact 17 (f := .glo "_law_words_row") (by rfl))), F__law_words_row.kp, b__law_words_row⟩, ⟨F__law_due_tie, (He.glo_ok X G (cd.fact 18 (f := .glo "_law_due_tie") (by rfl))), F__law_due_tie.kp, b__law_due_tie⟩, ⟨F__law_due, (He.glo_ok X G (cd.fact 19 (f := .glo "_law_due") (by rfl))), F__law_due.kp, b__law_due⟩, ⟨F_number_of, (He.glo_ok X G (cd.fact 20 (f := .glo "number_of") (by rfl))), F_number_of.kp, b_number_of⟩, ⟨F_read_pour, (He.glo_ok X G (cd.fact 21 (f := .glo "read_pour") (by rfl))), F_read_pour.kp, b_read_pour⟩, ⟨F_numbers_of, (He.glo_ok X G (cd.fact 22 (f := .glo "numbers_of") (by rfl))), F_numbers_of.kp, b_numbers_of⟩, ⟨F_stretch_of, (He.glo_ok X G (cd.fact 23 (f := .glo "stretch_of") (by rfl))), F_stretch_of.kp, b_stretch_of⟩, ⟨F_row_of, (He.glo_ok X G (cd.fact 24 (f := .glo "row_of") (by rfl))), F_row_of.kp, b_row_of⟩, ⟨F_read_tie, (He.glo_ok X G (cd.fact 25 (f := .glo "read_tie") (by rfl))), F_read_tie.kp, b_read_tie⟩, ⟨F_read_other, (He.glo_ok X G (cd.fact 26 (f := .glo "read_other") (by rfl))), F_read_other.kp, b_read_other⟩, ⟨F_read_deed, (He.glo_ok X G (cd.fact 27 (f := .glo "read_deed") (by rfl))), F_read_deed.kp, b_read_deed⟩, ⟨F__law_deed_or_none, (He.glo_ok X G (cd.fact 28 (f := .glo "_law_deed_or_none") (by rfl))), F__law_deed_or_none.kp, b__law_deed_or_none⟩, ⟨F_law, (He.glo_ok X G (cd.fact 29 (f := .glo "law") (by rfl))), F_law.kp, b_law⟩, (He.free_ok X G (cd.fact 30 (f := .free "bool") (by rfl))), (He.free_ok X G (cd.fact 31 (f := .free "int") (by rfl))), (He.free_ok X G (cd.fact 32 (f := .free "isinstance") (by rfl))), (He.free_ok X G (cd.fact 33 (f := .free "len") (by rfl))), (He.free_ok X G (cd.fact 34 (f := .free "list") (by rfl))), (He.free_ok X G (cd.fact 35 (f := .free "range") (by rfl))), (He.free_ok X G (cd.fact 36 (f := .free "str") (by rfl))), (He.free_ok X G (cd.fact 37 (f := .free "tuple") (by rfl))), (He.free_ok X G (cd.fact 38 (f := .free "zip") (by rfl))), kt_NUMBERS, kt_ROWED, ⟨_, ca_NoDeed, m_NoDeed, z_NoDeed.1, z_NoDeed.2.1, z_NoDeed.2.2.1, z_NoDeed.2.2.2⟩, ⟨_, ca_InkError, m_InkError⟩, ⟨_, ca_NoDeed, m_NoDeed⟩, (hier_cons ca_NoDeed ca_InkError (He.exm_ok (cd.fact 44 (f := .exm "NoDeed" "InkError" true) (by rfl))) (hier_cons ca_NoDeed ca_NoDeed (He.exm_ok (cd.fact 45 (f := .exm "NoDeed" "NoDeed" true) (by rfl))) hier_nil))⟩
  refine ⟨fd_law, fun s v => ?_, fun base _ _ => (ok_law T).imp (spF_law law_true)⟩
  have bb := FunD.bindsA (ps := ["_law_script"]) D_law fun _ _ _ _ _ _ us hl => match us, hl with | [_], _ => rfl
  exact bb s [v] rfl
end Law
open PySem PySem.W PySem.Calls PyProof.Rows
set_option maxRecDepth 100000 in
set_option maxHeartbeats 0 in
theorem PySem.Challenge.cw_inkroot_k33_lines_read_holds : PySem.Challenge.rw_inkroot_k33_lines_read.Holds := by
  w_on; o_law
  refine HandSHeadRun.head_any (r := OpenLaw.row PySem.Challenge.rw_inkroot_k33_lines_read) (q := view (OpenLaw.row PySem.Challenge.rw_inkroot_k33_lines_read).prog [36]) (H := Law.hk) (ob := Law.ob) (M := 12000) (loose := Law.names) (d := HandSHeadRun.topDef (OpenLaw.row PySem.Challenge.rw_inkroot_k33_lines_read).prog 36) (kwd := []) Law.ob_eq (by kernel_rfl) (fun s => by kernel_rfl) Law.headRun (by kernel_rfl) (by kernel_rfl) (by kernel_rfl) (by rfl) (by first | assumption | decide +kernel) (by decide +kernel) ⟨rfl, rfl, rfl, rfl, rfl, by decide +kernel⟩ ?hw ?hc
  case hw => w_witness2
  case hc =>
    refine L2.law_walkE (l := PySem.Challenge.rw_inkroot_k33_lines_read) (k := 8) rfl (by kernel_rfl) ⟨rfl, by decide, by decide⟩ ?F
    intro w mg fa h Y G hmg0
    obtain ⟨K, KX, c⟩ := Y
    have hmg : mg ("law" : PySem.Str) = some (.ref fa) := by
      have e : (HandSHeadRun.topDef (OpenLaw.row PySem.Challenge.rw_inkroot_k33_lines_read).prog 36).name = ("law" : PySem.Str) := by kernel_rfl
      rw [← e]
      exact hmg0
    obtain ⟨fd, hb, hF⟩ := Law.facts KX G hmg c
    exact ⟨K, fd, KX, hb, hF⟩
#print axioms PySem.Challenge.cw_inkroot_k33_lines_read_holds
