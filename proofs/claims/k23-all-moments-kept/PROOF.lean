import PyProof.Rows.All
import Wide.All
import OpenK.AllK
import Wide.FinOn
import HandS.ForMost
import HandS.ForExc
import HandS.Wide
import HandS.IsInst
import HandS.TryMany
import HandS.Zip
import HandS.Conv
import HandS.ExcOwn
import PyProof.ExcBaseAll.ValueError
import HandS.Comp
import PyProof.LongRange
import HandS.SortRule
import HandS.SortInts
import HandS.Iter
import HandS.TupLe
import HandS.More
import HandS.Text
import HandS.Style
import HandS.StrMore
import HandS.SetFor
import KE.OsHead
import HandS.Defaults
import HandS.Head0
import HandS.Head1
import HandS.Head2
import HandS.HeadEnd
import HandS.HeadHook1
import HandS.HeadHook2
import HandS.HeadHook3
import HandS.HeadHook4
import HandS.Deep
import HandS.ExcInit
import HandS.ExcField
import PySem.Challenge.RW_inkroot_k23_all_moments_kept
set_option Elab.async false
set_option linter.all false
set_option maxRecDepth 100000
set_option maxHeartbeats 0
namespace PV
open PySem L2
/-! ### trees -/
inductive Fl where | own | bor | fz
  deriving DecidableEq
/-- the kinds of nodes: a list, a tuple, a dict by its keys, an instance by its class and attributes -/
inductive Kd where | lst (f : Fl) | tup | dct (f : Fl) (ks : List Key) | ins (f : Fl) (c : Str) (ns : List Str)
  deriving DecidableEq
inductive D where | un | non | bl (b : Bool) | int (i : Int) | str (s : Str) | scr (ns : List Int) | nd (k : Kd) (xs : List D)
abbrev D.lst (f : Fl) (xs : List D) : D := .nd (.lst f) xs
abbrev D.tup (xs : List D) : D := .nd .tup xs
def Kd.fl : Kd → Option Fl
  | .lst f => some f
  | .tup => none
  | .dct f _ => some f
  | .ins f _ _ => some f
def Kd.with (g : Fl) : Kd → Kd
  | .lst _ => .lst g
  | .tup => .tup
  | .dct _ ks => .dct g ks
  | .ins _ c ns => .ins g c ns
/-! ### counts of addresses -/
abbrev Ct := Addr → Nat
def one (a : Addr) : Ct := fun b => if b = a then 1 else 0
theorem one_self (a : Addr) : one a a = 1 := if_pos rfl
theorem one_ne {a b : Addr} (h : b ≠ a) : one a b = 0 := if_neg h
/-- the ground: the written part, the classes, the heap, what may change, what the callers hold -/
structure Gd where
  K : PySem.W.Frag
  CA : Str → Option Addr
  H : Hp
  Z : Addr → Prop
  B : Addr → Prop
/-- a node of this kind stands at a, its items vs -/
def HoK (CA : Str → Option Addr) (H : Hp) (a : Addr) (vs : List V) : Kd → Prop
  | .lst _ => H a = some (.lst vs)
  | .tup => H a = some (.tup vs)
  | .dct _ ks => ks.length = vs.length ∧ H a = some (.dK (ks.zip vs))
  | .ins _ c ns => ns.length = vs.length ∧ ∃ C dx, CA c = some C ∧ H a = some (.ins C dx (ns.zip vs))
def NdOk (G : Gd) (a : Addr) (os os' : Ct) : Option Fl → Prop
  | none => ¬ G.Z a ∧ ∀ b, os b = os' b
  | some .own => G.Z a ∧ ¬ G.B a ∧ ∀ b, os b = one a b + os' b
  | some .bor => ¬ G.Z a ∧ (∀ b, os' b = 0) ∧ ∀ b, os b = 0
  | some .fz => ¬ G.Z a ∧ ¬ G.B a ∧ (∀ b, os' b = 0) ∧ ∀ b, os b = 0
/-! ### a tree stands in the heap -/
mutual
inductive Rp (G : Gd) : D → V → Ct → Prop
  | un {v : V} {os : Ct} : (∀ b, os b = 0) → Rp G .un v os
  | non {os : Ct} : (∀ b, os b = 0) → Rp G .non .non os
  | bl {x : Bool} {os : Ct} : (∀ b, os b = 0) → Rp G (.bl x) (.bl x) os
  | int {i : Int} {os : Ct} : (∀ b, os b = 0) → Rp G (.int i) (.int i) os
  | str {s : Str} {os : Ct} : (∀ b, os b = 0) → Rp G (.str s) (.str s) os
  | scr {ns : List Int} {a : Addr} {os : Ct} : ((Rd G.H a (.lst (ns.map V.int)) ∧ ¬ G.Z a) ∨ ∀ H, SqL G.K H a (ns.map V.int)) → (∀ b, os b = 0) → Rp G (.scr ns) (.ref a) os
  | nd {k : Kd} {xs : List D} {a : Addr} {vs : List V} {os os' : Ct} : HoK G.CA G.H a vs k → RpL G xs vs os' → NdOk G a os os' k.fl → Rp G (.nd k xs) (.ref a) os
inductive RpL (G : Gd) : List D → List V → Ct → Prop
  | nil {os : Ct} : (∀ b, os b = 0) → RpL G [] [] os
  | cons {d : D} {v : V} {xs : List D} {vs : List V} {os o1 o2 : Ct} : Rp G d v o1 → RpL G xs vs o2 → (∀ b, os b = o1 b + o2 b) → RpL G (d :: xs) (v :: vs) os
end
theorem Rp.ct {G : Gd} {d : D} {v : V} {os os' : Ct} (r : Rp G d v os) (h : ∀ b, os' b = os b) : Rp G d v os' := by
  have : os' = os := funext h
  rw [this]; exact r
theorem RpL.ct {G : Gd} {d : List D} {v : List V} {os os' : Ct} (r : RpL G d v os) (h : ∀ b, os' b = os b) : RpL G d v os' := by
  have : os' = os := funext h
  rw [this]; exact r
theorem RpL.len {G : Gd} : ∀ {xs : List D} {vs : List V} {os : Ct}, RpL G xs vs os → xs.length = vs.length
  | _, _, _, .nil _ => rfl
  | _, _, _, .cons _ r _ => by simp [RpL.len r]
theorem RpL.app {G : Gd} : ∀ {xs ys : List D} {vs ws : List V} {o1 o2 os : Ct}, RpL G xs vs o1 → RpL G ys ws o2 → (∀ b, os b = o1 b + o2 b) → RpL G (xs ++ ys) (vs ++ ws) os
  | _, _, _, _, o1, o2, os, .nil h0, r, h => r.ct fun b => by rw [h, h0]; (try dsimp only at *); omega
  | _, _, _, _, o1, o2, os, .cons (o1 := a) (o2 := c) r t h0, q, h => .cons (o2 := fun b => c b + o2 b) r (RpL.app t q fun _ => rfl) fun b => by rw [h, h0]; (try dsimp only at *); omega
theorem RpL.cut {G : Gd} : ∀ {xs ys : List D} {vs ws : List V} {os : Ct}, xs.length = vs.length → RpL G (xs ++ ys) (vs ++ ws) os → ∃ o1 o2, RpL G xs vs o1 ∧ RpL G ys ws o2 ∧ ∀ b, os b = o1 b + o2 b
  | [], _, [], _, os, _, r => ⟨fun _ => 0, os, .nil fun _ => rfl, r, fun b => by simp⟩
  | _ :: _, _, _ :: _, _, _, hl, .cons r t h => by
    obtain ⟨o1, o2, r1, r2, e⟩ := RpL.cut (by simpa using hl) t
    exact ⟨_, o2, .cons r r1 fun _ => rfl, r2, fun b => by rw [h, e]; (try dsimp only at *); omega⟩
theorem RpL.one {G : Gd} {d : D} {v : V} {os : Ct} (r : Rp G d v os) : RpL G [d] [v] os := .cons (o2 := fun _ => 0) r (.nil fun _ => rfl) fun b => by simp
theorem RpL.of1 {G : Gd} {d : D} {v : V} {os : Ct} (r : RpL G [d] [v] os) : Rp G d v os := by
  cases r with
  | cons r t h => cases t with | nil h0 => exact r.ct fun b => by rw [h, h0]; (try dsimp only at *); omega
/-- the item at a place, and another in its place -/
theorem RpL.at {G : Gd} : ∀ {xs : List D} {vs : List V} {os : Ct} {j : Nat} {d : D}, RpL G xs vs os → xs[j]? = some d → ∃ (v : V) (od orr : Ct), vs[j]? = some v ∧ Rp G d v od ∧ (∀ b, os b = od b + orr b) ∧
    ∀ (d' : D) (v' : V) (od' os' : Ct), Rp G d' v' od' → (∀ b, os' b = od' b + orr b) → RpL G (xs.set j d') (vs.set j v') os'
  | _, _, _, 0, _, .cons (o2 := o2) r t h, e => by
    simp at e; subst e
    exact ⟨_, _, o2, rfl, r, h, fun d' v' od' os' r' h' => .cons r' t h'⟩
  | _, _, _, j + 1, _, .cons (o1 := o1) r t h, e => by
    obtain ⟨v, od, orr, e1, r1, h1, k⟩ := RpL.at (j := j) t (by simpa using e)
    refine ⟨v, od, fun b => o1 b + orr b, by simpa using e1, r1, fun b => by rw [h, h1]; (try dsimp only at *); omega, fun d' v' od' os' r' h' => ?_⟩
    exact .cons (o2 := fun b => od' b + orr b) r (k d' v' od' _ r' fun _ => rfl) fun b => by rw [h']; (try dsimp only at *); omega
theorem list_set_same {α : Type} : ∀ {l : List α} {i : Nat} {a : α}, l[i]? = some a → l.set i a = l
  | [], _, _, h => by simp at h
  | _ :: _, 0, _, h => by simp at h; subst h; rfl
  | _ :: _, i + 1, _, h => by simp at h; simp [list_set_same h]
/-! ### another ground -/
structure Gd.To (G G' : Gd) (os : Ct) : Prop where
  k : G'.K = G.K
  ca : G'.CA = G.CA
  h : ∀ b o, G.H b = some o → (0 < os b ∨ ¬ G.Z b) → G'.H b = some o
  z : ∀ b o, G.H b = some o → ¬ G.Z b → ¬ G'.Z b
  o : ∀ b, 0 < os b → G'.Z b ∧ ¬ G'.B b
  b : ∀ b o, G.H b = some o → ¬ G.Z b → ¬ G.B b → ¬ G'.B b
theorem Gd.To.sub {G G' : Gd} {os os' : Ct} (t : Gd.To G G' os) (h : ∀ b, 0 < os' b → 0 < os b) : Gd.To G G' os' :=
  ⟨t.k, t.ca, fun b o e q => t.h b o e (q.imp (h b) id), t.z, fun b q => t.o b (h b q), t.b⟩
theorem HoK.dom {CA : Str → Option Addr} {H : Hp} {a : Addr} {vs : List V} {k : Kd} (h : HoK CA H a vs k) : ∃ o, H a = some o := by
  cases k with
  | lst f => exact ⟨_, h⟩
  | tup => exact ⟨_, h⟩
  | dct f ks => exact ⟨_, h.2⟩
  | ins f c ns => obtain ⟨_, _, _, _, e⟩ := h; exact ⟨_, e⟩
theorem HoK.to {CA : Str → Option Addr} {H H' : Hp} {a : Addr} {vs : List V} {k : Kd} (h : HoK CA H a vs k) (e : ∀ o, H a = some o → H' a = some o) : HoK CA H' a vs k := by
  cases k with
  | lst f => exact e _ h
  | tup => exact e _ h
  | dct f ks => exact ⟨h.1, e _ h.2⟩
  | ins f c ns => obtain ⟨l, C, dx, hc, q⟩ := h; exact ⟨l, C, dx, hc, e _ q⟩
mutual
theorem Rp.mono {G G' : Gd} : ∀ {d : D} {v : V} {os : Ct}, Rp G d v os → Gd.To G G' os → Rp G' d v os
  | _, _, _, .un h, _ => .un h
  | _, _, _, .non h, _ => .non h
  | _, _, _, .bl h, _ => .bl h
  | _, _, _, .int h, _ => .int h
  | _, _, _, .str h, _ => .str h
  | _, _, _, .scr (a := a) q h, t => by
    refine .scr ?_ h
    rcases q with ⟨q, z⟩ | q
    · refine .inl ⟨?_, ?_⟩
      · rcases q with q | ⟨o, q⟩
        · exact .inl (t.h a _ q (.inr z))
        · exact .inr ⟨o, t.h a _ q (.inr z)⟩
      · rcases q with q | ⟨o, q⟩
        · exact t.z a _ q z
        · exact t.z a _ q z
    · exact .inr fun H => by rw [t.k]; exact q H
  | _, _, _, .nd (k := k) (a := a) (os := os) (os' := os') hk r n, t => by
    obtain ⟨o, ho⟩ := hk.dom
    revert n
    generalize hfl : k.fl = f
    intro n
    match f, n with
    | none, n =>
      refine .nd (os' := os') (by rw [t.ca]; exact hk.to fun o e => t.h a o e (.inr n.1)) (RpL.mono r (t.sub fun b hb => by rw [n.2]; exact hb)) ?_
      rw [hfl]; exact ⟨t.z a o ho n.1, n.2⟩
    | some .own, n =>
      have p : 0 < os a := by rw [n.2.2, one_self]; (try dsimp only at *); omega
      refine .nd (os' := os') (by rw [t.ca]; exact hk.to fun o e => t.h a o e (.inl p)) (RpL.mono r (t.sub fun b hb => by rw [n.2.2]; (try dsimp only at *); omega)) ?_
      rw [hfl]; exact ⟨(t.o a p).1, (t.o a p).2, n.2.2⟩
    | some .bor, n =>
      refine .nd (os' := os') (by rw [t.ca]; exact hk.to fun o e => t.h a o e (.inr n.1)) (RpL.mono r (t.sub fun b hb => by have := n.2.1 b; (try dsimp only at *); omega)) ?_
      rw [hfl]; exact ⟨t.z a o ho n.1, n.2⟩
    | some .fz, n =>
      refine .nd (os' := os') (by rw [t.ca]; exact hk.to fun o e => t.h a o e (.inr n.1)) (RpL.mono r (t.sub fun b hb => by have := n.2.2.1 b; (try dsimp only at *); omega)) ?_
      rw [hfl]; exact ⟨t.z a o ho n.1, t.b a o ho n.1 n.2.1, n.2.2⟩
theorem RpL.mono {G G' : Gd} : ∀ {xs : List D} {vs : List V} {os : Ct}, RpL G xs vs os → Gd.To G G' os → RpL G' xs vs os
  | _, _, _, .nil h, _ => .nil h
  | _, _, _, .cons (o1 := o1) (o2 := o2) r t h, g => .cons (Rp.mono r (g.sub fun b hb => by rw [h]; (try dsimp only at *); omega)) (RpL.mono t (g.sub fun b hb => by rw [h]; (try dsimp only at *); omega)) h
end
mutual
/-- what a tree owns stands in the heap, may change, and is not the callers' -/
theorem Rp.dom {G : Gd} : ∀ {d : D} {v : V} {os : Ct}, Rp G d v os → ∀ b, 0 < os b → (∃ o, G.H b = some o) ∧ G.Z b ∧ ¬ G.B b
  | _, _, _, .un h, b, p | _, _, _, .non h, b, p | _, _, _, .bl h, b, p | _, _, _, .int h, b, p | _, _, _, .str h, b, p | _, _, _, .scr _ h, b, p => by rw [h] at p; (try dsimp only at *); omega
  | _, _, _, .nd (k := k) (a := a) (os := os) (os' := os') hk r n, b, p => by
    revert n
    generalize k.fl = f
    intro n
    match f, n with
    | none, n => exact RpL.dom r b (by rw [← n.2]; exact p)
    | some .own, n =>
      by_cases hb : b = a
      · subst hb; exact ⟨hk.dom, n.1, n.2.1⟩
      · exact RpL.dom r b (by have := n.2.2 b; rw [one_ne hb] at this; (try dsimp only at *); omega)
    | some .bor, n => have := n.2.2 b; (try dsimp only at *); omega
    | some .fz, n => have := n.2.2.2 b; (try dsimp only at *); omega
theorem RpL.dom {G : Gd} : ∀ {xs : List D} {vs : List V} {os : Ct}, RpL G xs vs os → ∀ b, 0 < os b → (∃ o, G.H b = some o) ∧ G.Z b ∧ ¬ G.B b
  | _, _, _, .nil h, b, p => by rw [h] at p; (try dsimp only at *); omega
  | _, _, _, .cons (o1 := o1) r t h, b, p => by
    by_cases q : 0 < o1 b
    · exact Rp.dom r b q
    · exact RpL.dom t b (by rw [h] at p; (try dsimp only at *); omega)
end
/-! ### changes of flags -/
mutual
/-- own lists frozen / lent -/
def D.set (g : Fl) : D → D
  | .nd k xs => .nd (if k.fl = some .own then k.with g else k) (D.setL g xs)
  | d => d
def D.setL (g : Fl) : List D → List D
  | [] => []
  | d :: r => D.set g d :: D.setL g r
end
abbrev D.frz : D → D := D.set .fz
abbrev D.len : D → D := D.set .bor
theorem D.setL_map (g : Fl) : ∀ xs : List D, D.setL g xs = xs.map (D.set g)
  | [] => rfl
  | d :: r => by simp [D.setL, D.setL_map g r]
theorem HoK.with {CA : Str → Option Addr} {H : Hp} {a : Addr} {vs : List V} {k : Kd} {g : Fl} (h : HoK CA H a vs k) : HoK CA H a vs (k.with g) := by
  cases k <;> exact h
theorem Kd.fl_with {k : Kd} {f g : Fl} (h : k.fl = some f) : (k.with g).fl = some g := by
  cases k <;> first | rfl | cases h
mutual
/-- nothing owned: nothing changes -/
theorem Rp.set_same {G : Gd} {g : Fl} : ∀ {d : D} {v : V} {os : Ct}, Rp G d v os → (∀ b, os b = 0) → D.set g d = d
  | _, _, _, .un _, _ | _, _, _, .non _, _ | _, _, _, .bl _, _ | _, _, _, .int _, _ | _, _, _, .str _, _ | _, _, _, .scr _ _, _ => by simp [D.set]
  | _, _, _, .nd (k := k) (a := a) (os := os) (os' := os') hk r n, h0 => by
    have hk' : k.fl ≠ some .own := fun e => by
      rw [e] at n
      have := n.2.2 a
      rw [h0, one_self] at this; (try dsimp only at *); omega
    have h1 : ∀ b, os' b = 0 := fun b => by
      revert n
      generalize k.fl = f
      intro n
      match f, n with
      | none, n => have := n.2 b; have := h0 b; (try dsimp only at *); omega
      | some .own, n => have := n.2.2 b; have := h0 b; (try dsimp only at *); omega
      | some .bor, n => exact n.2.1 b
      | some .fz, n => exact n.2.2.1 b
    simp [D.set, hk', RpL.set_same r h1]
theorem RpL.set_same {G : Gd} {g : Fl} : ∀ {xs : List D} {vs : List V} {os : Ct}, RpL G xs vs os → (∀ b, os b = 0) → D.setL g xs = xs
  | _, _, _, .nil h, _ => by simp [D.setL]
  | _, _, _, .cons r t h, h0 => by
    have e1 := Rp.set_same (g := g) r fun b => by have := h0 b; rw [h] at this; (try dsimp only at *); omega
    have e2 := RpL.set_same (g := g) t fun b => by have := h0 b; rw [h] at this; (try dsimp only at *); omega
    simp [D.setL, e1, e2]
end
/-- into a ground where what the tree owns may no longer change -/
structure Gd.Fr (G G' : Gd) (g : Fl) (os : Ct) : Prop where
  k : G'.K = G.K
  ca : G'.CA = G.CA
  h : ∀ b o, G.H b = some o → (0 < os b ∨ ¬ G.Z b) → G'.H b = some o
  z : ∀ b o, G.H b = some o → ¬ G.Z b → ¬ G'.Z b
  o : ∀ b, 0 < os b → ¬ G'.Z b ∧ (g = .fz → ¬ G'.B b)
  b : ∀ b o, G.H b = some o → ¬ G.Z b → ¬ G.B b → ¬ G'.B b
  n : g ≠ .own
theorem Gd.Fr.sub {G G' : Gd} {g : Fl} {os os' : Ct} (t : Gd.Fr G G' g os) (h : ∀ b, 0 < os' b → 0 < os b) : Gd.Fr G G' g os' :=
  ⟨t.k, t.ca, fun b o e q => t.h b o e (q.imp (h b) id), t.z, fun b q => t.o b (h b q), t.b, t.n⟩
mutual
theorem Rp.frz {G G' : Gd} {g : Fl} : ∀ {d : D} {v : V} {os : Ct}, Rp G d v os → Gd.Fr G G' g os → Rp G' (D.set g d) v (fun _ => 0)
  | _, _, _, .un h, _ => by simp only [D.set]; exact .un fun _ => rfl
  | _, _, _, .non h, _ => by simp only [D.set]; exact .non fun _ => rfl
  | _, _, _, .bl h, _ => by simp only [D.set]; exact .bl fun _ => rfl
  | _, _, _, .int h, _ => by simp only [D.set]; exact .int fun _ => rfl
  | _, _, _, .str h, _ => by simp only [D.set]; exact .str fun _ => rfl
  | _, _, _, .scr (a := a) q h, t => by
    simp only [D.set]
    refine .scr ?_ fun _ => rfl
    rcases q with ⟨q, z⟩ | q
    · refine .inl ⟨?_, ?_⟩
      · rcases q with q | ⟨o, q⟩
        · exact .inl (t.h a _ q (.inr z))
        · exact .inr ⟨o, t.h a _ q (.inr z)⟩
      · rcases q with q | ⟨o, q⟩
        · exact t.z a _ q z
        · exact t.z a _ q z
    · exact .inr fun H => by rw [t.k]; exact q H
  | _, _, _, .nd (k := k) (a := a) (os := os) (os' := os') hk r n, t => by
    obtain ⟨o, ho⟩ := hk.dom
    simp only [D.set]
    revert n
    generalize hfl : k.fl = f
    intro n
    match f, n with
    | none, n =>
      rw [if_neg (by simp)]
      refine .nd (os' := fun _ => 0) (by rw [t.ca]; exact hk.to fun o e => t.h a o e (.inr n.1)) (RpL.frz r (t.sub fun b hb => by rw [n.2]; exact hb)) ?_
      rw [hfl]; exact ⟨t.z a o ho n.1, fun _ => rfl⟩
    | some .own, n =>
      have p : 0 < os a := by rw [n.2.2, one_self]; (try dsimp only at *); omega
      rw [if_pos rfl]
      refine .nd (os' := fun _ => 0) (by rw [t.ca]; exact (hk.to fun o e => t.h a o e (.inl p)).with) (RpL.frz r (t.sub fun b hb => by rw [n.2.2]; (try dsimp only at *); omega)) ?_
      rw [Kd.fl_with hfl]
      match g, t with
      | .own, t => exact absurd rfl t.n
      | .bor, t => exact ⟨(t.o a p).1, fun _ => rfl, fun _ => rfl⟩
      | .fz, t => exact ⟨(t.o a p).1, (t.o a p).2 rfl, fun _ => rfl, fun _ => rfl⟩
    | some .bor, n =>
      rw [if_neg (by simp)]
      refine .nd (os' := fun _ => 0) (by rw [t.ca]; exact hk.to fun o e => t.h a o e (.inr n.1)) (RpL.frz r (t.sub fun b hb => by have := n.2.1 b; (try dsimp only at *); omega)) ?_
      rw [hfl]; exact ⟨t.z a o ho n.1, fun _ => rfl, fun _ => rfl⟩
    | some .fz, n =>
      rw [if_neg (by simp)]
      refine .nd (os' := fun _ => 0) (by rw [t.ca]; exact hk.to fun o e => t.h a o e (.inr n.1)) (RpL.frz r (t.sub fun b hb => by have := n.2.2.1 b; (try dsimp only at *); omega)) ?_
      rw [hfl]; exact ⟨t.z a o ho n.1, t.b a o ho n.1 n.2.1, fun _ => rfl, fun _ => rfl⟩
theorem RpL.frz {G G' : Gd} {g : Fl} : ∀ {xs : List D} {vs : List V} {os : Ct}, RpL G xs vs os → Gd.Fr G G' g os → RpL G' (D.setL g xs) vs (fun _ => 0)
  | _, _, _, .nil h, _ => by simp only [D.setL]; exact .nil fun _ => rfl
  | _, _, _, .cons (o1 := o1) (o2 := o2) r t h, q => by
    simp only [D.setL]
    exact .cons (Rp.frz r (q.sub fun b hb => by rw [h]; (try dsimp only at *); omega)) (RpL.frz t (q.sub fun b hb => by rw [h]; (try dsimp only at *); omega)) fun _ => rfl
end
/-! ### paths -/
abbrev Pth := List Nat
def getP : D → Pth → Option D
  | d, [] => some d
  | .nd _ xs, j :: p => match xs[j]? with
    | some x => getP x p
    | none => none
  | _, _ :: _ => none
def setP : D → Pth → D → D
  | _, [], e => e
  | .nd k xs, j :: p, e => match xs[j]? with
    | some x => .nd k (xs.set j (setP x p e))
    | none => .nd k xs
  | d, _ :: _, _ => d
/-- the items of what stands at an address -/
def hoVals : HO → List V
  | .lst xs => xs
  | .tup xs => xs
  | .dK kvs => kvs.map (·.2)
  | .ins _ _ fs => fs.map (·.2)
  | _ => []
def HPt (H : Hp) : V → Pth → V → Prop
  | v, [], u => v = u
  | v, j :: p, u => ∃ a o w, v = .ref a ∧ H a = some o ∧ (hoVals o)[j]? = some w ∧ HPt H w p u
theorem HPt.fn {H : Hp} : ∀ {p : Pth} {v u u' : V}, HPt H v p u → HPt H v p u' → u = u'
  | [], _, _, _, h, h' => h.symm.trans h'
  | j :: p, _, _, _, ⟨a, o, w, e, ho, hw, h⟩, ⟨a', o', w', e', ho', hw', h'⟩ => by
    subst e; cases e'
    rw [ho] at ho'; cases ho'
    rw [hw] at hw'; cases hw'
    exact HPt.fn h h'
theorem HPt.same {H H' : Hp} (s : Same H H') : ∀ {p : Pth} {v u : V}, HPt H v p u → HPt H' v p u
  | [], _, _, h => h
  | j :: p, _, _, ⟨a, o, w, e, ho, hw, h⟩ => ⟨a, o, w, e, s _ _ ho, hw, HPt.same s h⟩
theorem HPt.snoc {H : Hp} {j : Nat} {u : V} {a : Addr} {o : HO} (ho : H a = some o) (hj : (hoVals o)[j]? = some u) : ∀ {p : Pth} {v : V}, HPt H v p (.ref a) → HPt H v (p ++ [j]) u
  | [], _, h => ⟨a, o, u, h, ho, hj, rfl⟩
  | _ :: p, _, ⟨a', o', w, e, ho', hw, h⟩ => ⟨a', o', w, e, ho', hw, HPt.snoc ho hj h⟩
theorem HoK.vals {CA : Str → Option Addr} {H : Hp} {a : Addr} {vs : List V} {k : Kd} (h : HoK CA H a vs k) : ∃ o, H a = some o ∧ hoVals o = vs := by
  cases k with
  | lst f => exact ⟨_, h, rfl⟩
  | tup => exact ⟨_, h, rfl⟩
  | dct f ks => exact ⟨_, h.2, by simp [hoVals, List.map_snd_zip, h.1]⟩
  | ins f c ns => obtain ⟨l, C, dx, _, q⟩ := h; exact ⟨_, q, by simp [hoVals, List.map_snd_zip, l]⟩
/-- nothing frozen on the way -/
def spOk : D → Pth → Bool
  | _, [] => true
  | .nd k xs, j :: p => (k.fl == none || k.fl == some .own) && match xs[j]? with
    | some x => spOk x p
    | none => false
  | _, _ :: _ => false
/-- where a path leads; and another tree at its end -/
theorem Rp.path {G : Gd} : ∀ {p : Pth} {d e : D} {v : V} {os : Ct}, Rp G d v os → getP d p = some e → ∃ (u : V) (oe orr : Ct), HPt G.H v p u ∧ Rp G e u oe ∧ (∀ b, os b = oe b + orr b) ∧ ((∃ b, 0 < oe b) → spOk d p = true) ∧
    ∀ (e' : D) (oe' os' : Ct), Rp G e' u oe' → ((∀ b, oe' b = 0) ∨ spOk d p = true) → (∀ b, os' b = oe' b + orr b) → Rp G (setP d p e') v os'
  | [], d, e, v, os, r, h => by
    simp [getP] at h; subst h
    exact ⟨v, os, fun _ => 0, rfl, r, fun b => by simp, fun _ => by simp [spOk], fun e' oe' os' r' _ h' => by simp only [setP]; exact r'.ct fun b => by rw [h']; (try dsimp only at *); omega⟩
  | j :: p, d, e, v, os, r, h => by
    cases r with
    | un => simp [getP] at h
    | non => simp [getP] at h
    | bl => simp [getP] at h
    | int => simp [getP] at h
    | str => simp [getP] at h
    | scr => simp [getP] at h
    | nd hk rl n =>
      rename_i k xs a vs os'
      simp only [getP] at h
      cases q : xs[j]? with
      | none => rw [q] at h; simp at h
      | some x =>
        rw [q] at h; simp only at h
        obtain ⟨w, ox, oxr, hw, rx, hx, kx⟩ := rl.at q
        obtain ⟨u, oe, orr, hp, re, hoe, hsp, ke⟩ := Rp.path rx h
        obtain ⟨o, ho, hv⟩ := hk.vals
        have hp' : HPt G.H (.ref a) (j :: p) u := ⟨a, o, w, rfl, ho, by rw [hv]; exact hw, hp⟩
        have back : ∀ (e' : D) (oe' : Ct), Rp G e' u oe' → ((∀ b, oe' b = 0) ∨ spOk x p = true) → RpL G (xs.set j (setP x p e')) vs (fun b => oe' b + orr b + oxr b) := fun e' oe' re' c => by
          have rs := ke e' oe' (fun b => oe' b + orr b) re' c fun _ => rfl
          have := kx (setP x p e') w _ (fun b => oe' b + orr b + oxr b) rs fun b => rfl
          rwa [list_set_same hw] at this
        revert n
        generalize hfl : k.fl = f
        intro n
        match f, n with
        | none, n =>
          refine ⟨u, oe, fun b => orr b + oxr b, hp', re, fun b => by rw [n.2, hx, hoe]; (try dsimp only at *); omega, fun z => by simp [spOk, q, hfl, hsp z], fun e' oe' os'' re' c h' => ?_⟩
          simp only [setP, q]
          exact .nd hk (back e' oe' re' (c.imp id fun z => by simpa [spOk, q, hfl] using z)) (by rw [hfl]; exact ⟨n.1, fun b => by rw [h']; (try dsimp only at *); omega⟩)
        | some .own, n =>
          refine ⟨u, oe, fun b => one a b + orr b + oxr b, hp', re, fun b => by rw [n.2.2, hx, hoe]; (try dsimp only at *); omega, fun z => by simp [spOk, q, hfl, hsp z], fun e' oe' os'' re' c h' => ?_⟩
          simp only [setP, q]
          exact .nd hk (back e' oe' re' (c.imp id fun z => by simpa [spOk, q, hfl] using z)) (by rw [hfl]; exact ⟨n.1, n.2.1, fun b => by rw [h']; (try dsimp only at *); omega⟩)
        | some .bor, n =>
          have z : ∀ b, oe b = 0 ∧ orr b = 0 ∧ oxr b = 0 := fun b => by have := n.2.1 b; rw [hx, hoe] at this; (try dsimp only at *); omega
          refine ⟨u, oe, orr, hp', re, fun b => by rw [n.2.2, (z b).1, (z b).2.1], fun ⟨b, hb⟩ => by have := (z b).1; omega, fun e' oe' os'' re' c h' => ?_⟩
          have c0 : ∀ b, oe' b = 0 := c.elim id fun z => by simp [spOk, q, hfl] at z
          simp only [setP, q]
          exact .nd hk (back e' oe' re' (.inl c0)) (by rw [hfl]; exact ⟨n.1, fun b => by show oe' b + orr b + oxr b = 0; rw [c0, (z b).2.1, (z b).2.2], fun b => by rw [h', c0, (z b).2.1]⟩)
        | some .fz, n =>
          have z : ∀ b, oe b = 0 ∧ orr b = 0 ∧ oxr b = 0 := fun b => by have := n.2.2.1 b; rw [hx, hoe] at this; (try dsimp only at *); omega
          refine ⟨u, oe, orr, hp', re, fun b => by rw [n.2.2.2, (z b).1, (z b).2.1], fun ⟨b, hb⟩ => by have := (z b).1; omega, fun e' oe' os'' re' c h' => ?_⟩
          have c0 : ∀ b, oe' b = 0 := c.elim id fun z => by simp [spOk, q, hfl] at z
          simp only [setP, q]
          exact .nd hk (back e' oe' re' (.inl c0)) (by rw [hfl]; exact ⟨n.1, n.2.1, fun b => by show oe' b + orr b + oxr b = 0; rw [c0, (z b).2.1, (z b).2.2], fun b => by rw [h', c0, (z b).2.1]⟩)
end PV

namespace PV
open PySem L2
/-- what a body's run hangs on: the written part, the classes, the heap and the owned things at its entry, what the callers hold, the wish of exceptions -/
structure Cc where
  K : PySem.W.Frag
  CA : Str → Option Addr
  H0 : Hp
  os0 : Ct
  B : Addr → Prop
  W : WX
  fx : Nat → Option V
  n : Nat
def Cc.G (C : Cc) (Z : Addr → Prop) (H : Hp) : Gd := ⟨C.K, C.CA, H, Z, C.B⟩
abbrev gd : Option V → V := fun o => o.getD .non
/-- the state: the slots' trees st over σ, the temporaries' trees ds over vs -/
structure SR (C : Cc) (Z : Addr → Prop) (st ds : List D) (σ : St) (vs : List V) (H : Hp) (os : Ct) : Prop where
  rp : RpL (C.G Z H) (st ++ ds) (σ.map gd ++ vs) os
  nd : ∀ b, os b ≤ 1
  ln : st.length = σ.length
  sl : ∀ (i : Nat) (d : D), st[i]? = some d → d ≠ .un → ∃ v, σ[i]? = some (some v)
  kp : ∀ a o, C.H0 a = some o → C.os0 a = 0 → H a = some o
  fr : ∀ a, Z a → 0 < C.os0 a ∨ C.H0 a = none
  al : ∀ a, Z a → ∃ o, H a = some o ∧ ∀ xs, o ≠ .tup xs
  bb : ∀ a, C.B a → (∃ o, C.H0 a = some o) ∧ C.os0 a = 0
  fx : (∀ i v, C.fx i = some v → σ[i]? = some (some v)) ∧ σ.length = C.n
def SX (C : Cc) (st ds : List D) (σ : St) (vs : List V) (H : Hp) : Prop := ∃ Z os, SR C Z st ds σ vs H os
def getS (st : List D) (r : Nat) (p : Pth) : Option D := match st[r]? with
  | some d => getP d p
  | none => none
def setS (st : List D) (r : Nat) (p : Pth) (e : D) : List D := match st[r]? with
  | some d => st.set r (setP d p e)
  | none => st
def spS (st : List D) (r : Nat) (p : Pth) : Bool := match st[r]? with
  | some d => spOk d p
  | none => false
def HPs (H : Hp) (σ : St) (r : Nat) (p : Pth) (u : V) : Prop := ∃ v, σ[r]? = some (some v) ∧ HPt H v p u
mutual
def D.noOwn : D → Bool
  | .nd k xs => (k.fl != some .own) && D.noOwnL xs
  | _ => true
def D.noOwnL : List D → Bool
  | [] => true
  | d :: r => D.noOwn d && D.noOwnL r
end
mutual
theorem D.noOwn_set {g : Fl} (hg : g ≠ .own) : ∀ d : D, D.noOwn (D.set g d) = true
  | .un => rfl
  | .non => rfl
  | .bl _ => rfl
  | .int _ => rfl
  | .str _ => rfl
  | .scr _ => rfl
  | .nd k xs => by
    simp only [D.set, D.noOwn, D.noOwnL_set hg xs, Bool.and_true]
    by_cases h : k.fl = some .own
    · rw [if_pos h, Kd.fl_with h]; simpa using hg
    · rw [if_neg h]; simpa using h
theorem D.noOwnL_set {g : Fl} (hg : g ≠ .own) : ∀ xs : List D, D.noOwnL (D.setL g xs) = true
  | [] => rfl
  | d :: r => by simp only [D.setL, D.noOwnL, D.noOwn_set hg d, D.noOwnL_set hg r, Bool.and_self]
end
mutual
theorem Rp.zero {G : Gd} : ∀ {d : D} {v : V} {os : Ct}, Rp G d v os → D.noOwn d = true → ∀ b, os b = 0
  | _, _, _, .un h, _, b | _, _, _, .non h, _, b | _, _, _, .bl h, _, b | _, _, _, .int h, _, b | _, _, _, .str h, _, b | _, _, _, .scr _ h, _, b => h b
  | _, _, _, .nd (k := k) (a := a) (os := os) (os' := os') hk r n, h0, b => by
    simp only [D.noOwn, Bool.and_eq_true, bne_iff_ne] at h0
    have z := RpL.zero r h0.2 b
    revert n
    generalize hfl : k.fl = f
    intro n
    match f, n with
    | none, n => have := n.2 b; (try dsimp only at *); omega
    | some .own, n => exact absurd hfl h0.1
    | some .bor, n => exact n.2.2 b
    | some .fz, n => exact n.2.2.2 b
theorem RpL.zero {G : Gd} : ∀ {xs : List D} {vs : List V} {os : Ct}, RpL G xs vs os → D.noOwnL xs = true → ∀ b, os b = 0
  | _, _, _, .nil h, _, b => h b
  | _, _, _, .cons (o1 := o1) r t h, h0, b => by
    simp only [D.noOwnL, Bool.and_eq_true] at h0
    have := Rp.zero r h0.1 b
    have := RpL.zero t h0.2 b
    have := h b
    omega
end
/-- scalars -/
def vOf : D → Option V
  | .non => some .non
  | .bl b => some (.bl b)
  | .int i => some (.int i)
  | .str s => some (.str s)
  | _ => none
theorem rp_sc {G : Gd} {d : D} {v : V} (h : vOf d = some v) : Rp G d v (fun _ => 0) := by
  cases d <;> simp [vOf] at h <;> subst h
  · exact .non fun _ => rfl
  · exact .bl fun _ => rfl
  · exact .int fun _ => rfl
  · exact .str fun _ => rfl
theorem sc_of {G : Gd} {d : D} {v w : V} {os : Ct} (r : Rp G d v os) (h : vOf d = some w) : v = w := by
  cases d <;> simp [vOf] at h <;> subst h <;> cases r <;> rfl
theorem vOf_un {d : D} {v : V} (h : vOf d = some v) : d ≠ .un := by rintro rfl; simp [vOf] at h
theorem HPs.fn {H : Hp} {σ : St} {r : Nat} {p : Pth} {u u' : V} (h : HPs H σ r p u) (h' : HPs H σ r p u') : u = u' := by
  obtain ⟨v, e, h⟩ := h
  obtain ⟨v', e', h'⟩ := h'
  rw [e] at e'; cases e'
  exact h.fn h'
theorem HPs.same {H H' : Hp} {σ : St} {r : Nat} {p : Pth} {u : V} (s : Same H H') (h : HPs H σ r p u) : HPs H' σ r p u := by
  obtain ⟨v, e, h⟩ := h
  exact ⟨v, e, h.same s⟩
theorem getP_un {p : Pth} {e : D} (h : getP .un p = some e) : p = [] ∧ e = .un := by
  cases p with
  | nil => simp [getP] at h; exact ⟨rfl, h.symm⟩
  | cons j p => simp [getP] at h
section
variable {C : Cc} {Z Z' : Addr → Prop} {st ds : List D} {σ : St} {vs : List V} {H H' : Hp} {os os' : Ct}
theorem SR.sx (s : SR C Z st ds σ vs H os) : SX C st ds σ vs H := ⟨Z, os, s⟩
theorem SR.dn (s : SR C Z st ds σ vs H os) : ds.length = vs.length := by
  have := s.rp.len
  simp [s.ln] at this; exact this
theorem SR.cut (s : SR C Z st ds σ vs H os) : ∃ o1 o2, RpL (C.G Z H) st (σ.map gd) o1 ∧ RpL (C.G Z H) ds vs o2 ∧ ∀ b, os b = o1 b + o2 b :=
  RpL.cut (by simp [s.ln]) s.rp
/-- the same state over other slots, temporaries -/
theorem SR.mk2 (s : SR C Z st ds σ vs H os) {st' ds' : List D} {vs' : List V} {o1 o2 os' : Ct} (r1 : RpL (C.G Z H) st' (σ.map gd) o1) (r2 : RpL (C.G Z H) ds' vs' o2) (h : ∀ b, os' b = o1 b + o2 b) (hl : ∀ b, os' b ≤ os b)
    (sl : ∀ (i : Nat) (d : D), st'[i]? = some d → d ≠ .un → ∃ v, σ[i]? = some (some v)) : SR C Z st' ds' σ vs' H os' :=
  ⟨r1.app r2 h, fun b => Nat.le_trans (hl b) (s.nd b), by have := r1.len; simpa using this, sl, s.kp, s.fr, s.al, s.bb, s.fx⟩
theorem SX.pushc {d : D} {v : V} (s : SX C st ds σ vs H) (h : vOf d = some v) : SX C st (ds ++ [d]) σ (vs ++ [v]) H := by
  obtain ⟨Z, os, s⟩ := s
  obtain ⟨o1, o2, r1, r2, e⟩ := s.cut
  exact (s.mk2 r1 (r2.app (os := o2) (RpL.one (rp_sc h)) fun b => by simp) e (fun b => Nat.le_refl _) s.sl).sx
/-- nothing that stood is changed -/
theorem SR.ext (s : SR C Z st ds σ vs H os) (e : Same H H') : SR C Z st ds σ vs H' os :=
  ⟨s.rp.mono ⟨rfl, rfl, fun b o q _ => e b o q, fun _ _ _ z => z, fun b p => (s.rp.dom b p).2, fun _ _ _ _ z => z⟩, s.nd, s.ln, s.sl, fun a o q z => e a o (s.kp a o q z), s.fr, fun a z => let ⟨o, q, w⟩ := s.al a z; ⟨o, e a o q, w⟩, s.bb, s.fx⟩
theorem SX.ext (s : SX C st ds σ vs H) (e : Same H H') : SX C st ds σ vs H' := let ⟨Z, os, s⟩ := s; (s.ext e).sx
/-- temporaries dropped, kept -/
theorem SX.drop {ds' : List D} {vs' : List V} (s : SX C st (ds ++ ds') σ (vs ++ vs') H) (hl : ds.length = vs.length) : SX C st ds σ vs H := by
  obtain ⟨Z, os, s⟩ := s
  obtain ⟨o1, o2, r1, r2, e⟩ := s.cut
  obtain ⟨o3, o4, r3, r4, e'⟩ := RpL.cut hl r2
  exact (s.mk2 (os' := fun b => o1 b + o3 b) r1 r3 (fun _ => rfl) (fun b => by (try dsimp only); rw [e, e']; (try dsimp only at *); omega) s.sl).sx
theorem SX.pop {d : D} {v : V} (s : SX C st (ds ++ [d]) σ (vs ++ [v]) H) : SX C st ds σ vs H := by
  obtain ⟨Z, os, t⟩ := id s
  exact s.drop (by have := t.dn; simp at this; exact this)
/-- the last temporary as it lies -/
theorem SR.top {d : D} {v : V} (s : SR C Z st (ds ++ [d]) σ (vs ++ [v]) H os) : ∃ o1 o2 o3, RpL (C.G Z H) st (σ.map gd) o1 ∧ RpL (C.G Z H) ds vs o2 ∧ Rp (C.G Z H) d v o3 ∧ ∀ b, os b = o1 b + o2 b + o3 b := by
  obtain ⟨o1, o2, r1, r2, e⟩ := s.cut
  obtain ⟨o3, o4, r3, r4, e'⟩ := RpL.cut (by have := s.dn; simp at this; exact this) r2
  exact ⟨o1, o3, o4, r1, r3, r4.of1, fun b => by rw [e, e']; (try dsimp only at *); omega⟩
theorem map_set_gd (σ : St) (i : Nat) (v : V) : (σ.set i (some v)).map gd = (σ.map gd).set i v := by
  rw [List.map_set]; rfl
/-- the last temporary into a slot -/
theorem SX.toSlot {d : D} {v : V} {i : Nat} (s : SX C st (ds ++ [d]) σ (vs ++ [v]) H) (hi : i < st.length) (hx : C.fx i = none) : SX C (st.set i d) ds (σ.set i (some v)) vs H := by
  obtain ⟨Z, os, s⟩ := s
  obtain ⟨o1, o2, o3, r1, r2, r3, e⟩ := s.top
  obtain ⟨d0, h0⟩ : ∃ d0, st[i]? = some d0 := ⟨st[i], by simp [hi]⟩
  obtain ⟨w, od, orr, hw, rd, hod, k⟩ := r1.at h0
  have r1' := k d v o3 (fun b => o3 b + orr b) r3 fun _ => rfl
  refine ⟨Z, fun b => o3 b + orr b + o2 b, (r1'.app r2 fun _ => rfl : RpL _ _ _ _) |> fun z => ?_, ?_, by simp [s.ln], ?_, s.kp, s.fr, s.al, s.bb, ⟨fun j x hj => by
      have : j ≠ i := fun z => by subst z; rw [hx] at hj; cases hj
      rw [List.getElem?_set_ne (Ne.symm this)]; exact s.fx.1 j x hj, by rw [List.length_set]; exact s.fx.2⟩⟩
  · rw [map_set_gd]; exact z
  · intro b; have := s.nd b; rw [e, hod] at this; (try dsimp only); (try dsimp only at *); omega
  · intro j x hj hx
    by_cases q : j = i
    · subst q
      exact ⟨v, by rw [List.getElem?_set_self (by rw [← s.ln]; exact hi)]⟩
    · rw [List.getElem?_set_ne (Ne.symm q)] at hj
      rw [List.getElem?_set_ne (Ne.symm q)]
      exact s.sl j x hj hx
/-- a slot forgotten -/
theorem SX.unSlot {i : Nat} (s : SX C st ds σ vs H) : SX C (st.set i .un) ds σ vs H := by
  obtain ⟨Z, os, s⟩ := s
  obtain ⟨o1, o2, r1, r2, e⟩ := s.cut
  by_cases hi : i < st.length
  · obtain ⟨d0, h0⟩ : ∃ d0, st[i]? = some d0 := ⟨st[i], by simp [hi]⟩
    obtain ⟨w, od, orr, hw, rd, hod, k⟩ := r1.at h0
    have r1' := k .un w (fun _ => 0) orr (.un fun _ => rfl) fun b => by simp
    rw [list_set_same hw] at r1'
    refine (s.mk2 (os' := fun b => orr b + o2 b) r1' r2 (fun _ => rfl) (fun b => by (try dsimp only); rw [e, hod]; (try dsimp only at *); omega) fun j x hj hx => ?_).sx
    by_cases q : j = i
    · subst q
      rw [List.getElem?_set_self hi] at hj; cases hj; exact absurd rfl hx
    · rw [List.getElem?_set_ne (Ne.symm q)] at hj
      exact s.sl j x hj hx
  · rw [List.set_eq_of_length_le (Nat.le_of_not_lt hi)]; exact s.sx
/-- a slot's tree becomes a temporary -/
theorem SX.move {i : Nat} {d : D} {v : V} (s : SX C st ds σ vs H) (h : st[i]? = some d) (hv : σ[i]? = some (some v)) : SX C (st.set i .un) (ds ++ [d]) σ (vs ++ [v]) H := by
  obtain ⟨Z, os, s⟩ := s
  obtain ⟨o1, o2, r1, r2, e⟩ := s.cut
  obtain ⟨w, od, orr, hw, rd, hod, k⟩ := r1.at h
  have ew : w = v := by simp [hv] at hw; exact hw.symm
  subst ew
  have r1' := k .un w (fun _ => 0) orr (.un fun _ => rfl) fun b => by simp
  rw [list_set_same hw] at r1'
  refine (s.mk2 (os' := os) (o2 := fun b => o2 b + od b) r1' (r2.app (RpL.one rd) fun _ => rfl) (fun b => by rw [e, hod]; (try dsimp only at *); omega) (fun _ => Nat.le_refl _) fun j x hj hx => ?_).sx
  by_cases q : j = i
  · subst q; exact ⟨w, hv⟩
  · rw [List.getElem?_set_ne (Ne.symm q)] at hj
    exact s.sl j x hj hx
theorem SR.hv {r : Nat} {p : Pth} {e : D} (s : SR C Z st ds σ vs H os) (h : getS st r p = some e) (hu : e ≠ .un) : ∃ v, σ[r]? = some (some v) := by
  unfold getS at h
  cases h0 : st[r]? with
  | none => rw [h0] at h; simp at h
  | some d =>
    rw [h0] at h; simp only at h
    exact s.sl r d h0 fun z => hu (by subst z; exact (getP_un h).2)
/-- where a path of a slot leads -/
theorem SR.path {r : Nat} {p : Pth} {e : D} (s : SR C Z st ds σ vs H os) (h : getS st r p = some e) (hv : ∃ v, σ[r]? = some (some v)) : ∃ (u : V) (oe orr o2 : Ct), HPs H σ r p u ∧ Rp (C.G Z H) e u oe ∧ RpL (C.G Z H) ds vs o2 ∧ (∀ b, os b = oe b + orr b + o2 b) ∧ ((∃ b, 0 < oe b) → spS st r p = true) ∧
    ∀ (e' : D) (oe' o1' : Ct), Rp (C.G Z H) e' u oe' → ((∀ b, oe' b = 0) ∨ spS st r p = true) → (∀ b, o1' b = oe' b + orr b) → RpL (C.G Z H) (setS st r p e') (σ.map gd) o1' := by
  obtain ⟨o1, o2, r1, r2, e1⟩ := s.cut
  unfold getS at h
  cases h0 : st[r]? with
  | none => rw [h0] at h; simp at h
  | some d =>
    rw [h0] at h; simp only at h
    obtain ⟨w, od, orr, hw, rd, hod, k⟩ := r1.at h0
    obtain ⟨u, oe, or2, hp, re, hoe, hsp, ke⟩ := rd.path h
    obtain ⟨v, hv⟩ := hv
    have ew : w = v := by simp [hv] at hw; exact hw.symm
    subst ew
    have es : spS st r p = spOk d p := by unfold spS; rw [h0]
    refine ⟨u, oe, fun b => or2 b + orr b, o2, ⟨w, hv, hp⟩, re, r2, fun b => by rw [e1, hod, hoe]; (try dsimp only at *); omega, fun z => by rw [es]; exact hsp z, fun e' oe' o1' r' c h' => ?_⟩
    have := k (setP d p e') w _ o1' (ke e' oe' (fun b => oe' b + or2 b) r' (by rw [← es]; exact c) fun _ => rfl) fun b => by have := h' b; (try dsimp only at *); omega
    rw [list_set_same hw] at this
    unfold setS; rw [h0]; exact this
/-- slots keep their values -/
theorem SR.slS {r : Nat} {p : Pth} {e : D} (s : SR C Z st ds σ vs H os) (hv : ∃ v, σ[r]? = some (some v)) : ∀ (i : Nat) (d : D), (setS st r p e)[i]? = some d → d ≠ .un → ∃ v, σ[i]? = some (some v) := by
  intro i d hd hn
  unfold setS at hd
  cases h0 : st[r]? with
  | none => rw [h0] at hd; exact s.sl i d hd hn
  | some x =>
    rw [h0] at hd; simp only at hd
    by_cases q : i = r
    · subst q; exact hv
    · rw [List.getElem?_set_ne (Ne.symm q)] at hd
      exact s.sl i d hd hn
theorem getP_set : ∀ {p : Pth} {d e e' : D}, getP d p = some e → getP (setP d p e') p = some e'
  | [], d, e, e', h => by simp [setP, getP]
  | j :: p, d, e, e', h => by
    cases d with
    | nd k xs =>
      simp only [getP] at h
      cases q : xs[j]? with
      | none => rw [q] at h; simp at h
      | some x =>
        rw [q] at h; simp only at h
        have hj : j < xs.length := (List.getElem?_eq_some_iff.mp q).1
        simp only [setP, q, getP, List.getElem?_set_self hj]
        exact getP_set h
    | _ => simp [getP] at h
theorem getS_set {r : Nat} {p : Pth} {e e' : D} (h : getS st r p = some e) : getS (setS st r p e') r p = some e' := by
  unfold getS setS at *
  cases h0 : st[r]? with
  | none => rw [h0] at h; simp at h
  | some d =>
    rw [h0] at h; simp only at h ⊢
    rw [List.getElem?_set_self (List.getElem?_eq_some_iff.mp h0).1]
    exact getP_set h
theorem setP_set : ∀ {p : Pth} {d e e' e'' : D}, getP d p = some e → setP (setP d p e') p e'' = setP d p e''
  | [], d, e, e', e'', h => by simp [setP]
  | j :: p, d, e, e', e'', h => by
    cases d with
    | nd k xs =>
      simp only [getP] at h
      cases q : xs[j]? with
      | none => rw [q] at h; simp at h
      | some x =>
        rw [q] at h; simp only at h
        have hj : j < xs.length := (List.getElem?_eq_some_iff.mp q).1
        simp only [setP, q, List.getElem?_set_self hj, List.set_set]
        rw [setP_set h]
    | _ => simp [getP] at h
theorem setS_set {r : Nat} {p : Pth} {e e' e'' : D} (h : getS st r p = some e) : setS (setS st r p e') r p e'' = setS st r p e'' := by
  unfold getS at h
  unfold setS
  cases h0 : st[r]? with
  | none => rw [h0] at h; simp at h
  | some d =>
    rw [h0] at h; simp only at h ⊢
    simp only [List.getElem?_set_self (List.getElem?_eq_some_iff.mp h0).1, List.set_set]
    rw [setP_set h]
theorem spP_set : ∀ {p : Pth} {d e e' : D}, getP d p = some e → spOk (setP d p e') p = spOk d p
  | [], d, e, e', h => by simp [spOk]
  | j :: p, d, e, e', h => by
    cases d with
    | nd k xs =>
      simp only [getP] at h
      cases q : xs[j]? with
      | none => rw [q] at h; simp at h
      | some x =>
        rw [q] at h; simp only at h
        have hj : j < xs.length := (List.getElem?_eq_some_iff.mp q).1
        simp only [setP, q, spOk, List.getElem?_set_self hj, spP_set h]
    | _ => simp [getP] at h
theorem spS_set {r : Nat} {p : Pth} {e e' : D} (h : getS st r p = some e) : spS (setS st r p e') r p = spS st r p := by
  unfold getS at h
  unfold setS spS
  cases h0 : st[r]? with
  | none => rw [h0] at h; simp at h
  | some d =>
    rw [h0] at h; simp only at h ⊢
    simp only [List.getElem?_set_self (List.getElem?_eq_some_iff.mp h0).1]
    exact spP_set h
/-- with less that may change -/
theorem SR.lessZ (s : SR C Z st ds σ vs H os) (hz : ∀ a, Z' a → Z a) (ho : ∀ b, 0 < os b → Z' b) : SR C Z' st ds σ vs H os :=
  ⟨s.rp.mono ⟨rfl, rfl, fun _ _ q _ => q, fun _ _ _ z => fun q => z (hz _ q), fun b p => ⟨ho b p, (s.rp.dom b p).2.2⟩, fun _ _ _ _ z => z⟩, s.nd, s.ln, s.sl, s.kp, fun a z => s.fr a (hz a z), fun a z => s.al a (hz a z), s.bb, s.fx⟩
/-- what a path leads to, taken out: it is a temporary -/
theorem SR.take {r : Nat} {p : Pth} {e : D} {u : V} (s : SR C Z st ds σ vs H os) (h : getS st r p = some e) (hp : HPs H σ r p u) : SR C Z (setS st r p .un) (ds ++ [e]) σ (vs ++ [u]) H os := by
  have hv : ∃ v, σ[r]? = some (some v) := let ⟨v, e, _⟩ := hp; ⟨v, e⟩
  obtain ⟨u', oe, orr, o2, hp', re, r2, ho, hsp, k⟩ := s.path h hv
  have eu := hp.fn hp'
  subst eu
  exact s.mk2 (os' := os) (o2 := fun b => o2 b + oe b) (k .un (fun _ => 0) orr (.un fun _ => rfl) (.inl fun _ => rfl) fun b => by simp) (r2.app (RpL.one re) fun _ => rfl) (fun b => by rw [ho]; (try dsimp only at *); omega) (fun _ => Nat.le_refl _) (s.slS hv)
/-- the last temporary laid at a path, where there was nothing -/
theorem SR.lay {r : Nat} {p : Pth} {e : D} {u : V} (s : SR C Z st (ds ++ [e]) σ (vs ++ [u]) H os) (h : getS st r p = some .un) (hp : HPs H σ r p u) (hs : D.noOwn e = true ∨ spS st r p = true) : SR C Z (setS st r p e) ds σ vs H os := by
  have hv : ∃ v, σ[r]? = some (some v) := let ⟨v, e, _⟩ := hp; ⟨v, e⟩
  obtain ⟨u', oe, orr, o2, hp', re, r2, ho, hsp, k⟩ := s.path h hv
  have eu := hp.fn hp'
  subst eu
  have z : ∀ b, oe b = 0 := by cases re with | un z => exact z
  obtain ⟨o3, o4, r3, r4, e'⟩ := RpL.cut (by have := s.dn; simp at this; exact this) r2
  refine s.mk2 (os' := os) (o1 := fun b => o4 b + orr b) (k e o4 _ r4.of1 (hs.imp (fun q => r4.of1.zero q) id) fun _ => rfl) r3 (fun b => by rw [ho, z, e']; (try dsimp only at *); omega) (fun _ => Nat.le_refl _) (s.slS hv)
/-- what a path leads to, frozen there, its alias a temporary -/
theorem SX.share {r : Nat} {p : Pth} {e : D} {u : V} (s : SX C st ds σ vs H) (h : getS st r p = some e) (hp : HPs H σ r p u) : SX C (setS st r p e.frz) (ds ++ [e.frz]) σ (vs ++ [u]) H := by
  obtain ⟨Z, os, s⟩ := s
  have t := s.take h hp
  obtain ⟨o1, o2, o3, r1, r2, r3, e1⟩ := t.top
  have hz : ∀ b, 0 < o1 b + o2 b → Z b ∧ o3 b = 0 := fun b q => ⟨(t.rp.dom b (by rw [e1]; (try dsimp only at *); omega)).2.1, by have := t.nd b; rw [e1] at this; (try dsimp only at *); omega⟩
  have F : Gd.Fr (C.G Z H) (C.G (fun a => Z a ∧ o3 a = 0) H) .fz o3 := ⟨rfl, rfl, fun _ _ q _ => q, fun _ _ _ z => fun q => z q.1, fun b p => ⟨fun q => by have := q.2; (try dsimp only at *); omega, fun _ => (r3.dom b p).2.2⟩, fun _ _ _ _ z => z, by decide⟩
  have rf : Rp (C.G (fun a => Z a ∧ o3 a = 0) H) e.frz u (fun _ => 0) := r3.frz F
  have t0 : SR C Z (setS st r p .un) ds σ vs H (fun b => o1 b + o2 b) := t.mk2 r1 r2 (fun _ => rfl) (fun b => by rw [e1]; (try dsimp only at *); omega) t.sl
  have t1 := t0.lessZ (Z' := fun a => Z a ∧ o3 a = 0) (fun _ q => q.1) hz
  obtain ⟨p1, p2, q1, q2, q3⟩ := t1.cut
  have t2 : SR C (fun a => Z a ∧ o3 a = 0) (setS st r p .un) ((ds ++ [e.frz]) ++ [e.frz]) σ ((vs ++ [u]) ++ [u]) H (fun b => o1 b + o2 b) :=
    t1.mk2 (o2 := p2) q1 ((q2.app (os := p2) (RpL.one rf) fun b => by simp).app (RpL.one rf) fun b => by simp) q3 (fun _ => Nat.le_refl _) t1.sl
  have := t2.lay (getS_set h) hp (.inl (D.noOwn_set (by decide) e))
  rw [setS_set h] at this; exact this.sx
end
end PV

namespace PV
open PySem L2
theorem Rp.hpt {G G' : Gd} : ∀ {p : Pth} {d e : D} {v u : V} {os : Ct}, Rp G d v os → getP d p = some e → HPt G.H v p u → Gd.To G G' os → HPt G'.H v p u
  | [], _, _, _, _, _, _, _, h, _ => h
  | j :: p, d, e, v, u, os, r, h, hp, t => by
    cases r with
    | un => simp [getP] at h
    | non => simp [getP] at h
    | bl => simp [getP] at h
    | int => simp [getP] at h
    | str => simp [getP] at h
    | scr => simp [getP] at h
    | nd hk rl n =>
      rename_i k xs a vs os'
      simp only [getP] at h
      cases q : xs[j]? with
      | none => rw [q] at h; simp at h
      | some x =>
        rw [q] at h; simp only at h
        obtain ⟨a', o, w, e1, ho, hw, hp⟩ := hp
        cases e1
        obtain ⟨w', ox, oxr, hw', rx, hx, _⟩ := rl.at q
        obtain ⟨o', ho', hv⟩ := hk.vals
        rw [ho] at ho'; cases ho'
        rw [hv] at hw; rw [hw] at hw'; cases hw'
        have sub : ∀ b, 0 < ox b → 0 < os b := fun b hb => by
          revert n
          generalize k.fl = f
          intro n
          match f, n with
          | none, n => have := n.2 b; have := hx b; (try dsimp only at *); omega
          | some .own, n => have := n.2.2 b; have := hx b; (try dsimp only at *); omega
          | some .bor, n => have := n.2.1 b; have := hx b; (try dsimp only at *); omega
          | some .fz, n => have := n.2.2.1 b; have := hx b; (try dsimp only at *); omega
        have st : 0 < os a ∨ ¬ G.Z a := by
          revert n
          generalize k.fl = f
          intro n
          match f, n with
          | none, n => exact .inr n.1
          | some .own, n => exact .inl (by have := n.2.2 a; rw [one_self] at this; (try dsimp only at *); omega)
          | some .bor, n => exact .inr n.1
          | some .fz, n => exact .inr n.1
        exact ⟨a, o, w, rfl, t.h a o ho st, by rw [hv]; exact hw, Rp.hpt rx h hp (t.sub sub)⟩
theorem HoK.notup {CA : Str → Option Addr} {H : Hp} {a : Addr} {vs : List V} {k : Kd} {o : HO} (h : HoK CA H a vs k) (hf : k.fl = some .own) (e : H a = some o) : ∀ xs, o ≠ .tup xs := by
  intro xs z
  subst z
  cases k with
  | lst f => rw [show H a = some (.lst vs) from h] at e; cases e
  | tup => cases hf
  | dct f ks => rw [h.2] at e; cases e
  | ins f c ns => obtain ⟨_, _, _, _, q⟩ := h; rw [q] at e; cases e
section
variable {C : Cc} {Z Z' : Addr → Prop} {st ds : List D} {σ : St} {vs : List V} {H H' : Hp} {os os' : Ct}
theorem SR.to (s : SR C Z st ds σ vs H os) {G' : Gd} (k : G'.K = C.K) (ca : G'.CA = C.CA) (h : ∀ b o, H b = some o → (0 < os b ∨ ¬ Z b) → G'.H b = some o) (z : ∀ b o, H b = some o → ¬ Z b → ¬ G'.Z b) (o : ∀ b, 0 < os b → G'.Z b) (b : G'.B = C.B) : Gd.To (C.G Z H) G' os :=
  ⟨k, ca, h, z, fun x p => ⟨o x p, by rw [b]; exact (s.rp.dom x p).2.2⟩, fun _ _ _ _ q => by rw [b]; exact q⟩
/-- a new thing is laid, with the last temporaries as its items -/
theorem SX.alloc {k : Kd} {xs : List D} {ws : List V} {p : Addr} {o : HO} (s : SX C st (ds ++ xs) σ (vs ++ ws) H) (hl : ds.length = vs.length) (hp : H p = none) (hk : HoK C.CA (upd H p o) p ws k) (hf : k.fl = none ∨ k.fl = some .own) :
    SX C st (ds ++ [.nd k xs]) σ (vs ++ [.ref p]) (upd H p o) := by
  obtain ⟨Z, os, s⟩ := s
  have hne : ∀ b u, H b = some u → b ≠ p := fun b u e z => by rw [z, hp] at e; cases e
  have nz : ¬ Z p := fun z => by obtain ⟨u, e, _⟩ := s.al p z; exact hne p u e rfl
  have np : ∀ b, 0 < os b → b ≠ p := fun b q => by obtain ⟨u, e⟩ := (s.rp.dom b q).1; exact hne b u e
  obtain ⟨o1, o2, r1, r2, e⟩ := s.cut
  obtain ⟨o3, o4, r3, r4, e'⟩ := RpL.cut hl r2
  have nB : ¬ C.B p := fun z => by
    obtain ⟨⟨u, q⟩, q2⟩ := s.bb p z
    exact hne p u (s.kp p u q q2) rfl
  have keep : ∀ b u, H b = some u → upd H p o b = some u := fun b u q => by rw [upd_ne (hne b u q)]; exact q
  rcases hf with hf | hf
  · have T : Gd.To (C.G Z H) (C.G Z (upd H p o)) os := s.to rfl rfl (fun b u q _ => keep b u q) (fun _ _ _ z => z) (fun b q => (s.rp.dom b q).2.1) rfl
    refine ⟨Z, os, (r1.mono (T.sub fun b q => by rw [e]; omega)).app (o2 := fun b => o3 b + o4 b) ((r3.mono (T.sub fun b q => by rw [e, e']; omega)).app (RpL.one (.nd hk (r4.mono (T.sub fun b q => by rw [e, e']; omega)) (by rw [hf]; exact ⟨nz, fun _ => rfl⟩))) fun _ => rfl) (fun b => by rw [e, e']), s.nd, s.ln, s.sl, fun a u q z => keep a u (s.kp a u q z), s.fr, fun a z => let ⟨u, q, w⟩ := s.al a z; ⟨u, keep a u q, w⟩, s.bb, s.fx⟩
  · have T : Gd.To (C.G Z H) (C.G (fun b => Z b ∨ b = p) (upd H p o)) os := s.to rfl rfl (fun b u q _ => keep b u q) (fun b u q z => fun w => w.elim z (hne b u q)) (fun b q => .inl (s.rp.dom b q).2.1) rfl
    refine ⟨fun b => Z b ∨ b = p, fun b => os b + one p b, (r1.mono (T.sub fun b q => by rw [e]; omega)).app (o2 := fun b => o3 b + (one p b + o4 b)) ((r3.mono (T.sub fun b q => by rw [e, e']; omega)).app (RpL.one (.nd hk (r4.mono (T.sub fun b q => by rw [e, e']; omega)) (by rw [hf]; exact ⟨.inr rfl, nB, fun _ => rfl⟩))) fun _ => rfl) (fun b => by rw [e, e']; (try dsimp only); omega), ?_, s.ln, s.sl, fun a u q z => keep a u (s.kp a u q z), ?_, ?_, s.bb, s.fx⟩
    · intro b
      by_cases q : b = p
      · subst q
        have : os b = 0 := Nat.eq_zero_of_not_pos fun z => np b z rfl
        rw [this, one_self]; omega
      · rw [one_ne q]; exact s.nd b
    · rintro a (z | rfl)
      · exact s.fr a z
      · by_cases q2 : C.os0 a = 0
        · right
          cases q : C.H0 a with
          | none => rfl
          | some u => exact absurd rfl (hne a u (s.kp a u q q2))
        · left; omega
    · rintro a (z | rfl)
      · let ⟨u, q, w⟩ := s.al a z; exact ⟨u, keep a u q, w⟩
      · exact ⟨o, upd_same, hk.notup hf upd_same⟩
theorem SR.hps {G' : Gd} {r : Nat} {p : Pth} {e : D} {u : V} (s : SR C Z st ds σ vs H os) (h : getS st r p = some e) (hp : HPs H σ r p u) (t : Gd.To (C.G Z H) G' os) : HPs G'.H σ r p u := by
  obtain ⟨v, hv, hp⟩ := hp
  refine ⟨v, hv, ?_⟩
  obtain ⟨o1, o2, r1, r2, e1⟩ := s.cut
  unfold getS at h
  cases h0 : st[r]? with
  | none => rw [h0] at h; simp at h
  | some d =>
    rw [h0] at h; simp only at h
    obtain ⟨w, od, orr, hw, rd, hod, k⟩ := r1.at h0
    have ew : w = v := by simp [hv] at hw; exact hw.symm
    subst ew
    exact rd.hpt h hp (t.sub fun b q => by rw [e1, hod]; omega)
/-- an owned node at a path is changed: its new items come from its old ones and from the last temporaries -/
theorem SX.mut {k k' : Kd} {xs xs' new : List D} {ws ws' nw : List V} {r : Nat} {p : Pth} {a : Addr} {o' : HO} (s : SX C st (ds ++ new) σ (vs ++ nw) H) (hl : ds.length = vs.length) (h : getS st r p = some (.nd k xs)) (hf : k.fl = some .own) (hp : HPs H σ r p (.ref a)) (hk : HoK C.CA H a ws k)
    (hk' : HoK C.CA (upd H a o') a ws' k') (hf' : k'.fl = some .own)
    (build : ∀ (G : Gd) (ox on : Ct), RpL G xs ws ox → RpL G new nw on → ∃ ox', RpL G xs' ws' ox' ∧ ∀ b, ox' b ≤ ox b + on b) : SX C (setS st r p (.nd k' xs')) ds σ vs (upd H a o') := by
  obtain ⟨Z, os, s⟩ := s
  have hsp : spS st r p = true := by
    obtain ⟨u', oe, orr, o2, hp', re, r2, ho, hsp, _⟩ := s.path h (let ⟨v, e, _⟩ := hp; ⟨v, e⟩)
    have := hp.fn hp'; subst this
    cases re with
    | nd hk2 rl n =>
      rw [hf] at n
      exact hsp ⟨a, by have := n.2.2 a; rw [one_self] at this; omega⟩
  have t := s.take h hp
  obtain ⟨o1, o2, o3, r1, r2, r3, e⟩ := t.top
  obtain ⟨o4, o5, r4, r5, e'⟩ := RpL.cut hl r2
  cases r3 with
  | nd hk2 rl n =>
    rename_i ws2 ox
    have ew : ws2 = ws := by
      obtain ⟨q1, q2, q3⟩ := hk2.vals
      obtain ⟨q4, q5, q6⟩ := hk.vals
      have q2' : H a = some q1 := q2
      rw [q2'] at q5; cases q5; exact q3.symm.trans q6
    subst ew
    rw [hf] at n
    obtain ⟨nz, nb, on⟩ := n
    have eq : ∀ b, os b = o1 b + o4 b + o5 b + one a b + ox b := fun b => by rw [e, e', on]; omega
    have za : o1 a + o4 a + o5 a + ox a = 0 := by have := s.nd a; rw [eq, one_self] at this; omega
    have keep : ∀ b u, b ≠ a → H b = some u → upd H a o' b = some u := fun b u q z => by rw [upd_ne q]; exact z
    have T : Gd.To (C.G Z H) (C.G Z (upd H a o')) (fun b => o1 b + o4 b + o5 b + ox b) :=
      ⟨rfl, rfl, fun b u q z => keep b u (fun y => by
        subst y
        rcases z with z | z
        · (try dsimp only at z); omega
        · exact z nz) q, fun b u q z => z, fun b q => (s.rp.dom b (by rw [eq]; (try dsimp only at *); omega)).2, fun _ _ _ _ q => q⟩
    obtain ⟨ox', rx', hx'⟩ := build _ _ _ (rl.mono (T.sub fun b q => by (try dsimp only); omega)) (r5.mono (T.sub fun b q => by (try dsimp only); omega))
    have node : Rp (C.G Z (upd H a o')) (.nd k' xs') (.ref a) (fun b => one a b + ox' b) := .nd hk' rx' (by rw [hf']; exact ⟨nz, nb, fun _ => rfl⟩)
    have t2 : SR C Z (setS st r p .un) (ds ++ [.nd k' xs']) σ (vs ++ [.ref a]) (upd H a o') (fun b => o1 b + o4 b + (one a b + ox' b)) :=
      ⟨(r1.mono (T.sub fun b q => by (try dsimp only); omega)).app (o2 := fun b => o4 b + (one a b + ox' b)) ((r4.mono (T.sub fun b q => by (try dsimp only); omega)).app (RpL.one node) fun _ => rfl) (fun b => by (try dsimp only); omega),
        fun b => by have := s.nd b; rw [eq] at this; have := hx' b; (try dsimp only); omega, t.ln, t.sl, fun b u q z => keep b u (fun y => by
          subst y
          rcases s.fr b nz with w | w
          · omega
          · rw [q] at w; cases w) (s.kp b u q z), s.fr, fun b z => by
            by_cases q : b = a
            · subst q; exact ⟨o', upd_same, hk'.notup hf' upd_same⟩
            · obtain ⟨u, w, w2⟩ := s.al b z; exact ⟨u, keep b u q w, w2⟩, s.bb, s.fx⟩
    have t0 : SR C Z (setS st r p .un) ds σ vs H (fun b => o1 b + o4 b) := t.mk2 r1 r4 (fun _ => rfl) (fun b => by rw [eq]; (try dsimp only); omega) t.sl
    have hp2 : HPs (upd H a o') σ r p (.ref a) := t0.hps (G' := C.G Z (upd H a o')) (getS_set h) hp (T.sub fun b q => by (try dsimp only at *); omega)
    have := t2.lay (getS_set h) hp2 (.inr (by rw [spS_set h]; exact hsp))
    rw [setS_set h] at this; exact this.sx
/-- a node's items frozen, their aliases the last temporaries -/
theorem SX.shareK {k : Kd} {xs : List D} {ws : List V} {r : Nat} {p : Pth} {a : Addr} (s : SX C st ds σ vs H) (h : getS st r p = some (.nd k xs)) (hp : HPs H σ r p (.ref a)) (hk : HoK C.CA H a ws k) :
    SX C (setS st r p (.nd k (D.setL .fz xs))) (ds ++ D.setL .fz xs) σ (vs ++ ws) H := by
  obtain ⟨Z, os, s⟩ := s
  obtain ⟨u', oe, orr, oq, hp', re, rq, ho, hsp, kk⟩ := s.path h (let ⟨v, e, _⟩ := hp; ⟨v, e⟩)
  have := hp.fn hp'; subst this
  cases re with
  | nd hk2 rl n =>
    rename_i ws2 ox
    have ew : ws2 = ws := by
      obtain ⟨q1, q2, q3⟩ := hk2.vals
      obtain ⟨q4, q5, q6⟩ := hk.vals
      have q2' : H a = some q1 := q2
      rw [q2'] at q5; cases q5; exact q3.symm.trans q6
    subst ew
    -- what the node itself owns
    have sub : ∀ b, ox b ≤ oe b := fun b => by
      revert n
      generalize k.fl = f
      intro n
      match f, n with
      | none, n => have := n.2 b; omega
      | some .own, n => have := n.2.2 b; omega
      | some .bor, n => have := n.2.1 b; omega
      | some .fz, n => have := n.2.2.1 b; omega
    have t0 : SR C Z (setS st r p .un) ds σ vs H (fun b => orr b + oq b) := s.mk2 (kk .un (fun _ => 0) orr (.un fun _ => rfl) (.inl fun _ => rfl) fun b => by simp) rq (fun _ => rfl) (fun b => by rw [ho]; (try dsimp only); omega) (s.slS (let ⟨v, e, _⟩ := hp; ⟨v, e⟩))
    have hz : ∀ b, 0 < orr b + oq b → Z b ∧ ox b = 0 := fun b q => ⟨(s.rp.dom b (by rw [ho]; omega)).2.1, by have := s.nd b; rw [ho] at this; have := sub b; omega⟩
    have t1 := t0.lessZ (Z' := fun b => Z b ∧ ox b = 0) (fun _ q => q.1) hz
    have F : Gd.Fr (C.G Z H) (C.G (fun b => Z b ∧ ox b = 0) H) .fz ox := ⟨rfl, rfl, fun _ _ q _ => q, fun _ _ _ z => fun q => z q.1, fun b p => ⟨fun q => by have := q.2; omega, fun _ => (rl.dom b p).2.2⟩, fun _ _ _ _ z => z, by decide⟩
    have rf : RpL (C.G (fun b => Z b ∧ ox b = 0) H) (D.setL .fz xs) ws2 (fun _ => 0) := rl.frz F
    have node : ∃ on, Rp (C.G (fun b => Z b ∧ ox b = 0) H) (.nd k (D.setL .fz xs)) (.ref a) on ∧ (∀ b, on b ≤ oe b) ∧ (D.noOwn (.nd k (D.setL .fz xs)) = true ∨ spS st r p = true) := by
      revert n
      generalize hfl : k.fl = f
      intro n
      have nz := D.noOwnL_set (g := .fz) (by decide) xs
      match f, n with
      | none, n => exact ⟨fun _ => 0, .nd hk2 rf (by rw [hfl]; exact ⟨fun q => n.1 q.1, fun _ => rfl⟩), fun _ => Nat.zero_le _, .inl (by simp [D.noOwn, hfl, nz])⟩
      | some .own, n => exact ⟨one a, .nd hk2 rf (by rw [hfl]; exact ⟨⟨n.1, by have h1 := s.nd a; have h2 := n.2.2 a; have h3 := ho a; rw [one_self] at h2; omega⟩, n.2.1, fun b => by simp⟩), fun b => by have := n.2.2 b; omega, .inr (hsp ⟨a, by have := n.2.2 a; rw [one_self] at this; omega⟩)⟩
      | some .bor, n => exact ⟨fun _ => 0, .nd hk2 rf (by rw [hfl]; exact ⟨fun q => n.1 q.1, fun _ => rfl, fun _ => rfl⟩), fun _ => Nat.zero_le _, .inl (by simp [D.noOwn, hfl, nz])⟩
      | some .fz, n => exact ⟨fun _ => 0, .nd hk2 rf (by rw [hfl]; exact ⟨fun q => n.1 q.1, n.2.1, fun _ => rfl, fun _ => rfl⟩), fun _ => Nat.zero_le _, .inl (by simp [D.noOwn, hfl, nz])⟩
    obtain ⟨on, rn, hn, hs⟩ := node
    obtain ⟨p1, p2, q1, q2, q3⟩ := t1.cut
    have t2 : SR C (fun b => Z b ∧ ox b = 0) (setS st r p .un) ((ds ++ D.setL .fz xs) ++ [.nd k (D.setL .fz xs)]) σ ((vs ++ ws2) ++ [.ref a]) H (fun b => orr b + oq b + on b) :=
      ⟨q1.app (o2 := fun b => p2 b + on b) ((q2.app (os := p2) rf fun b => by simp).app (RpL.one rn) fun _ => rfl) (fun b => by have := q3 b; (try dsimp only at *); omega), fun b => by have := s.nd b; rw [ho] at this; have := hn b; (try dsimp only); omega, t1.ln, t1.sl, t1.kp, t1.fr, t1.al, t1.bb, t1.fx⟩
    have := t2.lay (getS_set h) hp (hs.imp id fun q => by rw [spS_set h]; exact q)
    rw [setS_set h] at this; exact this.sx
end
end PV

namespace PV
open PySem L2
/-- an exception: its class, and (where it has one) its field and what it holds -/
structure Ex where
  c : Str
  f : Str := ""
  p : Option D := none
def Ex.ds (e : Ex) : List D := match e.p with
  | some d => [d]
  | none => []
inductive R (α : Type) where | ok (a : α) (st : List D) | ex (e : Ex) (st : List D) | stuck
/-- how a parameter is handed: it may be changed | it is read | it is given away -/
inductive Md where | io | bo | fz
  deriving DecidableEq
/-- an argument: a value of its own, or what stands at a place -/
inductive AD where | val (d : D) | lnd (r : Nat) (p : Pth)
def AD.d : AD → D
  | .val d => d
  | .lnd _ _ => .un
inductive FR where | ok (d : D) (outs : List D) | ex (e : Ex) (outs : List D) | stuck
def takeA : List Md → List AD → List D → Option (List D × List D)
  | [], [], st => some (st, [])
  | m :: ms, .val d :: as, st => match takeA ms as st with
    | some (st', bs) => some (st', (if m = .fz then d.frz else d) :: bs)
    | none => none
  | .io :: ms, .lnd r p :: as, st => match getS st r p with
    | some e => match takeA ms as (setS st r p .un) with
      | some (st', bs) => some (st', e :: bs)
      | none => none
    | none => none
  | .fz :: ms, .lnd r p :: as, st => match getS st r p with
    | some e => match takeA ms as (setS st r p e.frz) with
      | some (st', bs) => some (st', e.frz :: bs)
      | none => none
    | none => none
  | .bo :: ms, .lnd r p :: as, st => match takeA ms as st with
    | some (st', bs) => some (st', .un :: bs)
    | none => none
  | _, _, _ => none
def argsOf : List Md → List AD → List D → List D → Option (List D)
  | [], [], [], _ => some []
  | .bo :: ms, .val _ :: as, b :: bs, st => match argsOf ms as bs st with
    | some l => some (b.len :: l)
    | none => none
  | .bo :: ms, .lnd r p :: as, b :: bs, st => match getS st r p with
    | some e => match argsOf ms as bs st with
      | some l => some (e.len :: l)
      | none => none
    | none => none
  | .io :: ms, .val _ :: as, b :: bs, st => match argsOf ms as bs st with
    | some l => some (b :: l)
    | none => none
  | .io :: ms, .lnd r p :: as, b :: bs, st => match getS st r p with
    | some _ => match argsOf ms as bs st with
      | some l => some (b :: l)
      | none => none
    | none => none
  | .fz :: ms, _ :: as, b :: bs, st => match argsOf ms as bs st with
    | some l => some (b :: l)
    | none => none
  | _, _, _, _ => none
def isUn : Option D → Bool
  | some .un => true
  | _ => false
def putA : List Md → List AD → List D → List D → Option (List D)
  | [], [], [], st => some st
  | .io :: ms, .lnd r p :: as, o :: os, st => match putA ms as os st with
    | some st' => if (isUn (getS st' r p) && (D.noOwn o || spS st' r p)) = true then some (setS st' r p o) else none
    | none => none
  | _ :: ms, _ :: as, _ :: os, st => putA ms as os st
  | _, _, _, _ => none
mutual
/-- no lent list in it -/
def D.noBor : D → Bool
  | .nd k xs => (k.fl != some .bor) && D.noBorL xs
  | .scr _ => false
  | _ => true
def D.noBorL : List D → Bool
  | [] => true
  | d :: r => D.noBor d && D.noBorL r
end
abbrev Fn := List D → FR
def callR (ms : List Md) (F : Fn) (as : List AD) (st : List D) : R D := match takeA ms as st with
  | none => .stuck
  | some (st1, bs) => match argsOf ms as bs st1 with
    | none => .stuck
    | some args => match F args with
      | .ok d outs => if D.noBorL (d :: outs) = true then match putA ms as outs st1 with
          | some st2 => .ok d st2
          | none => .stuck
        else .stuck
      | .ex e outs => if D.noBorL (e.ds ++ outs) = true then match putA ms as outs st1 with
          | some st2 => .ex e st2
          | none => .stuck
        else .stuck
      | .stuck => .stuck
/-- the places that are lent -/
inductive Lnd (H : Hp) (σ : St) : List AD → List V → Prop
  | nil : Lnd H σ [] []
  | val {d : D} {u : V} {as : List AD} {us : List V} : Lnd H σ as us → Lnd H σ (.val d :: as) (u :: us)
  | lnd {r : Nat} {p : Pth} {u : V} {as : List AD} {us : List V} : HPs H σ r p u → Lnd H σ as us → Lnd H σ (.lnd r p :: as) (u :: us)
theorem Lnd.len {H : Hp} {σ : St} : ∀ {as : List AD} {us : List V}, Lnd H σ as us → as.length = us.length
  | _, _, .nil => rfl
  | _, _, .val t => by simp [t.len]
  | _, _, .lnd _ t => by simp [t.len]
theorem Lnd.same {H H' : Hp} {σ : St} (s : Same H H') : ∀ {as : List AD} {us : List V}, Lnd H σ as us → Lnd H' σ as us
  | _, _, .nil => .nil
  | _, _, .val t => .val (t.same s)
  | _, _, .lnd h t => .lnd (h.same s) (t.same s)
section
variable {C : Cc} {Z Z' : Addr → Prop} {st ds : List D} {σ : St} {vs : List V} {H H' : Hp} {os os' : Ct}
theorem SX.rot {x : D} {v : V} {B : List D} {vB : List V} (s : SX C st (ds ++ (x :: B)) σ (vs ++ (v :: vB)) H) (hl : ds.length = vs.length) : SX C st (ds ++ (B ++ [x])) σ (vs ++ (vB ++ [v])) H := by
  obtain ⟨Z, os, s⟩ := s
  obtain ⟨o1, o2, r1, r2, e⟩ := s.cut
  obtain ⟨o3, o4, r3, r4, e'⟩ := RpL.cut hl r2
  cases r4 with
  | cons rx rB e2 =>
    rename_i o5 o6
    exact (s.mk2 (os' := os) (o2 := fun b => o3 b + (o6 b + o5 b)) r1 (r3.app (rB.app (RpL.one rx) fun _ => rfl) fun _ => rfl) (fun b => by rw [e, e', e2]; omega) (fun _ => Nat.le_refl _) s.sl).sx
/-- the first temporary behind ds dropped -/
theorem SX.drop1 {x : D} {v : V} {B : List D} {vB : List V} (s : SX C st (ds ++ (x :: B)) σ (vs ++ (v :: vB)) H) (hl : ds.length = vs.length) : SX C st (ds ++ B) σ (vs ++ vB) H := by
  have := s.rot hl
  rw [← List.append_assoc, ← List.append_assoc] at this
  exact this.pop
/-- the last temporary frozen -/
theorem SX.frzTop {x : D} {v : V} (s : SX C st (ds ++ [x]) σ (vs ++ [v]) H) : SX C st (ds ++ [x.frz]) σ (vs ++ [v]) H := by
  obtain ⟨Z, os, s⟩ := s
  obtain ⟨o1, o2, o3, r1, r2, r3, e⟩ := s.top
  have hz : ∀ b, 0 < o1 b + o2 b → Z b ∧ o3 b = 0 := fun b q => ⟨(s.rp.dom b (by rw [e]; omega)).2.1, by have := s.nd b; rw [e] at this; omega⟩
  have F : Gd.Fr (C.G Z H) (C.G (fun a => Z a ∧ o3 a = 0) H) .fz o3 := ⟨rfl, rfl, fun _ _ q _ => q, fun _ _ _ z => fun q => z q.1, fun b p => ⟨fun q => by have := q.2; omega, fun _ => (r3.dom b p).2.2⟩, fun _ _ _ _ z => z, by decide⟩
  have t0 : SR C Z st ds σ vs H (fun b => o1 b + o2 b) := s.mk2 r1 r2 (fun _ => rfl) (fun b => by rw [e]; omega) s.sl
  have t1 := t0.lessZ (Z' := fun a => Z a ∧ o3 a = 0) (fun _ q => q.1) hz
  obtain ⟨p1, p2, q1, q2, q3⟩ := t1.cut
  exact (t1.mk2 (o2 := p2) (os' := fun b => o1 b + o2 b) q1 (q2.app (os := p2) (RpL.one (r3.frz F)) fun b => by simp) q3 (fun _ => Nat.le_refl _) t1.sl).sx
/-- the first pass -/
theorem SX.takeA : ∀ {ms : List Md} {as : List AD} {us : List V} {st st1 bs done : List D} {dvs : List V}, SX C st (ds ++ (as.map AD.d ++ done)) σ (vs ++ (us ++ dvs)) H → ds.length = vs.length → Lnd H σ as us → PV.takeA ms as st = some (st1, bs) → SX C st1 (ds ++ (done ++ bs)) σ (vs ++ (dvs ++ us)) H
  | [], [], [], st, st1, bs, done, dvs, s, hl, hL, h => by
    simp [PV.takeA] at h
    obtain ⟨rfl, rfl⟩ := h
    simpa using s
  | m :: ms, .val d :: as, u :: us, st, st1, bs, done, dvs, s, hl, hL, h => by
    cases hL with
    | val hL =>
      simp only [PV.takeA] at h
      cases q : PV.takeA ms as st with
      | none => rw [q] at h; simp at h
      | some z =>
        obtain ⟨st', bs'⟩ := z
        rw [q] at h; simp at h
        obtain ⟨rfl, rfl⟩ := h
        have t := SX.rot (x := d) (v := u) (B := as.map AD.d ++ done) (vB := us ++ dvs) s hl
        have t2 : SX C st (ds ++ (as.map AD.d ++ (done ++ [if m = .fz then d.frz else d]))) σ (vs ++ (us ++ (dvs ++ [u]))) H := by
          by_cases hm : m = .fz
          · rw [if_pos hm]
            rw [← List.append_assoc ds, ← List.append_assoc vs] at t
            have := t.frzTop
            simpa [List.append_assoc] using this
          · rw [if_neg hm]; simpa [List.append_assoc] using t
        have := SX.takeA t2 hl hL q
        simpa [List.append_assoc] using this
  | .io :: ms, .lnd r p :: as, u :: us, st, st1, bs, done, dvs, s, hl, hL, h => by
    cases hL with
    | lnd hp hL =>
      simp only [PV.takeA] at h
      cases q0 : getS st r p with
      | none => rw [q0] at h; simp at h
      | some e =>
        rw [q0] at h; simp only at h
        cases q : PV.takeA ms as (setS st r p .un) with
        | none => rw [q] at h; simp at h
        | some z =>
          obtain ⟨st', bs'⟩ := z
          rw [q] at h; simp at h
          obtain ⟨rfl, rfl⟩ := h
          have t := SX.drop1 (x := .un) (v := u) (B := as.map AD.d ++ done) (vB := us ++ dvs) s hl
          obtain ⟨Z, os, t⟩ := t
          have t2 := (t.take q0 hp).sx
          have := SX.takeA (done := done ++ [e]) (dvs := dvs ++ [u]) (by simpa [List.append_assoc] using t2) hl hL q
          simpa [List.append_assoc] using this
  | .fz :: ms, .lnd r p :: as, u :: us, st, st1, bs, done, dvs, s, hl, hL, h => by
    cases hL with
    | lnd hp hL =>
      simp only [PV.takeA] at h
      cases q0 : getS st r p with
      | none => rw [q0] at h; simp at h
      | some e =>
        rw [q0] at h; simp only at h
        cases q : PV.takeA ms as (setS st r p e.frz) with
        | none => rw [q] at h; simp at h
        | some z =>
          obtain ⟨st', bs'⟩ := z
          rw [q] at h; simp at h
          obtain ⟨rfl, rfl⟩ := h
          have t := SX.drop1 (x := .un) (v := u) (B := as.map AD.d ++ done) (vB := us ++ dvs) s hl
          have t2 := t.share q0 hp
          have := SX.takeA (done := done ++ [e.frz]) (dvs := dvs ++ [u]) (by simpa [List.append_assoc] using t2) hl hL q
          simpa [List.append_assoc] using this
  | .bo :: ms, .lnd r p :: as, u :: us, st, st1, bs, done, dvs, s, hl, hL, h => by
    cases hL with
    | lnd hp hL =>
      simp only [PV.takeA] at h
      cases q : PV.takeA ms as st with
      | none => rw [q] at h; simp at h
      | some z =>
        obtain ⟨st', bs'⟩ := z
        rw [q] at h; simp at h
        obtain ⟨rfl, rfl⟩ := h
        have t := SX.rot (x := .un) (v := u) (B := as.map AD.d ++ done) (vB := us ++ dvs) s hl
        have := SX.takeA (done := done ++ [.un]) (dvs := dvs ++ [u]) (by simpa [List.append_assoc] using t) hl hL q
        simpa [List.append_assoc] using this
  | [], _ :: _, _, _, _, _, _, _, _, _, _, h => by simp [PV.takeA] at h
  | _ :: _, [], _, _, _, _, _, _, _, _, _, h => by simp [PV.takeA] at h
  | [], [], _ :: _, _, _, _, _, _, _, _, hL, _ => by cases hL
  | _ :: _, _ :: _, [], _, _, _, _, _, _, _, hL, _ => by cases hL
/-- the ground of a callee -/
structure Gd.In (G G' : Gd) (oI oR : Ct) : Prop where
  k : G'.K = G.K
  ca : G'.CA = G.CA
  h : G'.H = G.H
  z : ∀ b o, G.H b = some o → ¬ G.Z b → ¬ G'.Z b ∧ (¬ G.B b → ¬ G'.B b)
  i : ∀ b, 0 < oI b → G'.Z b ∧ ¬ G'.B b
  r : ∀ b, 0 < oR b → ¬ G'.Z b
theorem Gd.In.sub {G G' : Gd} {oI oR oI' oR' : Ct} (t : Gd.In G G' oI oR) (h1 : ∀ b, 0 < oI' b → 0 < oI b) (h2 : ∀ b, 0 < oR' b → 0 < oR b) : Gd.In G G' oI' oR' :=
  ⟨t.k, t.ca, t.h, t.z, fun b q => t.i b (h1 b q), fun b q => t.r b (h2 b q)⟩
theorem Gd.In.to {G G' : Gd} {oI oR : Ct} (t : Gd.In G G' oI oR) : Gd.To G G' oI :=
  ⟨t.k, t.ca, fun b o q _ => by rw [t.h]; exact q, fun b o q z => (t.z b o q z).1, t.i, fun b o q z => (t.z b o q z).2⟩
theorem Gd.In.fr {G G' : Gd} {oI oR : Ct} (t : Gd.In G G' oI oR) : Gd.Fr G G' .bor oR :=
  ⟨t.k, t.ca, fun b o q _ => by rw [t.h]; exact q, fun b o q z => (t.z b o q z).1, fun b q => ⟨t.r b q, fun z => by cases z⟩, fun b o q z => (t.z b o q z).2, by decide⟩
/-- the second pass: the arguments as the callee sees them -/
theorem args_to {G : Gd} {oS : Ct} : ∀ {ms : List Md} {as : List AD} {bs args : List D} {us : List V} {st : List D} {oB : Ct}, RpL G bs us oB →
    (∀ r p e u, getS st r p = some e → HPs G.H σ r p u → ∃ oe, Rp G e u oe ∧ ∀ b, 0 < oe b → 0 < oS b) → Lnd G.H σ as us → argsOf ms as bs st = some args →
    ∃ oI oR : Ct, (∀ b, oB b = oI b + oR b) ∧ ∀ G' : Gd, Gd.In G G' oI (fun b => oR b + oS b) → RpL G' args us oI
  | [], [], [], args, us, st, oB, r, hS, hL, h => by
    simp [argsOf] at h; subst h
    cases r with
    | nil z => exact ⟨fun _ => 0, fun _ => 0, fun b => by simp [z], fun G' _ => .nil fun _ => rfl⟩
  | .bo :: ms, .val d :: as, b :: bs, args, _, st, oB, .cons (o1 := o1) (o2 := o2) r t e, hS, .val hL, h => by
    simp only [argsOf] at h
    cases q : argsOf ms as bs st with
    | none => rw [q] at h; simp at h
    | some l =>
      rw [q] at h; simp at h; subst h
      obtain ⟨oI, oR, e2, k⟩ := args_to t hS hL q
      refine ⟨oI, fun b => o1 b + oR b, fun b => by rw [e, e2]; (try dsimp only); omega, fun G' c => ?_⟩
      exact .cons (o1 := fun _ => 0) (o2 := oI) (r.frz (c.sub (oI' := oI) (oR' := o1) (fun _ q => q) fun b q => by (try dsimp only); omega).fr) (k G' (c.sub (fun _ q => q) fun b q => by (try dsimp only at *); omega)) fun b => by simp
  | .bo :: ms, .lnd rr p :: as, b :: bs, args, _, st, oB, .cons (o1 := o1) (o2 := o2) r t e, hS, .lnd hp hL, h => by
    simp only [argsOf] at h
    cases q0 : getS st rr p with
    | none => rw [q0] at h; simp at h
    | some x =>
      rw [q0] at h; simp only at h
      cases q : argsOf ms as bs st with
      | none => rw [q] at h; simp at h
      | some l =>
        rw [q] at h; simp at h; subst h
        obtain ⟨oI, oR, e2, k⟩ := args_to t hS hL q
        obtain ⟨oe, re, he⟩ := hS _ _ _ _ q0 hp
        refine ⟨oI, fun b => o1 b + oR b, fun b => by rw [e, e2]; (try dsimp only); omega, fun G' c => ?_⟩
        exact .cons (o1 := fun _ => 0) (o2 := oI) (re.frz (c.sub (oI' := oI) (oR' := oe) (fun _ q => q) fun b q => by have := he b q; (try dsimp only); omega).fr) (k G' (c.sub (fun _ q => q) fun b q => by (try dsimp only at *); omega)) fun b => by simp
  | .io :: ms, .val d :: as, b :: bs, args, _, st, oB, .cons (o1 := o1) (o2 := o2) r t e, hS, .val hL, h => by
    simp only [argsOf] at h
    cases q : argsOf ms as bs st with
    | none => rw [q] at h; simp at h
    | some l =>
      rw [q] at h; simp at h; subst h
      obtain ⟨oI, oR, e2, k⟩ := args_to t hS hL q
      refine ⟨fun b => o1 b + oI b, oR, fun b => by rw [e, e2]; (try dsimp only); omega, fun G' c => ?_⟩
      exact .cons (o1 := o1) (o2 := oI) (r.mono (c.to.sub fun b q => by (try dsimp only); omega)) (k G' (c.sub (fun b q => by (try dsimp only at *); omega) fun b q => q)) fun b => rfl
  | .io :: ms, .lnd rr p :: as, b :: bs, args, _, st, oB, .cons (o1 := o1) (o2 := o2) r t e, hS, .lnd hp hL, h => by
    simp only [argsOf] at h
    cases q0 : getS st rr p with
    | none => rw [q0] at h; simp at h
    | some x =>
      rw [q0] at h; simp only at h
      cases q : argsOf ms as bs st with
      | none => rw [q] at h; simp at h
      | some l =>
        rw [q] at h; simp at h; subst h
        obtain ⟨oI, oR, e2, k⟩ := args_to t hS hL q
        refine ⟨fun b => o1 b + oI b, oR, fun b => by rw [e, e2]; (try dsimp only); omega, fun G' c => ?_⟩
        exact .cons (o1 := o1) (o2 := oI) (r.mono (c.to.sub fun b q => by (try dsimp only); omega)) (k G' (c.sub (fun b q => by (try dsimp only at *); omega) fun b q => q)) fun b => rfl
  | .fz :: ms, .val d :: as, b :: bs, args, _, st, oB, .cons (o1 := o1) (o2 := o2) r t e, hS, .val hL, h => by
    simp only [argsOf] at h
    cases q : argsOf ms as bs st with
    | none => rw [q] at h; simp at h
    | some l =>
      rw [q] at h; simp at h; subst h
      obtain ⟨oI, oR, e2, k⟩ := args_to t hS hL q
      refine ⟨fun b => o1 b + oI b, oR, fun b => by rw [e, e2]; (try dsimp only); omega, fun G' c => ?_⟩
      exact .cons (o1 := o1) (o2 := oI) (r.mono (c.to.sub fun b q => by (try dsimp only); omega)) (k G' (c.sub (fun b q => by (try dsimp only at *); omega) fun b q => q)) fun b => rfl
  | .fz :: ms, .lnd rr p :: as, b :: bs, args, _, st, oB, .cons (o1 := o1) (o2 := o2) r t e, hS, .lnd hp hL, h => by
    simp only [argsOf] at h
    cases q : argsOf ms as bs st with
    | none => rw [q] at h; simp at h
    | some l =>
      rw [q] at h; simp at h; subst h
      obtain ⟨oI, oR, e2, k⟩ := args_to t hS hL q
      refine ⟨fun b => o1 b + oI b, oR, fun b => by rw [e, e2]; (try dsimp only); omega, fun G' c => ?_⟩
      exact .cons (o1 := o1) (o2 := oI) (r.mono (c.to.sub fun b q => by (try dsimp only); omega)) (k G' (c.sub (fun b q => by (try dsimp only at *); omega) fun b q => q)) fun b => rfl
  | [], [], _ :: _, _, _, _, _, _, _, _, h => by simp [argsOf] at h
  | [], _ :: _, _, _, _, _, _, _, _, _, h => by simp [argsOf] at h
  | .bo :: _, [], _, _, _, _, _, _, _, _, h => by simp [argsOf] at h
  | .io :: _, [], _, _, _, _, _, _, _, _, h => by simp [argsOf] at h
  | .fz :: _, [], _, _, _, _, _, _, _, _, h => by simp [argsOf] at h
  | .bo :: _, .val _ :: _, [], _, _, _, _, _, _, _, h => by simp [argsOf] at h
  | .bo :: _, .lnd _ _ :: _, [], _, _, _, _, _, _, _, h => by simp [argsOf] at h
  | .io :: _, .val _ :: _, [], _, _, _, _, _, _, _, h => by simp [argsOf] at h
  | .io :: _, .lnd _ _ :: _, [], _, _, _, _, _, _, _, h => by simp [argsOf] at h
  | .fz :: _, _ :: _, [], _, _, _, _, _, _, _, h => by simp [argsOf] at h
/-- back from a callee: what is not lent -/
structure Gd.Bk (G G' : Gd) (os : Ct) : Prop where
  k : G'.K = G.K
  ca : G'.CA = G.CA
  h : G'.H = G.H
  o : ∀ b, 0 < os b → G'.Z b ∧ ¬ G'.B b
  f : ∀ b, ¬ G.Z b → ¬ G.B b → ¬ G'.Z b ∧ ¬ G'.B b
  t : ∀ b xs, G.H b = some (.tup xs) → ¬ G.Z b → ¬ G'.Z b
theorem Gd.Bk.sub {G G' : Gd} {os os' : Ct} (t : Gd.Bk G G' os) (h : ∀ b, 0 < os' b → 0 < os b) : Gd.Bk G G' os' := ⟨t.k, t.ca, t.h, fun b q => t.o b (h b q), t.f, t.t⟩
mutual
theorem Rp.back {G G' : Gd} : ∀ {d : D} {v : V} {os : Ct}, Rp G d v os → D.noBor d = true → Gd.Bk G G' os → Rp G' d v os
  | _, _, _, .un h, _, _ => .un h
  | _, _, _, .non h, _, _ => .non h
  | _, _, _, .bl h, _, _ => .bl h
  | _, _, _, .int h, _, _ => .int h
  | _, _, _, .str h, _, _ => .str h
  | _, _, _, .scr _ _, n, _ => by simp [D.noBor] at n
  | _, _, _, .nd (k := k) (a := a) (vs := ws) (os := os) (os' := os') hk r n, nb, t => by
    simp only [D.noBor, Bool.and_eq_true, bne_iff_ne] at nb
    have hk' : HoK G'.CA G'.H a ws k := by rw [t.ca, t.h]; exact hk
    revert n
    generalize hfl : k.fl = f
    intro n
    match f, n with
    | none, n =>
      refine .nd (os' := os') hk' (RpL.back r nb.2 (t.sub fun b hb => by rw [n.2]; exact hb)) ?_
      rw [hfl]
      refine ⟨?_, n.2⟩
      cases k with
      | tup => exact t.t a _ hk n.1
      | lst f => cases hfl
      | dct f ks => cases hfl
      | ins f c ns => cases hfl
    | some .own, n =>
      have p : 0 < os a := by rw [n.2.2, one_self]; omega
      refine .nd (os' := os') hk' (RpL.back r nb.2 (t.sub fun b hb => by rw [n.2.2]; omega)) ?_
      rw [hfl]; exact ⟨(t.o a p).1, (t.o a p).2, n.2.2⟩
    | some .bor, n => exact absurd hfl nb.1
    | some .fz, n =>
      refine .nd (os' := os') hk' (RpL.back r nb.2 (t.sub fun b hb => by have := n.2.2.1 b; omega)) ?_
      rw [hfl]; exact ⟨(t.f a n.1 n.2.1).1, (t.f a n.1 n.2.1).2, n.2.2⟩
theorem RpL.back {G G' : Gd} : ∀ {xs : List D} {vs : List V} {os : Ct}, RpL G xs vs os → D.noBorL xs = true → Gd.Bk G G' os → RpL G' xs vs os
  | _, _, _, .nil h, _, _ => .nil h
  | _, _, _, .cons (o1 := o1) (o2 := o2) r t h, n, g => by
    simp only [D.noBorL, Bool.and_eq_true] at n
    exact .cons (Rp.back r n.1 (g.sub fun b hb => by rw [h]; omega)) (RpL.back t n.2 (g.sub fun b hb => by rw [h]; omega)) h
end
theorem isUn_eq {o : Option D} (h : isUn o = true) : o = some .un := by
  unfold isUn at h
  split at h
  · rfl
  · cases h
def LndI (H : Hp) (σ : St) : List Md → List AD → List V → Prop
  | .io :: ms, .lnd r p :: as, u :: us => HPs H σ r p u ∧ LndI H σ ms as us
  | _ :: ms, _ :: as, _ :: us => LndI H σ ms as us
  | _, _, _ => True
theorem LndI.of {st : List D} (k : ∀ r p u e, getS st r p = some e → HPs H σ r p u → HPs H' σ r p u) : ∀ {ms : List Md} {as : List AD} {bs args : List D} {us : List V}, Lnd H σ as us → argsOf ms as bs st = some args → LndI H' σ ms as us
  | [], _, _, _, _, _, _ => by simp [LndI]
  | .io :: ms, .lnd r p :: as, b :: bs, args, u :: us, .lnd hp hL, h => by
    simp only [argsOf] at h
    cases q0 : getS st r p with
    | none => rw [q0] at h; simp at h
    | some x =>
      rw [q0] at h; simp only at h
      cases q : argsOf ms as bs st with
      | none => rw [q] at h; simp at h
      | some l => exact ⟨k _ _ _ _ q0 hp, LndI.of k hL q⟩
  | .io :: ms, .val d :: as, b :: bs, args, u :: us, .val hL, h => by
    simp only [argsOf] at h
    cases q : argsOf ms as bs st with
    | none => rw [q] at h; simp at h
    | some l => simp only [LndI]; exact LndI.of k hL q
  | .bo :: ms, .val d :: as, b :: bs, args, u :: us, .val hL, h => by
    simp only [argsOf] at h
    cases q : argsOf ms as bs st with
    | none => rw [q] at h; simp at h
    | some l => simp only [LndI]; exact LndI.of k hL q
  | .bo :: ms, .lnd r p :: as, b :: bs, args, u :: us, .lnd hp hL, h => by
    simp only [argsOf] at h
    cases q0 : getS st r p with
    | none => rw [q0] at h; simp at h
    | some x =>
      rw [q0] at h; simp only at h
      cases q : argsOf ms as bs st with
      | none => rw [q] at h; simp at h
      | some l => simp only [LndI]; exact LndI.of k hL q
  | .fz :: ms, .val d :: as, b :: bs, args, u :: us, .val hL, h => by
    simp only [argsOf] at h
    cases q : argsOf ms as bs st with
    | none => rw [q] at h; simp at h
    | some l => simp only [LndI]; exact LndI.of k hL q
  | .fz :: ms, .lnd r p :: as, b :: bs, args, u :: us, .lnd hp hL, h => by
    simp only [argsOf] at h
    cases q : argsOf ms as bs st with
    | none => rw [q] at h; simp at h
    | some l => simp only [LndI]; exact LndI.of k hL q
  | _ :: _, [], _, _, _, _, _ => by simp [LndI]
  | _ :: _, _ :: _, [], _, _, _, h => by
    rename_i m _ a _ _ _ _
    cases m <;> cases a <;> simp [argsOf] at h
/-- what was changed is laid back -/
theorem SX.putA : ∀ {ms : List Md} {as : List AD} {outs : List D} {us : List V} {st st2 : List D} {ds : List D} {vs : List V}, SX C st (ds ++ outs) σ (vs ++ us) H → ds.length = vs.length → LndI H σ ms as us → PV.putA ms as outs st = some st2 → SX C st2 ds σ vs H
  | [], [], [], us, st, st2, ds, vs, s, hl, _, h => by
    simp [PV.putA] at h; subst h
    obtain ⟨Z, os, z⟩ := id s
    have hd := z.dn
    simp at hd
    have : us = [] := List.length_eq_zero_iff.mp (by omega)
    subst this
    simpa using s
  | .io :: ms, .lnd r p :: as, o :: os, u :: us, st, st2, ds, vs, s, hl, ⟨hp, hL⟩, h => by
    simp only [PV.putA] at h
    cases q : PV.putA ms as os st with
    | none => rw [q] at h; simp at h
    | some st' =>
      rw [q] at h; simp only at h
      have s' : SX C st ((ds ++ [o]) ++ os) σ ((vs ++ [u]) ++ us) H := by simpa [List.append_assoc] using s
      have t := SX.putA s' (by simp [hl]) hL q
      split at h
      · rename_i c
        simp only [Option.some.injEq] at h; subst h
        simp only [Bool.and_eq_true, Bool.or_eq_true] at c
        obtain ⟨Z, o1, t⟩ := t
        exact (t.lay (isUn_eq c.1) hp c.2).sx
      · cases h
  | .io :: ms, .val d :: as, o :: os, u :: us, st, st2, ds, vs, s, hl, hL, h => by
    simp only [PV.putA] at h
    have s' : SX C st ((ds ++ [o]) ++ os) σ ((vs ++ [u]) ++ us) H := by simpa [List.append_assoc] using s
    exact (SX.putA s' (by simp [hl]) hL h).pop
  | .bo :: ms, a :: as, o :: os, u :: us, st, st2, ds, vs, s, hl, hL, h => by
    have hL' : LndI H σ ms as us := hL
    simp only [PV.putA] at h
    have s' : SX C st ((ds ++ [o]) ++ os) σ ((vs ++ [u]) ++ us) H := by simpa [List.append_assoc] using s
    exact (SX.putA s' (by simp [hl]) hL' h).pop
  | .fz :: ms, a :: as, o :: os, u :: us, st, st2, ds, vs, s, hl, hL, h => by
    have hL' : LndI H σ ms as us := hL
    simp only [PV.putA] at h
    have s' : SX C st ((ds ++ [o]) ++ os) σ ((vs ++ [u]) ++ us) H := by simpa [List.append_assoc] using s
    exact (SX.putA s' (by simp [hl]) hL' h).pop
  | [], [], _ :: _, _, _, _, _, _, _, _, _, h => by simp [PV.putA] at h
  | [], _ :: _, _, _, _, _, _, _, _, _, _, h => by simp [PV.putA] at h
  | .io :: _, [], _, _, _, _, _, _, _, _, _, h => by simp [PV.putA] at h
  | .bo :: _, [], _, _, _, _, _, _, _, _, _, h => by simp [PV.putA] at h
  | .fz :: _, [], _, _, _, _, _, _, _, _, _, h => by simp [PV.putA] at h
  | .io :: _, .lnd _ _ :: _, [], _, _, _, _, _, _, _, _, h => by simp [PV.putA] at h
  | .io :: _, .val _ :: _, [], _, _, _, _, _, _, _, _, h => by simp [PV.putA] at h
  | .bo :: _, _ :: _, [], _, _, _, _, _, _, _, _, h => by simp [PV.putA] at h
  | .fz :: _, _ :: _, [], _, _, _, _, _, _, _, _, h => by simp [PV.putA] at h
  | _ :: _, _ :: _, _ :: _, [], _, _, _, _, s, hl, _, _ => by
    obtain ⟨Z, os, z⟩ := s
    have := z.dn
    simp at this; omega
/-- what a callee wants and gives -/
structure Pre (K : PySem.W.Frag) (CA : Str → Option Addr) (H : Hp) (args : List D) (us : List V) (os : Ct) (B : Addr → Prop) : Prop where
  rp : RpL ⟨K, CA, H, fun a => 0 < os a, B⟩ args us os
  nd : ∀ b, os b ≤ 1
  al : ∀ a, 0 < os a → ∃ o, H a = some o ∧ ∀ xs, o ≠ .tup xs
  bb : ∀ a, B a → (∃ o, H a = some o) ∧ os a = 0
structure Post (K : PySem.W.Frag) (CA : Str → Option Addr) (H : Hp) (os : Ct) (B : Addr → Prop) (outs : List D) (us : List V) (H' : Hp) (Z' : Addr → Prop) (os' : Ct) : Prop where
  rp : RpL ⟨K, CA, H', Z', B⟩ outs us os'
  nd : ∀ b, os' b ≤ 1
  kp : ∀ a o, H a = some o → os a = 0 → H' a = some o
  fr : ∀ a, Z' a → 0 < os a ∨ H a = none
  al : ∀ a, Z' a → ∃ o, H' a = some o ∧ ∀ xs, o ≠ .tup xs
/-- THE CALL -/
theorem SX.call0 {ms : List Md} {as : List AD} {us : List V} {st1 bs args : List D} (s : SX C st (ds ++ as.map AD.d) σ (vs ++ us) H) (hl : ds.length = vs.length) (hL : Lnd H σ as us) (h1 : PV.takeA ms as st = some (st1, bs)) (h2 : argsOf ms as bs st1 = some args) :
    ∃ (os : Ct) (B : Addr → Prop), Pre C.K C.CA H args us os B ∧
      ∀ (xs : List D) (ws : List V) (outs : List D) (H' : Hp) (Z' : Addr → Prop) (os' : Ct), xs.length = ws.length → Post C.K C.CA H os B (xs ++ outs) (ws ++ us) H' Z' os' → D.noBorL (xs ++ outs) = true → SX C st1 (ds ++ (xs ++ outs)) σ (vs ++ (ws ++ us)) H' ∧ LndI H' σ ms as us := by
  have t := SX.takeA (done := []) (dvs := []) (by simpa using s) hl hL h1
  obtain ⟨Z, ot, t⟩ := t
  rw [List.nil_append, List.nil_append] at t
  obtain ⟨oS, o2, rS, r2, e⟩ := t.cut
  obtain ⟨oD, oB, rD, rB, e'⟩ := RpL.cut hl r2
  have hS : ∀ r p x u, getS st1 r p = some x → HPs (C.G Z H).H σ r p u → ∃ oe, Rp (C.G Z H) x u oe ∧ ∀ b, 0 < oe b → 0 < oS b := fun r p x u q hp => by
    have t0 : SR C Z st1 [] σ [] H oS := t.mk2 (o2 := fun _ => 0) rS (.nil fun _ => rfl) (fun _ => rfl) (fun b => by rw [e]; omega) t.sl
    obtain ⟨u', oe, orr, oq, hp', re, rq, ho, _, _⟩ := t0.path q (let ⟨v, w, _⟩ := hp; ⟨v, w⟩)
    have hp0 : HPs H σ r p u := hp
    have := hp0.fn hp'; subst this
    exact ⟨oe, re, fun b z => by rw [ho]; omega⟩
  obtain ⟨oI, oR, eB, k⟩ := args_to (oS := oS) rB hS hL h2
  have eT : ∀ b, ot b = oS b + oD b + oI b + oR b := fun b => by rw [e, e', eB]; omega
  have zI : ∀ b, 0 < oI b → Z b := fun b q => (t.rp.dom b (by rw [eT]; omega)).2.1
  have bI : ∀ b, 0 < oI b → ¬ C.B b := fun b q => (t.rp.dom b (by rw [eT]; omega)).2.2
  have bAl : ∀ a, C.B a → ∃ o, H a = some o := fun a z => by obtain ⟨⟨o, q⟩, w⟩ := t.bb a z; exact ⟨o, t.kp a o q w⟩
  refine ⟨oI, fun a => C.B a ∨ (Z a ∧ oI a = 0), ⟨k ⟨C.K, C.CA, H, fun a => 0 < oI a, fun a => C.B a ∨ (Z a ∧ oI a = 0)⟩ ⟨rfl, rfl, rfl, fun b o q z => ⟨fun w => z (zI b w), fun w => fun w2 => w2.elim w fun w3 => z w3.1⟩, fun b q => ⟨q, fun w => w.elim (bI b q) fun w3 => by omega⟩, fun b q => fun w => ?_⟩, ?_, ?_, ?_⟩, ?_⟩
  · have := t.nd b; rw [eT] at this; (try dsimp only at *); omega
  · intro b; have := t.nd b; rw [eT] at this; omega
  · intro a q; exact t.al a (zI a q)
  · rintro a (z | z)
    · exact ⟨bAl a z, Nat.eq_zero_of_not_pos fun q => bI a q z⟩
    · obtain ⟨o, q, _⟩ := t.al a z.1; exact ⟨⟨o, q⟩, z.2⟩
  · intro xs ws outs H' Z' os' hxs P nb
    have nI : ∀ b, 0 < oS b + oD b → oI b = 0 := fun b q => by have := t.nd b; rw [eT] at this; omega
    have T : Gd.To (C.G Z H) (C.G (fun a => (Z a ∧ oI a = 0) ∨ Z' a) H') (fun b => oS b + oD b) := by
      refine ⟨rfl, rfl, fun b o q w => P.kp b o q ?_, fun b o q z => ?_, fun b q => ⟨.inl ⟨(t.rp.dom b (by rw [eT]; (try dsimp only at *); omega)).2.1, nI b q⟩, (t.rp.dom b (by rw [eT]; (try dsimp only at *); omega)).2.2⟩, fun _ _ _ _ z => z⟩
      · rcases w with w | w
        · exact nI b w
        · exact Nat.eq_zero_of_not_pos fun z => w (zI b z)
      · rintro (w | w)
        · exact z w.1
        · rcases P.fr b w with w | w
          · exact z (zI b w)
          · have q' : H b = some o := q
            rw [w] at q'; cases q'
    have K : Gd.Bk ⟨C.K, C.CA, H', Z', fun a => C.B a ∨ (Z a ∧ oI a = 0)⟩ (C.G (fun a => (Z a ∧ oI a = 0) ∨ Z' a) H') os' := by
      refine ⟨rfl, rfl, rfl, fun b q => ?_, fun b z w => ?_, fun b ys q z => ?_⟩
      · obtain ⟨_, z, w⟩ := P.rp.dom b q
        exact ⟨.inr z, fun q => w (.inl q)⟩
      · exact ⟨fun y => y.elim (fun y => w (.inr y)) z, fun y => w (.inl y)⟩
      · rintro (w | w)
        · obtain ⟨o, h3, h4⟩ := t.al b w.1
          have h5 : H' b = some o := P.kp b o h3 w.2
          have h6 : H' b = some (.tup ys) := q
          rw [h5] at h6; cases h6
          exact h4 ys rfl
        · exact z w
    have rB' := P.rp.back nb K
    have S2 : SR C (fun a => (Z a ∧ oI a = 0) ∨ Z' a) st1 (ds ++ (xs ++ outs)) σ (vs ++ (ws ++ us)) H' (fun b => oS b + oD b + os' b) := by
      refine ⟨(rS.mono (T.sub fun b q => by (try dsimp only); omega)).app (o2 := fun b => oD b + os' b) ((rD.mono (T.sub fun b q => by (try dsimp only); omega)).app rB' fun _ => rfl) (fun b => by (try dsimp only); omega), fun b => ?_, t.ln, t.sl, fun a o q z => ?_, ?_, ?_, t.bb, t.fx⟩
      · have h1 := t.nd b; rw [eT] at h1
        have h2 := P.nd b
        by_cases q : 0 < os' b
        · have z := (P.rp.dom b q).2.1
          rcases P.fr b z with w | w
          · (try dsimp only); omega
          · have : ot b = 0 := Nat.eq_zero_of_not_pos fun y => by
              obtain ⟨⟨o, h3⟩, _⟩ := t.rp.dom b y
              have h4 : H b = some o := h3
              rw [w] at h4; cases h4
            rw [eT] at this; (try dsimp only); omega
        · (try dsimp only); omega
      · refine P.kp a o (t.kp a o q z) (Nat.eq_zero_of_not_pos fun w => ?_)
        rcases t.fr a (zI a w) with y | y
        · omega
        · rw [q] at y; cases y
      · rintro a (w | w)
        · exact t.fr a w.1
        · rcases P.fr a w with y | y
          · exact t.fr a (zI a y)
          · by_cases q2 : C.os0 a = 0
            · right
              cases q : C.H0 a with
              | none => rfl
              | some o => have := t.kp a o q q2; rw [y] at this; cases this
            · left; omega
      · rintro a (w | w)
        · obtain ⟨o, h3, h4⟩ := t.al a w.1; exact ⟨o, P.kp a o h3 w.2, h4⟩
        · exact P.al a w
    have hL' : LndI H' σ ms as us := by
      have t0 : SR C Z st1 ds σ vs H (fun b => oS b + oD b) := t.mk2 rS rD (fun _ => rfl) (fun b => by rw [eT]; (try dsimp only); omega) t.sl
      exact LndI.of (fun r p u e q hp => t0.hps (G' := C.G (fun a => (Z a ∧ oI a = 0) ∨ Z' a) H') q hp T) hL h2
    exact ⟨S2.sx, hL'⟩
theorem SX.call {ms : List Md} {as : List AD} {us : List V} {st1 bs args : List D} (s : SX C st (ds ++ as.map AD.d) σ (vs ++ us) H) (hl : ds.length = vs.length) (hL : Lnd H σ as us) (h1 : PV.takeA ms as st = some (st1, bs)) (h2 : argsOf ms as bs st1 = some args) :
    ∃ (os : Ct) (B : Addr → Prop), Pre C.K C.CA H args us os B ∧
      ∀ (xs : List D) (ws : List V) (outs st2 : List D) (H' : Hp) (Z' : Addr → Prop) (os' : Ct), xs.length = ws.length → Post C.K C.CA H os B (xs ++ outs) (ws ++ us) H' Z' os' → D.noBorL (xs ++ outs) = true → PV.putA ms as outs st1 = some st2 → SX C st2 (ds ++ xs) σ (vs ++ ws) H' := by
  obtain ⟨os, B, P, k⟩ := s.call0 hl hL h1 h2
  exact ⟨os, B, P, fun xs ws outs st2 H' Z' os' hxs Po nb hput => by
    obtain ⟨S2, hL'⟩ := k xs ws outs H' Z' os' hxs Po nb
    exact SX.putA (ds := ds ++ xs) (vs := vs ++ ws) (by simpa [List.append_assoc] using S2) (by simp [hl, hxs]) hL' hput⟩
end
end PV

namespace L2
open PySem PySem.Spec PyProof.Rows
theorem PE.impV {X : Cx} {e : Expr} {t t' : TE} (h : PE X e t) (k : ∀ σ H Q, t' σ H Q → t σ H Q) : PE X e t' := ⟨fun pins s σ H Q I h' => h.run pins s σ H Q I (k _ _ _ h')⟩
theorem PT.impV {X : Cx} {e : Expr} {t t' : TT} (h : PT X e t) (k : ∀ σ H Q, t' σ H Q → t σ H Q) : PT X e t' := ⟨fun pins s σ H Q I h' => h.run pins s σ H Q I (k _ _ _ h')⟩
theorem PW.impV {X : Cx} {e : Expr} {t t' : TT} (h : PW X e t) (k : ∀ σ H Q, t' σ H Q → t σ H Q) : PW X e t' := ⟨fun wh pins s σ H Q I h' => h.run wh pins s σ H Q I (k _ _ _ h')⟩
theorem PA.impV {X : Cx} {e : List Expr} {t t' : TA} (h : PA X e t) (k : ∀ σ H Q, t' σ H Q → t σ H Q) : PA X e t' := ⟨fun pos pins s σ H Q I h' => h.run pos pins s σ H Q I (k _ _ _ h')⟩
theorem PS.impV {X : Cx} {e : Stmt} {t t' : TS} (h : PS X e t) (k : ∀ D σ H, t' D σ H → t D σ H) : PS X e t' := ⟨fun pins s σ H Q I h' => h.run pins s σ H Q I (k _ _ _ h')⟩
theorem PSs.impV {X : Cx} {e : List Stmt} {t t' : TS} (h : PSs X e t) (k : ∀ D σ H, t' D σ H → t D σ H) : PSs X e t' := ⟨fun pins s σ H Q I h' => h.run pins s σ H Q I (k _ _ _ h')⟩
end L2
namespace PV
open PySem L2
/-! ### the judgements -/
/-- the context of a body: what the rules ask of it -/
structure COk (X : Cx) (C : Cc) : Prop where
  k : C.K = X.K
  tk : Takes X C.W
/-- how an exception lies -/
def ExOk (C : Cc) (e : Ex) (cls : Value) (dx : Option Addr) (H : Hp) (us : List V) : Prop := ∃ a, C.CA e.c = some a ∧ cls = .ref a ∧ match e.p with
  | none => dx = none ∧ us = []
  | some _ => ∃ x v, dx = some x ∧ H x = some (.xd [(e.f, v)]) ∧ us = [v]
def rX (C : Cc) (ds : List D) (vs : List V) (σ : St) (e : Ex) (st : List D) : Prop := ∀ cls dx us H', SX C st (ds ++ e.ds) σ (vs ++ us) H' → ExOk C e cls dx H' us → C.W cls dx σ H'
def rE (C : Cc) (sm : Bool) (ds : List D) (vs : List V) (σ : St) (H : Hp) (Q : VK) : R D → Prop
  | .ok d st => ∀ v H', (sm = true → Same H H') → SX C st (ds ++ [d]) σ (vs ++ [v]) H' → Q v H'
  | .ex e st => rX C ds vs σ e st
  | .stuck => False
def trE (C : Cc) (sm : Bool) (m : List D → R D) : TE := fun σ H Q => ∃ st ds vs, SX C st ds σ vs H ∧ ds.length = vs.length ∧ rE C sm ds vs σ H Q (m st)
def VE (X : Cx) (C : Cc) (sm : Bool) (e : Expr) (m : List D → R D) : Prop := PE X e (trE C sm m)
/-- quiet: a place, or a scalar; nothing changes -/
inductive PL where | pth (r : Nat) (p : Pth) | sc (d : D)
def rQ (σ : St) (H : Hp) (Q : VK) : Option PL → Prop
  | some (.pth r p) => ∀ u, HPs H σ r p u → Q u H
  | some (.sc d) => ∀ v, vOf d = some v → Q v H
  | none => False
/-- a place's tree is a node -/
def PLok (C : Cc) (st : List D) : PL → Prop
  | .pth r p => ∃ k xs, getS st r p = some (.nd k xs)
  | .sc d => ∃ v, vOf d = some v
def trQ (C : Cc) (q : List D → Option PL) : TE := fun σ H Q => ∃ st ds vs, SX C st ds σ vs H ∧ rQ σ H Q (q st)
structure VQ (X : Cx) (C : Cc) (e : Expr) (q : List D → Option PL) : Prop where
  pe : PE X e (trQ C q)
  ok : ∀ st pl, q st = some pl → PLok C st pl
/-- a test -/
def rT (C : Cc) (ds : List D) (vs : List V) (σ : St) (Q : Bool → Hp → Prop) : R Bool → Prop
  | .ok b st => ∀ H', SX C st ds σ vs H' → Q b H'
  | .ex e st => rX C ds vs σ e st
  | .stuck => False
def trT (C : Cc) (m : List D → R Bool) : TT := fun σ H Q => ∃ st ds vs, SX C st ds σ vs H ∧ ds.length = vs.length ∧ rT C ds vs σ Q (m st)
def VT (X : Cx) (C : Cc) (e : Expr) (m : List D → R Bool) : Prop := PT X e (trT C m)
def VW (X : Cx) (C : Cc) (e : Expr) (m : List D → R Bool) : Prop := PW X e (trT C m)
/-- arguments -/
def rA (C : Cc) (sm : Bool) (ds : List D) (vs : List V) (σ : St) (H : Hp) (Q : List V → Hp → Prop) : R (List AD) → Prop
  | .ok as st => ∀ us H', (sm = true → Same H H') → SX C st (ds ++ as.map AD.d) σ (vs ++ us) H' → Lnd H' σ as us → Q us H'
  | .ex e st => rX C ds vs σ e st
  | .stuck => False
def trA (C : Cc) (sm : Bool) (m : List D → R (List AD)) : TA := fun σ H Q => ∃ st ds vs, SX C st ds σ vs H ∧ ds.length = vs.length ∧ rA C sm ds vs σ H Q (m st)
def VA (X : Cx) (C : Cc) (sm : Bool) (es : List Expr) (m : List D → R (List AD)) : Prop := PA X es (trA C sm m)
def R.bind {α β : Type} (m : R α) (f : α → List D → R β) : R β := match m with
  | .ok a st => f a st
  | .ex e st => .ex e st
  | .stuck => .stuck
@[simp] theorem R.bind_ok {α β : Type} (a : α) (st : List D) (f : α → List D → R β) : (R.ok a st).bind f = f a st := rfl
@[simp] theorem R.bind_ex {α β : Type} (e : Ex) (st : List D) (f : α → List D → R β) : (R.ex e st : R α).bind f = .ex e st := rfl
@[simp] theorem R.bind_stuck {α β : Type} (f : α → List D → R β) : (R.stuck : R α).bind f = .stuck := rfl
section
variable {X : Cx} {C : Cc} {st ds : List D} {σ : St} {vs : List V} {H H' : Hp}
theorem SX.dn (s : SX C st ds σ vs H) : ds.length = vs.length := let ⟨_, _, s⟩ := s; s.dn
theorem SX.sln (s : SX C st ds σ vs H) : st.length = σ.length := let ⟨_, _, s⟩ := s; s.ln
/-- temporaries dropped from between -/
theorem SX.dropMid {d' tl : List D} {v' tlv : List V} (s : SX C st ((ds ++ d') ++ tl) σ ((vs ++ v') ++ tlv) H) (hl : ds.length = vs.length) (hl' : d'.length = v'.length) : SX C st (ds ++ tl) σ (vs ++ tlv) H := by
  obtain ⟨Z, os, s⟩ := s
  obtain ⟨o1, o2, r1, r2, e⟩ := s.cut
  obtain ⟨o3, o4, r3, r4, e3⟩ := RpL.cut (by simp [hl, hl']) r2
  obtain ⟨o5, o6, r5, r6, e5⟩ := RpL.cut hl r3
  exact (s.mk2 (os' := fun b => o1 b + (o5 b + o4 b)) (o2 := fun b => o5 b + o4 b) r1 (r5.app r4 fun _ => rfl) (fun _ => rfl) (fun b => by rw [e, e3, e5]; (try dsimp only); omega) s.sl).sx
theorem rX.up {d' : List D} {v' : List V} {e : Ex} {st : List D} (h : rX C ds vs σ e st) (hl : ds.length = vs.length) (hl' : d'.length = v'.length) : rX C (ds ++ d') (vs ++ v') σ e st :=
  fun cls dx us H' s k => h cls dx us H' (s.dropMid hl hl') k
/-- a slot's place -/
theorem SX.place {r : Nat} {p : Pth} {e : D} (s : SX C st ds σ vs H) (h : getS st r p = some e) (hu : e ≠ .un) : ∃ u, HPs H σ r p u := by
  obtain ⟨Z, os, s⟩ := s
  obtain ⟨u, _, _, _, hp, _⟩ := s.path h (s.hv h hu)
  exact ⟨u, hp⟩
/-- what stands at a node's place -/
theorem SX.node {r : Nat} {p : Pth} {k : Kd} {xs : List D} {u : V} (s : SX C st ds σ vs H) (h : getS st r p = some (.nd k xs)) (hp : HPs H σ r p u) :
    ∃ (a : Addr) (ws : List V) (Z : Addr → Prop) (os : Ct), u = .ref a ∧ HoK C.CA H a ws k ∧ RpL (C.G Z H) xs ws os := by
  obtain ⟨Z, os, s⟩ := s
  obtain ⟨u', oe, _, _, hp', re, _⟩ := s.path h (let ⟨v, e, _⟩ := hp; ⟨v, e⟩)
  have := hp.fn hp'; subst this
  cases re with
  | nd hk rl n => exact ⟨_, _, Z, _, rfl, hk, rl⟩
theorem SX.scal {r : Nat} {p : Pth} {d : D} {u v : V} (s : SX C st ds σ vs H) (h : getS st r p = some d) (hv : vOf d = some v) (hp : HPs H σ r p u) : u = v := by
  obtain ⟨Z, os, s⟩ := s
  obtain ⟨u', oe, _, _, hp', re, _⟩ := s.path h (let ⟨v, e, _⟩ := hp; ⟨v, e⟩)
  have := hp.fn hp'; subst this
  exact sc_of re hv
/-- the last temporary is a scalar -/
theorem SX.scTop {d : D} {u v : V} (s : SX C st (ds ++ [d]) σ (vs ++ [u]) H) (hv : vOf d = some v) : u = v := by
  obtain ⟨Z, os, s⟩ := s
  obtain ⟨_, _, _, _, _, r, _⟩ := s.top
  exact sc_of r hv
theorem SX.ndTop {k : Kd} {xs : List D} {u : V} (s : SX C st (ds ++ [.nd k xs]) σ (vs ++ [u]) H) : ∃ (a : Addr) (ws : List V) (Z : Addr → Prop) (os : Ct), u = .ref a ∧ HoK C.CA H a ws k ∧ RpL (C.G Z H) xs ws os := by
  obtain ⟨Z, os, s⟩ := s
  obtain ⟨_, _, _, _, _, r, _⟩ := s.top
  cases r with
  | nd hk rl n => exact ⟨_, _, Z, _, rfl, hk, rl⟩
/-! ### quiet things -/
/-- a place, or its scalar -/
def plOf (st : List D) (r : Nat) (p : Pth) : Option PL := match getS st r p with
  | some d => match vOf d with
    | some _ => some (.sc d)
    | none => match d with
      | .nd _ _ => some (.pth r p)
      | _ => none
  | none => none
theorem plOf_ok {r : Nat} {p : Pth} {pl : PL} (h : plOf st r p = some pl) : PLok C st pl := by
  unfold plOf at h
  cases q : getS st r p with
  | none => rw [q] at h; simp at h
  | some d =>
    rw [q] at h; simp only at h
    cases w : vOf d with
    | some v => rw [w] at h; simp at h; subst h; exact ⟨v, w⟩
    | none =>
      rw [w] at h
      cases d <;> simp at h
      subst h; exact ⟨_, _, q⟩
/-- from a place's value to its reading -/
theorem rQ_pl {r : Nat} {p : Pth} {Q : VK} {u : V} (s : SX C st ds σ vs H) (hp : HPs H σ r p u) (h : rQ σ H Q (plOf st r p)) : Q u H := by
  unfold plOf at h
  cases q : getS st r p with
  | none => rw [q] at h; exact h.elim
  | some d =>
    rw [q] at h; simp only at h
    cases w : vOf d with
    | some v =>
      rw [w] at h
      rw [s.scal q w hp]; exact h v w
    | none =>
      rw [w] at h
      cases d <;> first | exact h u hp | exact h.elim
def qV (i : Nat) : List D → Option PL := fun st => plOf st i []
theorem vq_v (i : Nat) {x : Str} {pos : Pos} (hN : X.N[i]? = some x := by rfl) (hv : Vis X.env.scope x := by first | exact Or.inl rfl | exact Or.inr (Or.inl rfl) | exact Or.inr (Or.inr rfl)) (hd : (x == ("__debug__" : Str)) = false := by decide)
    (hcd : (x == ("__classdict__" : Str)) = false := by decide) : VQ X C (.Name x pos) (qV i) := by
  refine ⟨(pv i hN hv hd hcd).impV ?_, fun st pl h => plOf_ok h⟩
  rintro σ H Q ⟨st, ds, vs, s, h⟩
  unfold qV at h
  cases q : getS st i [] with
  | none => unfold plOf at h; rw [q] at h; exact h.elim
  | some d =>
    have hu : d ≠ .un := by
      rintro rfl
      unfold plOf at h; rw [q] at h; exact h.elim
    obtain ⟨u, hp⟩ := s.place q hu
    obtain ⟨v, e, e2⟩ := id hp
    have e2 : v = u := e2
    subst e2
    exact ⟨v, e, rQ_pl s hp h⟩
def qC (d : D) : List D → Option PL := fun _ => some (.sc d)
theorem vq_int {i : Int} {j : Nat} {pos : Pos} : VQ X C (.Constant (.int i) j pos) (qC (.int i)) := ⟨pe_int.impV (by rintro σ H Q ⟨st, ds, vs, s, h⟩; exact h _ rfl), by rintro st pl h; simp [qC] at h; subst h; exact ⟨_, rfl⟩⟩
theorem vq_bl {b : Bool} {j : Nat} {pos : Pos} : VQ X C (.Constant (.bool b) j pos) (qC (.bl b)) := ⟨pe_bl.impV (by rintro σ H Q ⟨st, ds, vs, s, h⟩; exact h _ rfl), by rintro st pl h; simp [qC] at h; subst h; exact ⟨_, rfl⟩⟩
theorem vq_non {j : Nat} {pos : Pos} : VQ X C (.Constant .none j pos) (qC .non) := ⟨pe_non.impV (by rintro σ H Q ⟨st, ds, vs, s, h⟩; exact h _ rfl), by rintro st pl h; simp [qC] at h; subst h; exact ⟨_, rfl⟩⟩
theorem vq_str {x : Str} {j : Nat} {pos : Pos} : VQ X C (.Constant (.str x) j pos) (qC (.str x)) := ⟨pe_str.impV (by rintro σ H Q ⟨st, ds, vs, s, h⟩; exact h _ rfl), by rintro st pl h; simp [qC] at h; subst h; exact ⟨_, rfl⟩⟩
/-- o.f -/
def qF (c f : Str) (qa : List D → Option PL) : List D → Option PL := fun st => match qa st with
  | some (.pth r p) => match getS st r p with
    | some (.nd (.ins _ c' ns) _) => if c' = c then match ns.findIdx? (· == f) with
        | some j => plOf st r (p ++ [j])
        | none => none
      else none
    | _ => none
  | _ => none
theorem lookup_zip {f : Str} : ∀ {ns : List Str} {ws : List V} {j : Nat} {w : V}, ns.findIdx? (· == f) = some j → ws[j]? = some w → (ns.zip ws).lookup f = some w
  | [], _, _, _, h, _ => by simp at h
  | n :: ns, [], _, _, _, h => by simp at h
  | n :: ns, v :: ws, j, w, h, hw => by
    rw [List.findIdx?_cons] at h
    by_cases e : (n == f) = true
    · rw [if_pos e] at h; simp at h; subst h
      have : (f == n) = true := by rw [beq_iff_eq] at e ⊢; exact e.symm
      simp at hw; subst hw
      simp [List.lookup, this]
    · rw [if_neg e] at h
      have e' : (f == n) = false := by
        rw [Bool.not_eq_true] at e
        rw [beq_eq_false_iff_ne] at e ⊢; exact fun z => e z.symm
      cases q : ns.findIdx? (· == f) with
      | none => rw [q] at h; simp at h
      | some i =>
        rw [q] at h; simp at h; subst h
        simp [List.lookup, e']
        exact lookup_zip q (by simpa using hw)
theorem rQ_next {r : Nat} {p : Pth} {k : Kd} {xs : List D} {j : Nat} {a : Addr} {ws : List V} {w : V} {Q : VK} (s : SX C st ds σ vs H) (h : getS st r p = some (.nd k xs)) (hp : HPs H σ r p (.ref a)) (hk : HoK C.CA H a ws k) (hw : ws[j]? = some w) (q : rQ σ H Q (plOf st r (p ++ [j]))) : Q w H := by
  obtain ⟨o, ho, hv⟩ := hk.vals
  obtain ⟨v, e, hp⟩ := hp
  exact rQ_pl s ⟨v, e, hp.snoc ho (by rw [hv]; exact hw)⟩ q
theorem getS_len {r : Nat} {p : Pth} {k : Kd} {xs : List D} {j : Nat} {Q : VK} (h : getS st r p = some (.nd k xs)) (q : rQ σ H Q (plOf st r (p ++ [j]))) : j < xs.length := by
  unfold plOf at q
  cases e : getS st r (p ++ [j]) with
  | none => rw [e] at q; exact q.elim
  | some d =>
    unfold getS at h e
    cases h0 : st[r]? with
    | none => rw [h0] at h; simp at h
    | some x =>
      rw [h0] at h e; simp only at h e
      clear q h0
      induction p generalizing x with
      | nil =>
        simp [getP] at h; subst h
        simp only [List.nil_append, getP] at e
        cases q : xs[j]? with
        | none => rw [q] at e; simp at e
        | some y => exact (List.getElem?_eq_some_iff.mp q).1
      | cons i p ih =>
        cases x with
        | nd k' ys =>
          simp only [getP, List.cons_append] at h e
          cases q : ys[i]? with
          | none => rw [q] at h; simp at h
          | some y => rw [q] at h e; exact ih y (by simpa using e) (by simpa using h)
        | _ => simp [getP] at h
/-- the facts of an own class that its fields ask -/
structure ClsF (K : PySem.W.Frag) (C : Addr) (fs : List Str) : Prop where
  cl : Cls K C
  no : ∀ f ∈ fs, NoAttr K C f
/-- classes: each known one by its name -/
def ClsOk (K : PySem.W.Frag) (CA : Str → Option Addr) (c f : Str) : Prop := ∀ a, CA c = some a → Cls K a ∧ NoAttr K a f
theorem vq_f {e : Expr} {f c : Str} {pos : Pos} {qa : List D → Option PL} (O : COk X C) (ha : VQ X C e qa) (hc : ClsOk X.K C.CA c f) (hb : attributeBase e f X.env (eval e X.env) = eval e X.env := by rfl) : VQ X C (.Attribute e f pos) (qF c f qa) := by
  refine ⟨(pe_fld ha.pe hb).impV ?_, fun st pl h => ?_⟩
  · rintro σ H Q ⟨st, ds, vs, s, h⟩
    refine ⟨st, ds, vs, s, ?_⟩
    unfold qF at h
    cases q : qa st with
    | none => rw [q] at h; exact h.elim
    | some pl =>
      rw [q] at h
      cases pl with
      | sc d => exact h.elim
      | pth r p =>
        simp only at h
        obtain ⟨k, xs, hg⟩ := ha.ok _ _ q
        rw [hg] at h
        cases k with
        | ins fl c' ns =>
          simp only at h
          split at h
          case isFalse => exact h.elim
          rename_i ec
          subst ec
          cases w : ns.findIdx? (· == f) with
          | none => rw [w] at h; exact h.elim
          | some j =>
            rw [w] at h
            intro u hp
            obtain ⟨a, ws, Z, os, rfl, hk, rl⟩ := s.node hg hp
            have hj := getS_len hg h
            have hl := rl.len
            obtain ⟨v, hv⟩ : ∃ v, ws[j]? = some v := ⟨ws[j], by simp [← hl, hj]⟩
            obtain ⟨_, A, dx, hA, hH⟩ := id hk
            obtain ⟨c1, c2⟩ := hc A hA
            exact ⟨a, A, dx, _, v, rfl, hH, c1, c2, lookup_zip w hv, rQ_next s hg hp hk hv h⟩
        | _ => exact h.elim
  · unfold qF at h
    split at h
    · split at h
      · split at h
        · split at h
          · exact plOf_ok h
          · cases h
        · cases h
      · cases h
    · cases h
/-- xs[i] of a list, a tuple, a text -/
def qIx (qa qb : List D → Option PL) : List D → Option PL := fun st => match qa st, qb st with
  | some (.pth r p), some (.sc (.int i)) => match getS st r p with
    | some (.nd (.lst _) xs) => match ixN xs.length i with
      | some j => plOf st r (p ++ [j])
      | none => none
    | some (.nd .tup xs) => match ixN xs.length i with
      | some j => plOf st r (p ++ [j])
      | none => none
    | _ => none
  | some (.sc (.str z)), some (.sc (.int i)) => if z.length ≤ sizeLine then match atI z.cps.toList i with
      | some c => some (.sc (.str ⟨#[c]⟩))
      | none => none
    else none
  | _, _ => none
theorem atI_of {α : Type} {xs : List α} {i : Int} {j : Nat} {v : α} (h : ixN xs.length i = some j) (hv : xs[j]? = some v) : atI xs i = some v := by
  unfold atI; rw [h]; exact hv
theorem vq_ix {a b : Expr} {pos : Pos} {qa qb : List D → Option PL} (O : COk X C) (ha : VQ X C a qa) (hb : VQ X C b qb) (hs : PlainIx b := by exact fun _ _ => rfl) : VQ X C (.Subscript a b pos) (qIx qa qb) := by
  refine ⟨(pe_ix ix_seq ha.pe hb.pe hs).impV ?_, fun st pl h => ?_⟩
  · rintro σ H Q ⟨st, ds, vs, s, h⟩
    refine ⟨st, ds, vs, s, ?_⟩
    unfold qIx at h
    cases q : qa st with
    | none => rw [q] at h; exact h.elim
    | some pl =>
      cases q2 : qb st with
      | none => rw [q, q2] at h; cases pl with
        | pth r p => exact h.elim
        | sc d => cases d <;> exact h.elim
      | some pl2 =>
        rw [q, q2] at h
        cases pl2 with
        | pth r2 p2 =>
          cases pl with
          | pth r p => exact h.elim
          | sc d => cases d <;> exact h.elim
        | sc d2 =>
          cases d2 with
          | int i =>
            cases pl with
            | pth r p =>
              simp only at h
              obtain ⟨k, xs, hg⟩ := ha.ok _ _ q
              rw [hg] at h
              intro u hp
              refine ⟨st, ds, vs, s, ?_⟩
              rw [q2]
              rintro v2 hv2
              simp [vOf] at hv2; subst hv2
              obtain ⟨a', ws, Z, os, rfl, hk, rl⟩ := s.node hg hp
              have hl := rl.len
              cases k with
              | lst f =>
                simp only at h
                cases w : ixN xs.length i with
                | none => rw [w] at h; exact h.elim
                | some j =>
                  rw [w] at h
                  have hj := getS_len hg h
                  obtain ⟨v, hv⟩ : ∃ v, ws[j]? = some v := ⟨ws[j], by simp [← hl, hj]⟩
                  exact .inl ⟨a', ws, i, v, rfl, rfl, SqL.of hk, atI_of (by rw [← hl]; exact w) hv, rQ_next s hg hp hk hv h⟩
              | tup =>
                simp only at h
                cases w : ixN xs.length i with
                | none => rw [w] at h; exact h.elim
                | some j =>
                  rw [w] at h
                  have hj := getS_len hg h
                  obtain ⟨v, hv⟩ : ∃ v, ws[j]? = some v := ⟨ws[j], by simp [← hl, hj]⟩
                  exact .inr (.inl ⟨a', ws, i, v, rfl, rfl, SqT.of hk, atI_of (by rw [← hl]; exact w) hv, rQ_next s hg hp hk hv h⟩)
              | _ => exact h.elim
            | sc d =>
              cases d with
              | str z =>
                simp only at h
                rintro v1 hv1
                simp [vOf] at hv1; subst hv1
                refine ⟨st, ds, vs, s, ?_⟩
                rw [q2]
                rintro v2 hv2
                simp [vOf] at hv2; subst hv2
                split at h
                · rename_i hz
                  cases w : atI z.cps.toList i with
                  | none => rw [w] at h; exact h.elim
                  | some c =>
                    rw [w] at h
                    exact .inr (.inr ⟨z, i, c, rfl, rfl, hz, w, h _ rfl⟩)
                · exact h.elim
              | _ => exact h.elim
          | _ => cases pl with
            | pth r p => exact h.elim
            | sc d => cases d <;> exact h.elim
  · unfold qIx at h
    split at h
    · split at h
      · split at h
        · exact plOf_ok h
        · cases h
      · split at h
        · exact plOf_ok h
        · cases h
      · cases h
    · split at h
      · split at h
        · simp at h; subst h; exact ⟨_, rfl⟩
        · cases h
      · cases h
    · cases h
end
end PV

namespace PV
open PySem L2
/-! ### scalar operations -/
abbrev G2 := D → D → Option D
def rS (g : G2) : R2 := fun v u H Q => ∃ x y d w, vOf x = some v ∧ vOf y = some u ∧ g x y = some d ∧ vOf d = some w ∧ Q w H
def ScG (g : G2) : Prop := ∀ x y d, g x y = some d → (∃ v, vOf x = some v) ∧ (∃ v, vOf y = some v) ∧ ∃ w, vOf d = some w
def qOp (g : G2) (qa qb : List D → Option PL) : List D → Option PL := fun st => match qa st, qb st with
  | some (.sc x), some (.sc y) => match g x y with
    | some d => some (.sc d)
    | none => none
  | _, _ => none
def mOp (g : G2) (ma mb : List D → R D) : List D → R D := fun st => (ma st).bind fun x st1 => (mb st1).bind fun y st2 => match g x y with
  | some d => .ok d st2
  | none => .stuck
section
variable {X : Cx} {C : Cc} {st ds : List D} {σ : St} {vs : List V} {H H' : Hp} {a b : Expr} {pos : Pos} {qa qb : List D → Option PL} {ma mb : List D → R D} {sa sb : Bool}
theorem q_two {g : G2} (hg : ScG g) (ha : VQ X C a qa) (hb : VQ X C b qb) {r : R2} (hr : ∀ x y d v u w H Q, vOf x = some v → vOf y = some u → g x y = some d → vOf d = some w → Q w H → r v u H Q) :
    ∀ σ H Q, trQ C (qOp g qa qb) σ H Q → tOp r (trQ C qa) (trQ C qb) σ H Q := by
  rintro σ H Q ⟨st, ds, vs, s, h⟩
  refine ⟨st, ds, vs, s, ?_⟩
  unfold qOp at h
  cases q : qa st with
  | none => rw [q] at h; exact h.elim
  | some pl =>
    cases q2 : qb st with
    | none => rw [q, q2] at h; cases pl <;> exact h.elim
    | some pl2 =>
      rw [q, q2] at h
      cases pl with
      | pth r p => exact h.elim
      | sc x =>
        cases pl2 with
        | pth r p => exact h.elim
        | sc y =>
          simp only at h
          cases e : g x y with
          | none => rw [e] at h; exact h.elim
          | some d =>
            rw [e] at h
            obtain ⟨_, _, w, hw⟩ := hg _ _ _ e
            intro v hv
            refine ⟨st, ds, vs, s, ?_⟩
            rw [q2]
            intro u hu
            exact hr x y d v u w H Q hv hu e hw (h w hw)
theorem qOp_ok {g : G2} (hg : ScG g) : ∀ st pl, qOp g qa qb st = some pl → PLok C st pl := by
  intro st pl h
  unfold qOp at h
  split at h
  · split at h
    · rename_i e
      simp at h; subst h
      exact (hg _ _ _ e).2.2
    · cases h
  · cases h
/-- two expressions in a row, their values the last temporaries -/
theorem seq2 {f : D → D → List D → R D} {sm : Bool} {R' : V → V → Hp → Prop} {Q : VK} (s : SX C st ds σ vs H) (hl : ds.length = vs.length)
    (hM : rE C sm ds vs σ H Q ((ma st).bind fun x st1 => (mb st1).bind fun y st2 => f x y st2))
    (hf : ∀ x y st2 v u H2, ((sa && sb) = true → Same H H2) → SX C st2 ((ds ++ [x]) ++ [y]) σ ((vs ++ [v]) ++ [u]) H2 → rE C sm ds vs σ H Q (f x y st2) → R' v u H2) :
    trE C sa ma σ H fun v H1 => trE C sb mb σ H1 (R' v) := by
  refine ⟨st, ds, vs, s, hl, ?_⟩
  cases e : ma st with
  | stuck => rw [e] at hM; exact hM.elim
  | ex x st' => rw [e] at hM; exact hM
  | ok x st1 =>
    rw [e] at hM
    intro v H1 sm1 s1
    refine ⟨st1, ds ++ [x], vs ++ [v], s1, by simp [hl], ?_⟩
    simp only [R.bind_ok] at hM
    cases e2 : mb st1 with
    | stuck => rw [e2] at hM; exact hM.elim
    | ex y st' => rw [e2] at hM; exact rX.up hM hl rfl
    | ok y st2 =>
      rw [e2] at hM
      intro u H2 sm2 s2
      refine hf x y st2 v u H2 (fun z => ?_) s2 hM
      simp only [Bool.and_eq_true] at z
      exact (sm1 z.1).trans (sm2 z.2)
theorem seq1 {f : D → List D → R D} {sm : Bool} {R' : V → Hp → Prop} {Q : VK} (s : SX C st ds σ vs H) (hl : ds.length = vs.length)
    (hM : rE C sm ds vs σ H Q ((ma st).bind f)) (hf : ∀ x st1 v H1, (sa = true → Same H H1) → SX C st1 (ds ++ [x]) σ (vs ++ [v]) H1 → rE C sm ds vs σ H Q (f x st1) → R' v H1) : trE C sa ma σ H R' := by
  refine ⟨st, ds, vs, s, hl, ?_⟩
  cases e : ma st with
  | stuck => rw [e] at hM; exact hM.elim
  | ex x st' => rw [e] at hM; exact hM
  | ok x st1 =>
    rw [e] at hM
    intro v H1 sm1 s1
    exact hf x st1 v H1 sm1 s1 hM
theorem e_two {g : G2} (hg : ScG g) {r : R2} (hr : ∀ x y d v u w H Q, vOf x = some v → vOf y = some u → g x y = some d → vOf d = some w → Q w H → r v u H Q) :
    ∀ σ H Q, trE C (sa && sb) (mOp g ma mb) σ H Q → tOp r (trE C sa ma) (trE C sb mb) σ H Q := by
  rintro σ H Q ⟨st, ds, vs, s, hl, h⟩
  refine seq2 (sm := sa && sb) s hl h fun x y st2 v u H2 sm s2 h2 => ?_
  cases e : g x y with
  | none => rw [e] at h2; exact h2.elim
  | some d =>
    rw [e] at h2
    obtain ⟨⟨v', hv⟩, ⟨u', hu⟩, w, hw⟩ := hg _ _ _ e
    have e2 : u = u' := s2.scTop hu
    subst e2
    have s3 := s2.pop
    have e1 : v = v' := s3.scTop hv
    subst e1
    exact hr x y d v u w H2 Q hv hu e hw (h2 w H2 (fun z => sm z) (s3.pop.pushc hw))
theorem vq_bin {op : Operator} {r : R2} {g : G2} (ho : OpR X (binaryOp op) r) (hg : ScG g) (hr : ∀ x y d v u w H Q, vOf x = some v → vOf y = some u → g x y = some d → vOf d = some w → Q w H → r v u H Q) (ha : VQ X C a qa) (hb : VQ X C b qb) : VQ X C (.BinOp a op b pos) (qOp g qa qb) :=
  ⟨(pe_op ho ha.pe hb.pe).impV (q_two hg ha hb hr), qOp_ok hg⟩
theorem ve_bin {op : Operator} {r : R2} {g : G2} (ho : OpR X (binaryOp op) r) (hg : ScG g) (hr : ∀ x y d v u w H Q, vOf x = some v → vOf y = some u → g x y = some d → vOf d = some w → Q w H → r v u H Q) (ha : VE X C sa a ma) (hb : VE X C sb b mb) : VE X C (sa && sb) (.BinOp a op b pos) (mOp g ma mb) :=
  (pe_op ho ha hb).impV (e_two hg hr)
theorem vq_cmp {op : CmpOp} {r : R2} {g : G2} (ho : OpR X (compareOp op) r) (hn : behindInMarks op b = false) (hg : ScG g) (hr : ∀ x y d v u w H Q, vOf x = some v → vOf y = some u → g x y = some d → vOf d = some w → Q w H → r v u H Q) (ha : VQ X C a qa) (hb : VQ X C b qb) : VQ X C (.Compare a [op] [b] pos) (qOp g qa qb) :=
  ⟨(pe_cmpR ho ha.pe hb.pe hn).impV (q_two hg ha hb hr), qOp_ok hg⟩
theorem ve_cmp {op : CmpOp} {r : R2} {g : G2} (ho : OpR X (compareOp op) r) (hn : behindInMarks op b = false) (hg : ScG g) (hr : ∀ x y d v u w H Q, vOf x = some v → vOf y = some u → g x y = some d → vOf d = some w → Q w H → r v u H Q) (ha : VE X C sa a ma) (hb : VE X C sb b mb) : VE X C (sa && sb) (.Compare a [op] [b] pos) (mOp g ma mb) :=
  (pe_cmpR ho ha hb hn).impV (e_two hg hr)
end
/-! ### the operations as functions -/
def gAdd : G2
  | .int i, .int j => some (.int (i + j))
  | .str x, .str y => if x.length + y.length ≤ sizeLine then some (.str (x ++ y)) else none
  | _, _ => none
def gI (f : Int → Int → D) (c : Int → Int → Bool) : G2
  | .int i, .int j => if c i j = true then some (f i j) else none
  | _, _ => none
instance (i j : Int) : Decidable (CMul i j) := by unfold CMul; infer_instance
abbrev gSub : G2 := gI (fun i j => .int (i - j)) fun _ _ => true
abbrev gMul : G2 := gI (fun i j => .int (i * j)) fun i j => decide (CMul i j)
abbrev gDiv : G2 := gI (fun i j => .int (i / j)) fun i j => decide (0 < j ∧ j.natAbs.log2 < 9000)
abbrev gMod : G2 := gI (fun i j => .int (i % j)) fun _ j => decide (0 < j)
abbrev gPow : G2 := gI (fun i j => .int (i ^ j.toNat)) fun i j => decide (0 ≤ j ∧ j ≤ 1000000 ∧ i.natAbs < 2 ^ 64)
abbrev gLt : G2 := gI (fun i j => .bl (decide (i < j))) fun _ _ => true
abbrev gLe : G2 := gI (fun i j => .bl (decide (i ≤ j))) fun _ _ => true
abbrev gGt : G2 := gI (fun i j => .bl (decide (j < i))) fun _ _ => true
abbrev gGe : G2 := gI (fun i j => .bl (decide (j ≤ i))) fun _ _ => true
theorem scg_I {f : Int → Int → D} {c : Int → Int → Bool} (h : ∀ i j, ∃ w, vOf (f i j) = some w) : ScG (gI f c) := by
  intro x y d e
  unfold gI at e
  split at e
  · split at e
    · simp at e; subst e; exact ⟨⟨_, rfl⟩, ⟨_, rfl⟩, h _ _⟩
    · cases e
  · cases e
theorem scg_add : ScG gAdd := by
  intro x y d e
  unfold gAdd at e
  split at e
  · simp at e; subst e; exact ⟨⟨_, rfl⟩, ⟨_, rfl⟩, ⟨_, rfl⟩⟩
  · split at e
    · simp at e; subst e; exact ⟨⟨_, rfl⟩, ⟨_, rfl⟩, ⟨_, rfl⟩⟩
    · cases e
  · cases e
theorem r_I {f : Int → Int → D} {c : Int → Int → Bool} {x y d : D} {v u w : V} (hv : vOf x = some v) (hu : vOf y = some u) (e : gI f c x y = some d) (hw : vOf d = some w) : ∃ i j, v = .int i ∧ u = .int j ∧ c i j = true ∧ vOf (f i j) = some w := by
  unfold gI at e
  split at e
  · rename_i i j
    split at e
    · rename_i hc
      simp at e; subst e
      simp [vOf] at hv hu; subst hv; subst hu
      exact ⟨i, j, rfl, rfl, hc, hw⟩
    · cases e
  · cases e
theorem OpR.or {X : Cx} {f : Value → Value → Sem Value} {r r' : R2} (h : OpR X f r) (h' : OpR X f r') : OpR X f (fun x y H Q => r x y H Q ∨ r' x y H Q) := by
  intro pins s σ H x y v u Q I rx ry q
  rcases q with q | q
  · exact h pins s σ H x y v u Q I rx ry q
  · exact h' pins s σ H x y v u Q I rx ry q
section
variable {X : Cx} {C : Cc} {a b : Expr} {pos : Pos} {qa qb : List D → Option PL} {ma mb : List D → R D} {sa sb : Bool}
theorem add_r : ∀ x y d v u w (H : Hp) (Q : VK), vOf x = some v → vOf y = some u → gAdd x y = some d → vOf d = some w → Q w H →
    ((rI0 fun i j => .int (i + j)) v u H Q ∨ ∃ i j, v = .str i ∧ u = .str j ∧ i.length + j.length ≤ sizeLine ∧ Q (.str (i ++ j)) H) := by
  intro x y d v u w H Q hv hu e hw q
  unfold gAdd at e
  split at e
  · simp at e; subst e
    simp [vOf] at hv hu hw; subst hv; subst hu; subst hw
    exact .inl ⟨_, _, rfl, rfl, q⟩
  · split at e
    · rename_i hz
      simp at e; subst e
      simp [vOf] at hv hu hw; subst hv; subst hu; subst hw
      exact .inr ⟨_, _, rfl, rfl, hz, q⟩
    · cases e
  · cases e
theorem vq_add (ha : VQ X C a qa) (hb : VQ X C b qb) : VQ X C (.BinOp a .Add b pos) (qOp gAdd qa qb) := vq_bin (OpR.or op_add op_add_str) scg_add add_r ha hb
theorem rI0_r {f : Int → Int → D} {g : Int → Int → V} (hg : ∀ i j, vOf (f i j) = some (g i j)) : ∀ x y d v u w (H : Hp) (Q : VK), vOf x = some v → vOf y = some u → gI f (fun _ _ => true) x y = some d → vOf d = some w → Q w H → rI0 g v u H Q := by
  intro x y d v u w H Q hv hu e hw q
  obtain ⟨i, j, rfl, rfl, _, h⟩ := r_I hv hu e hw
  rw [hg] at h; cases h
  exact ⟨i, j, rfl, rfl, q⟩
theorem rI_r {f : Int → Int → D} {g : Int → Int → V} {c : Int → Int → Bool} {P : Int → Int → Prop} (hg : ∀ i j, vOf (f i j) = some (g i j)) (hc : ∀ i j, c i j = true → P i j) : ∀ x y d v u w (H : Hp) (Q : VK), vOf x = some v → vOf y = some u → gI f c x y = some d → vOf d = some w → Q w H → rI P g v u H Q := by
  intro x y d v u w H Q hv hu e hw q
  obtain ⟨i, j, rfl, rfl, h1, h⟩ := r_I hv hu e hw
  rw [hg] at h; cases h
  exact ⟨i, j, rfl, rfl, hc i j h1, q⟩
theorem vq_sub (ha : VQ X C a qa) (hb : VQ X C b qb) : VQ X C (.BinOp a .Sub b pos) (qOp gSub qa qb) := vq_bin op_sub (scg_I fun _ _ => ⟨_, rfl⟩) (rI0_r fun _ _ => rfl) ha hb
theorem vq_mul (ha : VQ X C a qa) (hb : VQ X C b qb) : VQ X C (.BinOp a .Mult b pos) (qOp gMul qa qb) := vq_bin op_mul (scg_I fun _ _ => ⟨_, rfl⟩) (rI_r (fun _ _ => rfl) fun _ _ h => of_decide_eq_true h) ha hb
theorem vq_div (ha : VQ X C a qa) (hb : VQ X C b qb) : VQ X C (.BinOp a .FloorDiv b pos) (qOp gDiv qa qb) := vq_bin op_fdivW (scg_I fun _ _ => ⟨_, rfl⟩) (rI_r (fun _ _ => rfl) fun i j h => of_decide_eq_true (p := 0 < j ∧ j.natAbs.log2 < 9000) h) ha hb
theorem vq_mod (ha : VQ X C a qa) (hb : VQ X C b qb) : VQ X C (.BinOp a .Mod b pos) (qOp gMod qa qb) := vq_bin op_mod (scg_I fun _ _ => ⟨_, rfl⟩) (rI_r (fun _ _ => rfl) fun _ _ h => of_decide_eq_true h) ha hb
theorem vq_pow (ha : VQ X C a qa) (hb : VQ X C b qb) : VQ X C (.BinOp a .Pow b pos) (qOp gPow qa qb) := vq_bin op_pow (scg_I fun _ _ => ⟨_, rfl⟩) (rI_r (fun _ _ => rfl) fun i j h => of_decide_eq_true (p := 0 ≤ j ∧ j ≤ 1000000 ∧ i.natAbs < 2 ^ 64) h) ha hb
theorem ve_sub (ha : VE X C sa a ma) (hb : VE X C sb b mb) : VE X C (sa && sb) (.BinOp a .Sub b pos) (mOp gSub ma mb) := ve_bin op_sub (scg_I fun _ _ => ⟨_, rfl⟩) (rI0_r fun _ _ => rfl) ha hb
theorem vq_lt (ha : VQ X C a qa) (hb : VQ X C b qb) : VQ X C (.Compare a [.Lt] [b] pos) (qOp gLt qa qb) := vq_cmp op_lt (nomark _) (scg_I fun _ _ => ⟨_, rfl⟩) (rI0_r fun _ _ => rfl) ha hb
theorem vq_le (ha : VQ X C a qa) (hb : VQ X C b qb) : VQ X C (.Compare a [.LtE] [b] pos) (qOp gLe qa qb) := vq_cmp op_le (nomark _) (scg_I fun _ _ => ⟨_, rfl⟩) (rI0_r fun _ _ => rfl) ha hb
theorem vq_gt (ha : VQ X C a qa) (hb : VQ X C b qb) : VQ X C (.Compare a [.Gt] [b] pos) (qOp gGt qa qb) := vq_cmp op_gt (nomark _) (scg_I fun _ _ => ⟨_, rfl⟩) (rI0_r fun _ _ => rfl) ha hb
theorem vq_ge (ha : VQ X C a qa) (hb : VQ X C b qb) : VQ X C (.Compare a [.GtE] [b] pos) (qOp gGe qa qb) := vq_cmp op_ge (nomark _) (scg_I fun _ _ => ⟨_, rfl⟩) (rI0_r fun _ _ => rfl) ha hb
theorem ve_le (ha : VE X C sa a ma) (hb : VE X C sb b mb) : VE X C (sa && sb) (.Compare a [.LtE] [b] pos) (mOp gLe ma mb) := ve_cmp op_le (nomark _) (scg_I fun _ _ => ⟨_, rfl⟩) (rI0_r fun _ _ => rfl) ha hb
theorem ve_gt (ha : VE X C sa a ma) (hb : VE X C sb b mb) : VE X C (sa && sb) (.Compare a [.Gt] [b] pos) (mOp gGt ma mb) := ve_cmp op_gt (nomark _) (scg_I fun _ _ => ⟨_, rfl⟩) (rI0_r fun _ _ => rfl) ha hb
/-- -a -/
def qNeg (qa : List D → Option PL) : List D → Option PL := fun st => match qa st with
  | some (.sc (.int i)) => some (.sc (.int (-i)))
  | _ => none
theorem vq_neg (ha : VQ X C a qa) : VQ X C (.UnaryOp .USub a pos) (qNeg qa) := by
  refine ⟨(pe_un un_neg ha.pe).impV ?_, fun st pl h => ?_⟩
  · rintro σ H Q ⟨st, ds, vs, s, h⟩
    refine ⟨st, ds, vs, s, ?_⟩
    unfold qNeg at h
    cases q : qa st with
    | none => rw [q] at h; exact h.elim
    | some pl =>
      rw [q] at h
      cases pl with
      | pth r p => exact h.elim
      | sc d =>
        cases d with
        | int i =>
          intro v hv
          simp [vOf] at hv; subst hv
          exact ⟨i, rfl, h _ rfl⟩
        | _ => exact h.elim
  · unfold qNeg at h
    split at h
    · simp at h; subst h; exact ⟨_, rfl⟩
    · cases h
/-! ### quiet things used -/
/-- as a value: a node is frozen where it stands -/
def mQ (q : List D → Option PL) : List D → R D := fun st => match q st with
  | some (.sc d) => .ok d st
  | some (.pth r p) => match getS st r p with
    | some e => .ok e.frz (setS st r p e.frz)
    | none => .stuck
  | none => .stuck
theorem VQ.e (ha : VQ X C a qa) : VE X C true a (mQ qa) := by
  refine ha.pe.impV ?_
  rintro σ H Q ⟨st, ds, vs, s, hl, h⟩
  refine ⟨st, ds, vs, s, ?_⟩
  unfold mQ at h
  cases q : qa st with
  | none => rw [q] at h; exact h.elim
  | some pl =>
    rw [q] at h
    cases pl with
    | sc d =>
      intro v hv
      exact h v H (fun _ => Same.refl H) (s.pushc hv)
    | pth r p =>
      simp only at h
      intro u hp
      cases e : getS st r p with
      | none => rw [e] at h; exact h.elim
      | some d =>
        rw [e] at h
        exact h u H (fun _ => Same.refl H) (s.share e hp)
/-- a local name given up -/
def mMove (i : Nat) : List D → R D := fun st => match st[i]? with
  | some .un => .stuck
  | some d => .ok d (st.set i .un)
  | none => .stuck
theorem ve_move (i : Nat) {x : Str} {pos : Pos} (hN : X.N[i]? = some x := by rfl) (hv : Vis X.env.scope x := by first | exact Or.inl rfl | exact Or.inr (Or.inl rfl) | exact Or.inr (Or.inr rfl)) (hd : (x == ("__debug__" : Str)) = false := by decide)
    (hcd : (x == ("__classdict__" : Str)) = false := by decide) : VE X C true (.Name x pos) (mMove i) := by
  refine (pv i hN hv hd hcd).impV ?_
  rintro σ H Q ⟨st, ds, vs, s, hl, h⟩
  unfold mMove at h
  cases q : st[i]? with
  | none => rw [q] at h; exact h.elim
  | some d =>
    have hu : d ≠ .un := by rintro rfl; rw [q] at h; exact h.elim
    have h : rE C true ds vs σ H Q (.ok d (st.set i .un)) := by
      rw [q] at h
      cases d <;> first | exact h | exact absurd rfl hu
    obtain ⟨v, hv⟩ : ∃ v, σ[i]? = some (some v) := by
      obtain ⟨Z, os, t⟩ := id s
      exact t.sl i d q hu
    exact ⟨v, hv, h v H (fun _ => Same.refl H) (s.move q hv)⟩
/-! ### tests -/
def mTQ (q : List D → Option PL) : List D → R Bool := fun st => match q st with
  | some (.sc (.bl b)) => .ok b st
  | _ => .stuck
def mTE (m : List D → R D) : List D → R Bool := fun st => (m st).bind fun d st' => match d with
  | .bl b => .ok b st'
  | _ => .stuck
theorem VQ.t (ha : VQ X C a qa) (he : ∀ whole, isTrue a X.env whole = (do let v ← whole; standAt a.pos; holding [v] (truthy v)) := by intro _; rfl) : VT X C a (mTQ qa) := by
  refine (pt_val ha.pe he).impV ?_
  rintro σ H Q ⟨st, ds, vs, s, hl, h⟩
  refine ⟨st, ds, vs, s, ?_⟩
  unfold mTQ at h
  cases q : qa st with
  | none => rw [q] at h; exact h.elim
  | some pl =>
    rw [q] at h
    cases pl with
    | pth r p => exact h.elim
    | sc d =>
      cases d with
      | bl b =>
        intro v hv
        simp [vOf] at hv; subst hv
        exact ⟨b, rfl, h H s⟩
      | _ => exact h.elim
theorem VE.t (ha : VE X C sa a ma) (he : ∀ whole, isTrue a X.env whole = (do let v ← whole; standAt a.pos; holding [v] (truthy v)) := by intro _; rfl) : VT X C a (mTE ma) := by
  refine (pt_val ha he).impV ?_
  rintro σ H Q ⟨st, ds, vs, s, hl, h⟩
  refine ⟨st, ds, vs, s, hl, ?_⟩
  unfold mTE at h
  cases q : ma st with
  | stuck => rw [q] at h; exact h.elim
  | ex e st' => rw [q] at h; exact h
  | ok d st' =>
    rw [q] at h
    cases d with
    | bl b =>
      intro v H1 _ s1
      have : v = .bl b := s1.scTop rfl
      subst this
      exact ⟨b, rfl, h H1 s1.pop⟩
    | _ => exact h.elim
theorem isTrue_cmp1 {M : Model} {A : Around} {l r : Expr} {op : CmpOp} {env : Env} {s : Shared} {whole : Sem Value} {Q : Bool → Shared → Prop} {E : Value → Shared → Prop}
    (h : wpAny M A (eval (.Compare l [op] [r] pos) env) (fun v s₂ => wpAny M A (truthy v) Q E s₂) E s) : wpAny M A (isTrue (.Compare l [op] [r] pos) env whole) Q E s := fun Γ p hΓ => by
  have h' := h Γ p hΓ
  simp only [eval_Compare1, isTrue_Compare1, Sem.wp_bind', Sem.wp_holding, Sem.wp_cmd_standAt, Sem.wp_operate] at h' ⊢
  exact Sem.wp_mono M Γ _ (fun a p₁ s₁ h₁ => Sem.wp_mono M Γ _ (fun b _ s₂ h₂ => Sem.wp_mono M Γ _ (fun c p₃ s₃ h₃ => h₃ Γ p₃ hΓ) (fun _ _ _ h' => h') _ _ h₂) (fun _ _ _ h' => h') _ _ h₁) (fun _ _ _ h' => h') _ _ h'
theorem pt_cmpV {op : CmpOp} {t : TE} (h : PE X (.Compare a [op] [b] pos) t) : PT X (.Compare a [op] [b] pos) (tB t) := by
  refine ⟨fun pins s σ H Q I hw => ?_⟩
  refine isTrue_cmp1 (thn (h.run pins s σ H _ I hw) fun v s1 ⟨x, H1, I1, r1, q1⟩ => ?_)
  obtain ⟨d, rfl, q⟩ := q1
  cases r1
  exact wpAny_truthy_bool ⟨H1, I1, q⟩
theorem VQ.t_red : ∀ σ H Q, trT C (mTQ qa) σ H Q → tB (trQ C qa) σ H Q := by
  rintro σ H Q ⟨st, ds, vs, s, hl, h⟩
  refine ⟨st, ds, vs, s, ?_⟩
  unfold mTQ at h
  cases q : qa st with
  | none => rw [q] at h; exact h.elim
  | some pl =>
    rw [q] at h
    cases pl with
    | pth r p => exact h.elim
    | sc d =>
      cases d with
      | bl b =>
        intro v hv
        simp [vOf] at hv; subst hv
        exact ⟨b, rfl, h H s⟩
      | _ => exact h.elim
theorem VE.t_red : ∀ σ H Q, trT C (mTE ma) σ H Q → tB (trE C sa ma) σ H Q := by
  rintro σ H Q ⟨st, ds, vs, s, hl, h⟩
  refine ⟨st, ds, vs, s, hl, ?_⟩
  unfold mTE at h
  cases q : ma st with
  | stuck => rw [q] at h; exact h.elim
  | ex e st' => rw [q] at h; exact h
  | ok d st' =>
    rw [q] at h
    cases d with
    | bl b =>
      intro v H1 _ s1
      have : v = .bl b := s1.scTop rfl
      subst this
      exact ⟨b, rfl, h H1 s1.pop⟩
    | _ => exact h.elim
theorem VQ.tc {op : CmpOp} (ha : VQ X C (.Compare a [op] [b] pos) qa) : VT X C (.Compare a [op] [b] pos) (mTQ qa) := (pt_cmpV ha.pe).impV VQ.t_red
theorem VE.tc {op : CmpOp} (ha : VE X C sa (.Compare a [op] [b] pos) ma) : VT X C (.Compare a [op] [b] pos) (mTE ma) := (pt_cmpV ha).impV VE.t_red
end
end PV

namespace PV
open PySem L2
section
variable {X : Cx} {C : Cc} {st ds : List D} {σ : St} {vs : List V} {H H' : Hp} {a b : Expr} {pos : Pos} {qa qb : List D → Option PL} {ma mb : List D → R D} {ta tb : List D → R Bool} {sa sb : Bool} {rest : List Expr}
/-! ### tests: not, and, or -/
def mNotT (t : List D → R Bool) : List D → R Bool := fun st => (t st).bind fun b st' => .ok (!b) st'
def mAndT (t u : List D → R Bool) : List D → R Bool := fun st => (t st).bind fun b st' => if b = true then u st' else .ok false st'
def mOrT (t u : List D → R Bool) : List D → R Bool := fun st => (t st).bind fun b st' => if b = true then .ok true st' else u st'
theorem VT.not (ha : VT X C a ta) : VT X C (.UnaryOp .Not a pos) (mNotT ta) := by
  refine (pt_not ha).impV ?_
  rintro σ H Q ⟨st, ds, vs, s, hl, h⟩
  refine ⟨st, ds, vs, s, hl, ?_⟩
  unfold mNotT at h
  cases q : ta st with
  | stuck => rw [q] at h; exact h.elim
  | ex e st' => rw [q] at h; exact h
  | ok c st' => rw [q] at h; intro H1 s1; exact h H1 s1
theorem VT.and1 (ha : VT X C a ta) : VW X C (.BoolOp .And [a] pos) ta := pw_and1 ha
theorem VT.or1 (ha : VT X C a ta) : VW X C (.BoolOp .Or [a] pos) ta := pw_or1 ha
theorem VT.and (ha : VT X C a ta) (hb : VW X C (.BoolOp .And (b :: rest) pos) tb) : VW X C (.BoolOp .And (a :: b :: rest) pos) (mAndT ta tb) := by
  refine (pw_and ha hb).impV ?_
  rintro σ H Q ⟨st, ds, vs, s, hl, h⟩
  refine ⟨st, ds, vs, s, hl, ?_⟩
  unfold mAndT at h
  cases q : ta st with
  | stuck => rw [q] at h; exact h.elim
  | ex e st' => rw [q] at h; exact h
  | ok c st' =>
    rw [q] at h
    intro H1 s1
    cases c with
    | true => rw [if_pos rfl]; exact ⟨st', ds, vs, s1, hl, h⟩
    | false => rw [if_neg (by decide)]; exact h H1 s1
theorem VT.or (ha : VT X C a ta) (hb : VW X C (.BoolOp .Or (b :: rest) pos) tb) : VW X C (.BoolOp .Or (a :: b :: rest) pos) (mOrT ta tb) := by
  refine (pw_or ha hb).impV ?_
  rintro σ H Q ⟨st, ds, vs, s, hl, h⟩
  refine ⟨st, ds, vs, s, hl, ?_⟩
  unfold mOrT at h
  cases q : ta st with
  | stuck => rw [q] at h; exact h.elim
  | ex e st' => rw [q] at h; exact h
  | ok c st' =>
    rw [q] at h
    intro H1 s1
    cases c with
    | true => rw [if_pos rfl]; exact h H1 s1
    | false => rw [if_neg (by decide)]; exact ⟨st', ds, vs, s1, hl, h⟩
theorem VW.t (ha : VW X C a ta) : VT X C a ta := ha.pt
/-! ### not, and, or as values -/
def mNotV (m : List D → R D) : List D → R D := fun st => (m st).bind fun d st' => match d with
  | .bl b => .ok (.bl (!b)) st'
  | _ => .stuck
def mAndV (m n : List D → R D) : List D → R D := fun st => (m st).bind fun d st' => match d with
  | .bl true => n st'
  | .bl false => .ok (.bl false) st'
  | _ => .stuck
def mOrV (m n : List D → R D) : List D → R D := fun st => (m st).bind fun d st' => match d with
  | .bl true => .ok (.bl true) st'
  | .bl false => n st'
  | _ => .stuck
theorem rE.sm {Q : VK} : ∀ {r : R D}, rE C sa ds vs σ H Q r → (sb = true → sa = true) → rE C sb ds vs σ H Q r → True := fun _ _ _ => trivial
theorem rE.weak {Q : VK} {H1 : Hp} (s : sa = true → Same H H1) : ∀ {r : R D}, rE C (sa && sb) ds vs σ H Q r → rE C sb ds vs σ H1 Q r
  | .ok d st, h => fun v H' e k => h v H' (fun z => by simp only [Bool.and_eq_true] at z; exact (s z.1).trans (e z.2)) k
  | .ex _ _, h => h
  | .stuck, h => h
theorem ve_not (ha : VE X C sa a ma) : VE X C sa (.UnaryOp .Not a pos) (mNotV ma) := by
  refine (pe_not ha).impV ?_
  rintro σ H Q ⟨st, ds, vs, s, hl, h⟩
  refine seq1 (sm := sa) s hl h fun x st1 v H1 sm s1 h1 => ?_
  cases x with
  | bl b =>
    have : v = .bl b := s1.scTop rfl
    subst this
    exact ⟨b, rfl, h1 _ H1 sm (s1.pop.pushc rfl)⟩
  | _ => exact h1.elim
theorem ve_one {op : BoolOp} (ha : VE X C sa a ma) : VE X C sa (.BoolOp op [a] pos) ma := pe_one ha
theorem ve_and (ha : VE X C sa a ma) (hb : VE X C sb (.BoolOp .And (b :: rest) pos) mb) : VE X C (sa && sb) (.BoolOp .And (a :: b :: rest) pos) (mAndV ma mb) := by
  refine (pe_and ha hb).impV ?_
  rintro σ H Q ⟨st, ds, vs, s, hl, h⟩
  refine seq1 (sm := sa && sb) s hl h fun x st1 v H1 sm s1 h1 => ?_
  cases x with
  | bl c =>
    have : v = .bl c := s1.scTop rfl
    subst this
    refine ⟨c, rfl, ?_⟩
    cases c with
    | true => rw [if_pos rfl]; exact ⟨st1, ds, vs, s1.pop, hl, h1.weak sm⟩
    | false => rw [if_neg (by decide)]; exact h1 _ H1 (fun z => by simp only [Bool.and_eq_true] at z; exact sm z.1) (s1.pop.pushc rfl)
  | _ => exact h1.elim
/-! ### data: ==, in -/
mutual
def toPy : D → Option PyData
  | .non => some .none
  | .bl b => some (.bool b)
  | .int i => some (.int i)
  | .str s => some (.str s)
  | .nd (.lst _) xs => match toPyL xs with
    | some l => some (.list l)
    | none => none
  | .nd .tup xs => match toPyL xs with
    | some l => some (.tuple l)
    | none => none
  | _ => none
def toPyL : List D → Option (List PyData)
  | [] => some []
  | d :: r => match toPy d, toPyL r with
    | some x, some l => some (x :: l)
    | _, _ => none
end
mutual
theorem Rp.dp {G : Gd} : ∀ {d : D} {v : V} {os : Ct} {p : PyData}, Rp G d v os → toPy d = some p → Dp G.K G.H v p
  | _, _, _, _, .non _, e => by simp [toPy] at e; subst e; exact .non
  | _, _, _, _, .bl _, e => by simp [toPy] at e; subst e; exact .bl _
  | _, _, _, _, .int _, e => by simp [toPy] at e; subst e; exact .int _
  | _, _, _, _, .str _, e => by simp [toPy] at e; subst e; exact .str _
  | _, _, _, _, .un _, e => by simp [toPy] at e
  | _, _, _, _, .scr _ _, e => by simp [toPy] at e
  | _, _, _, _, .nd (k := k) (xs := xs) hk r n, e => by
    cases k with
    | lst f =>
      simp only [toPy] at e
      cases q : toPyL xs with
      | none => rw [q] at e; simp at e
      | some l => rw [q] at e; simp at e; subst e; exact .lst (SqL.of hk) (RpL.dp r q)
    | tup =>
      simp only [toPy] at e
      cases q : toPyL xs with
      | none => rw [q] at e; simp at e
      | some l => rw [q] at e; simp at e; subst e; exact .tup (SqT.of hk) (RpL.dp r q)
    | dct f ks => simp [toPy] at e
    | ins f c ns => simp [toPy] at e
theorem RpL.dp {G : Gd} : ∀ {xs : List D} {vs : List V} {os : Ct} {l : List PyData}, RpL G xs vs os → toPyL xs = some l → DpAll G.K G.H vs l
  | _, _, _, _, .nil _, e => by simp [toPyL] at e; subst e; exact .nil
  | _, _, _, _, .cons (d := d) (xs := xs) r t h, e => by
    simp only [toPyL] at e
    cases q : toPy d with
    | none => rw [q] at e; simp at e
    | some x =>
      cases q2 : toPyL xs with
      | none => rw [q, q2] at e; simp at e
      | some l => rw [q, q2] at e; simp at e; subst e; exact .cons (Rp.dp r q) (RpL.dp t q2)
end
def isTx : PyData → Bool
  | .str _ => true
  | _ => false
/-- == of data that can be laid, and of texts of any signs -/
def eqb (p q : PyData) : Bool := (SeqAt.shaped p && SeqAt.shaped q) || (isTx p && isTx q)
def eqD (x y : D) : Option Bool := match toPy x, toPy y with
  | some p, some q => if eqb p q = true then some (PyData.eqv p q) else none
  | _, _ => none
def rEqE (K : PySem.W.Frag) : R2 := fun x y H Q => ∃ d e, Dp K H x d ∧ Dp K H y e ∧ eqb d e = true ∧ Q (.bl (PyData.eqv d e)) H
def rNeE (K : PySem.W.Frag) : R2 := fun x y H Q => ∃ d e, Dp K H x d ∧ Dp K H y e ∧ eqb d e = true ∧ Q (.bl (!PyData.eqv d e)) H
theorem isTx_of {p : PyData} (h : isTx p = true) : ∃ s, p = .str s := by
  cases p <;> first | exact ⟨_, rfl⟩ | simp [isTx] at h
theorem op_eqE {X : Cx} (hu : X.A.units + 64 < cLine) : OpR X (compareOp .Eq) (rEqE X.K) := by
  intro pins s σ H x y v u Q I rx ry h
  obtain ⟨d, e, h1, h2, h3, q⟩ := h
  by_cases c : (SeqAt.shaped d && SeqAt.shaped e) = true
  · rw [Bool.and_eq_true] at c
    exact op_eqD hu pins s σ H x y v u Q I rx ry ⟨d, e, h1, h2, c.1, c.2, q⟩
  · have h4 : (isTx d && isTx e) = true := by
      unfold eqb at h3
      rw [Bool.or_eq_true] at h3
      exact h3.resolve_left c
    rw [Bool.and_eq_true] at h4
    obtain ⟨a, rfl⟩ := isTx_of h4.1
    obtain ⟨b, rfl⟩ := isTx_of h4.2
    cases h1
    cases h2
    refine op_eq pins s σ H _ _ v u Q I rx ry ⟨rfl, ?_⟩
    rw [dec_str]
    simpa [PyData.eqv] using q
theorem op_neE {X : Cx} (hu : X.A.units + 64 < cLine) : OpR X (compareOp .NotEq) (rNeE X.K) := by
  intro pins s σ H x y v u Q I rx ry h
  obtain ⟨d, e, h1, h2, h3, q⟩ := h
  by_cases c : (SeqAt.shaped d && SeqAt.shaped e) = true
  · rw [Bool.and_eq_true] at c
    exact op_neD hu pins s σ H x y v u Q I rx ry ⟨d, e, h1, h2, c.1, c.2, q⟩
  · have h4 : (isTx d && isTx e) = true := by
      unfold eqb at h3
      rw [Bool.or_eq_true] at h3
      exact h3.resolve_left c
    rw [Bool.and_eq_true] at h4
    obtain ⟨a, rfl⟩ := isTx_of h4.1
    obtain ⟨b, rfl⟩ := isTx_of h4.2
    cases h1
    cases h2
    refine op_ne pins s σ H _ _ v u Q I rx ry ⟨rfl, ?_⟩
    rw [dec_str]
    simpa [PyData.eqv] using q
def plD (st : List D) : PL → Option D
  | .sc d => some d
  | .pth r p => getS st r p
/-- a quiet thing's value and its tree -/
theorem SX.pl {Q : VK} {pl : PL} {d : D} (s : SX C st ds σ vs H) (hd : plD st pl = some d) (h : ∀ v (Z : Addr → Prop) (os : Ct), Rp (C.G Z H) d v os → Q v H) : rQ σ H Q (some pl) := by
  cases pl with
  | sc x =>
    simp [plD] at hd; subst hd
    intro v hv
    exact h v (fun _ => True) _ (rp_sc hv)
  | pth r p =>
    intro u hp
    obtain ⟨Z, os, s⟩ := s
    obtain ⟨u', oe, _, _, hp', re, _⟩ := s.path hd (let ⟨v, e, _⟩ := hp; ⟨v, e⟩)
    have := hp.fn hp'; subst this
    exact h u Z oe re
def qEq (neg : Bool) (qa qb : List D → Option PL) : List D → Option PL := fun st => match qa st, qb st with
  | some p, some q => match plD st p, plD st q with
    | some x, some y => match eqD x y with
      | some b => some (.sc (.bl (if neg = true then !b else b)))
      | none => none
    | _, _ => none
  | _, _ => none
def mEq (neg : Bool) (ma mb : List D → R D) : List D → R D := fun st => (ma st).bind fun x st1 => (mb st1).bind fun y st2 => match eqD x y with
  | some b => .ok (.bl (if neg = true then !b else b)) st2
  | none => .stuck
theorem eqD_dp {x y : D} {b : Bool} (h : eqD x y = some b) : ∃ p q, toPy x = some p ∧ toPy y = some q ∧ eqb p q = true ∧ b = PyData.eqv p q := by
  unfold eqD at h
  split at h
  · rename_i p q h1 h2
    split at h
    · rename_i hs
      exact ⟨p, q, h1, h2, hs, (Option.some.inj h).symm⟩
    · cases h
  · cases h
theorem qEq_red {Q : VK} {neg : Bool} {r : R2} (O : COk X C) (hr : ∀ v u p q (H : Hp) (Q : VK), Dp X.K H v p → Dp X.K H u q → eqb p q = true → Q (.bl (if neg = true then !(PyData.eqv p q) else PyData.eqv p q)) H → r v u H Q) :
    ∀ σ H Q, trQ C (qEq neg qa qb) σ H Q → tOp r (trQ C qa) (trQ C qb) σ H Q := by
  rintro σ H Q ⟨st, ds, vs, s, h⟩
  refine ⟨st, ds, vs, s, ?_⟩
  unfold qEq at h
  cases q : qa st with
  | none => rw [q] at h; exact h.elim
  | some pl =>
    cases q2 : qb st with
    | none => rw [q, q2] at h; exact h.elim
    | some pl2 =>
      rw [q, q2] at h
      simp only at h
      cases w : plD st pl with
      | none => rw [w] at h; exact h.elim
      | some x =>
        cases w2 : plD st pl2 with
        | none => rw [w, w2] at h; exact h.elim
        | some y =>
          rw [w, w2] at h
          simp only at h
          cases e : eqD x y with
          | none => rw [e] at h; exact h.elim
          | some b =>
            rw [e] at h
            obtain ⟨p, p2, e1, e2, s1, rfl⟩ := eqD_dp e
            refine SX.pl s w fun v Z os rv => ⟨st, ds, vs, s, ?_⟩
            rw [q2]
            refine SX.pl s w2 fun u Z2 os2 ru => ?_
            exact hr v u p p2 H Q (by rw [← O.k]; exact rv.dp e1) (by rw [← O.k]; exact ru.dp e2) s1 (h _ rfl)
theorem qEq_ok {neg : Bool} : ∀ st pl, qEq neg qa qb st = some pl → PLok C st pl := by
  intro st pl h
  unfold qEq at h
  split at h
  · split at h
    · split at h
      · simp at h; subst h; exact ⟨_, rfl⟩
      · cases h
    · cases h
  · cases h
theorem vq_eq (O : COk X C) (hu : X.A.units + 64 < cLine) (ha : VQ X C a qa) (hb : VQ X C b qb) : VQ X C (.Compare a [.Eq] [b] pos) (qEq false qa qb) :=
  ⟨(pe_cmpR (op_eqE hu) ha.pe hb.pe (nomark _)).impV (qEq_red (Q := fun _ _ => True) O fun v u p q H Q h1 h2 h3 k => ⟨p, q, h1, h2, h3, k⟩), qEq_ok⟩
theorem vq_ne (O : COk X C) (hu : X.A.units + 64 < cLine) (ha : VQ X C a qa) (hb : VQ X C b qb) : VQ X C (.Compare a [.NotEq] [b] pos) (qEq true qa qb) :=
  ⟨(pe_cmpR (op_neE hu) ha.pe hb.pe (nomark _)).impV (qEq_red (Q := fun _ _ => True) O fun v u p q H Q h1 h2 h3 k => ⟨p, q, h1, h2, h3, k⟩), qEq_ok⟩
theorem SX.topR {d : D} {v : V} (s : SX C st (ds ++ [d]) σ (vs ++ [v]) H) : ∃ (Z : Addr → Prop) (os : Ct), Rp (C.G Z H) d v os := by
  obtain ⟨Z, os, s⟩ := s
  obtain ⟨_, _, o3, _, _, r, _⟩ := s.top
  exact ⟨Z, o3, r⟩
theorem mEq_red {neg : Bool} {r : R2} (O : COk X C) (hr : ∀ v u p q (H : Hp) (Q : VK), Dp X.K H v p → Dp X.K H u q → eqb p q = true → Q (.bl (if neg = true then !(PyData.eqv p q) else PyData.eqv p q)) H → r v u H Q) :
    ∀ σ H Q, trE C (sa && sb) (mEq neg ma mb) σ H Q → tOp r (trE C sa ma) (trE C sb mb) σ H Q := by
  rintro σ H Q ⟨st, ds, vs, s, hl, h⟩
  refine seq2 (sm := sa && sb) s hl h fun x y st2 v u H2 sm s2 h2 => ?_
  cases e : eqD x y with
  | none => rw [e] at h2; exact h2.elim
  | some b =>
    rw [e] at h2
    obtain ⟨p, q, e1, e2, h3, rfl⟩ := eqD_dp e
    obtain ⟨Z, os, ru⟩ := s2.topR
    obtain ⟨Z', os', rv⟩ := s2.pop.topR
    exact hr v u p q H2 Q (by rw [← O.k]; exact rv.dp e1) (by rw [← O.k]; exact ru.dp e2) h3 (h2 _ H2 sm (s2.pop.pop.pushc rfl))
theorem ve_eq (O : COk X C) (hu : X.A.units + 64 < cLine) (ha : VE X C sa a ma) (hb : VE X C sb b mb) : VE X C (sa && sb) (.Compare a [.Eq] [b] pos) (mEq false ma mb) :=
  (pe_cmpR (op_eqE hu) ha hb (nomark _)).impV (mEq_red O fun v u p q H Q h1 h2 h3 k => ⟨p, q, h1, h2, h3, k⟩)
/-- x is None -/
def isNonD : D → Bool
  | .non => true
  | _ => false
def qIsN (neg : Bool) (qa : List D → Option PL) : List D → Option PL := fun st => match qa st with
  | some (.sc d) => some (.sc (.bl (if neg = true then !(isNonD d) else isNonD d)))
  | some (.pth _ _) => some (.sc (.bl neg))
  | none => none
def mIsN (neg : Bool) (ma : List D → R D) : List D → R D := fun st => (ma st).bind fun d st' => match d with
  | .un => .stuck
  | .scr _ => .stuck
  | d => .ok (.bl (if neg = true then !(isNonD d) else isNonD d)) st'
theorem isNon_of {G : Gd} {d : D} {v : V} {os : Ct} (r : Rp G d v os) (h : d ≠ .un) : decide (v = .non) = isNonD d := by
  cases r <;> first | rfl | exact absurd rfl h | simp [isNonD]
theorem qIsN_ok {neg : Bool} : ∀ st pl, qIsN neg qa st = some pl → PLok C st pl := by
  intro st pl h
  unfold qIsN at h
  split at h
  · simp at h; subst h; exact ⟨_, rfl⟩
  · simp at h; subst h; exact ⟨_, rfl⟩
  · cases h
theorem qIsN_red {neg : Bool} (ha : VQ X C a qa) : ∀ σ H Q, trQ C (qIsN neg qa) σ H Q → trQ C qa σ H fun x H1 => Q (.bl (if neg = true then !decide (x = .non) else decide (x = .non))) H1 := by
  rintro σ H Q ⟨st, ds, vs, s, h⟩
  refine ⟨st, ds, vs, s, ?_⟩
  unfold qIsN at h
  cases q : qa st with
  | none => rw [q] at h; exact h.elim
  | some pl =>
    rw [q] at h
    cases pl with
    | sc d =>
      intro v hv
      simp only at h
      rw [isNon_of (G := C.G (fun _ => True) H) (rp_sc hv) (vOf_un hv)]
      exact h _ rfl
    | pth r p =>
      intro u hp
      obtain ⟨k, xs, hg⟩ := ha.ok _ _ q
      obtain ⟨a', ws, Z, os, rfl, _⟩ := s.node hg hp
      have := h _ rfl
      cases neg <;> simpa using this
theorem vq_isN {j : Nat} {p' : Pos} (ha : VQ X C a qa) : VQ X C (.Compare a [.Is] [.Constant .none j p'] pos) (qIsN false qa) :=
  ⟨(pe_cmp (pc_isN ha.pe) rfl).impV (by intro σ H Q h; exact qIsN_red ha σ H Q h), qIsN_ok⟩
theorem vq_notN {j : Nat} {p' : Pos} (ha : VQ X C a qa) : VQ X C (.Compare a [.IsNot] [.Constant .none j p'] pos) (qIsN true qa) :=
  ⟨(pe_cmp (pc_notN ha.pe) rfl).impV (by intro σ H Q h; exact qIsN_red ha σ H Q h), qIsN_ok⟩
end
end PV

namespace PV
open PySem L2
section
variable {X : Cx} {C : Cc} {st ds : List D} {σ : St} {vs : List V} {H H' : Hp} {a b e : Expr} {es : List Expr} {pos : Pos} {qa qb : List D → Option PL} {ma mb : List D → R D} {sa sb : Bool}
/-! ### values in a row -/
def rL (C : Cc) (sm : Bool) (ds : List D) (vs : List V) (σ : St) (H : Hp) (Q : List V → Hp → Prop) : R (List D) → Prop
  | .ok xs st => ∀ us H', (sm = true → Same H H') → SX C st (ds ++ xs) σ (vs ++ us) H' → xs.length = us.length → Q us H'
  | .ex e st => rX C ds vs σ e st
  | .stuck => False
def trL (C : Cc) (sm : Bool) (m : List D → R (List D)) : TA := fun σ H Q => ∃ st ds vs, SX C st ds σ vs H ∧ ds.length = vs.length ∧ rL C sm ds vs σ H Q (m st)
def VL (X : Cx) (C : Cc) (sm : Bool) (es : List Expr) (m : List D → R (List D)) : Prop := PA X es (trL C sm m)
def mNil : List D → R (List D) := fun st => .ok [] st
def mCons (m : List D → R D) (ms : List D → R (List D)) : List D → R (List D) := fun st => (m st).bind fun d st1 => (ms st1).bind fun xs st2 => .ok (d :: xs) st2
theorem vl_nil : VL X C true [] mNil := by
  refine pa_nil.impV ?_
  rintro σ H Q ⟨st, ds, vs, s, hl, h⟩
  exact h [] H (fun _ => Same.refl H) (by simpa using s) rfl
theorem vl_cons {ms : List D → R (List D)} (ha : VE X C sa e ma) (hr : VL X C sb es ms) (hs : starEach (e :: es) X.env = (false, eval e X.env) :: starEach es X.env := by rfl) : VL X C (sa && sb) (e :: es) (mCons ma ms) := by
  refine (pa_cons ha hr hs).impV ?_
  rintro σ H Q ⟨st, ds, vs, s, hl, h⟩
  refine ⟨st, ds, vs, s, hl, ?_⟩
  unfold mCons at h
  cases q : ma st with
  | stuck => rw [q] at h; exact h.elim
  | ex x st' => rw [q] at h; exact h
  | ok x st1 =>
    rw [q] at h
    intro v H1 sm1 s1
    refine ⟨st1, ds ++ [x], vs ++ [v], s1, by simp [hl], ?_⟩
    simp only [R.bind_ok] at h
    cases q2 : ms st1 with
    | stuck => rw [q2] at h; exact h.elim
    | ex y st' => rw [q2] at h; exact rX.up h hl rfl
    | ok xs st2 =>
      rw [q2] at h
      intro us H2 sm2 s2 l2
      exact h (v :: us) H2 (fun z => by simp only [Bool.and_eq_true] at z; exact (sm1 z.1).trans (sm2 z.2)) (by simpa [List.append_assoc] using s2) (by simp [l2])
/-- [a, b], (a, b) -/
def mLst (ml : List D → R (List D)) : List D → R D := fun st => (ml st).bind fun xs st1 => if xs.length ≤ sizeLine then .ok (.nd (.lst .own) xs) st1 else .stuck
def mTup (ml : List D → R (List D)) : List D → R D := fun st => (ml st).bind fun xs st1 => if xs.length ≤ sizeLine then .ok (.nd .tup xs) st1 else .stuck
theorem same_new {H : Hp} {p : Addr} {o : HO} (hp : H p = none) : Same H (upd H p o) := fun b u q => by rw [upd_ne (ne_of_none q hp)]; exact q
theorem ve_lst {ml : List D → R (List D)} (h : VL X C sa es ml) : VE X C sa (.List es pos) (mLst ml) := by
  refine (pe_lst h).impV ?_
  rintro σ H Q ⟨st, ds, vs, s, hl, h⟩
  refine ⟨st, ds, vs, s, hl, ?_⟩
  unfold mLst at h
  cases q : ml st with
  | stuck => rw [q] at h; exact h.elim
  | ex x st' => rw [q] at h; exact h
  | ok xs st1 =>
    rw [q] at h
    intro us H1 sm s1 hxs
    simp only [R.bind_ok] at h
    split at h
    · rename_i hz
      refine ⟨by rw [← hxs]; exact hz, fun p hp => h _ _ (fun z => (sm z).trans (same_new hp)) (s1.alloc hl hp (show (upd H1 p (.lst us)) p = some (.lst us) from upd_same) (.inr rfl))⟩
    · exact h.elim
theorem ve_tup {ml : List D → R (List D)} {j : Nat} (h : VL X C sa es ml) : VE X C sa (.Tuple es j pos) (mTup ml) := by
  refine (pe_tup h).impV ?_
  rintro σ H Q ⟨st, ds, vs, s, hl, h⟩
  refine ⟨st, ds, vs, s, hl, ?_⟩
  unfold mTup at h
  cases q : ml st with
  | stuck => rw [q] at h; exact h.elim
  | ex x st' => rw [q] at h; exact h
  | ok xs st1 =>
    rw [q] at h
    intro us H1 sm s1 hxs
    simp only [R.bind_ok] at h
    split at h
    · rename_i hz
      refine ⟨by rw [← hxs]; exact hz, fun p hp => h _ _ (fun z => (sm z).trans (same_new hp)) (s1.alloc hl hp (show (upd H1 p (.tup us)) p = some (.tup us) from upd_same) (.inl rfl))⟩
    · exact h.elim
/-! ### arguments -/
def aNil : List D → R (List AD) := fun st => .ok [] st
/-- a value of its own -/
def aVal (m : List D → R D) (ms : List D → R (List AD)) : List D → R (List AD) := fun st => (m st).bind fun d st1 => (ms st1).bind fun xs st2 => .ok (.val d :: xs) st2
/-- a name: what it holds is lent -/
def aVar (i : Nat) (ms : List D → R (List AD)) : List D → R (List AD) := fun st => match plOf st i [] with
  | some (.sc d) => (ms st).bind fun xs st2 => .ok (.val d :: xs) st2
  | some (.pth r p) => (ms st).bind fun xs st2 => .ok (.lnd r p :: xs) st2
  | none => .stuck
/-- a place: what stands there is lent -/
def aPth (q : List D → Option PL) (ms : List D → R (List AD)) : List D → R (List AD) := fun st => match q st with
  | some (.sc d) => (ms st).bind fun xs st2 => .ok (.val d :: xs) st2
  | some (.pth r p) => (ms st).bind fun xs st2 => .ok (.lnd r p :: xs) st2
  | none => .stuck
theorem va_nil : VA X C true [] aNil := by
  refine pa_nil.impV ?_
  rintro σ H Q ⟨st, ds, vs, s, hl, h⟩
  exact h [] H (fun _ => Same.refl H) (by simpa using s) .nil
theorem va_val {ms : List D → R (List AD)} (ha : VE X C sa e ma) (hr : VA X C sb es ms) (hs : starEach (e :: es) X.env = (false, eval e X.env) :: starEach es X.env := by rfl) : VA X C (sa && sb) (e :: es) (aVal ma ms) := by
  refine (pa_cons ha hr hs).impV ?_
  rintro σ H Q ⟨st, ds, vs, s, hl, h⟩
  refine ⟨st, ds, vs, s, hl, ?_⟩
  unfold aVal at h
  cases q : ma st with
  | stuck => rw [q] at h; exact h.elim
  | ex x st' => rw [q] at h; exact h
  | ok x st1 =>
    rw [q] at h
    intro v H1 sm1 s1
    refine ⟨st1, ds ++ [x], vs ++ [v], s1, by simp [hl], ?_⟩
    simp only [R.bind_ok] at h
    cases q2 : ms st1 with
    | stuck => rw [q2] at h; exact h.elim
    | ex y st' => rw [q2] at h; exact rX.up h hl rfl
    | ok xs st2 =>
      rw [q2] at h
      intro us H2 sm2 s2 l2
      exact h (v :: us) H2 (fun z => by simp only [Bool.and_eq_true] at z; exact (sm1 z.1).trans (sm2 z.2)) (by simpa [List.append_assoc, AD.d] using s2) (.val l2)
/-- a place ahead of arguments that let it stand -/
theorem va_plc {ms : List D → R (List AD)} {q : List D → Option PL} (ha : VQ X C e q) (hr : VA X C sb es ms) (hk : sb = true ∨ ∀ st r p, q st = some (.pth r p) → p = []) (hs : starEach (e :: es) X.env = (false, eval e X.env) :: starEach es X.env := by rfl) : VA X C sb (e :: es) (aPth q ms) := by
  refine (pa_cons ha.pe hr hs).impV ?_
  rintro σ H Q ⟨st, ds, vs, s, hl, h⟩
  refine ⟨st, ds, vs, s, ?_⟩
  unfold aPth at h
  cases w : q st with
  | none => rw [w] at h; exact h.elim
  | some pl =>
    rw [w] at h
    cases pl with
    | sc d =>
      intro v hv
      refine ⟨st, ds ++ [d], vs ++ [v], s.pushc hv, by simp [hl], ?_⟩
      simp only at h
      cases q2 : ms st with
      | stuck => rw [q2] at h; exact h.elim
      | ex y st' => rw [q2] at h; exact rX.up h hl rfl
      | ok xs st2 =>
        rw [q2] at h
        intro us H2 sm2 s2 l2
        exact h (v :: us) H2 sm2 (by simpa [List.append_assoc, AD.d] using s2) (.val l2)
    | pth r p =>
      intro u hp
      have s1 : SX C st (ds ++ [.un]) σ (vs ++ [u]) H := by
        obtain ⟨Z, os, t⟩ := id s
        obtain ⟨o1, o2, r1, r2, e⟩ := t.cut
        exact (t.mk2 r1 (r2.app (os := o2) (RpL.one (.un fun _ => rfl)) fun b => by simp) e (fun b => Nat.le_refl _) t.sl).sx
      refine ⟨st, ds ++ [.un], vs ++ [u], s1, by simp [hl], ?_⟩
      simp only at h
      cases q2 : ms st with
      | stuck => rw [q2] at h; exact h.elim
      | ex y st' => rw [q2] at h; exact rX.up h hl rfl
      | ok xs st2 =>
        rw [q2] at h
        intro us H2 sm2 s2 l2
        refine h (u :: us) H2 sm2 (by simpa [List.append_assoc, AD.d] using s2) (.lnd ?_ l2)
        rcases hk with hk | hk
        · exact hp.same (sm2 hk)
        · have := hk _ _ _ w
          subst this
          obtain ⟨v, e1, e2⟩ := hp
          exact ⟨v, e1, e2⟩
theorem qV_pth {i : Nat} : ∀ st r p, qV i st = some (.pth r p) → p = [] := by
  intro st r p h
  unfold qV plOf at h
  split at h
  · split at h
    · simp at h
    · split at h
      · simp at h; exact h.2
      · cases h
  · cases h
theorem va_var (i : Nat) {x : Str} {p : Pos} {ms : List D → R (List AD)} (hr : VA X C sb es ms) (hN : X.N[i]? = some x := by rfl) (hv : Vis X.env.scope x := by first | exact Or.inl rfl | exact Or.inr (Or.inl rfl) | exact Or.inr (Or.inr rfl)) (hd : (x == ("__debug__" : Str)) = false := by decide)
    (hcd : (x == ("__classdict__" : Str)) = false := by decide) (hs : starEach (.Name x p :: es) X.env = (false, eval (.Name x p) X.env) :: starEach es X.env := by rfl) : VA X C sb (.Name x p :: es) (aPth (qV i) ms) :=
  va_plc (vq_v i hN hv hd hcd) hr (.inr qV_pth) hs
/-! ### calls of own defs -/
/-- a def's promise: F of the arguments' trees -/
def spF (K : PySem.W.Frag) (CA : Str → Option Addr) (n : Nat) (F : Fn) : Sp := fun us H Q E => us.length = n ∧ ∃ (args : List D) (os : Ct) (B : Addr → Prop), Pre K CA H args us os B ∧ match F args with
  | .ok d outs => ∀ v H' Z' os', Post K CA H os B (d :: outs) (v :: us) H' Z' os' → Q v H'
  | .ex e outs => ∀ cls dx ws H' Z' os', Post K CA H os B (e.ds ++ outs) (ws ++ us) H' Z' os' → e.ds.length = ws.length → (∃ a, CA e.c = some a ∧ cls = .ref a ∧ match e.p with
      | none => dx = none ∧ ws = []
      | some _ => ∃ x v, dx = some x ∧ H' x = some (.xd [(e.f, v)]) ∧ ws = [v]) → E cls dx H'
  | .stuck => False
/-- may nothing that stood change? (no argument is handed to be changed) -/
def noIo (ms : List Md) : Bool := ms.all (· != .io)
theorem pre_noIo : ∀ {ms : List Md} {as : List AD} {bs args : List D} {st : List D}, noIo ms = true → argsOf ms as bs st = some args → (∀ (i : Nat) (d : D), bs[i]? = some d → ms[i]? = some Md.fz → D.noOwn d = true) → D.noOwnL args = true := by
  intro ms
  induction ms with
  | nil =>
    intro as bs args st hn h hz
    cases as <;> cases bs <;> simp [argsOf] at h
    subst h; rfl
  | cons m ms ih =>
    intro as bs args st hn h hz
    simp [noIo] at hn
    have hn' : noIo ms = true := by simp [noIo]; exact hn.2
    cases m with
    | io => exact absurd rfl hn.1
    | bo =>
      cases as with
      | nil => cases bs <;> simp [argsOf] at h
      | cons a as =>
        cases bs with
        | nil => cases a <;> simp [argsOf] at h
        | cons b bs =>
          have ih' := fun l (q : argsOf ms as bs st = some l) => ih hn' q fun i d h1 h2 => hz (i + 1) d (by simpa using h1) (by simpa using h2)
          cases a with
          | val d =>
            simp only [argsOf] at h
            cases q : argsOf ms as bs st with
            | none => rw [q] at h; simp at h
            | some l => rw [q] at h; simp at h; subst h; simp [D.noOwnL, D.noOwn_set (g := .bor) (by decide), ih' l q]
          | lnd r p =>
            simp only [argsOf] at h
            cases q0 : getS st r p with
            | none => rw [q0] at h; simp at h
            | some x =>
              rw [q0] at h; simp only at h
              cases q : argsOf ms as bs st with
              | none => rw [q] at h; simp at h
              | some l => rw [q] at h; simp at h; subst h; simp [D.noOwnL, D.noOwn_set (g := .bor) (by decide), ih' l q]
    | fz =>
      cases as with
      | nil => cases bs <;> simp [argsOf] at h
      | cons a as =>
        cases bs with
        | nil => simp [argsOf] at h
        | cons b bs =>
          have ih' := fun l (q : argsOf ms as bs st = some l) => ih hn' q fun i d h1 h2 => hz (i + 1) d (by simpa using h1) (by simpa using h2)
          simp only [argsOf] at h
          cases q : argsOf ms as bs st with
          | none => rw [q] at h; simp at h
          | some l => rw [q] at h; simp at h; subst h; simp [D.noOwnL, hz 0 b rfl rfl, ih' l q]
theorem takeA_fz : ∀ {ms : List Md} {as : List AD} {st st1 bs : List D}, takeA ms as st = some (st1, bs) → ∀ (i : Nat) (d : D), bs[i]? = some d → ms[i]? = some Md.fz → D.noOwn d = true := by
  intro ms
  induction ms with
  | nil =>
    intro as st st1 bs h i d hb hm
    simp at hm
  | cons m ms ih =>
    intro as st st1 bs h i d hb hm
    cases as with
    | nil => simp [takeA] at h
    | cons a as =>
      cases a with
      | val x =>
        simp only [takeA] at h
        cases q : takeA ms as st with
        | none => rw [q] at h; simp at h
        | some z =>
          obtain ⟨st', bs'⟩ := z
          rw [q] at h; simp at h
          obtain ⟨_, rfl⟩ := h
          cases i with
          | zero =>
            simp at hb hm
            subst hm; subst hb
            simp; exact D.noOwn_set (by decide) x
          | succ i => exact ih q i d (by simpa using hb) (by simpa using hm)
      | lnd r p =>
        cases m with
        | io =>
          simp only [takeA] at h
          cases q0 : getS st r p with
          | none => rw [q0] at h; simp at h
          | some x =>
            rw [q0] at h; simp only at h
            cases q : takeA ms as (setS st r p .un) with
            | none => rw [q] at h; simp at h
            | some z =>
              obtain ⟨st', bs'⟩ := z
              rw [q] at h; simp at h
              obtain ⟨_, rfl⟩ := h
              cases i with
              | zero => simp at hm
              | succ i => exact ih q i d (by simpa using hb) (by simpa using hm)
        | fz =>
          simp only [takeA] at h
          cases q0 : getS st r p with
          | none => rw [q0] at h; simp at h
          | some x =>
            rw [q0] at h; simp only at h
            cases q : takeA ms as (setS st r p x.frz) with
            | none => rw [q] at h; simp at h
            | some z =>
              obtain ⟨st', bs'⟩ := z
              rw [q] at h; simp at h
              obtain ⟨_, rfl⟩ := h
              cases i with
              | zero =>
                simp at hb; subst hb
                exact D.noOwn_set (by decide) x
              | succ i => exact ih q i d (by simpa using hb) (by simpa using hm)
        | bo =>
          simp only [takeA] at h
          cases q : takeA ms as st with
          | none => rw [q] at h; simp at h
          | some z =>
            obtain ⟨st', bs'⟩ := z
            rw [q] at h; simp at h
            obtain ⟨_, rfl⟩ := h
            cases i with
            | zero => simp at hm
            | succ i => exact ih q i d (by simpa using hb) (by simpa using hm)
/-- from the arguments to the promise -/
theorem call_red {ms : List Md} {F : Fn} {as : List AD} {us : List V} {Q : VK} {n : Nat} (hn : ms.length = n) (O : COk X C) (s : SX C st (ds ++ as.map AD.d) σ (vs ++ us) H) (hl : ds.length = vs.length) (hL : Lnd H σ as us) (h : rE C (noIo ms) ds vs σ H Q (callR ms F as st)) :
    spF X.K C.CA n F us H Q (fun cls d H' => C.W cls d σ H') := by
  unfold callR at h
  cases h1 : takeA ms as st with
  | none => rw [h1] at h; exact h.elim
  | some z =>
    obtain ⟨st1, bs⟩ := z
    rw [h1] at h
    simp only at h
    cases h2 : argsOf ms as bs st1 with
    | none => rw [h2] at h; exact h.elim
    | some args =>
      rw [h2] at h
      simp only at h
      obtain ⟨os, B, P, K⟩ := s.call hl hL h1 h2
      have hK : C.K = X.K := O.k
      have hlen : us.length = n := by
        have e1 : ∀ {ms : List Md} {as : List AD} {st st1 bs : List D}, takeA ms as st = some (st1, bs) → as.length = ms.length := by
          intro ms
          induction ms with
          | nil => intro as st st1 bs h; cases as with
            | nil => rfl
            | cons a as => simp [takeA] at h
          | cons m ms ih =>
            intro as st st1 bs h
            cases as with
            | nil => simp [takeA] at h
            | cons a as =>
              cases a with
              | val x =>
                simp only [takeA] at h
                cases q : takeA ms as st with
                | none => rw [q] at h; simp at h
                | some z => simp [ih q]
              | lnd r p =>
                cases m <;> simp only [takeA] at h
                · cases q0 : getS st r p with
                  | none => rw [q0] at h; simp at h
                  | some x =>
                    rw [q0] at h; simp only at h
                    cases q : takeA ms as (setS st r p .un) with
                    | none => rw [q] at h; simp at h
                    | some z => simp [ih q]
                · cases q : takeA ms as st with
                  | none => rw [q] at h; simp at h
                  | some z => simp [ih q]
                · cases q0 : getS st r p with
                  | none => rw [q0] at h; simp at h
                  | some x =>
                    rw [q0] at h; simp only at h
                    cases q : takeA ms as (setS st r p x.frz) with
                    | none => rw [q] at h; simp at h
                    | some z => simp [ih q]
        rw [← hL.len, e1 h1, hn]
      have hio : noIo ms = true → ∀ b, os b = 0 := fun z => P.rp.zero (pre_noIo z h2 (takeA_fz h1))
      refine ⟨hlen, args, os, B, hK ▸ P, ?_⟩
      cases hF : F args with
      | stuck => rw [hF] at h; exact h.elim
      | ok d outs =>
        rw [hF] at h
        simp only at h ⊢
        intro v H' Z' os' Po
        split at h
        · rename_i nb
          cases h3 : putA ms as outs st1 with
          | none => rw [h3] at h; exact h.elim
          | some st2 =>
            rw [h3] at h
            exact h v H' (fun z b o q => Po.kp b o q (hio z b)) (K [d] [v] outs st2 H' Z' os' rfl (hK ▸ Po) nb h3)
        · exact h.elim
      | ex e outs =>
        rw [hF] at h
        simp only at h ⊢
        intro cls dx ws H' Z' os' Po hw hx
        split at h
        · rename_i nb
          cases h3 : putA ms as outs st1 with
          | none => rw [h3] at h; exact h.elim
          | some st2 =>
            rw [h3] at h
            exact h cls dx ws H' (K e.ds ws outs st2 H' Z' os' hw (hK ▸ Po) nb h3) hx
        · exact h.elim
def mCall (ms : List Md) (F : Fn) (ma : List D → R (List AD)) : List D → R D := fun st => (ma st).bind fun as st1 => callR ms F as st1
variable {k : Nat} {f : Addr} {fd : FuncData} {ps : List Str} {x m : Str} {p apos : Pos} {ms : List Md} {F : Fn} {am : List D → R (List AD)}
theorem args_red {n : Nat} (hn : ms.length = n) (O : COk X C) : ∀ σ H Q, trE C (sa && noIo ms) (mCall ms F am) σ H Q → tCallS (spF X.K C.CA n F) (WE C.W) (trA C sa am) σ H Q := by
  rintro σ H Q ⟨st, ds, vs, s, hl, h⟩
  refine ⟨st, ds, vs, s, hl, ?_⟩
  unfold mCall at h
  cases q : am st with
  | stuck => rw [q] at h; exact h.elim
  | ex x st' => rw [q] at h; exact h
  | ok as st1 =>
    rw [q] at h
    intro us H1 sm s1 hL
    exact call_red hn O s1 hl hL (h.weak sm)
theorem ve_call (O : COk X C) (G : FnOk X.prog X.w X.K X.mg X.base (L2.CX X.prog X.w) k f fd ps (spF X.K C.CA ps.length F)) (hn : ms.length = ps.length) (hr : Room k X.A) (hg : Gl X x) (hm : X.mg x = some (.ref f)) (hk : PySem.W.keepIn X.K (.ref f) = true) (hb : Binds X.K fd ps [])
    (ha : VA X C sa (e :: es) am) (hdb : (x == ("__debug__" : Str)) = false := by decide) (he : starEach (e :: es) X.env = (false, eval e X.env) :: starEach es X.env := by rfl) (hpl : (backTo pos (starEach es X.env)).any (·.1) = false := by rfl) :
    VE X C (sa && noIo ms) (.Call (.Name x p) (e :: es) [] pos) (mCall ms F am) :=
  (pe_callS G hr hg hm hk hb (fun σ => passAt O.tk σ) ha hdb he hpl).impV (args_red hn O)
end
end PV

namespace L2
open PySem PySem.Spec
theorem PG.impV {X : Cx} {e : Expr} {t t' : TG} (h : PG X e t) (k : ∀ v σ H Q, t' v σ H Q → t v σ H Q) : PG X e t' := ⟨fun pins s σ H v u Q I r h' => h.run pins s σ H v u Q I r (k _ _ _ _ h')⟩
theorem PGs.impV {X : Cx} {e : List Expr} {t t' : TGs} (h : PGs X e t) (k : ∀ v σ H Q, t' v σ H Q → t v σ H Q) : PGs X e t' := ⟨fun pins s σ H v u Q I r h' => h.run pins s σ H v u Q I r (k _ _ _ _ h')⟩
end L2
namespace PV
open PySem L2
inductive RS where | nx (st : List D) | rt (d : D) (st : List D) | bk (st : List D) | ct (st : List D) | ex (e : Ex) (st : List D) | stuck
def rZ (C : Cc) (ds : List D) (vs : List V) (Dn : Ends) : RS → Prop
  | .nx st => ∀ σ' H', SX C st ds σ' vs H' → Dn.nx σ' H'
  | .rt d st => ∀ v σ' H', SX C st (ds ++ [d]) σ' (vs ++ [v]) H' → Dn.rt v H'
  | .bk st => ∀ σ' H', SX C st ds σ' vs H' → Dn.bk σ' H'
  | .ct st => ∀ σ' H', SX C st ds σ' vs H' → Dn.ct σ' H'
  | .ex e st => ∀ σ', rX C ds vs σ' e st
  | .stuck => False
abbrev MS := List D → RS
def trS (C : Cc) (m : MS) : TS := fun Dn σ H => ∃ st ds vs, SX C st ds σ vs H ∧ ds.length = vs.length ∧ rZ C ds vs Dn (m st)
def VS (X : Cx) (C : Cc) (s : Stmt) (m : MS) : Prop := PS X s (trS C m)
def VB (X : Cx) (C : Cc) (s : List Stmt) (m : MS) : Prop := PSs X s (trS C m)
/-- a target -/
abbrev MG := D → List D → Option (List D)
def trG (C : Cc) (g : MG) : TG := fun v σ H Q => ∃ st ds vs d, SX C st (ds ++ [d]) σ (vs ++ [v]) H ∧ ds.length = vs.length ∧ match g d st with
  | some st' => ∀ σ' H', SX C st' ds σ' vs H' → Q σ' H'
  | none => False
def VG (X : Cx) (C : Cc) (t : Expr) (g : MG) : Prop := PG X t (trG C g)
abbrev MGs := List D → List D → Option (List D)
def trGs (C : Cc) (g : MGs) : TGs := fun us σ H Q => ∃ st ds vs xs, SX C st (ds ++ xs) σ (vs ++ us) H ∧ ds.length = vs.length ∧ match g xs st with
  | some st' => ∀ σ' H', SX C st' ds σ' vs H' → Q σ' H'
  | none => False
def VGs (X : Cx) (C : Cc) (t : List Expr) (g : MGs) : Prop := PGs X t (trGs C g)
section
variable {X : Cx} {C : Cc} {st ds : List D} {σ : St} {vs : List V} {H H' : Hp} {a b e tg : Expr} {es : List Expr} {pos : Pos} {qa qb : List D → Option PL} {ma mb : List D → R D} {sa sb : Bool} {s1 : Stmt} {ss ss' : List Stmt} {m n : MS} {Dn : Ends}
/-! ### blocks -/
def mSkip : MS := fun st => .nx st
def mSeq (m n : MS) : MS := fun st => match m st with
  | .nx st' => n st'
  | r => r
theorem vb_nil : VB X C [] mSkip := pss_nil.impV (by rintro Dn σ H ⟨st, ds, vs, s, hl, h⟩; exact h σ H s)
theorem vb_cons (h1 : VS X C s1 m) (h2 : VB X C ss n) : VB X C (s1 :: ss) (mSeq m n) := by
  refine (pss_cons h1 h2).impV ?_
  rintro Dn σ H ⟨st, ds, vs, s, hl, h⟩
  refine ⟨st, ds, vs, s, hl, ?_⟩
  unfold mSeq at h
  cases q : m st with
  | nx st' => rw [q] at h; intro σ' H' s'; exact ⟨st', ds, vs, s', hl, h⟩
  | rt d st' => rw [q] at h; exact h
  | bk st' => rw [q] at h; exact h
  | ct st' => rw [q] at h; exact h
  | ex e st' => rw [q] at h; exact h
  | stuck => rw [q] at h; exact h.elim
def mBreak : MS := fun st => .bk st
def mCont : MS := fun st => .ct st
/-- from an expression's end to a statement's -/
def R.s {α : Type} (r : R α) (f : α → List D → RS) : RS := match r with
  | .ok a st => f a st
  | .ex e st => .ex e st
  | .stuck => .stuck
@[simp] theorem R.s_ok {α : Type} (a : α) (st : List D) (f : α → List D → RS) : (R.ok a st).s f = f a st := rfl
@[simp] theorem R.s_ex {α : Type} (e : Ex) (st : List D) (f : α → List D → RS) : (R.ex e st : R α).s f = .ex e st := rfl
@[simp] theorem R.s_stuck {α : Type} (f : α → List D → RS) : (R.stuck : R α).s f = .stuck := rfl
theorem seqS {f : D → List D → RS} {R' : V → Hp → Prop} (s : SX C st ds σ vs H) (hl : ds.length = vs.length) (hM : rZ C ds vs Dn ((ma st).s f))
    (hf : ∀ x st1 v H1, SX C st1 (ds ++ [x]) σ (vs ++ [v]) H1 → rZ C ds vs Dn (f x st1) → R' v H1) : trE C sa ma σ H R' := by
  refine ⟨st, ds, vs, s, hl, ?_⟩
  cases e : ma st with
  | stuck => rw [e] at hM; exact hM.elim
  | ex x st' => rw [e] at hM; exact hM σ
  | ok x st1 =>
    rw [e] at hM
    intro v H1 sm1 s1
    exact hf x st1 v H1 s1 hM
def mExpr (ma : List D → R D) : MS := fun st => (ma st).s fun _ st' => .nx st'
theorem vs_expr (ha : VE X C sa e ma) (hs : swapsWith e none pos.line X.env = pure false := by rfl) : VS X C (.Expr e pos) (mExpr ma) := by
  refine (ps_expr ha hs).impV ?_
  rintro Dn σ H ⟨st, ds, vs, s, hl, h⟩
  exact seqS s hl h fun x st1 v H1 s1 h1 => h1 σ H1 s1.pop
def mRet (ma : List D → R D) : MS := fun st => (ma st).s fun d st' => .rt d st'
theorem vs_ret (ha : VE X C sa e ma) : VS X C (.Return (some e) pos) (mRet ma) := by
  refine (ps_ret ha).impV ?_
  rintro Dn σ H ⟨st, ds, vs, s, hl, h⟩
  exact seqS s hl h fun x st1 v H1 s1 h1 => h1 v σ H1 s1
def mRetN : MS := fun st => .rt .non st
def mIf (t : List D → R Bool) (m n : MS) : MS := fun st => (t st).s fun b st' => if b = true then m st' else n st'
theorem vs_if {tc : List D → R Bool} (hc : VT X C e tc) (ha : VB X C ss m) (hb : VB X C ss' n) : VS X C (.If e ss ss' pos) (mIf tc m n) := by
  refine (ps_if hc ha hb).impV ?_
  rintro Dn σ H ⟨st, ds, vs, s, hl, h⟩
  refine ⟨st, ds, vs, s, hl, ?_⟩
  unfold mIf at h
  cases q : tc st with
  | stuck => rw [q] at h; exact h.elim
  | ex e st' => rw [q] at h; exact h σ
  | ok c st' =>
    rw [q] at h
    intro H1 s1
    simp only [R.s_ok] at h
    cases c with
    | true => exact ⟨st', ds, vs, s1, hl, h⟩
    | false => exact ⟨st', ds, vs, s1, hl, h⟩
/-! ### targets, assignments -/
def gNm (i : Nat) : MG := fun d st => if i < st.length then some (st.set i d) else none
theorem vg_name {i : Nat} {x : Str} {p : Pos} (hN : X.N.Nodup) (hfx : C.fx i = none := by rfl) (hi : X.N[i]? = some x := by rfl) (hx : Loc X.env.scope x := by first | exact Or.inl rfl | exact Or.inr rfl) (hf : X.fn x = true ∨ X.env.scope.names.lookup x = some .local := by first | exact .inl rfl | exact .inr rfl | assumption) : VG X C (.Name x p) (gNm i) := by
  refine (pg_name hN hi hx hf).impV ?_
  rintro v σ H Q ⟨st, ds, vs, d, s, hl, h⟩
  unfold gNm at h
  split at h
  · rename_i st' e
    split at e
    · rename_i hlt
      simp at e; subst e
      exact h _ H (s.toSlot hlt hfx)
    · cases e
  · exact h.elim
def gN0 : MGs := fun xs st => match xs with
  | [] => some st
  | _ => none
def gC1 (g : MG) (gs : MGs) : MGs := fun xs st => match xs with
  | x :: r => match g x st with
    | some st1 => gs r st1
    | none => none
  | [] => none
theorem vgs_nil : VGs X C [] gN0 := by
  refine pgs_nil.impV ?_
  rintro us σ H Q ⟨st, ds, vs, xs, s, hl, h⟩
  cases xs with
  | nil =>
    have hd := s.dn
    simp at hd
    have : us = [] := List.length_eq_zero_iff.mp (by omega)
    subst this
    exact ⟨rfl, h σ H (by simpa using s)⟩
  | cons x xs => exact h.elim
theorem vgs_cons {g : MG} {gs : MGs} (h1 : VG X C e g) (h2 : VGs X C es gs) (hs : (assignEach (e :: es) X.env).map (·.2) = assign e X.env :: (assignEach es X.env).map (·.2) := by rfl) : VGs X C (e :: es) (gC1 g gs) := by
  refine (pgs_cons h1 h2 hs).impV ?_
  rintro us σ H Q ⟨st, ds, vs, xs, s, hl, h⟩
  cases xs with
  | nil => exact h.elim
  | cons x xs =>
    have hd := s.dn
    cases us with
    | nil => simp at hd; omega
    | cons u us =>
      refine ⟨u, us, rfl, st, ds ++ xs, vs ++ us, x, ?_, by simp at hd ⊢; omega, ?_⟩
      · have := s.rot hl; simpa [List.append_assoc] using this
      · unfold gC1 at h
        simp only at h
        cases q : g x st with
        | none => rw [q] at h; exact h.elim
        | some st1 =>
          rw [q] at h
          intro σ' H' s'
          exact ⟨st1, ds, vs, xs, s', hl, h⟩
/-- the items of a tree on top -/
theorem SX.open {k : Kd} {xs : List D} {u : V} (s : SX C st (ds ++ [.nd k xs]) σ (vs ++ [u]) H) : ∃ (a : Addr) (ws : List V), u = .ref a ∧ HoK C.CA H a ws k ∧ xs.length = ws.length ∧ SX C st (ds ++ xs) σ (vs ++ ws) H := by
  obtain ⟨Z, os, s⟩ := s
  obtain ⟨o1, o2, o3, r1, r2, r3, e⟩ := s.top
  cases r3 with
  | nd hk rl n =>
    rename_i a ws ox
    have sub : ∀ b, ox b ≤ o3 b := fun b => by
      revert n
      generalize k.fl = f
      intro n
      match f, n with
      | none, n => have := n.2 b; omega
      | some .own, n => have := n.2.2 b; omega
      | some .bor, n => have := n.2.1 b; omega
      | some .fz, n => have := n.2.2.1 b; omega
    exact ⟨a, ws, rfl, hk, rl.len, (s.mk2 (os' := fun b => o1 b + (o2 b + ox b)) (o2 := fun b => o2 b + ox b) r1 (r2.app rl fun _ => rfl) (fun _ => rfl) (fun b => by rw [e]; have := sub b; (try dsimp only); omega) s.sl).sx⟩
def gTu (n : Nat) (gs : MGs) : MG := fun d st => match d with
  | .nd .tup xs => if xs.length = n then gs xs st else none
  | _ => none
theorem vg_tup {gs : MGs} {j n : Nat} (O : COk X C) (hc : X.calm = true) (h : VGs X C es gs) (hn : (assignEach es X.env).length = n := by rfl) (hst : (assignEach es X.env).findIdx? (·.1) = none := by rfl) : VG X C (.Tuple es j pos) (gTu n gs) := by
  refine (pg_tup hc h hn hst).impV ?_
  rintro v σ H Q ⟨st, ds, vs, d, s, hl, h⟩
  unfold gTu at h
  cases d with
  | nd k xs =>
    cases k with
    | tup =>
      simp only at h
      split at h
      · rename_i st' hq
        split at hq
        · rename_i hlen
          obtain ⟨a, ws, rfl, hk, hw, s2⟩ := s.open
          refine ⟨a, ws, rfl, SqT.of hk, by rw [← hw]; exact hlen, st, ds, vs, xs, s2, hl, ?_⟩
          rw [hq]; exact h
        · cases hq
      · exact h.elim
    | _ => exact h.elim
  | _ => exact h.elim
def mAsg (ma : List D → R D) (g : MG) : MS := fun st => (ma st).s fun d st' => match g d st' with
  | some st2 => .nx st2
  | none => .stuck
theorem vs_asg {g : MG} (he : VE X C sa e ma) (hg : VG X C tg g) (hs : swapsWithSole [tg] e pos.line X.env = pure false := by rfl) (hw : swappedStores [tg] e X.env = pure none := by rfl)
    (h1 : (assignEach [tg] X.env).map (·.2) = [assign tg X.env] := by rfl) : VS X C (.Assign [tg] e pos) (mAsg ma g) := by
  refine (ps_asg he hg hs hw h1).impV ?_
  rintro Dn σ H ⟨st, ds, vs, s, hl, h⟩
  refine seqS s hl h fun x st1 v H1 s1 h1 => ⟨st1, ds, vs, x, s1, hl, ?_⟩
  cases q : g x st1 with
  | none => rw [q] at h1; exact h1.elim
  | some st2 => rw [q] at h1; exact h1
theorem asg_red {i : Nat} {te : TE} (hfx : C.fx i = none) (k : ∀ σ H Q, trE C sa ma σ H Q → te σ H Q) : ∀ Dn σ H, trS C (mAsg ma (gNm i)) Dn σ H → tAsg te (gName i) Dn σ H := by
  rintro Dn σ H ⟨st, ds, vs, s, hl, h⟩
  refine k σ H _ (seqS s hl h fun x st1 v H1 s1 h1 => ?_)
  unfold gNm at h1
  by_cases q : i < st1.length
  · rw [if_pos q] at h1
    exact h1 _ H1 (s1.toSlot q hfx)
  · rw [if_neg q] at h1; exact h1.elim
theorem vs_set {i : Nat} {x : Str} {p : Pos} (hN : X.N.Nodup) (he : VE X C sa e ma) (hfx : C.fx i = none := by rfl) (hi : X.N[i]? = some x := by rfl) (hx : Loc X.env.scope x := by first | exact Or.inl rfl | exact Or.inr rfl) (hs : swapsWith e (some (.Name x p)) pos.line X.env = pure false := by rfl)
    (hf : X.fn x = true ∨ X.env.scope.names.lookup x = some .local := by first | exact .inl rfl | exact .inr rfl | assumption) : VS X C (.Assign [.Name x p] e pos) (mAsg ma (gNm i)) :=
  (ps_set hN hi hx he hs hf).impV (asg_red hfx fun _ _ _ h => h)
/-! ### for -/
def forL (g : MG) (body : MS) : List D → List D → RS
  | [], st => .nx st
  | x :: r, st => match g x st with
    | some st1 => match body st1 with
      | .nx st2 => forL g body r st2
      | .ct st2 => forL g body r st2
      | .bk st2 => .nx st2
      | .rt d st2 => .rt d st2
      | .ex e st2 => .ex e st2
      | .stuck => .stuck
    | none => .stuck
/-- an end behind dropped temporaries -/
theorem rZ.up {d' : List D} {v' : List V} (hl : ds.length = vs.length) (hl' : d'.length = v'.length) : ∀ {r : RS}, rZ C ds vs Dn r → rZ C (ds ++ d') (vs ++ v') Dn r
  | .nx _, h => fun σ' H' s => h σ' H' (s.drop hl)
  | .bk _, h => fun σ' H' s => h σ' H' (s.drop hl)
  | .ct _, h => fun σ' H' s => h σ' H' (s.drop hl)
  | .rt _ _, h => fun v σ' H' s => h v σ' H' (s.dropMid hl hl')
  | .ex _ _, h => fun σ' => (h σ').up hl hl'
  | .stuck, h => h
/-- a turn's end -/
theorem rZ.turn {r : RS} {f : List D → RS} {Dn' : Ends} (hn : ∀ st σ H, SX C st ds σ vs H → rZ C ds vs Dn (f st) → Dn'.nx σ H) (hc : ∀ st σ H, SX C st ds σ vs H → rZ C ds vs Dn (f st) → Dn'.ct σ H) (hb : ∀ σ H, Dn.nx σ H → Dn'.bk σ H) (hr : Dn'.rt = Dn.rt)
    (h : rZ C ds vs Dn (match r with
      | .nx st2 => f st2
      | .ct st2 => f st2
      | .bk st2 => .nx st2
      | .rt d st2 => .rt d st2
      | .ex e st2 => .ex e st2
      | .stuck => .stuck)) : rZ C ds vs Dn' r := by
  cases r with
  | nx st => exact fun σ' H' s => hn st σ' H' s h
  | ct st => exact fun σ' H' s => hc st σ' H' s h
  | bk st => exact fun σ' H' s => hb σ' H' (h σ' H' s)
  | rt d st => exact fun v σ' H' s => by rw [hr]; exact h v σ' H' s
  | ex e st => exact h
  | stuck => exact h
def mForL (ma : List D → R D) (g : MG) (body : MS) : MS := fun st => (ma st).s fun d st1 => match d.frz with
  | .nd (.lst _) xs => forL g body xs st1
  | _ => .stuck
/-- a frozen list's item, pushed -/
theorem SX.item {f : Fl} {xs : List D} {a : Addr} {j : Nat} {x : D} {w : V} {ws : List V} (hf : f ≠ .own) (s : SX C st (ds ++ [.nd (.lst f) xs]) σ (vs ++ [.ref a]) H) (hx : xs[j]? = some x) (hk : H a = some (.lst ws)) (hw : ws[j]? = some w) :
    SX C st (ds ++ [.nd (.lst f) xs] ++ [x]) σ (vs ++ [.ref a] ++ [w]) H := by
  obtain ⟨Z, os, s⟩ := s
  obtain ⟨o1, o2, o3, r1, r2, r3, e⟩ := s.top
  cases r3 with
  | nd hk' rl n =>
    rename_i ws' ox
    have ew : ws' = ws := by
      have : H a = some (.lst ws') := hk'
      rw [hk] at this; cases this; rfl
    subst ew
    have z3 : ∀ b, ox b = 0 := fun b => by
      revert n
      show NdOk _ _ _ _ (some f) → _
      intro n
      match f, n with
      | .own, n => exact absurd rfl hf
      | .bor, n => exact n.2.1 b
      | .fz, n => exact n.2.2.1 b
    obtain ⟨w', od, orr, hw', rd, hod, _⟩ := rl.at hx
    rw [hw] at hw'; cases hw'
    have zd : ∀ b, od b = 0 := fun b => by have := z3 b; rw [hod] at this; omega
    have node : Rp (C.G Z H) (.nd (.lst f) xs) (.ref a) o3 := .nd hk' rl n
    exact (s.mk2 (os' := os) (o2 := fun b => o2 b + o3 b) r1 ((r2.app (RpL.one node) fun _ => rfl).app (os := fun b => o2 b + o3 b) (RpL.one rd) fun b => by (try dsimp only); rw [zd]; omega) (fun b => by rw [e]; omega) (fun _ => Nat.le_refl _) s.sl).sx
theorem kd_frz {d : D} {xs : List D} {f : Fl} (h : d.frz = .nd (.lst f) xs) : f ≠ .own := by
  intro e; subst e
  have := D.noOwn_set (g := .fz) (by decide) d
  rw [show D.set .fz d = d.frz from rfl, h] at this
  simp [D.noOwn, Kd.fl] at this
theorem for_listV {K : PySem.W.Frag} {a : Addr} {n : Nat} {g : TG} {tb : TS} {D : Ends} {σ : St} {H : Hp} (Pv : Nat → St → Hp → Prop) (h0 : Pv 0 σ H) (hl : ∀ i σ H, i ≤ n → Pv i σ H → ∃ ws, ws.length = n ∧ H a = some (.lst ws))
    (hs : ∀ i x ws σ H, H a = some (.lst ws) → ws[i]? = some x → i < n → Pv i σ H → g x σ H fun σ2 H2 => tb { D with nx := Pv (i + 1), ct := Pv (i + 1), bk := D.nx } σ2 H2) (hd : ∀ σ H, Pv n σ H → D.nx σ H) :
    ∃ W : Nat → Nat → St → Hp → Prop, (∃ m, W 0 m σ H) ∧ ∀ i m σ H, W i m σ H →
      ((Itl K a).stop i H ∧ D.nx σ H) ∨ ((Itl K a).go i H ∧ ∃ N : St → Hp → Prop, (∀ σ' H', N σ' H' → ∃ m', m' < m ∧ W (i + 1) m' σ' H') ∧ ∀ x H', (Itl K a).yld i H x H' → g x σ H' fun σ2 H2 => tb { D with nx := N, ct := N, bk := D.nx } σ2 H2) := by
  refine ⟨fun i m σ H => m = n - i ∧ i ≤ n ∧ Pv i σ H, ⟨n, by simp, Nat.zero_le _, h0⟩, ?_⟩
  rintro i m σ H ⟨rfl, hi, p⟩
  obtain ⟨ws, hw, q⟩ := hl i σ H hi p
  by_cases hlt : i < n
  · refine .inr ⟨⟨ws, ws[i], SqL.of q, by simp [hw, hlt]⟩, Pv (i + 1), fun σ' H' p' => ⟨n - (i + 1), by omega, rfl, hlt, p'⟩, fun x H' y => ?_⟩
    obtain ⟨e, y⟩ := y
    subst e
    exact hs i x ws σ _ q (y ws (SqL.of q)) hlt p
  · have e : i = n := by omega
    subst e
    exact .inl ⟨⟨ws, SqL.of q, by omega⟩, hd σ H p⟩
theorem vs_forL {g : MG} (O : COk X C) (hp : PassesOwn (model X.prog X.w) X.A X.env X.xe) (hc : X.calm = true) (ha : VE X C sa e ma) (hg : VG X C tg g) (hb : VB X C ss m) (hs : ∀ x, foldedSetIterable e X.env x = pure x := by intro _; rfl) : VS X C (.For tg e ss [] pos) (mForL ma g m) := by
  refine (ps_for hp hc (pi_list ha) hg hb hs).impV ?_
  rintro Dn σ H ⟨st, ds, vs, s, hl, h⟩
  refine seqS s hl h fun d st1 v H1 s1 h1 => ?_
  have s2 := s1.frzTop
  generalize hd : d.frz = df at h1 s2
  match df, h1 with
  | .nd (.lst f) xs, h1 =>
    have hf := kd_frz hd
    obtain ⟨a, ws, Z, os, rfl, hk, rl⟩ := s2.ndTop
    have hk1 : H1 a = some (.lst ws) := hk
    have hlen := rl.len
    refine ⟨a, rfl, ⟨ws, SqL.of hk⟩, for_listV (K := X.K) (a := a) (n := xs.length) (fun j σ' H' => ∃ st', SX C st' (ds ++ [.nd (.lst f) xs]) σ' (vs ++ [.ref a]) H' ∧ rZ C (ds ++ [.nd (.lst f) xs]) (vs ++ [.ref a]) Dn (forL g m (xs.drop j) st')) ⟨st1, s2, rZ.up hl rfl h1⟩ (fun j σ' H' _ ⟨_, s', _⟩ => ?_) ?_ ?_⟩
    · obtain ⟨a', ws', Z', os', e', hk', rl'⟩ := s'.ndTop
      cases e'
      exact ⟨ws', rl'.len.symm, hk'⟩
    · rintro j w ws' σ' H' hq hw hj ⟨st', s', h'⟩
      have hx : xs[j]? = some xs[j] := by simp [hj]
      rw [List.drop_eq_getElem_cons hj] at h'
      obtain ⟨a', ws2, Z', os', e', hk', rl'⟩ := s'.ndTop
      cases e'
      have hk2 : H' a = some (.lst ws2) := hk'
      have e2 : ws' = ws2 := by rw [hk2] at hq; cases hq; rfl
      subst e2
      have s3 := s'.item hf hx hk2 hw
      refine ⟨st', ds ++ [.nd (.lst f) xs], vs ++ [.ref a], xs[j], s3, by simp [hl], ?_⟩
      simp only [forL] at h'
      cases q : g xs[j] st' with
      | none => rw [q] at h'; exact h'.elim
      | some st2 =>
        rw [q] at h'
        intro σ2 H2 s4
        refine ⟨st2, ds ++ [.nd (.lst f) xs], vs ++ [.ref a], s4, by simp [hl], ?_⟩
        exact rZ.turn (f := forL g m (xs.drop (j + 1))) (fun st'' σ'' H'' s'' q => ⟨st'', s'', q⟩) (fun st'' σ'' H'' s'' q => ⟨st'', s'', q⟩) (fun _ _ q => q) rfl h'
    · rintro σ' H' ⟨st', s', h'⟩
      rw [List.drop_length] at h'
      exact h' σ' H' s'
  | .un, h1 => exact h1.elim
  | .non, h1 => exact h1.elim
  | .bl _, h1 => exact h1.elim
  | .int _, h1 => exact h1.elim
  | .str _, h1 => exact h1.elim
  | .scr _, h1 => exact h1.elim
  | .nd .tup _, h1 => exact h1.elim
  | .nd (.dct _ _) _, h1 => exact h1.elim
  | .nd (.ins _ _ _) _, h1 => exact h1.elim
end
end PV

namespace PV
open PySem L2
/-! ### a def by its body -/
def outsOf : List Md → List D → List D
  | [], _ => []
  | _ :: _, [] => []
  | m :: ms, d :: st => (if m = .io then d else .un) :: outsOf ms st
def runF (ms : List Md) (n : Nat) (m : MS) : Fn := fun args => match m (args ++ List.replicate (n - args.length) .un) with
  | .nx st => .ok .non (outsOf ms st)
  | .rt d st => .ok d (outsOf ms st)
  | .ex e st => .ex e (outsOf ms st)
  | _ => .stuck
/-- the parameters that may be changed keep their slots -/
def fxOf : List Md → List V → Nat → Option V
  | .io :: _, u :: _, 0 => some u
  | _ :: ms, _ :: us, i + 1 => fxOf ms us i
  | _, _, _ => none
/-- no parameter to be changed at that place -/
def noFx : List Md → Nat → Bool
  | .io :: _, 0 => false
  | _ :: ms, i + 1 => noFx ms i
  | _, _ => true
theorem fx_none : ∀ {ms : List Md} {us : List V} {i : Nat}, noFx ms i = true → fxOf ms us i = none
  | [], us, i, _ => by simp [fxOf]
  | m :: ms, [], i, _ => by cases m <;> simp [fxOf]
  | m :: ms, u :: us, 0, h => by cases m <;> simp [noFx] at h <;> simp [fxOf]
  | m :: ms, u :: us, i + 1, h => by
    have : noFx ms i = true := by cases m <;> simpa [noFx] using h
    cases m <;> simpa [fxOf] using fx_none this
theorem outs_rp {G : Gd} : ∀ {ms : List Md} {st : List D} {ws us : List V} {o : Ct}, RpL G st ws o → us.length = ms.length → ms.length ≤ st.length → (∀ i v, fxOf ms us i = some v → ws[i]? = some v) → ∃ o', RpL G (outsOf ms st) us o' ∧ ∀ b, o' b ≤ o b
  | [], st, ws, us, o, r, h1, h2, h3 => by
    have : us = [] := List.length_eq_zero_iff.mp (by simpa using h1)
    subst this
    exact ⟨fun _ => 0, by simp only [outsOf]; exact .nil fun _ => rfl, fun _ => Nat.zero_le _⟩
  | m :: ms, [], _, _, _, _, _, h2, _ => by simp at h2
  | m :: ms, d :: st, _, [], _, _, h1, _, _ => by simp at h1
  | m :: ms, d :: st, _, u :: us, _, .cons (v := w) (vs := ws) (o1 := o1) (o2 := o2) r t e, h1, h2, h3 => by
    obtain ⟨o', q, l⟩ := outs_rp (us := us) t (by simpa using h1) (by simpa using h2) fun i v hi => by
      have := h3 (i + 1) v (by cases m <;> simpa [fxOf] using hi)
      simpa using this
    by_cases hm : m = .io
    · subst hm
      have := h3 0 u rfl
      simp at this; subst this
      exact ⟨fun b => o1 b + o' b, by simp only [outsOf, if_pos]; exact .cons r q fun _ => rfl, fun b => by have := l b; rw [e]; (try dsimp only); omega⟩
    · exact ⟨o', by simp only [outsOf, if_neg hm]; exact .cons (o1 := fun _ => 0) (.un fun _ => rfl) q fun b => by simp, fun b => by have := l b; rw [e]; omega⟩
theorem rp_uns {G : Gd} : ∀ n : Nat, RpL G (List.replicate n .un) (List.replicate n V.non) (fun _ => 0)
  | 0 => .nil fun _ => rfl
  | n + 1 => .cons (o1 := fun _ => 0) (.un fun _ => rfl) (rp_uns n) fun b => by simp
section
variable {P : Program} {w : World} {K : PySem.W.Frag} {mg : Str → Option Value} {base : Heap} {CA : Str → Option Addr}
theorem start_gd (N : List Str) (us : List V) : (L2.start N us).map gd = us ++ List.replicate (N.length - us.length) V.non := by
  unfold L2.start
  rw [List.map_append, List.map_map, List.map_replicate]
  congr 1
  induction us with
  | nil => rfl
  | cons u us ih => simp; exact ih
/-- the run of a body from a call, and what it hands back -/
theorem run_sp {ms : List Md} {N : List Str} {n : Nat} {m : MS} {us : List V} {H : Hp} {Q : VK} {E : XK} (hN : n ≤ N.length) (hn : ms.length = n) (h : spF K CA n (runF ms N.length m) us H Q E) :
    ∃ (os : Ct) (B : Addr → Prop), trS ⟨K, CA, H, os, B, fun cls d _ H' => E cls d H', fxOf ms us, N.length⟩ m { nx := fun _ H' => Q .non H', rt := Q } (L2.start N us) H := by
  obtain ⟨hl, args, os, B, P, h⟩ := h
  refine ⟨os, B, args ++ List.replicate (N.length - args.length) .un, [], [], ?_, rfl, ?_⟩
  · have hlen := P.rp.len
    refine ⟨fun a => 0 < os a, os, ?_, P.nd, ?_, ?_, fun a o q _ => q, fun a z => .inl z, P.al, P.bb, ?_⟩
    · rw [List.append_nil, List.append_nil, start_gd, ← hlen]
      exact P.rp.app (rp_uns _) fun b => by simp
    · unfold L2.start
      simp [hlen]
    · intro i d hd hu
      have hi : i < args.length := by
        by_cases q : i < args.length
        · exact q
        · rw [List.getElem?_append_right (by omega), List.getElem?_replicate] at hd
          split at hd
          · simp at hd; exact absurd hd.symm hu
          · cases hd
      unfold L2.start
      rw [List.getElem?_append_left (by simp; omega)]
      exact ⟨us[i]'(by omega), by simp⟩
    · refine ⟨fun i v hf => ?_, by unfold L2.start; simp; omega⟩
      have : us[i]? = some v := by
        clear hlen P h hl hn hN
        induction ms generalizing us i with
        | nil => simp [fxOf] at hf
        | cons m ms ih =>
          cases us with
          | nil => cases m <;> simp [fxOf] at hf
          | cons u us =>
            cases i with
            | zero => cases m <;> simp [fxOf] at hf; simp [hf]
            | succ i => have := ih (us := us) (i := i) (by cases m <;> simpa [fxOf] using hf); simpa using this
      unfold L2.start
      have hi : i < us.length := (List.getElem?_eq_some_iff.mp this).1
      rw [List.getElem?_append_left (by simpa using hi)]
      simp [this]
  · have fin : ∀ {st : List D} {ds : List D} {vs : List V} {σ' : L2.St} {H' : Hp}, SX ⟨K, CA, H, os, B, fun cls d _ H' => E cls d H', fxOf ms us, N.length⟩ st ds σ' vs H' → ∃ Z' os', Post K CA H os B (ds ++ outsOf ms st) (vs ++ us) H' Z' os' := by
      rintro st ds vs σ' H' ⟨Z, o, s⟩
      obtain ⟨o1, o2, r1, r2, e⟩ := s.cut
      have hst : n ≤ st.length := by
        rw [s.ln, s.fx.2]; exact hN
      obtain ⟨o3, r3, l3⟩ := outs_rp (us := us) r1 (by rw [hl, hn]) (by rw [hn]; exact hst) fun i v q => by
        have := s.fx.1 i v q
        simp [this]
      exact ⟨Z, fun b => o2 b + o3 b, r2.app r3 fun _ => rfl, fun b => by have := s.nd b; rw [e] at this; have := l3 b; (try dsimp only); omega, s.kp, s.fr, s.al⟩
    unfold runF at h
    cases q : m (args ++ List.replicate (N.length - args.length) .un) with
    | nx st =>
      rw [q] at h
      intro σ' H' s'
      obtain ⟨Z', os', P'⟩ := fin (s'.pushc (d := .non) rfl)
      exact h _ _ _ _ P'
    | rt d st =>
      rw [q] at h
      intro v σ' H' s'
      obtain ⟨Z', os', P'⟩ := fin s'
      exact h _ _ _ _ P'
    | ex e st =>
      rw [q] at h
      intro σ' cls dx ws H' s' hx
      obtain ⟨Z', os', P'⟩ := fin s'
      exact h _ _ _ _ _ _ P' (by have := s'.dn; simpa using this) hx
    | bk st => rw [q] at h; exact h.elim
    | ct st => rw [q] at h; exact h.elim
    | stuck => rw [q] at h; exact h.elim
/-- THE DEF: its body's walk gives its promise -/
theorem fn_ok {x qual : Str} {sd : Stmt} {f : Addr} {fd : FuncData} {N ps : List Str} {k : Nat} {ms : List Md} {m : MS} (F : L2.Fun K x qual sd f fd) (S : FnScope N ps (defScope sd)) (hn : ms.length = ps.length)
    (hb : ∀ (cdv : Value) (A : Around) (outer : List Env) (s : Shared) (H : Hp) (E : XK) (H0 : Hp) (os0 : Ct) (B : Addr → Prop) (fx : Nat → Option V), (∀ i, noFx ms i = true → fx i = none) → Room k (A.deeper (PyProof.Rows.envOfC qual (defScope sd) s.heap.objs.size f cdv)) →
      VB (cxOf (L2.CX P w) P w K mg base N qual (defScope sd) f cdv A outer s H E) ⟨K, CA, H0, os0, B, fun cls d _ H' => E cls d H', fx, N.length⟩ (defBody sd) m) :
    FnOk P w K mg base (L2.CX P w) (k + 1) f fd ps (spF K CA ps.length (runF ms N.length m)) := by
  refine F.okX S (fun vs H Q E h => h.1) (fun cdv A outer s H vs Q E hr h => ?_)
  obtain ⟨os, B, h⟩ := run_sp (ms := ms) (N := N) (by have := congrArg List.length S.pre; rw [List.length_take] at this; omega) hn h
  exact ⟨_, hb cdv A outer s H E _ _ _ _ (fun i z => fx_none z) hr, h⟩
end
section
variable {X : Cx} {C : Cc} {st ds : List D} {σ : L2.St} {vs : List V} {H H' : Hp} {a b e tg : Expr} {es : List Expr} {pos p : Pos} {qa qb : List D → Option PL} {ma mb : List D → R D} {sa sb : Bool} {ss : List Stmt} {m : MS} {Dn : Ends}
/-! ### built-ins of quiet things -/
theorem ca1 {r : List V → Hp → VK → Prop} {q' : List D → Option PL} (k : ∀ st ds vs σ H Q pl v, SX C st ds σ vs H → qa st = some pl → (∀ d, pl = .sc d → vOf d = some v) → (∀ r p, pl = .pth r p → HPs H σ r p v) → rQ σ H Q (q' st) → r [v] H Q) (hq : ∀ st, qa st = none → q' st = none) :
    ∀ σ H Q, trQ C q' σ H Q → tCB r (tCons (trQ C qa) tNil) σ H Q := by
  rintro σ H Q ⟨st, ds, vs, s, h⟩
  refine ⟨st, ds, vs, s, ?_⟩
  cases q : qa st with
  | none => rw [hq st q] at h; exact h.elim
  | some pl =>
    cases pl with
    | sc d => exact fun v hv => k st ds vs σ H Q _ v s q (fun d' e => by cases e; exact hv) (fun r p e => by cases e) h
    | pth r p => exact fun u hp => k st ds vs σ H Q _ u s q (fun d e => by cases e) (fun r' p' e => by cases e; exact hp) h
/-- len -/
def qLen (qa : List D → Option PL) : List D → Option PL := fun st => match qa st with
  | some (.pth r p) => match getS st r p with
    | some (.nd (.lst _) xs) => some (.sc (.int xs.length))
    | some (.nd .tup xs) => some (.sc (.int xs.length))
    | _ => none
  | some (.sc (.str z)) => if z.length ≤ sizeLine then some (.sc (.int z.length)) else none
  | _ => none
theorem vq_len (O : COk X C) (ha : VQ X C a qa) (hg : Gl X "len") (hm : X.mg "len" = none) (he : starEach [a] X.env = (false, eval a X.env) :: starEach [] X.env := by rfl) : VQ X C (.Call (.Name "len" p) [a] [] pos) (qLen qa) := by
  refine ⟨(pe_callB (CallR.or call_len_seq call_len_str) hg hm PySem.boot_len (pa_cons ha.pe pa_nil he) (by decide) (by decide) he).impV (ca1 (fun st ds vs σ H Q pl v s q h1 h2 h => ?_) fun st q => by unfold qLen; rw [q]), fun st pl h => ?_⟩
  · unfold qLen at h
    rw [q] at h
    cases pl with
    | pth r p =>
      simp only at h
      obtain ⟨k, xs, hk⟩ := ha.ok _ _ q
      rw [hk] at h
      obtain ⟨a', ws, Z, os, rfl, hn, rl⟩ := s.node hk (h2 _ _ rfl)
      cases k with
      | lst f => exact .inl ⟨a', ws, rfl, .inl (SqL.of hn), by rw [← rl.len]; exact h _ rfl⟩
      | tup => exact .inl ⟨a', ws, rfl, .inr (SqT.of hn), by rw [← rl.len]; exact h _ rfl⟩
      | _ => exact h.elim
    | sc d =>
      have hv := h1 d rfl
      cases d with
      | str z =>
        simp [vOf] at hv; subst hv
        simp only at h
        split at h
        · rename_i hz; exact .inr ⟨z, rfl, hz, h _ rfl⟩
        · exact h.elim
      | _ => exact h.elim
  · unfold qLen at h
    split at h
    · split at h
      · simp at h; subst h; exact ⟨_, rfl⟩
      · simp at h; subst h; exact ⟨_, rfl⟩
      · cases h
    · split at h
      · simp at h; subst h; exact ⟨_, rfl⟩
      · cases h
    · cases h
/-- len of a value -/
def mLen (ma : List D → R D) : List D → R D := fun st => (ma st).bind fun d st' => match d with
  | .nd (.lst _) xs => .ok (.int xs.length) st'
  | .nd .tup xs => .ok (.int xs.length) st'
  | .str z => if z.length ≤ sizeLine then .ok (.int z.length) st' else .stuck
  | _ => .stuck
/-- max, min of two -/
def gMax : G2 := gI (fun i j => .int (max i j)) fun _ _ => true
def gMin : G2 := gI (fun i j => .int (min i j)) fun _ _ => true
/-! ### ranges -/
def rangeD (lo hi : Int) : List D := (List.range (hi - lo).toNat).map fun i => D.int (lo + (i : Nat))
theorem rangeD_len (lo hi : Int) : (rangeD lo hi).length = (hi - lo).toNat := by simp [rangeD]
theorem rangeD_get {lo hi : Int} {j : Nat} (h : j < (hi - lo).toNat) : (rangeD lo hi)[j]? = some (.int (lo + (j : Nat))) := by simp [rangeD, h]
def mForR (ma mb : List D → R D) (g : MG) (body : MS) : MS := fun st => (ma st).s fun x st1 => (mb st1).s fun y st2 => match x, y with
  | .int i, .int j => if -(2 ^ 62) ≤ i ∧ i < 2 ^ 62 ∧ -(2 ^ 62) ≤ j ∧ j < 2 ^ 62 then forL g body (rangeD i j) st2 else .stuck
  | _, _ => .stuck
def mK (d : D) : List D → R D := fun st => .ok d st
def mForR1 (ma : List D → R D) (g : MG) (body : MS) : MS := mForR (mK (.int 0)) ma g body
theorem forR_red {g : MG} {i j : Int} {tb : TS} (hb : tb = trS C m) (s : SX C st ds σ vs H) (hl : ds.length = vs.length) (h : rZ C ds vs Dn (forL g m (rangeD i j) st)) :
    ∃ W : Nat → Nat → L2.St → Hp → Prop, (∃ m, W 0 m σ H) ∧ ∀ k mm σ H, W k mm σ H →
      ((Itr i (j - i).toNat).stop k H ∧ Dn.nx σ H) ∨ ((Itr i (j - i).toNat).go k H ∧ ∃ N : L2.St → Hp → Prop, (∀ σ' H', N σ' H' → ∃ m', m' < mm ∧ W (k + 1) m' σ' H') ∧ ∀ x H', (Itr i (j - i).toNat).yld k H x H' → trG C g x σ H' fun σ2 H2 => tb { Dn with nx := N, ct := N, bk := Dn.nx } σ2 H2) := by
  subst hb
  refine for_range (lo := i) (n := (j - i).toNat) (fun k σ' H' => ∃ st', SX C st' ds σ' vs H' ∧ rZ C ds vs Dn (forL g m ((rangeD i j).drop k) st')) ⟨st, s, h⟩ ?_ ?_
  · rintro k σ' H' hk ⟨st', s', h'⟩
    have hk' : k < (rangeD i j).length := by rw [rangeD_len]; exact hk
    have hx : (rangeD i j)[k] = .int (i + (k : Nat)) := by
      have := rangeD_get hk
      rw [List.getElem?_eq_getElem hk'] at this
      exact Option.some.inj this
    rw [List.drop_eq_getElem_cons hk', hx] at h'
    refine ⟨st', ds, vs, .int (i + (k : Nat)), s'.pushc rfl, hl, ?_⟩
    simp only [forL] at h'
    cases q : g (.int (i + (k : Nat))) st' with
    | none => rw [q] at h'; exact h'.elim
    | some st2 =>
      rw [q] at h'
      intro σ2 H2 s4
      refine ⟨st2, ds, vs, s4, hl, ?_⟩
      exact rZ.turn (f := forL g m ((rangeD i j).drop (k + 1))) (fun st'' σ'' H'' s'' q => ⟨st'', s'', q⟩) (fun st'' σ'' H'' s'' q => ⟨st'', s'', q⟩) (fun _ _ q => q) rfl h'
  · rintro σ' H' ⟨st', s', h'⟩
    rw [← rangeD_len i j, List.drop_length] at h'
    exact h' σ' H' s'
theorem vs_forR2 {g : MG} (hp : PassesOwn (model X.prog X.w) X.A X.env X.xe) (hc : X.calm = true) (ha : VE X C sa a ma) (hb' : VE X C sb b mb) (hg : VG X C tg g) (hb : VB X C ss m) (hgr : Gl X "range") (hm : X.mg "range" = none)
    (hs1 : starEach [a, b] X.env = [(false, eval a X.env), (false, eval b X.env)] := by rfl) (hs2 : starEach [b] X.env = [(false, eval b X.env)] := by rfl) (hs : ∀ x, foldedSetIterable (.Call (.Name "range" p) [a, b] [] pos) X.env x = pure x := by intro _; rfl) {fpos : Pos} : VS X C (.For tg (.Call (.Name "range" p) [a, b] [] pos) ss [] fpos) (mForR ma mb g m) := by
  refine (ps_for hp hc (pi_range2 hgr hm (pa_cons ha (pa_cons hb' pa_nil hs2) (by rw [hs1, hs2])) hs1 hs2) hg hb hs).impV ?_
  rintro Dn σ H ⟨st, ds, vs, s, hl, h⟩
  refine seqS s hl h fun x st1 v H1 s1 h1 => ?_
  refine ⟨st1, ds ++ [x], vs ++ [v], s1, by simp [hl], ?_⟩
  cases q : mb st1 with
  | stuck => rw [q] at h1; exact h1.elim
  | ex y st' => rw [q] at h1; exact (h1 σ).up hl rfl
  | ok y st2 =>
    rw [q] at h1
    intro u H2 _ s2
    simp only [R.s_ok] at h1
    cases x with
    | int i =>
      cases y with
      | int j =>
        simp only at h1
        split at h1
        · rename_i hz
          have e2 : u = .int j := s2.scTop rfl
          subst e2
          have e1 : v = .int i := s2.pop.scTop rfl
          subst e1
          exact ⟨i, j, rfl, hz, forR_red rfl s2.pop.pop hl h1⟩
        · exact h1.elim
      | _ => exact h1.elim
    | _ => exact h1.elim
theorem vs_forR1 {g : MG} (hp : PassesOwn (model X.prog X.w) X.A X.env X.xe) (hc : X.calm = true) (ha : VE X C sa a ma) (hg : VG X C tg g) (hb : VB X C ss m) (hgr : Gl X "range") (hm : X.mg "range" = none)
    (hs1 : starEach [a] X.env = [(false, eval a X.env)] := by rfl) (hs : ∀ x, foldedSetIterable (.Call (.Name "range" p) [a] [] pos) X.env x = pure x := by intro _; rfl) {fpos : Pos} : VS X C (.For tg (.Call (.Name "range" p) [a] [] pos) ss [] fpos) (mForR1 ma g m) := by
  refine (ps_for hp hc (pi_range1 hgr hm (pa_cons ha pa_nil hs1) hs1) hg hb hs).impV ?_
  rintro Dn σ H ⟨st, ds, vs, s, hl, h⟩
  unfold mForR1 mForR mK at h
  simp only [R.s_ok] at h
  refine seqS s hl h fun y st2 u H2 s2 h1 => ?_
  cases y with
  | int j =>
    simp only at h1
    split at h1
    · rename_i hz
      have e2 : u = .int j := s2.scTop rfl
      subst e2
      have := forR_red (i := 0) (j := j) (tb := trS C m) rfl s2.pop hl h1
      rw [Int.sub_zero] at this
      exact ⟨j, rfl, hz.2.2.1, hz.2.2.2, this⟩
    · exact h1.elim
  | _ => exact h1.elim
end
end PV

namespace PV
open PySem L2
section
variable {X : Cx} {C : Cc} {st ds : List D} {σ : L2.St} {vs : List V} {H H' : Hp} {a b e o tg : Expr} {es : List Expr} {pos p apos : Pos} {qa qb qo : List D → Option PL} {ma mb : List D → R D} {sa sb : Bool} {ss : List Stmt} {m : MS} {Dn : Ends}
/-! ### lists grow -/
/-- the receiver is a place whose value stays -/
def qPin (q : List D → Option PL) : Prop := ∀ st r p, q st = some (.pth r p) → p = []
/-- x.append(e) -/
def mAppend (qo : List D → Option PL) (mb : List D → R D) : List D → R D := fun st => match qo st with
  | some (.pth r p) => match getS st r p with
    | some (.nd (.lst _) _) => (mb st).bind fun d st1 => match getS st1 r p with
      | some (.nd (.lst .own) xs) => if xs.length < sizeLine then .ok .non (setS st1 r p (.nd (.lst .own) (xs ++ [d]))) else .stuck
      | _ => .stuck
    | _ => .stuck
  | _ => .stuck
theorem HPs.keep {q : List D → Option PL} {r : Nat} {pp : Pth} {u : V} (hk : sb = true ∨ qPin q) (h : q st = some (.pth r pp)) (sm : sb = true → Same H H') (hp : HPs H σ r pp u) : HPs H' σ r pp u := by
  rcases hk with hk | hk
  · exact hp.same (sm hk)
  · have := hk _ _ _ h
    subst this
    obtain ⟨v, e1, e2⟩ := hp
    exact ⟨v, e1, e2⟩
theorem ve_append (O : COk X C) (ho : VQ X C o qo) (hb : VE X C sb e mb) (hk : sb = true ∨ qPin qo)
    (hbase : attributeBase o "append" X.env (eval o X.env) = eval o X.env := by rfl)
    (hfew : ((backTo pos (starEach [e] X.env)).all (fun x => !x.1) && (backToKw pos (keywordEach [] X.env)).all (fun x => x.1.isSome)
      && decide ([e].length + ([] : List Keyword).length + (if ([] : List Keyword).isEmpty then 0 else 1) < 30)) = true := by rfl)
    (hline : (apos.endLine == pos.line) = true := by rfl) (hs : starEach [e] X.env = (false, eval e X.env) :: starEach [] X.env := by rfl) (hplain : (backTo pos (starEach [] X.env)).any (·.1) = false := by rfl) :
    VE X C false (.Call (.Attribute o "append" apos) [e] [] pos) (mAppend qo mb) := by
  refine (pe_bm PySem.F.plainAttrs_list PySem.F.slot_list_append PySem.F.type_list_append mt_append ho.pe (pa_cons hb pa_nil hs) hbase hfew hline hs hplain).impV ?_
  rintro σ H Q ⟨st, ds, vs, s, hl, h⟩
  refine ⟨st, ds, vs, s, ?_⟩
  unfold mAppend at h
  cases q : qo st with
  | none => rw [q] at h; exact h.elim
  | some pl =>
    rw [q] at h
    cases pl with
    | sc d => exact h.elim
    | pth r pp =>
      simp only at h
      intro u hp
      obtain ⟨k, xs0, hg⟩ := ho.ok _ _ q
      rw [hg] at h
      obtain ⟨a', ws, Z, os, rfl, hn, rl⟩ := s.node hg hp
      cases k with
      | lst f =>
        simp only at h
        refine ⟨.inl ⟨rfl, _, SqL.of hn⟩, st, ds, vs, s, hl, ?_⟩
        cases q2 : mb st with
        | stuck => rw [q2] at h; exact h.elim
        | ex x st' => rw [q2] at h; exact h
        | ok d st1 =>
          rw [q2] at h
          intro v H1 sm s1
          have hp1 := HPs.keep hk q sm hp
          simp only [R.bind_ok] at h
          cases hg1 : getS st1 r pp with
          | none => rw [hg1] at h; exact h.elim
          | some x =>
            rw [hg1] at h
            match x, h with
            | .nd (.lst .own) xs, h =>
              simp only at h
              split at h
              · rename_i hz
                obtain ⟨a2, ws2, Z2, os2, e2, hn2, rl2⟩ := s1.node hg1 hp1
                cases e2
                refine ⟨a', ws2, v, rfl, rfl, hn2, by rw [← rl2.len]; exact hz, h .non _ (fun z => nomatch z) (SX.pushc ?_ rfl)⟩
                exact s1.mut hl hg1 rfl hp1 hn2 (show (upd H1 a' (.lst (ws2 ++ [v]))) a' = some (.lst (ws2 ++ [v])) from upd_same) rfl fun G ox on r1 r2 => ⟨fun b => ox b + on b, r1.app r2 fun _ => rfl, fun _ => Nat.le_refl _⟩
              · exact h.elim
      | _ => exact h.elim
/-- x.extend(e), e a list -/
def mExtend (qo : List D → Option PL) (mb : List D → R D) : List D → R D := fun st => match qo st with
  | some (.pth r p) => match getS st r p with
    | some (.nd (.lst _) _) => (mb st).bind fun d st1 => match d, getS st1 r p with
      | .nd (.lst _) ys, some (.nd (.lst .own) xs) => if xs.length + ys.length ≤ sizeLine then .ok .non (setS st1 r p (.nd (.lst .own) (xs ++ ys))) else .stuck
      | _, _ => .stuck
    | _ => .stuck
  | _ => .stuck
theorem Rp.kids {G : Gd} {k : Kd} {xs : List D} {a : Addr} {ws : List V} {os : Ct} (r : Rp G (.nd k xs) (.ref a) os) (hk : HoK G.CA G.H a ws k) : ∃ ox, RpL G xs ws ox ∧ ∀ b, ox b ≤ os b := by
  cases r with
  | nd hk' rl n =>
    rename_i ws' ox
    obtain ⟨q1, q2, q3⟩ := hk'.vals
    obtain ⟨q4, q5, q6⟩ := hk.vals
    rw [q2] at q5; cases q5
    have ew : ws' = ws := q3.symm.trans q6
    subst ew
    refine ⟨ox, rl, fun b => ?_⟩
    revert n
    generalize k.fl = f
    intro n
    match f, n with
    | none, n => have := n.2 b; omega
    | some .own, n => have := n.2.2 b; omega
    | some .bor, n => have := n.2.1 b; omega
    | some .fz, n => have := n.2.2.1 b; omega
/-- o[i] = value, o a list at a place -/
def gIx (qo qi : List D → Option PL) : MG := fun d st => match qo st, qi st with
  | some (.pth r p), some (.sc (.int i)) => match getS st r p with
    | some (.nd (.lst .own) xs) => match ixN xs.length i with
      | some j => some (setS st r p (.nd (.lst .own) (xs.set j d)))
      | none => none
    | _ => none
  | _, _ => none
theorem vg_ix {i : Expr} {qi : List D → Option PL} (ho : VQ X C o qo) (hi : VQ X C i qi) (ha : ∀ v, assign (.Subscript o i pos) X.env v = (do
      let ov ← holding [v] (eval o X.env)
      let iv ← holding [v, ov] (eval i X.env)
      standAt pos
      holding [v, ov, iv] (setItem ov iv v)
      release [v, ov, iv] []) := by intro _; rfl) : VG X C (.Subscript o i pos) (gIx qo qi) := by
  refine (pg_sub ho.pe hi.pe set_list ha).impV ?_
  rintro v σ H Q ⟨st, ds, vs, d, s, hl, h⟩
  refine ⟨st, ds ++ [d], vs ++ [v], s, ?_⟩
  unfold gIx at h
  cases q : qo st with
  | none => rw [q] at h; exact h.elim
  | some pl =>
    cases q2 : qi st with
    | none => rw [q, q2] at h; cases pl <;> exact h.elim
    | some pl2 =>
      rw [q, q2] at h
      match pl, pl2, q, q2, h with
      | .pth r pp, .sc (.int k), q, q2, h =>
        simp only at h
        intro u hp
        refine ⟨st, ds ++ [d], vs ++ [v], s, ?_⟩
        rw [q2]
        intro w hw
        simp [vOf] at hw; subst hw
        cases hg : getS st r pp with
        | none => rw [hg] at h; exact h.elim
        | some x =>
          rw [hg] at h
          match x, h with
          | .nd (.lst .own) xs, h =>
            simp only at h
            cases hj : ixN xs.length k with
            | none => rw [hj] at h; exact h.elim
            | some j =>
              rw [hj] at h
              obtain ⟨a', ws, Z, os, rfl, hn, rl⟩ := s.node hg hp
              refine ⟨a', ws, k, j, rfl, rfl, hn, by rw [← rl.len]; exact hj, h σ _ ?_⟩
              refine s.mut hl hg rfl hp hn (show (upd H a' (.lst (ws.set j v))) a' = some (.lst (ws.set j v)) from upd_same) rfl fun G ox on r1 r2 => ?_
              have rd := r2.of1
              by_cases hlt : j < xs.length
              · obtain ⟨w, od, orr, hw, _, ho, k'⟩ := r1.at (j := j) (d := xs[j]) (by simp [hlt])
                exact ⟨fun b => on b + orr b, k' d v on _ rd fun _ => rfl, fun b => by rw [ho]; (try dsimp only); omega⟩
              · rw [List.set_eq_of_length_le (by omega), List.set_eq_of_length_le (by rw [← r1.len]; omega)]
                exact ⟨ox, r1, fun b => by omega⟩
      | .pth _ _, .pth _ _, _, _, h => exact h.elim
      | .pth _ _, .sc .un, _, _, h => exact h.elim
      | .pth _ _, .sc .non, _, _, h => exact h.elim
      | .pth _ _, .sc (.bl _), _, _, h => exact h.elim
      | .pth _ _, .sc (.str _), _, _, h => exact h.elim
      | .pth _ _, .sc (.scr _), _, _, h => exact h.elim
      | .pth _ _, .sc (.nd _ _), _, _, h => exact h.elim
      | .sc _, _, _, _, h => exact h.elim
/-! ### copies -/
/-- list(x) of what stands at a place: its items are shared -/
def mListQ (qa : List D → Option PL) : List D → R D := fun st => match qa st with
  | some (.pth r p) => match getS st r p with
    | some (.nd (.lst f) xs) => .ok (.nd (.lst .own) (D.setL .fz xs)) (setS st r p (.nd (.lst f) (D.setL .fz xs)))
    | some (.nd .tup xs) => .ok (.nd (.lst .own) (D.setL .fz xs)) (setS st r p (.nd .tup (D.setL .fz xs)))
    | _ => .stuck
  | _ => .stuck
theorem ve_listQ (O : COk X C) (ha : VQ X C a qa) (hg : Gl X "list") (hm : X.mg "list" = none) (he : starEach [a] X.env = (false, eval a X.env) :: starEach [] X.env := by rfl) : VE X C true (.Call (.Name "list" p) [a] [] pos) (mListQ qa) := by
  refine (pe_callTy call_list_of hg hm PyProof.Rows.boot_list (pa_cons ha.pe pa_nil he) (by decide) (by decide) he).impV ?_
  rintro σ H Q ⟨st, ds, vs, s, hl, h⟩
  refine ⟨st, ds, vs, s, ?_⟩
  unfold mListQ at h
  cases q : qa st with
  | none => rw [q] at h; exact h.elim
  | some pl =>
    rw [q] at h
    cases pl with
    | sc d => exact h.elim
    | pth r pp =>
      simp only at h
      intro u hp
      obtain ⟨k, xs, hk⟩ := ha.ok _ _ q
      rw [hk] at h
      obtain ⟨a', ws, Z, os, rfl, hn, rl⟩ := s.node hk hp
      have s2 := s.shareK hk hp hn
      cases k with
      | lst f => exact ⟨a', ws, rfl, .inl (SqL.of hn), fun l hl' => h _ _ (fun _ => same_new hl') (s2.alloc hl hl' (show (upd H l (.lst ws)) l = some (.lst ws) from upd_same) (.inr rfl))⟩
      | tup => exact ⟨a', ws, rfl, .inr (SqT.of hn), fun l hl' => h _ _ (fun _ => same_new hl') (s2.alloc hl hl' (show (upd H l (.lst ws)) l = some (.lst ws) from upd_same) (.inr rfl))⟩
      | _ => exact h.elim
/-- list(x) of a value -/
def mListE (ma : List D → R D) : List D → R D := fun st => (ma st).bind fun d st1 => match d with
  | .nd (.lst _) xs => .ok (.nd (.lst .own) xs) st1
  | .nd .tup xs => .ok (.nd (.lst .own) xs) st1
  | _ => .stuck
theorem ve_listE (O : COk X C) (ha : VE X C sa a ma) (hg : Gl X "list") (hm : X.mg "list" = none) (he : starEach [a] X.env = (false, eval a X.env) :: starEach [] X.env := by rfl) : VE X C sa (.Call (.Name "list" p) [a] [] pos) (mListE ma) := by
  refine (pe_callTy call_list_of hg hm PyProof.Rows.boot_list (pa_cons ha pa_nil he) (by decide) (by decide) he).impV ?_
  rintro σ H Q ⟨st, ds, vs, s, hl, h⟩
  refine seq1 (sm := sa) s hl h fun x st1 v H1 sm s1 h1 => ?_
  cases x with
  | nd k xs =>
    obtain ⟨a', ws, rfl, hn, hlen, s2⟩ := s1.open
    cases k with
    | lst f => exact ⟨a', ws, rfl, .inl (SqL.of hn), fun l hl' => h1 _ _ (fun z => (sm z).trans (same_new hl')) (s2.alloc hl hl' (show (upd H1 l (.lst ws)) l = some (.lst ws) from upd_same) (.inr rfl))⟩
    | tup => exact ⟨a', ws, rfl, .inr (SqT.of hn), fun l hl' => h1 _ _ (fun z => (sm z).trans (same_new hl')) (s2.alloc hl hl' (show (upd H1 l (.lst ws)) l = some (.lst ws) from upd_same) (.inr rfl))⟩
    | _ => exact h1.elim
  | _ => exact h1.elim
theorem SX.pushL {xs : List D} {ws : List V} (s : SX C st ds σ vs H) (h : ∀ G, RpL G xs ws (fun _ => 0)) : SX C st (ds ++ xs) σ (vs ++ ws) H := by
  obtain ⟨Z, os, s⟩ := s
  obtain ⟨o1, o2, r1, r2, e⟩ := s.cut
  exact (s.mk2 r1 (r2.app (os := o2) (h _) fun b => by simp) e (fun b => Nat.le_refl _) s.sl).sx
/-- list(range(i, j)) -/
instance (a b : Int) : Decidable (RgOk a b) := by unfold RgOk; infer_instance
def mListR (ma mb : List D → R D) : List D → R D := fun st => (ma st).bind fun x st1 => (mb st1).bind fun y st2 => match x, y with
  | .int i, .int j => if RgOk i j then .ok (.nd (.lst .own) (rangeD i j)) st2 else .stuck
  | _, _ => .stuck
/-! ### slices -/
def cutL {α : Type} (xs : List α) (lo hi : Option Int) : List α := (xs.drop (HT.sIx xs.length 0 lo)).take (HT.sIx xs.length xs.length hi - HT.sIx xs.length 0 lo)
/-- a bound -/
def trO (C : Cc) (q : List D → Option (Option Int)) : TO := fun σ H Q => ∃ st ds vs, SX C st ds σ vs H ∧ match q st with
  | some i => Q i H
  | none => False
def VO (X : Cx) (C : Cc) (e : Option Expr) (q : List D → Option (Option Int)) : Prop := PO X e (trO C q)
def oNo : List D → Option (Option Int) := fun _ => some none
def oQ (qa : List D → Option PL) : List D → Option (Option Int) := fun st => match qa st with
  | some (.sc (.int i)) => some (some i)
  | _ => none
theorem _root_.L2.PO.impV {X : Cx} {e : Option Expr} {t t' : TO} (h : PO X e t) (k : ∀ σ H Q, t' σ H Q → t σ H Q) : PO X e t' := ⟨fun pins s σ H Q I h' => h.run pins s σ H Q I (k _ _ _ h')⟩
theorem vo_no : VO X C none oNo := po_none.impV (by rintro σ H Q ⟨st, ds, vs, s, h⟩; exact h)
theorem vo_q (ha : VQ X C a qa) : VO X C (some a) (oQ qa) := by
  refine (po_some ha.pe).impV ?_
  rintro σ H Q ⟨st, ds, vs, s, h⟩
  refine ⟨st, ds, vs, s, ?_⟩
  unfold oQ at h
  cases q : qa st with
  | none => rw [q] at h; exact h.elim
  | some pl =>
    rw [q] at h
    match pl, h with
    | .sc (.int i), h => intro v hv; simp [vOf] at hv; subst hv; exact ⟨i, rfl, h⟩
/-- x[lo:hi] of what stands at a place, of a text, of the script -/
def mSlQ (qa : List D → Option PL) (ql qh : List D → Option (Option Int)) : List D → R D := fun st => match ql st, qh st with
  | some lo, some hi => match qa st with
    | some (.pth r p) => match getS st r p with
      | some (.nd (.lst f) xs) => .ok (.nd (.lst .own) (cutL (D.setL .fz xs) lo hi)) (setS st r p (.nd (.lst f) (D.setL .fz xs)))
      | some (.nd .tup xs) => if HT.sIx xs.length 0 lo = 0 ∧ HT.sIx xs.length xs.length hi = xs.length then .stuck else .ok (.nd .tup (cutL (D.setL .fz xs) lo hi)) (setS st r p (.nd .tup (D.setL .fz xs)))
      | _ => .stuck
    | some (.sc (.str z)) => if z.length ≤ sizeLine then .ok (.str (cutS z lo hi)) st else .stuck
    | _ => .stuck
  | _, _ => .stuck
theorem RpL.drop {G : Gd} : ∀ {xs : List D} {ws : List V} {o : Ct} (n : Nat), RpL G xs ws o → ∃ o', RpL G (xs.drop n) (ws.drop n) o' ∧ ∀ b, o' b ≤ o b
  | _, _, o, 0, r => ⟨o, by simpa using r, fun _ => Nat.le_refl _⟩
  | _, _, o, n + 1, .nil h => ⟨o, by simpa using .nil h, fun _ => Nat.le_refl _⟩
  | _, _, o, n + 1, .cons r t e => by
    obtain ⟨o', q, l⟩ := RpL.drop n t
    exact ⟨o', by simpa using q, fun b => by have := l b; rw [e]; omega⟩
theorem RpL.take {G : Gd} : ∀ {xs : List D} {ws : List V} {o : Ct} (n : Nat), RpL G xs ws o → ∃ o', RpL G (xs.take n) (ws.take n) o' ∧ ∀ b, o' b ≤ o b
  | _, _, o, 0, r => ⟨fun _ => 0, by simpa using .nil fun _ => rfl, fun _ => Nat.zero_le _⟩
  | _, _, o, n + 1, .nil h => ⟨o, by simpa using .nil h, fun _ => Nat.le_refl _⟩
  | _, _, o, n + 1, .cons (o1 := o1) r t e => by
    obtain ⟨o', q, l⟩ := RpL.take n t
    exact ⟨fun b => o1 b + o' b, by simpa using .cons r q fun _ => rfl, fun b => by have := l b; rw [e]; (try dsimp only); omega⟩
theorem RpL.cutL {G : Gd} {xs : List D} {ws : List V} {o : Ct} (lo hi : Option Int) (r : RpL G xs ws o) : ∃ o', RpL G (PV.cutL xs lo hi) (cutV ws lo hi) o' ∧ ∀ b, o' b ≤ o b := by
  have hl := r.len
  unfold PV.cutL cutV
  rw [hl]
  obtain ⟨o1, r1, l1⟩ := r.drop (HT.sIx ws.length 0 lo)
  obtain ⟨o2, r2, l2⟩ := r1.take (HT.sIx ws.length ws.length hi - HT.sIx ws.length 0 lo)
  exact ⟨o2, r2, fun b => Nat.le_trans (l2 b) (l1 b)⟩
/-- the temporaries thinned out -/
theorem SX.thin {xs xs' : List D} {ws ws' : List V} (s : SX C st (ds ++ xs) σ (vs ++ ws) H) (hl : ds.length = vs.length) (k : ∀ G o, RpL G xs ws o → ∃ o', RpL G xs' ws' o' ∧ ∀ b, o' b ≤ o b) : SX C st (ds ++ xs') σ (vs ++ ws') H := by
  obtain ⟨Z, os, s⟩ := s
  obtain ⟨o1, o2, r1, r2, e⟩ := s.cut
  obtain ⟨o3, o4, r3, r4, e'⟩ := RpL.cut hl r2
  obtain ⟨o5, r5, l5⟩ := k _ _ r4
  exact (s.mk2 (os' := fun b => o1 b + (o3 b + o5 b)) (o2 := fun b => o3 b + o5 b) r1 (r3.app r5 fun _ => rfl) (fun _ => rfl) (fun b => by rw [e, e']; have := l5 b; (try dsimp only); omega) s.sl).sx
theorem ve_slQ {p2 : Pos} {lo hi : Option Expr} {ql qh : List D → Option (Option Int)} (O : COk X C) (ha : VQ X C a qa) (hlo : VO X C lo ql) (hhi : VO X C hi qh) : VE X C true (.Subscript a (.Slice lo hi none p2) pos) (mSlQ qa ql qh) := by
  refine (pe_slice (sl_list.or (sl_tup.or sl_str)) ha.pe hlo hhi).impV ?_
  rintro σ H Q ⟨st, ds, vs, s, hl, h⟩
  refine ⟨st, ds, vs, s, ?_⟩
  unfold mSlQ at h
  cases e1 : ql st with
  | none => rw [e1] at h; exact h.elim
  | some l =>
    cases e2 : qh st with
    | none => rw [e1, e2] at h; exact h.elim
    | some u =>
      rw [e1, e2] at h
      simp only at h
      cases q : qa st with
      | none => rw [q] at h; exact h.elim
      | some pl =>
        rw [q] at h
        cases pl with
        | pth r pp =>
          simp only at h
          intro w hp
          refine ⟨st, ds, vs, s, ?_⟩
          rw [e1]
          refine ⟨st, ds, vs, s, ?_⟩
          rw [e2]
          obtain ⟨k, xs, hk⟩ := ha.ok _ _ q
          rw [hk] at h
          obtain ⟨a', ws, Z, os, rfl, hn, rl⟩ := s.node hk hp
          have s2 := (s.shareK hk hp hn).thin hl (xs' := cutL (D.setL .fz xs) l u) (ws' := cutV ws l u) fun G o r => r.cutL l u
          have hlx : (D.setL Fl.fz xs).length = xs.length := by rw [D.setL_map]; simp
          cases k with
          | lst f => exact .inl ⟨a', ws, rfl, SqL.of hn, fun q hq => h _ _ (fun _ => same_new hq) (s2.alloc hl hq (show (upd H q (.lst (cutV ws l u))) q = some (.lst (cutV ws l u)) from upd_same) (.inr rfl))⟩
          | tup =>
            simp only at h
            split at h
            · exact h.elim
            · rename_i hw
              exact .inr (.inl ⟨a', ws, rfl, SqT.of hn, by rw [← rl.len]; exact hw, fun q hq => h _ _ (fun _ => same_new hq) (s2.alloc hl hq (show (upd H q (.tup (cutV ws l u))) q = some (.tup (cutV ws l u)) from upd_same) (.inl rfl))⟩)
          | _ => exact h.elim
        | sc d =>
          match d, h with
          | .str z, h =>
            simp only at h
            split at h
            · rename_i hz
              intro v hv
              simp [vOf] at hv; subst hv
              refine ⟨st, ds, vs, s, ?_⟩
              rw [e1]
              refine ⟨st, ds, vs, s, ?_⟩
              rw [e2]
              exact .inr (.inr ⟨z, rfl, hz, h _ _ (fun _ => Same.refl H) (s.pushc rfl)⟩)
            · exact h.elim
/-! ### + -/
def mAddR (x y : D) (st : List D) : R D := match x, y with
  | .nd (.lst _) xs, .nd (.lst _) ys => if xs.length + ys.length ≤ sizeLine then .ok (.nd (.lst .own) (xs ++ ys)) st else .stuck
  | .nd .tup xs, .nd .tup ys => if xs.length + ys.length ≤ sizeLine ∧ xs ≠ [] ∧ ys ≠ [] then .ok (.nd .tup (xs ++ ys)) st else .stuck
  | x, y => match gAdd x y with
    | some d => .ok d st
    | none => .stuck
def mAdd (ma mb : List D → R D) : List D → R D := fun st => (ma st).bind fun x st1 => (mb st1).bind fun y st2 => mAddR x y st2
theorem ve_add (O : COk X C) (ha : VE X C sa a ma) (hb : VE X C sb b mb) : VE X C (sa && sb) (.BinOp a .Add b pos) (mAdd ma mb) := by
  refine (pe_op (OpR.or (OpR.or op_add op_add_str) (OpR.or op_cat op_catT)) ha hb).impV ?_
  rintro σ H Q ⟨st, ds, vs, s, hl, h⟩
  refine seq2 (sm := sa && sb) s hl h fun x y st2 v u H2 sm s2 h2 => ?_
  have sc : rE C (sa && sb) ds vs σ H Q (match gAdd x y with
      | some d => .ok d st2
      | none => .stuck) → (((rI0 fun i j => .int (i + j)) v u H2 Q ∨ ∃ i j, v = .str i ∧ u = .str j ∧ i.length + j.length ≤ sizeLine ∧ Q (.str (i ++ j)) H2)) := fun h3 => by
    cases e : gAdd x y with
    | none => rw [e] at h3; exact h3.elim
    | some d =>
      rw [e] at h3
      obtain ⟨⟨v', hv⟩, ⟨u', hu⟩, w, hw⟩ := scg_add _ _ _ e
      have e2 : u = u' := s2.scTop hu
      subst e2
      have e1 : v = v' := s2.pop.scTop hv
      subst e1
      exact add_r x y d v u w H2 Q hv hu e hw (h3 w H2 sm (s2.pop.pop.pushc hw))
  cases x with
  | nd k xs =>
    cases y with
    | nd k2 ys =>
      obtain ⟨b', zs, rfl, hn2, hl2, s3⟩ := s2.open
      have s4 := s2.pop
      obtain ⟨a', ws, rfl, hn1, hl1, _⟩ := s4.open
      -- the items of both as temporaries
      have s5 : SX C st2 (ds ++ (xs ++ ys)) σ (vs ++ (ws ++ zs)) H2 := by
        obtain ⟨Z, os, t⟩ := id s3
        obtain ⟨o1, o2, r1, r2, e⟩ := t.cut
        obtain ⟨o3, o4, r3, r4, e'⟩ := RpL.cut (by simp [hl]) r2
        obtain ⟨o5, o6, r5, r6, e6⟩ := RpL.cut hl r3
        obtain ⟨ox, rx, lx⟩ := r6.of1.kids (ws := ws) hn1
        exact (t.mk2 (os' := fun b => o1 b + (o5 b + (ox b + o4 b))) (o2 := fun b => o5 b + (ox b + o4 b)) r1 (r5.app (o2 := fun b => ox b + o4 b) (rx.app r4 fun _ => rfl) fun _ => rfl) (fun _ => rfl) (fun b => by rw [e, e', e6]; have := lx b; (try dsimp only); omega) t.sl).sx
      cases k with
      | lst f =>
        cases k2 with
        | lst g =>
          simp only [mAddR] at h2
          split at h2
          · rename_i hz
            exact .inr (.inl ⟨a', b', ws, zs, rfl, rfl, hn1, hn2, by rw [← hl1, ← hl2]; exact hz, fun q hq => h2 _ _ (fun z => (sm z).trans (same_new hq)) (s5.alloc hl hq (show (upd H2 q (.lst (ws ++ zs))) q = some (.lst (ws ++ zs)) from upd_same) (.inr rfl))⟩)
          · exact h2.elim
        | _ => simp [mAddR, gAdd] at h2; exact h2.elim
      | tup =>
        cases k2 with
        | tup =>
          simp only [mAddR] at h2
          split at h2
          · rename_i hz
            have hx : ws ≠ [] := by intro z; subst z; exact hz.2.1 (List.length_eq_zero_iff.mp (by simpa using hl1))
            have hy : zs ≠ [] := by intro z; subst z; exact hz.2.2 (List.length_eq_zero_iff.mp (by simpa using hl2))
            exact .inr (.inr ⟨a', b', ws, zs, rfl, rfl, SqT.of hn1, SqT.of hn2, hx, by rw [← hl1, ← hl2]; exact hz.1, fun z => absurd z hy, fun _ q hq => h2 _ _ (fun z => (sm z).trans (same_new hq)) (s5.alloc hl hq (show (upd H2 q (.tup (ws ++ zs))) q = some (.tup (ws ++ zs)) from upd_same) (.inl rfl))⟩)
          · exact h2.elim
        | _ => simp [mAddR, gAdd] at h2; exact h2.elim
      | dct f ks => cases k2 <;> (simp [mAddR, gAdd] at h2; exact h2.elim)
      | ins f c ns => cases k2 <;> (simp [mAddR, gAdd] at h2; exact h2.elim)
    | _ => cases k <;> (simp [mAddR, gAdd] at h2; exact h2.elim)
  | _ => cases y with
    | nd k ys => cases k <;> exact .inl (sc (by simpa [mAddR] using h2))
    | _ => exact .inl (sc (by simpa [mAddR] using h2))
/-! ### isinstance -/
def tyD : D → Option String
  | .non => some "NoneType"
  | .bl _ => some "bool"
  | .int _ => some "int"
  | .str _ => some "str"
  | .nd (.lst _) _ => some "list"
  | .nd .tup _ => some "tuple"
  | .nd (.dct _ _) _ => some "dict"
  | _ => none
def isiD (n : String) (d : D) : Option Bool := match tyD d with
  | some t => kitB t n
  | none => none
theorem tyD_of {G : Gd} {d : D} {v : V} {os : Ct} {t : String} (r : Rp G d v os) (h : tyD d = some t) : TyX G.K G.H v (.type t) := by
  cases r with
  | un _ => simp [tyD] at h
  | non _ => simp [tyD] at h; subst h; exact .base .non
  | bl _ => simp [tyD] at h; subst h; exact .base (.bl _)
  | int _ => simp [tyD] at h; subst h; exact .base (.int _)
  | str _ => simp [tyD] at h; subst h; exact .base (.str _)
  | scr _ _ => simp [tyD] at h
  | nd hk rl n =>
    rename_i k xs a vs os'
    cases k with
    | lst f => simp [tyD] at h; subst h; exact .base (.lst hk)
    | tup => simp [tyD] at h; subst h; exact .base (.tup hk)
    | dct f ks => simp [tyD] at h; subst h; exact .base (.dK hk.2)
    | ins f c ns => simp [tyD] at h
def qIsi (n : String) (qa : List D → Option PL) : List D → Option PL := fun st => match qa st with
  | some pl => match plD st pl with
    | some d => match isiD n d with
      | some b => some (.sc (.bl b))
      | none => none
    | none => none
  | none => none
theorem vq_isi (O : COk X C) (n : String) {x : Str} {px : Pos} (ha : VQ X C a qa) (hx : bootBuiltins x = some (.type n)) (hgx : Gl X x) (hmx : X.mg x = none) (hg : Gl X "isinstance") (hm : X.mg "isinstance" = none)
    (he : starEach [a, .Name x px] X.env = (false, eval a X.env) :: starEach [.Name x px] X.env := by rfl) (he2 : starEach [.Name x px] X.env = (false, eval (.Name x px) X.env) :: starEach [] X.env := by rfl) (hpl : (backTo pos (starEach [.Name x px] X.env)).any (·.1) = false := by rfl)
    (hn : x ≠ "__name__" := by decide) (hd : (x == ("__debug__" : Str)) = false := by decide) : VQ X C (.Call (.Name "isinstance" p) [a, .Name x px] [] pos) (qIsi n qa) := by
  refine ⟨(pe_callB call_isi hg hm (by decide +kernel) (pa_cons ha.pe (pa_cons (pe_bltn (v := .ty n) hgx hmx hx rfl hn hd) pa_nil he2) he) (by decide) (by decide) he hpl).impV ?_, fun st pl h => ?_⟩
  · rintro σ H Q ⟨st, ds, vs, s, h⟩
    refine ⟨st, ds, vs, s, ?_⟩
    unfold qIsi at h
    cases q : qa st with
    | none => rw [q] at h; exact h.elim
    | some pl =>
      rw [q] at h
      simp only at h
      cases w : plD st pl with
      | none => rw [w] at h; exact h.elim
      | some d =>
        rw [w] at h
        simp only at h
        unfold isiD at h
        cases t : tyD d with
        | none => rw [t] at h; exact h.elim
        | some tn =>
          rw [t] at h
          simp only at h
          cases kb : kitB tn n with
          | none => rw [kb] at h; exact h.elim
          | some b =>
            rw [kb] at h
            refine SX.pl s w fun v Z os rv => ?_
            have ty := tyD_of rv t
            rw [show (C.G Z H).K = X.K from O.k] at ty
            exact ⟨v, .ty n, .type tn, .type n, b, rfl, .ty n, ty, kit_ty kb, h _ rfl⟩
  · unfold qIsi at h
    split at h
    · split at h
      · split at h
        · simp at h; subst h; exact ⟨_, rfl⟩
        · cases h
      · cases h
    · cases h
end
end PV

namespace PV
open PySem L2

theorem for_zipVL {K : PySem.W.Frag} {a b : Addr} {n : Nat} {g : TG} {tb : TS} {D : Ends} {σ : L2.St} {H : Hp} (Pv : Nat → L2.St → Hp → Prop) (h0 : Pv 0 σ H) (hl : ∀ i σ H, i ≤ n → Pv i σ H → ∃ ws zs, ws.length = n ∧ zs.length = n ∧ H a = some (.lst ws) ∧ H b = some (.lst zs))
    (hs : ∀ i x y T ws zs σ H, H a = some (.lst ws) → H b = some (.lst zs) → ws[i]? = some x → zs[i]? = some y → i < n → Pv i σ H → H T = none → g (.ref T) σ (upd H T (.tup [x, y])) fun σ2 H2 => tb { D with nx := Pv (i + 1), ct := Pv (i + 1), bk := D.nx } σ2 H2) (hd : ∀ σ H, Pv n σ H → D.nx σ H) :
    ∃ W : Nat → Nat → L2.St → Hp → Prop, (∃ m, W 0 m σ H) ∧ ∀ i m σ H, W i m σ H →
      ((Itz K a b).stop i H ∧ D.nx σ H) ∨ ((Itz K a b).go i H ∧ ∃ N : L2.St → Hp → Prop, (∀ σ' H', N σ' H' → ∃ m', m' < m ∧ W (i + 1) m' σ' H') ∧ ∀ x H', (Itz K a b).yld i H x H' → g x σ H' fun σ2 H2 => tb { D with nx := N, ct := N, bk := D.nx } σ2 H2) := by
  refine ⟨fun i m σ H => m = n - i ∧ i ≤ n ∧ Pv i σ H, ⟨n, by simp, Nat.zero_le _, h0⟩, ?_⟩
  rintro i m σ H ⟨rfl, hi, p⟩
  obtain ⟨ws, zs, hw, hz, qa, qb⟩ := hl i σ H hi p
  by_cases hlt : i < n
  · refine .inr ⟨⟨ws, zs, ws[i], zs[i], SqL.of qa, SqL.of qb, by simp [hw, hlt], by simp [hz, hlt]⟩, Pv (i + 1), fun σ' H' p' => ⟨n - (i + 1), by omega, rfl, hlt, p'⟩, fun v H' y => ?_⟩
    obtain ⟨T, x', y', rfl, hT, rfl, f1, f2⟩ := y
    exact hs i x' y' T ws zs σ H qa qb (f1 ws (SqL.of qa)) (f2 zs (SqL.of qb)) hlt p hT
  · have e : i = n := by omega
    subst e
    exact .inl ⟨⟨ws, zs, SqL.of qa, SqL.of qb, .inl (by omega)⟩, hd σ H p⟩

theorem for_zipVT {K : PySem.W.Frag} {a b : Addr} {n : Nat} {g : TG} {tb : TS} {D : Ends} {σ : L2.St} {H : Hp} (Pv : Nat → L2.St → Hp → Prop) (h0 : Pv 0 σ H) (hl : ∀ i σ H, i ≤ n → Pv i σ H → ∃ ws zs, ws.length = n ∧ zs.length = n ∧ H a = some (.tup ws) ∧ H b = some (.tup zs))
    (hs : ∀ i x y T ws zs σ H, H a = some (.tup ws) → H b = some (.tup zs) → ws[i]? = some x → zs[i]? = some y → i < n → Pv i σ H → H T = none → g (.ref T) σ (upd H T (.tup [x, y])) fun σ2 H2 => tb { D with nx := Pv (i + 1), ct := Pv (i + 1), bk := D.nx } σ2 H2) (hd : ∀ σ H, Pv n σ H → D.nx σ H) :
    ∃ W : Nat → Nat → L2.St → Hp → Prop, (∃ m, W 0 m σ H) ∧ ∀ i m σ H, W i m σ H →
      ((RZ.ItzT K a b).stop i H ∧ D.nx σ H) ∨ ((RZ.ItzT K a b).go i H ∧ ∃ N : L2.St → Hp → Prop, (∀ σ' H', N σ' H' → ∃ m', m' < m ∧ W (i + 1) m' σ' H') ∧ ∀ x H', (RZ.ItzT K a b).yld i H x H' → g x σ H' fun σ2 H2 => tb { D with nx := N, ct := N, bk := D.nx } σ2 H2) := by
  refine ⟨fun i m σ H => m = n - i ∧ i ≤ n ∧ Pv i σ H, ⟨n, by simp, Nat.zero_le _, h0⟩, ?_⟩
  rintro i m σ H ⟨rfl, hi, p⟩
  obtain ⟨ws, zs, hw, hz, qa, qb⟩ := hl i σ H hi p
  by_cases hlt : i < n
  · refine .inr ⟨⟨ws, zs, ws[i], zs[i], SqT.of qa, SqT.of qb, by simp [hw, hlt], by simp [hz, hlt]⟩, Pv (i + 1), fun σ' H' p' => ⟨n - (i + 1), by omega, rfl, hlt, p'⟩, fun v H' y => ?_⟩
    obtain ⟨T, x', y', rfl, hT, rfl, f1, f2⟩ := y
    exact hs i x' y' T ws zs σ H qa qb (f1 ws (SqT.of qa)) (f2 zs (SqT.of qb)) hlt p hT
  · have e : i = n := by omega
    subst e
    exact .inl ⟨⟨ws, zs, SqT.of qa, SqT.of qb, .inl (by omega)⟩, hd σ H p⟩

section
variable {X : Cx} {C : Cc} {st ds : List D} {σ : L2.St} {vs : List V} {H H' : Hp} {a b e o tg : Expr} {es : List Expr} {pos p apos : Pos} {qa qb qo : List D → Option PL} {ma mb : List D → R D} {sa sb : Bool} {ss : List Stmt} {m : MS} {Dn : Ends}
/-- an item of a frozen node, twice -/
theorem SX.item2 {kA kB : Kd} {xs ys : List D} {a b : Addr} {j : Nat} {x y : D} {w z : V} {ws zs : List V} (nA : D.noOwn (.nd kA xs) = true) (nB : D.noOwn (.nd kB ys) = true) (s : SX C st (ds ++ [.nd kA xs] ++ [.nd kB ys]) σ (vs ++ [.ref a] ++ [.ref b]) H) (hl : ds.length = vs.length)
    (hx : xs[j]? = some x) (hy : ys[j]? = some y) (hkA : HoK C.CA H a ws kA) (hkB : HoK C.CA H b zs kB) (hw : ws[j]? = some w) (hz : zs[j]? = some z) :
    SX C st (ds ++ [.nd kA xs] ++ [.nd kB ys] ++ [x, y]) σ (vs ++ [.ref a] ++ [.ref b] ++ [w, z]) H := by
  obtain ⟨Z, os, s⟩ := s
  obtain ⟨o1, o2, o3, r1, r2, r3, e⟩ := s.top
  obtain ⟨o4, o5, r4, r5, e'⟩ := RpL.cut hl r2
  have rA := r5.of1
  have zA := rA.zero nA
  have zB := r3.zero nB
  obtain ⟨ox, rx, lx⟩ := rA.kids hkA
  obtain ⟨oy, ry, ly⟩ := r3.kids hkB
  obtain ⟨w', od, orr, hw', rd, hod, _⟩ := rx.at hx
  rw [hw] at hw'; cases hw'
  obtain ⟨z', od2, orr2, hz', rd2, hod2, _⟩ := ry.at hy
  rw [hz] at hz'; cases hz'
  have z1 : ∀ b, od b = 0 := fun b => by have := hod b; have := lx b; have := zA b; omega
  have z2 : ∀ b, od2 b = 0 := fun b => by have := hod2 b; have := ly b; have := zB b; omega
  have two : RpL (C.G Z H) [x, y] [w, z] (fun _ => 0) := .cons rd (RpL.one rd2) fun b => by rw [z1, z2]
  exact (s.mk2 (os' := os) (o2 := fun b => o2 b + o3 b) r1 (((r4.app r5 e').app (RpL.one r3) fun _ => rfl).app (os := fun b => o2 b + o3 b) two fun b => by simp) (fun b => by rw [e]; omega) (fun _ => Nat.le_refl _) s.sl).sx
def zipD : List D → List D → List D
  | x :: xs, y :: ys => .nd .tup [x, y] :: zipD xs ys
  | _, _ => []
/-- for .. in zip(a, b): two lists or two tuples of one length -/
def mForZ (ma mb : List D → R D) (g : MG) (body : MS) : MS := fun st => (ma st).s fun x st1 => (mb st1).s fun y st2 => match x.frz, y.frz with
  | .nd (.lst _) xs, .nd (.lst _) ys => if xs.length = ys.length then forL g body (zipD xs ys) st2 else .stuck
  | .nd .tup xs, .nd .tup ys => if xs.length = ys.length then forL g body (zipD xs ys) st2 else .stuck
  | _, _ => .stuck
theorem zip_drop : ∀ {xs ys : List D} {j : Nat} (h1 : j < xs.length) (h2 : j < ys.length), (zipD xs ys).drop j = .nd .tup [xs[j], ys[j]] :: (zipD xs ys).drop (j + 1)
  | x :: xs, y :: ys, 0, _, _ => rfl
  | x :: xs, y :: ys, j + 1, h1, h2 => by simpa [zipD] using zip_drop (xs := xs) (ys := ys) (j := j) (by simpa using h1) (by simpa using h2)
theorem zip_end : ∀ {xs ys : List D}, xs.length = ys.length → (zipD xs ys).drop xs.length = []
  | [], [], _ => rfl
  | x :: xs, y :: ys, h => by simpa [zipD] using zip_end (xs := xs) (ys := ys) (by simpa using h)
  | [], y :: ys, h => by simp at h
  | x :: xs, [], h => by simp at h
theorem forZ_turn {g : MG} {kA kB : Kd} {xs ys : List D} {a b : Addr} {j : Nat} {σ' : L2.St} {H' : Hp} {st' : List D} {T : Addr} {x y : V} {ws zs : List V} {Dn' : Ends} (hl : ds.length = vs.length) (nA : D.noOwn (.nd kA xs) = true) (nB : D.noOwn (.nd kB ys) = true) (s' : SX C st' (ds ++ [.nd kA xs] ++ [.nd kB ys]) σ' (vs ++ [.ref a] ++ [.ref b]) H')
    (h' : rZ C (ds ++ [.nd kA xs] ++ [.nd kB ys]) (vs ++ [.ref a] ++ [.ref b]) Dn (forL g m ((zipD xs ys).drop j) st')) (hjx : j < xs.length) (hjy : j < ys.length) (hkA : HoK C.CA H' a ws kA) (hkB : HoK C.CA H' b zs kB) (hw : ws[j]? = some x) (hz : zs[j]? = some y) (hT : H' T = none)
    (hn : ∀ σ'' H'', (∃ st'', SX C st'' (ds ++ [.nd kA xs] ++ [.nd kB ys]) σ'' (vs ++ [.ref a] ++ [.ref b]) H'' ∧ rZ C (ds ++ [.nd kA xs] ++ [.nd kB ys]) (vs ++ [.ref a] ++ [.ref b]) Dn (forL g m ((zipD xs ys).drop (j + 1)) st'')) → Dn'.nx σ'' H'' ∧ Dn'.ct σ'' H'') (hb : ∀ σ H, Dn.nx σ H → Dn'.bk σ H) (hr : Dn'.rt = Dn.rt) :
    trG C g (.ref T) σ' (upd H' T (.tup [x, y])) fun σ2 H2 => trS C m Dn' σ2 H2 := by
  have s3 := s'.item2 nA nB hl (x := xs[j]) (y := ys[j]) (by simp [hjx]) (by simp [hjy]) hkA hkB hw hz
  have s4 := SX.alloc s3 (by simp [hl]) hT (show (upd H' T (.tup [x, y])) T = some (.tup [x, y]) from upd_same) (k := .tup) (.inl rfl)
  refine ⟨st', ds ++ [.nd kA xs] ++ [.nd kB ys], vs ++ [.ref a] ++ [.ref b], _, s4, by simp [hl], ?_⟩
  rw [zip_drop hjx hjy] at h'
  simp only [forL] at h'
  cases q : g (.nd .tup [xs[j], ys[j]]) st' with
  | none => rw [q] at h'; exact h'.elim
  | some st2 =>
    rw [q] at h'
    intro σ2 H2 s5
    refine ⟨st2, ds ++ [.nd kA xs] ++ [.nd kB ys], vs ++ [.ref a] ++ [.ref b], s5, by simp [hl], ?_⟩
    exact rZ.turn (f := forL g m ((zipD xs ys).drop (j + 1))) (fun st'' σ'' H'' s'' q => (hn _ _ ⟨st'', s'', q⟩).1) (fun st'' σ'' H'' s'' q => (hn _ _ ⟨st'', s'', q⟩).2) hb hr h'
theorem frz_no (d : D) : D.noOwn d.frz = true := D.noOwn_set (by decide) d
/-- the temporary ahead of the last one frozen -/
theorem SX.frzTop2 {x y : D} {v u : V} (s : SX C st (ds ++ [x] ++ [y]) σ (vs ++ [v] ++ [u]) H) (hl : ds.length = vs.length) : SX C st (ds ++ [x.frz] ++ [y.frz]) σ (vs ++ [v] ++ [u]) H := by
  have s1 := SX.rot (x := x) (v := v) (B := [y]) (vB := [u]) (by simpa [List.append_assoc] using s) hl
  have s2 : SX C st (ds ++ [y] ++ [x.frz]) σ (vs ++ [u] ++ [v]) H := SX.frzTop (by simpa [List.append_assoc] using s1)
  have s3 := SX.rot (x := y) (v := u) (B := [x.frz]) (vB := [v]) (by simpa [List.append_assoc] using s2) hl
  have s4 : SX C st (ds ++ [x.frz] ++ [y.frz]) σ (vs ++ [v] ++ [u]) H := SX.frzTop (by simpa [List.append_assoc] using s3)
  exact s4
theorem SX.nd2 {kA kB : Kd} {xs ys : List D} {v u : V} (s : SX C st (ds ++ [.nd kA xs] ++ [.nd kB ys]) σ (vs ++ [v] ++ [u]) H) (hl : ds.length = vs.length) : ∃ (a b : Addr) (ws zs : List V), v = .ref a ∧ u = .ref b ∧ HoK C.CA H a ws kA ∧ HoK C.CA H b zs kB ∧ xs.length = ws.length ∧ ys.length = zs.length := by
  obtain ⟨b, zs, Z, os, e1, h1, r1⟩ := s.ndTop
  obtain ⟨a, ws, Z', os', e2, h2, r2⟩ := s.pop.ndTop
  exact ⟨a, b, ws, zs, e2, e1, h2, h1, r2.len, r1.len⟩
theorem vs_forZ {g : MG} {elts : List Expr} {kk : Nat} {tpos fpos : Pos} (O : COk X C) (hp : PassesOwn (model X.prog X.w) X.A X.env X.xe) (hc : X.calm = true) (ha : VE X C sa a ma) (hb' : VE X C sb b mb) (hg : VG X C (.Tuple elts kk tpos) g) (hb : VB X C ss m) (hgz : Gl X "zip") (hmz : X.mg "zip" = none)
    (hs1 : starEach [a, b] X.env = (false, eval a X.env) :: starEach [b] X.env := by rfl) (hs2 : starEach [b] X.env = (false, eval b X.env) :: starEach [] X.env := by rfl) (hpl : (backTo pos (starEach [b] X.env)).any (·.1) = false := by rfl)
    (hs : ∀ x, foldedSetIterable (.Call (.Name "zip" p) [a, b] [] pos) X.env x = pure x := by intro _; rfl) : VS X C (.For (.Tuple elts kk tpos) (.Call (.Name "zip" p) [a, b] [] pos) ss [] fpos) (mForZ ma mb g m) := by
  refine (ps_for hp hc (RZ.pi_zipA hgz hmz (pa_cons ha (pa_cons hb' pa_nil hs2) hs1) hs1 hpl) hg hb hs).impV ?_
  rintro Dn σ H ⟨st, ds, vs, s, hl, h⟩
  refine seqS s hl h fun x st1 v H1 s1 h1 => ?_
  refine ⟨st1, ds ++ [x], vs ++ [v], s1, by simp [hl], ?_⟩
  cases q : mb st1 with
  | stuck => rw [q] at h1; exact h1.elim
  | ex y st' => rw [q] at h1; exact (h1 σ).up hl rfl
  | ok y st2 =>
    rw [q] at h1
    intro u H2 _ s2
    simp only [R.s_ok] at h1
    have s3 := s2.frzTop2 hl
    have nA := frz_no x
    have nB := frz_no y
    generalize x.frz = fx at h1 s3 nA
    generalize y.frz = fy at h1 s3 nB
    match fx, fy, h1 with
    | .nd (.lst f) xs, .nd (.lst f2) ys, h1 =>
      simp only at h1
      split at h1
      · rename_i hlen
        obtain ⟨a', b', ws, zs, rfl, rfl, hA, hB, l1, l2⟩ := s3.nd2 hl
        refine ⟨a', b', ws, zs, rfl, .inl ⟨SqL.of hA, SqL.of hB, for_zipVL (K := X.K) (a := a') (b := b') (n := xs.length) (fun j σ' H' => ∃ st', SX C st' (ds ++ [.nd (.lst f) xs] ++ [.nd (.lst f2) ys]) σ' (vs ++ [.ref a'] ++ [.ref b']) H' ∧ rZ C (ds ++ [.nd (.lst f) xs] ++ [.nd (.lst f2) ys]) (vs ++ [.ref a'] ++ [.ref b']) Dn (forL g m ((zipD xs ys).drop j) st')) ⟨st2, s3, rZ.up (by simp [hl]) rfl (rZ.up hl rfl h1)⟩ (fun j σ' H' _ ⟨_, s', _⟩ => ?_) ?_ ?_⟩⟩
        · obtain ⟨a2, b2, ws', zs', e1, e2, h3, h4, l3, l4⟩ := s'.nd2 hl
          cases e1; cases e2
          exact ⟨ws', zs', l3.symm, by rw [← l4, hlen], h3, h4⟩
        · rintro j x' y' T ws' zs' σ' H' hq hq2 hw hz hj ⟨st', s', h'⟩ hT
          exact forZ_turn hl nA nB s' h' hj (by omega) hq hq2 hw hz hT (fun σ'' H'' z => ⟨z, z⟩) (fun _ _ q => q) rfl
        · rintro σ' H' ⟨st', s', h'⟩
          rw [zip_end hlen] at h'
          exact h' σ' H' s'
      · exact h1.elim
    | .nd .tup xs, .nd .tup ys, h1 =>
      simp only at h1
      split at h1
      · rename_i hlen
        obtain ⟨a', b', ws, zs, rfl, rfl, hA, hB, l1, l2⟩ := s3.nd2 hl
        refine ⟨a', b', ws, zs, rfl, .inr ⟨SqT.of hA, SqT.of hB, for_zipVT (K := X.K) (a := a') (b := b') (n := xs.length) (fun j σ' H' => ∃ st', SX C st' (ds ++ [.nd .tup xs] ++ [.nd .tup ys]) σ' (vs ++ [.ref a'] ++ [.ref b']) H' ∧ rZ C (ds ++ [.nd .tup xs] ++ [.nd .tup ys]) (vs ++ [.ref a'] ++ [.ref b']) Dn (forL g m ((zipD xs ys).drop j) st')) ⟨st2, s3, rZ.up (by simp [hl]) rfl (rZ.up hl rfl h1)⟩ (fun j σ' H' _ ⟨_, s', _⟩ => ?_) ?_ ?_⟩⟩
        · obtain ⟨a2, b2, ws', zs', e1, e2, h3, h4, l3, l4⟩ := s'.nd2 hl
          cases e1; cases e2
          exact ⟨ws', zs', l3.symm, by rw [← l4, hlen], h3, h4⟩
        · rintro j x' y' T ws' zs' σ' H' hq hq2 hw hz hj ⟨st', s', h'⟩ hT
          exact forZ_turn hl nA nB s' h' hj (by omega) hq hq2 hw hz hT (fun σ'' H'' z => ⟨z, z⟩) (fun _ _ q => q) rfl
        · rintro σ' H' ⟨st', s', h'⟩
          rw [zip_end hlen] at h'
          exact h' σ' H' s'
      · exact h1.elim
end
end PV

namespace PV
open PySem L2
section
variable {X : Cx} {C : Cc} {st ds : List D} {σ : L2.St} {vs : List V} {H H' : Hp} {a b e o tg : Expr} {es : List Expr} {pos p apos : Pos} {qa qb qo : List D → Option PL} {ma mb : List D → R D} {sa sb : Bool} {ss : List Stmt} {m : MS} {Dn : Ends}
/-! ### the script -/
def mScr (i : Nat) : List D → R D := fun st => match st[i]? with
  | some (.scr ns) => .ok (.scr ns) st
  | _ => .stuck
theorem SX.scrAt {i : Nat} {ns : List Int} (s : SX C st ds σ vs H) (h : st[i]? = some (.scr ns)) : ∃ a, σ[i]? = some (some (.ref a)) ∧ SqL C.K H a (ns.map V.int) ∧ SX C st (ds ++ [.scr ns]) σ (vs ++ [.ref a]) H := by
  obtain ⟨Z, os, s⟩ := s
  obtain ⟨o1, o2, r1, r2, e⟩ := s.cut
  obtain ⟨w, od, orr, hw, rd, hod, k⟩ := r1.at h
  obtain ⟨v, hv⟩ := s.sl i _ h (by simp)
  have ew : w = v := by simp [hv] at hw; exact hw.symm
  subst ew
  have z : ∀ b, od b = 0 := rd.zero rfl
  have s' := (s.mk2 (os' := os) (o2 := fun b => o2 b + od b) r1 (r2.app (RpL.one rd) fun _ => rfl) (fun b => by rw [e, z]; omega) (fun _ => Nat.le_refl _) s.sl).sx
  cases rd with
  | scr q hz =>
    rename_i a
    refine ⟨a, hv, ?_, s'⟩
    rcases q with ⟨q, _⟩ | q
    · exact .inl q
    · exact q H
theorem ve_scr (i : Nat) {x : Str} {pos : Pos} (hN : X.N[i]? = some x := by rfl) (hv : Vis X.env.scope x := by first | exact Or.inl rfl | exact Or.inr (Or.inl rfl) | exact Or.inr (Or.inr rfl)) (hd : (x == ("__debug__" : Str)) = false := by decide)
    (hcd : (x == ("__classdict__" : Str)) = false := by decide) : VE X C true (.Name x pos) (mScr i) := by
  refine (pv i hN hv hd hcd).impV ?_
  rintro σ H Q ⟨st, ds, vs, s, hl, h⟩
  unfold mScr at h
  cases q : st[i]? with
  | none => rw [q] at h; exact h.elim
  | some d =>
    rw [q] at h
    match d, q, h with
    | .scr ns, q, h =>
      obtain ⟨a, hv, _, s'⟩ := s.scrAt q
      exact ⟨.ref a, hv, h _ H (fun _ => Same.refl H) s'⟩
theorem SX.scrTop {ns : List Int} {v : V} (s : SX C st (ds ++ [.scr ns]) σ (vs ++ [v]) H) : ∃ a : Addr, v = .ref a ∧ SqL C.K H a (ns.map V.int) := by
  obtain ⟨Z, os, r⟩ := s.topR
  cases r with
  | scr q hz =>
    refine ⟨_, rfl, ?_⟩
    rcases q with ⟨q, _⟩ | q
    · exact .inl q
    · exact q H
/-- script[lo:hi] -/
def mSlScr (ma : List D → R D) (ql qh : List D → Option (Option Int)) : List D → R D := fun st => (ma st).bind fun d st1 => match d, ql st1, qh st1 with
  | .scr ns, some lo, some hi => .ok (.nd (.lst .own) (cutL (ns.map D.int) lo hi)) st1
  | _, _, _ => .stuck
theorem ints_rp {G : Gd} : ∀ ns : List Int, RpL G (ns.map D.int) (ns.map V.int) (fun _ => 0)
  | [] => .nil fun _ => rfl
  | n :: ns => .cons (o1 := fun _ => 0) (.int fun _ => rfl) (ints_rp ns) fun b => by simp
theorem ve_slScr {p2 : Pos} {lo hi : Option Expr} {ql qh : List D → Option (Option Int)} (O : COk X C) (ha : VE X C sa a ma) (hlo : VO X C lo ql) (hhi : VO X C hi qh) : VE X C sa (.Subscript a (.Slice lo hi none p2) pos) (mSlScr ma ql qh) := by
  refine (pe_slice sl_list ha hlo hhi).impV ?_
  rintro σ H Q ⟨st, ds, vs, s, hl, h⟩
  refine seq1 (sm := sa) s hl h fun x st1 v H1 sm s1 h1 => ?_
  match x, s1, h1 with
  | .scr ns, s1, h1 =>
    cases e1 : ql st1 with
    | none => rw [e1] at h1; exact h1.elim
    | some l =>
      cases e2 : qh st1 with
      | none => rw [e1, e2] at h1; exact h1.elim
      | some u =>
        rw [e1, e2] at h1
        refine ⟨st1, _, _, s1, ?_⟩
        rw [e1]
        refine ⟨st1, _, _, s1, ?_⟩
        rw [e2]
        obtain ⟨l0, rfl, sq⟩ := s1.scrTop
        rw [O.k] at sq
        refine ⟨l0, _, rfl, sq, fun q hq => h1 _ _ (fun z => (sm z).trans (same_new hq)) ?_⟩
        exact ((s1.pop.pushL fun G => ints_rp ns).thin hl (xs' := cutL (ns.map D.int) l u) (ws' := cutV (ns.map V.int) l u) fun G o r => r.cutL l u).alloc hl hq (show (upd H1 q (.lst (cutV (ns.map V.int) l u))) q = some (.lst (cutV (ns.map V.int) l u)) from upd_same) (.inr rfl)
  | .un, _, h1 => exact h1.elim
  | .non, _, h1 => exact h1.elim
  | .bl _, _, h1 => exact h1.elim
  | .int _, _, h1 => exact h1.elim
  | .str _, _, h1 => exact h1.elim
  | .nd _ _, _, h1 => exact h1.elim
/-! ### items of values -/
/-- x[i] of a value -/
def mIxE (ma mb : List D → R D) : List D → R D := fun st => (ma st).bind fun x st1 => (mb st1).bind fun y st2 => match x, y with
  | .nd (.lst _) xs, .int i => match atI xs i with
    | some d => .ok d st2
    | none => .stuck
  | .nd .tup xs, .int i => match atI xs i with
    | some d => .ok d st2
    | none => .stuck
  | .str z, .int i => if z.length ≤ sizeLine then match atI z.cps.toList i with
      | some c => .ok (.str ⟨#[c]⟩) st2
      | none => .stuck
    else .stuck
  | _, _ => .stuck
theorem atI_ix {α : Type} {xs : List α} {i : Int} {d : α} (h : atI xs i = some d) : ∃ j, ixN xs.length i = some j ∧ xs[j]? = some d := by
  unfold atI at h
  cases q : ixN xs.length i with
  | none => rw [q] at h; cases h
  | some j => rw [q] at h; exact ⟨j, rfl, h⟩
theorem ve_ixE (O : COk X C) (ha : VE X C sa a ma) (hb : VE X C sb b mb) (hs : PlainIx b := by exact fun _ _ => rfl) : VE X C (sa && sb) (.Subscript a b pos) (mIxE ma mb) := by
  refine (pe_ix ix_seq ha hb hs).impV ?_
  rintro σ H Q ⟨st, ds, vs, s, hl, h⟩
  refine seq2 (sm := sa && sb) s hl h fun x y st2 v u H2 sm s2 h2 => ?_
  have key : ∀ (k : Kd) (xs : List D) (i : Int) (d : D), x = .nd k xs → y = .int i → atI xs i = some d → (rE C (sa && sb) ds vs σ H Q (.ok d st2)) → ∃ (a' : Addr) (ws : List V) (w : V), v = .ref a' ∧ u = .int i ∧ HoK C.CA H2 a' ws k ∧ atI ws i = some w ∧ Q w H2 := by
    rintro k xs i d rfl rfl he hr
    have eu : u = .int i := s2.scTop rfl
    subst eu
    obtain ⟨a', ws, rfl, hk, hlen, s3⟩ := s2.pop.open
    obtain ⟨j, h1, h3⟩ := atI_ix he
    have hj : j < xs.length := (List.getElem?_eq_some_iff.mp h3).1
    obtain ⟨w, hw⟩ : ∃ w, ws[j]? = some w := ⟨ws[j]'(by omega), by simp⟩
    refine ⟨a', ws, w, rfl, rfl, hk, atI_of (by rw [← hlen]; exact h1) hw, hr w H2 sm ?_⟩
    refine s3.thin hl fun G o r => ?_
    obtain ⟨w', od, orr, hw', rd, hod, _⟩ := r.at h3
    rw [hw] at hw'; cases hw'
    exact ⟨od, RpL.one rd, fun b => by rw [hod]; omega⟩
  match x, y, s2, h2, key with
  | .nd (.lst f) xs, .int i, s2, h2, key =>
    simp only at h2
    cases he : atI xs i with
    | none => rw [he] at h2; exact h2.elim
    | some d =>
      rw [he] at h2
      obtain ⟨a', ws, w, rfl, rfl, hk, hw, q⟩ := key _ _ _ _ rfl rfl he h2
      exact .inl ⟨a', ws, i, w, rfl, rfl, SqL.of hk, hw, q⟩
  | .nd .tup xs, .int i, s2, h2, key =>
    simp only at h2
    cases he : atI xs i with
    | none => rw [he] at h2; exact h2.elim
    | some d =>
      rw [he] at h2
      obtain ⟨a', ws, w, rfl, rfl, hk, hw, q⟩ := key _ _ _ _ rfl rfl he h2
      exact .inr (.inl ⟨a', ws, i, w, rfl, rfl, SqT.of hk, hw, q⟩)
  | .str z, .int i, s2, h2, key =>
    simp only at h2
    split at h2
    · rename_i hz
      cases he : atI z.cps.toList i with
      | none => rw [he] at h2; exact h2.elim
      | some c =>
        rw [he] at h2
        have eu : u = .int i := s2.scTop rfl
        subst eu
        have ev : v = .str z := s2.pop.scTop rfl
        subst ev
        exact .inr (.inr ⟨z, i, c, rfl, rfl, hz, he, h2 _ H2 sm (s2.pop.pop.pushc rfl)⟩)
    · exact h2.elim
  | .nd (.dct _ _) _, .int _, _, h2, _ => exact h2.elim
  | .nd (.ins _ _ _) _, .int _, _, h2, _ => exact h2.elim
  | .un, _, _, h2, _ => exact h2.elim
  | .non, _, _, h2, _ => exact h2.elim
  | .bl _, _, _, h2, _ => exact h2.elim
  | .int _, _, _, h2, _ => exact h2.elim
  | .scr _, _, _, h2, _ => exact h2.elim
/-! ### the law's end -/
theorem fn_stuck {P : Program} {w : World} {K : PySem.W.Frag} {mg : Str → Option Value} {base : Heap} {CX : CXT} {k : Nat} {f : Addr} {fd : FuncData} {ps : List Str} {CA : Str → Option Addr} : FnOk P w K mg base CX k f fd ps (spF K CA ps.length fun _ => .stuck) :=
  ⟨fun vs H Q E h => h.1, fun A outer s H args us vs Q E _ _ _ _ h => by obtain ⟨_, _, _, _, _, h⟩ := h; exact h.elim⟩
end
/-- law's promise -/
def spLaw (K : PySem.W.Frag) : Sp := fun vs H Q _ => ∃ (a : Addr) (ns : List Int), vs = [.ref a] ∧ SqL K H a (ns.map V.int) ∧ ns.length ≤ 63 ∧ ∀ H', Q (.bl true) H'
theorem spF_law {K : PySem.W.Frag} {CA : Str → Option Addr} {F : Fn} (h : ∀ ns : List Int, ns.length ≤ 63 → F [.scr ns] = .ok (.bl true) [.un]) (vs : List V) (H : Hp) (Q : VK) (E : XK) (hs : spLaw K vs H Q E) : spF K CA 1 F vs H Q E := by
  obtain ⟨a, ns, rfl, hS, hl, k⟩ := hs
  refine ⟨rfl, [.scr ns], fun _ => 0, fun _ => False, ⟨RpL.one (.scr ?_ fun _ => rfl), fun _ => Nat.zero_le _, fun a z => absurd z (Nat.lt_irrefl 0), fun a z => z.elim⟩, ?_⟩
  · rcases hS with q | q
    · exact .inl ⟨q, Nat.lt_irrefl 0⟩
    · exact .inr fun _ => .inr q
  · rw [h ns hl]
    intro v H' Z' os' P
    cases P.rp with
    | cons r _ _ => cases r; exact k H'
theorem law_walk {l : PySem.W.OpenLaw} {k : Nat} {q : Program} {loose : List Str} {XP : (Str → Option Value) → Heap → Prop} {YP : World → Heap → Prop} {d : DefRec} {K : Params → PySem.W.Frag} (hn : l.most = some 63) (hdf : d.params.defaults = []) (hr : Room k callerA)
    (hY : ∀ (w : World) (h : Heap), YP w h → (K w.params).In h)
    (F : ∀ (w : World) (mg : Str → Option Value) (fa : Addr) (h : Heap), (K w.params).In h → h.Ns mainGlobals mg → mg d.name = some (.ref fa) →
      ∃ fd : FuncData, (∀ (s : Shared) (u : Value), BindsTo s fd ⟨[u], []⟩ [("_law_script", u)]) ∧ ∀ base : Heap, (K w.params).In base → base.Ns mainGlobals mg → FnOk l.prog w (K w.params) mg base (L2.CX l.prog w) k fa fd ["_law_script"] (spLaw (K w.params))) :
    PySem.W.WalkO q loose XP YP l.row.toRowW d [] (fun f vs => PySem.call f vs) :=
  L2.walk_of (n := 63) (k := k) (x := "_law_script") (CX := fun w => L2.CX l.prog w) (sp := fun w => spLaw (K w.params)) hn (by decide) hdf hr hY F (fun _ _ a ns hl _ hS => ⟨a, ns, rfl, hS, hl, fun _ => rfl⟩) fun _ _ _ _ _ z => by
    obtain ⟨_, _, _, _, _, _, _, _, _, _, _, _, z⟩ := z
    exact z
end PV

namespace PV
open PySem L2
/-! ### running by rewriting: only heads are rewritten -/
@[simp] theorem size_line : sizeLine = 16777216 := rfl
def obn {α β : Type} (o : Option α) (f : α → Option β) : Option β := match o with
  | some a => f a
  | none => none
@[simp] theorem obn_some {α β : Type} (a : α) (f : α → Option β) : obn (some a) f = f a := rfl
@[simp] theorem obn_none {α β : Type} (f : α → Option β) : obn none f = none := rfl
/-- an option's value, or stuck -/
def R.of {α β : Type} (o : Option α) (f : α → R β) : R β := match o with
  | some a => f a
  | none => .stuck
@[simp] theorem R.of_some {α β : Type} (a : α) (f : α → R β) : R.of (some a) f = f a := rfl
@[simp] theorem R.of_none {α β : Type} (f : α → R β) : R.of none f = .stuck := rfl
def RS.sq (r : RS) (n : MS) : RS := match r with
  | .nx st => n st
  | r => r
@[simp] theorem sq_nx (st : List D) (n : MS) : (RS.nx st).sq n = n st := rfl
@[simp] theorem sq_rt (d : D) (st : List D) (n : MS) : (RS.rt d st).sq n = .rt d st := rfl
@[simp] theorem sq_bk (st : List D) (n : MS) : (RS.bk st).sq n = .bk st := rfl
@[simp] theorem sq_ct (st : List D) (n : MS) : (RS.ct st).sq n = .ct st := rfl
@[simp] theorem sq_ex (e : Ex) (st : List D) (n : MS) : (RS.ex e st).sq n = .ex e st := rfl
@[simp] theorem sq_stuck (n : MS) : RS.stuck.sq n = .stuck := rfl
/-- a guard -/
def chk {α : Type} (c : Prop) [Decidable c] (r : R α) : R α := if c then r else .stuck
theorem chk_of {α : Type} {c : Prop} [Decidable c] {r : R α} (h : c) : chk c r = r := if_pos h
def chkO {α : Type} (c : Prop) [Decidable c] (r : Option α) : Option α := if c then r else none
theorem chkO_of {α : Type} {c : Prop} [Decidable c] {r : Option α} (h : c) : chkO c r = r := if_pos h
/-- a branch -/
def RS.br (b : Bool) (m n : MS) (st : List D) : RS := if b = true then m st else n st
@[simp] theorem br_true (m n : MS) (st : List D) : RS.br true m n st = m st := rfl
@[simp] theorem br_false (m n : MS) (st : List D) : RS.br false m n st = n st := rfl
def R.br {α : Type} (b : Bool) (m n : List D → R α) (st : List D) : R α := if b = true then m st else n st
@[simp] theorem rbr_true {α : Type} (m n : List D → R α) (st : List D) : R.br true m n st = m st := rfl
@[simp] theorem rbr_false {α : Type} (m n : List D → R α) (st : List D) : R.br false m n st = n st := rfl
@[simp] theorem mSeq_eq (m n : MS) (st : List D) : mSeq m n st = (m st).sq n := by
  unfold mSeq RS.sq
  cases m st <;> rfl
@[simp] theorem mSkip_eq (st : List D) : mSkip st = .nx st := rfl
@[simp] theorem mBreak_eq (st : List D) : mBreak st = .bk st := rfl
@[simp] theorem mCont_eq (st : List D) : mCont st = .ct st := rfl
@[simp] theorem mRetN_eq (st : List D) : mRetN st = .rt .non st := rfl
@[simp] theorem mExpr_eq (ma : List D → R D) (st : List D) : mExpr ma st = (ma st).s fun _ st' => .nx st' := rfl
@[simp] theorem mRet_eq (ma : List D → R D) (st : List D) : mRet ma st = (ma st).s fun d st' => .rt d st' := rfl
@[simp] theorem mIf_eq (t : List D → R Bool) (m n : MS) (st : List D) : mIf t m n st = (t st).s fun b st' => RS.br b m n st' := rfl
def asg (r : Option (List D)) : RS := match r with
  | some st => .nx st
  | none => .stuck
@[simp] theorem asg_some (st : List D) : asg (some st) = .nx st := rfl
@[simp] theorem mAsg_eq (ma : List D → R D) (g : MG) (st : List D) : mAsg ma g st = (ma st).s fun d st' => asg (g d st') := by
  unfold mAsg
  rfl
@[simp] theorem gNm_eq (i : Nat) (d : D) (st : List D) : gNm i d st = chkO (i < st.length) (some (st.set i d)) := rfl
@[simp] theorem gTu_tup (n : Nat) (gs : MGs) (xs st : List D) : gTu n gs (.nd .tup xs) st = chkO (xs.length = n) (gs xs st) := rfl
@[simp] theorem gC1_cons (g : MG) (gs : MGs) (x : D) (r st : List D) : gC1 g gs (x :: r) st = obn (g x st) (gs r) := by
  simp only [gC1, obn]
  cases g x st <;> rfl
@[simp] theorem gN0_nil (st : List D) : gN0 [] st = some st := rfl
/-! #### quiet things -/
@[simp] theorem qC_eq (d : D) (st : List D) : qC d st = some (.sc d) := rfl
@[simp] theorem getS0 (st : List D) (r : Nat) : getS st r [] = st[r]? := by
  unfold getS
  cases st[r]? <;> simp [getP]
@[simp] theorem getSc (st : List D) (r : Nat) (j : Nat) (p : Pth) : getS st r (j :: p) = obn st[r]? fun d => getP d (j :: p) := by
  unfold getS obn
  cases st[r]? <;> rfl
@[simp] theorem getP0 (d : D) : getP d [] = some d := by simp [getP]
@[simp] theorem getPc (k : Kd) (xs : List D) (j : Nat) (p : Pth) : getP (.nd k xs) (j :: p) = obn xs[j]? fun d => getP d p := by
  simp only [getP, obn]
  cases xs[j]? <;> rfl
@[simp] theorem setS0 (st : List D) (r : Nat) (e : D) : setS st r [] e = st.set r e := by
  unfold setS
  cases q : st[r]? with
  | some d => simp [setP]
  | none => simp at q; simp [List.set_eq_of_length_le q]
/-- another tree at a place of a slot's tree -/
def setAt (st : List D) (r : Nat) (p : Pth) (e : D) : Option D → List D
  | some d => st.set r (setP d p e)
  | none => st
@[simp] theorem setAt_some (st : List D) (r : Nat) (p : Pth) (e d : D) : setAt st r p e (some d) = st.set r (setP d p e) := rfl
@[simp] theorem setSc (st : List D) (r j : Nat) (p : Pth) (e : D) : setS st r (j :: p) e = setAt st r (j :: p) e st[r]? := by
  unfold setS setAt
  cases st[r]? <;> rfl
@[simp] theorem setP0 (d e : D) : setP d [] e = e := by simp [setP]
def setPk (k : Kd) (xs : List D) (j : Nat) (p : Pth) (e : D) : Option D → D
  | some x => .nd k (xs.set j (setP x p e))
  | none => .nd k xs
@[simp] theorem setPk_some (k : Kd) (xs : List D) (j : Nat) (p : Pth) (e x : D) : setPk k xs j p e (some x) = .nd k (xs.set j (setP x p e)) := rfl
@[simp] theorem setPc (k : Kd) (xs : List D) (j : Nat) (p : Pth) (e : D) : setP (.nd k xs) (j :: p) e = setPk k xs j p e xs[j]? := by
  first
    | (simp only [setP, setPk]; done)
    | (simp only [setP, setPk]; cases xs[j]? <;> rfl)
def plD0 (r : Nat) (p : Pth) (d : D) : Option PL := match d with
  | .nd _ _ => some (.pth r p)
  | .un => none
  | .scr _ => none
  | d => some (.sc d)
@[simp] theorem plOf_eq (st : List D) (r : Nat) (p : Pth) : plOf st r p = obn (getS st r p) (plD0 r p) := by
  unfold plOf obn
  cases getS st r p with
  | none => rfl
  | some d => cases d <;> rfl
@[simp] theorem plD0_nd (r : Nat) (p : Pth) (k : Kd) (xs : List D) : plD0 r p (.nd k xs) = some (.pth r p) := rfl
@[simp] theorem plD0_int (r : Nat) (p : Pth) (i : Int) : plD0 r p (.int i) = some (.sc (.int i)) := rfl
@[simp] theorem plD0_bl (r : Nat) (p : Pth) (i : Bool) : plD0 r p (.bl i) = some (.sc (.bl i)) := rfl
@[simp] theorem plD0_str (r : Nat) (p : Pth) (i : Str) : plD0 r p (.str i) = some (.sc (.str i)) := rfl
@[simp] theorem plD0_non (r : Nat) (p : Pth) : plD0 r p .non = some (.sc .non) := rfl
@[simp] theorem qV_eq (i : Nat) (st : List D) : qV i st = obn st[i]? (plD0 i []) := by
  unfold qV
  rw [plOf_eq, getS0]
/-- two quiet things -/
def q2 (a b : Option PL) (f : PL → PL → Option PL) : Option PL := match a, b with
  | some p, some q => f p q
  | _, _ => none
@[simp] theorem q2_some (p q : PL) (f : PL → PL → Option PL) : q2 (some p) (some q) f = f p q := rfl
/-- what stands at a place, by an index -/
def ixAt (st : List D) (r : Nat) (p : Pth) (i : Int) (d : D) : Option PL := match d with
  | .nd (.lst _) xs => obn (ixN xs.length i) fun j => plOf st r (p ++ [j])
  | .nd .tup xs => obn (ixN xs.length i) fun j => plOf st r (p ++ [j])
  | _ => none
@[simp] theorem ixAt_lst (st : List D) (r : Nat) (p : Pth) (i : Int) (f : Fl) (xs : List D) : ixAt st r p i (.nd (.lst f) xs) = obn (ixN xs.length i) fun j => plOf st r (p ++ [j]) := rfl
@[simp] theorem ixAt_tup (st : List D) (r : Nat) (p : Pth) (i : Int) (xs : List D) : ixAt st r p i (.nd .tup xs) = obn (ixN xs.length i) fun j => plOf st r (p ++ [j]) := rfl
def ixQ (st : List D) (a b : PL) : Option PL := match a, b with
  | .pth r p, .sc (.int i) => obn (getS st r p) (ixAt st r p i)
  | .sc (.str z), .sc (.int i) => chkO (z.length ≤ sizeLine) (obn (atI z.cps.toList i) fun c => some (.sc (.str ⟨#[c]⟩)))
  | _, _ => none
@[simp] theorem ixQ_pth (st : List D) (r : Nat) (p : Pth) (i : Int) : ixQ st (.pth r p) (.sc (.int i)) = obn (getS st r p) (ixAt st r p i) := rfl
@[simp] theorem ixQ_str (st : List D) (z : Str) (i : Int) : ixQ st (.sc (.str z)) (.sc (.int i)) = chkO (z.length ≤ sizeLine) (obn (atI z.cps.toList i) fun c => some (.sc (.str ⟨#[c]⟩))) := rfl
@[simp] theorem qIx_eq (qa qb : List D → Option PL) (st : List D) : qIx qa qb st = q2 (qa st) (qb st) (ixQ st) := by
  unfold qIx q2
  cases qa st with
  | none => rfl
  | some a =>
    cases qb st with
    | none => cases a with
      | pth r p => rfl
      | sc d => cases d <;> rfl
    | some b =>
      cases a with
      | pth r p =>
        cases b with
        | pth r' p' => rfl
        | sc d =>
          cases d with
          | int i =>
            simp only [ixQ]
            cases getS st r p with
            | none => rfl
            | some d =>
              cases d with
              | nd k xs => cases k <;> simp only [obn, ixAt] <;> cases ixN xs.length i <;> rfl
              | _ => rfl
          | _ => rfl
      | sc d =>
        cases d with
        | str z =>
          cases b with
          | pth r' p' => rfl
          | sc d =>
            cases d with
            | int i =>
              simp only [ixQ, chkO, obn]
              split
              · cases atI z.cps.toList i <;> rfl
              · rfl
            | _ => rfl
        | _ => cases b with
          | pth r' p' => rfl
          | sc d => cases d <;> rfl
def opQ (g : G2) (a b : PL) : Option PL := match a, b with
  | .sc x, .sc y => obn (g x y) fun d => some (.sc d)
  | _, _ => none
@[simp] theorem opQ_sc (g : G2) (x y : D) : opQ g (.sc x) (.sc y) = obn (g x y) fun d => some (.sc d) := rfl
@[simp] theorem qOp_eq (g : G2) (qa qb : List D → Option PL) (st : List D) : qOp g qa qb st = q2 (qa st) (qb st) (opQ g) := by
  unfold qOp q2
  cases qa st with
  | none => rfl
  | some a =>
    cases qb st with
    | none => cases a <;> rfl
    | some b =>
      cases a <;> cases b <;> try rfl
      simp only [opQ, obn]
      split <;> simp_all
@[simp] theorem mOp_eq (g : G2) (ma mb : List D → R D) (st : List D) : mOp g ma mb st = (ma st).bind fun x st1 => (mb st1).bind fun y st2 => R.of (g x y) fun d => .ok d st2 := by
  unfold mOp R.of
  congr 1; funext x st1; congr 1; funext y st2
  cases g x y <;> rfl
@[simp] theorem gAdd_int (i j : Int) : gAdd (.int i) (.int j) = some (.int (i + j)) := rfl
@[simp] theorem gAdd_str (x y : Str) : gAdd (.str x) (.str y) = chkO (x.length + y.length ≤ sizeLine) (some (.str (x ++ y))) := rfl
@[simp] theorem gSub_int (i j : Int) : gSub (.int i) (.int j) = some (.int (i - j)) := rfl
@[simp] theorem gLt_int (i j : Int) : gLt (.int i) (.int j) = some (.bl (decide (i < j))) := rfl
@[simp] theorem gLe_int (i j : Int) : gLe (.int i) (.int j) = some (.bl (decide (i ≤ j))) := rfl
@[simp] theorem gGt_int (i j : Int) : gGt (.int i) (.int j) = some (.bl (decide (j < i))) := rfl
@[simp] theorem gGe_int (i j : Int) : gGe (.int i) (.int j) = some (.bl (decide (j ≤ i))) := rfl
@[simp] theorem gMax_int (i j : Int) : gMax (.int i) (.int j) = some (.int (max i j)) := rfl
@[simp] theorem gMin_int (i j : Int) : gMin (.int i) (.int j) = some (.int (min i j)) := rfl
theorem gI_chk (f : Int → Int → D) (c : Int → Int → Prop) [∀ i j, Decidable (c i j)] (i j : Int) : gI f (fun i j => decide (c i j)) (.int i) (.int j) = chkO (c i j) (some (f i j)) := by
  unfold gI chkO
  simp only [decide_eq_true_eq]
@[simp] theorem gMul_int (i j : Int) : gMul (.int i) (.int j) = chkO (CMul i j) (some (.int (i * j))) := gI_chk _ _ _ _
@[simp] theorem gDiv_int (i j : Int) : gDiv (.int i) (.int j) = chkO (0 < j ∧ j.natAbs.log2 < 9000) (some (.int (i / j))) := gI_chk _ (fun _ j => 0 < j ∧ j.natAbs.log2 < 9000) _ _
@[simp] theorem gMod_int (i j : Int) : gMod (.int i) (.int j) = chkO (0 < j) (some (.int (i % j))) := gI_chk _ (fun _ j => 0 < j) _ _
@[simp] theorem gPow_int (i j : Int) : gPow (.int i) (.int j) = chkO (0 ≤ j ∧ j ≤ 1000000 ∧ i.natAbs < 2 ^ 64) (some (.int (i ^ j.toNat))) := gI_chk _ (fun i j => 0 ≤ j ∧ j ≤ 1000000 ∧ i.natAbs < 2 ^ 64) _ _
/-- one quiet thing -/
@[simp] theorem qNeg_eq (qa : List D → Option PL) (st : List D) : qNeg qa st = obn (qa st) fun p => match p with
    | .sc (.int i) => some (.sc (.int (-i)))
    | _ => none := by
  unfold qNeg obn
  cases qa st with
  | none => rfl
  | some a =>
    cases a with
    | pth r p => rfl
    | sc d => cases d <;> rfl
def lenQ (st : List D) (p : PL) : Option PL := match p with
  | .pth r p => obn (getS st r p) fun d => match d with
    | .nd (.lst _) xs => some (.sc (.int xs.length))
    | .nd .tup xs => some (.sc (.int xs.length))
    | _ => none
  | .sc (.str z) => chkO (z.length ≤ sizeLine) (some (.sc (.int z.length)))
  | _ => none
@[simp] theorem lenQ_pth (st : List D) (r : Nat) (p : Pth) : lenQ st (.pth r p) = obn (getS st r p) fun d => match d with
    | .nd (.lst _) xs => some (.sc (.int xs.length))
    | .nd .tup xs => some (.sc (.int xs.length))
    | _ => none := rfl
@[simp] theorem lenQ_str (st : List D) (z : Str) : lenQ st (.sc (.str z)) = chkO (z.length ≤ sizeLine) (some (.sc (.int z.length))) := rfl
@[simp] theorem qLen_eq (qa : List D → Option PL) (st : List D) : qLen qa st = obn (qa st) (lenQ st) := by
  unfold qLen obn
  cases qa st with
  | none => rfl
  | some a =>
    cases a with
    | pth r p =>
      simp only [lenQ, obn]
      cases getS st r p with
      | none => rfl
      | some d => cases d with
        | nd k xs => cases k <;> rfl
        | _ => rfl
    | sc d => cases d <;> rfl
@[simp] theorem plD_sc (st : List D) (d : D) : plD st (.sc d) = some d := rfl
@[simp] theorem plD_pth (st : List D) (r : Nat) (p : Pth) : plD st (.pth r p) = getS st r p := rfl
@[simp] theorem qEq_eq (neg : Bool) (qa qb : List D → Option PL) (st : List D) : qEq neg qa qb st = q2 (qa st) (qb st) fun p q => obn (plD st p) fun x => obn (plD st q) fun y => obn (eqD x y) fun b => some (.sc (.bl (neg ^^ b))) := by
  unfold qEq q2
  cases qa st with
  | none => rfl
  | some a =>
    cases qb st with
    | none => rfl
    | some b =>
      simp only [obn]
      cases plD st a with
      | none => rfl
      | some x =>
        cases plD st b with
        | none => rfl
        | some y =>
          simp only
          cases eqD x y with
          | none => rfl
          | some b => cases neg <;> cases b <;> rfl
@[simp] theorem mEq_eq (neg : Bool) (ma mb : List D → R D) (st : List D) : mEq neg ma mb st = (ma st).bind fun x st1 => (mb st1).bind fun y st2 => R.of (eqD x y) fun b => .ok (.bl (neg ^^ b)) st2 := by
  unfold mEq
  congr 1; funext x st1; congr 1; funext y st2
  cases eqD x y with
  | none => rfl
  | some b => cases neg <;> cases b <;> rfl
@[simp] theorem qIsN_eq (neg : Bool) (qa : List D → Option PL) (st : List D) : qIsN neg qa st = obn (qa st) fun p => match p with
    | .sc d => some (.sc (.bl (neg ^^ isNonD d)))
    | .pth _ _ => some (.sc (.bl neg)) := by
  unfold qIsN obn
  cases qa st with
  | none => rfl
  | some a => cases a <;> cases neg <;> simp
@[simp] theorem mIsN_eq (neg : Bool) (ma : List D → R D) (st : List D) : mIsN neg ma st = (ma st).bind fun d st' => match d with
    | .un => .stuck
    | .scr _ => .stuck
    | d => .ok (.bl (neg ^^ isNonD d)) st' := by
  unfold mIsN
  congr 1; funext d st'
  cases d <;> cases neg <;> simp
@[simp] theorem qIsi_eq (n : String) (qa : List D → Option PL) (st : List D) : qIsi n qa st = obn (qa st) fun p => obn (plD st p) fun d => obn (isiD n d) fun b => some (.sc (.bl b)) := by
  unfold qIsi obn
  cases qa st with
  | none => rfl
  | some a =>
    simp only
    cases plD st a with
    | none => rfl
    | some d => simp only; cases isiD n d <;> rfl
/-! #### values -/
def quR (st : List D) (p : PL) : R D := match p with
  | .sc d => .ok d st
  | .pth r p => R.of (getS st r p) fun e => .ok e.frz (setS st r p e.frz)
@[simp] theorem quR_sc (st : List D) (d : D) : quR st (.sc d) = .ok d st := rfl
@[simp] theorem quR_pth (st : List D) (r : Nat) (p : Pth) : quR st (.pth r p) = R.of (getS st r p) fun e => .ok e.frz (setS st r p e.frz) := rfl
@[simp] theorem mQ_eq (q : List D → Option PL) (st : List D) : mQ q st = R.of (q st) (quR st) := by
  unfold mQ R.of
  cases q st with
  | none => rfl
  | some a =>
    cases a with
    | sc d => rfl
    | pth r p => simp only [quR, R.of]; cases getS st r p <;> rfl
def mvR (i : Nat) (st : List D) (d : D) : R D := match d with
  | .un => .stuck
  | d => .ok d (st.set i .un)
@[simp] theorem mvR_nd (i : Nat) (st : List D) (k : Kd) (xs : List D) : mvR i st (.nd k xs) = .ok (.nd k xs) (st.set i .un) := rfl
@[simp] theorem mvR_int (i : Nat) (st : List D) (z : Int) : mvR i st (.int z) = .ok (.int z) (st.set i .un) := rfl
@[simp] theorem mvR_bl (i : Nat) (st : List D) (z : Bool) : mvR i st (.bl z) = .ok (.bl z) (st.set i .un) := rfl
@[simp] theorem mvR_str (i : Nat) (st : List D) (z : Str) : mvR i st (.str z) = .ok (.str z) (st.set i .un) := rfl
@[simp] theorem mvR_non (i : Nat) (st : List D) : mvR i st .non = .ok .non (st.set i .un) := rfl
@[simp] theorem mMove_eq (i : Nat) (st : List D) : mMove i st = R.of st[i]? (mvR i st) := by
  unfold mMove R.of
  cases st[i]? with
  | none => rfl
  | some d => cases d <;> rfl
def tQ (st : List D) (p : PL) : R Bool := match p with
  | .sc (.bl b) => .ok b st
  | _ => .stuck
@[simp] theorem tQ_bl (st : List D) (b : Bool) : tQ st (.sc (.bl b)) = .ok b st := rfl
@[simp] theorem mTQ_eq (q : List D → Option PL) (st : List D) : mTQ q st = R.of (q st) (tQ st) := by
  unfold mTQ R.of
  cases q st with
  | none => rfl
  | some a =>
    cases a with
    | pth r p => rfl
    | sc d => cases d <;> rfl
def tD (d : D) (st : List D) : R Bool := match d with
  | .bl b => .ok b st
  | _ => .stuck
@[simp] theorem tD_bl (st : List D) (b : Bool) : tD (.bl b) st = .ok b st := rfl
@[simp] theorem mTE_eq (m : List D → R D) (st : List D) : mTE m st = (m st).bind tD := rfl
@[simp] theorem mNotT_eq (t : List D → R Bool) (st : List D) : mNotT t st = (t st).bind fun b st' => .ok (!b) st' := rfl
@[simp] theorem mAndT_eq (t u : List D → R Bool) (st : List D) : mAndT t u st = (t st).bind fun b st' => R.br b u (fun st' => .ok false st') st' := rfl
@[simp] theorem mOrT_eq (t u : List D → R Bool) (st : List D) : mOrT t u st = (t st).bind fun b st' => R.br b (fun st' => .ok true st') u st' := rfl
@[simp] theorem mNotV_eq (m : List D → R D) (st : List D) : mNotV m st = (m st).bind fun d st' => (tD d st').bind fun b st' => .ok (.bl (!b)) st' := by
  unfold mNotV
  congr 1; funext d st'
  cases d <;> rfl
@[simp] theorem mAndV_eq (m n : List D → R D) (st : List D) : mAndV m n st = (m st).bind fun d st' => (tD d st').bind fun b st' => R.br b n (fun st' => .ok (.bl false) st') st' := by
  unfold mAndV
  congr 1; funext d st'
  cases d with
  | bl b => cases b <;> rfl
  | _ => rfl
@[simp] theorem mOrV_eq (m n : List D → R D) (st : List D) : mOrV m n st = (m st).bind fun d st' => (tD d st').bind fun b st' => R.br b (fun st' => .ok (.bl true) st') n st' := by
  unfold mOrV
  congr 1; funext d st'
  cases d with
  | bl b => cases b <;> rfl
  | _ => rfl
@[simp] theorem mNil_eq (st : List D) : mNil st = .ok [] st := rfl
@[simp] theorem mCons_eq (m : List D → R D) (ms : List D → R (List D)) (st : List D) : mCons m ms st = (m st).bind fun d st1 => (ms st1).bind fun xs st2 => .ok (d :: xs) st2 := rfl
@[simp] theorem mLst_eq (ml : List D → R (List D)) (st : List D) : mLst ml st = (ml st).bind fun xs st1 => chk (xs.length ≤ sizeLine) (.ok (.nd (.lst .own) xs) st1) := rfl
@[simp] theorem mTup_eq (ml : List D → R (List D)) (st : List D) : mTup ml st = (ml st).bind fun xs st1 => chk (xs.length ≤ sizeLine) (.ok (.nd .tup xs) st1) := rfl
@[simp] theorem aNil_eq (st : List D) : aNil st = .ok [] st := rfl
@[simp] theorem aVal_eq (m : List D → R D) (ms : List D → R (List AD)) (st : List D) : aVal m ms st = (m st).bind fun d st1 => (ms st1).bind fun xs st2 => .ok (.val d :: xs) st2 := rfl
def adOf : PL → AD
  | .sc d => .val d
  | .pth r p => .lnd r p
@[simp] theorem adOf_sc (d : D) : adOf (.sc d) = .val d := rfl
@[simp] theorem adOf_pth (r : Nat) (p : Pth) : adOf (.pth r p) = .lnd r p := rfl
@[simp] theorem aPth_eq (q : List D → Option PL) (ms : List D → R (List AD)) (st : List D) : aPth q ms st = R.of (q st) fun p => (ms st).bind fun xs st2 => .ok (adOf p :: xs) st2 := by
  unfold aPth R.of
  cases q st with
  | none => rfl
  | some a => cases a <;> rfl
@[simp] theorem mCall_eq (ms : List Md) (F : Fn) (ma : List D → R (List AD)) (st : List D) : mCall ms F ma st = (ma st).bind fun as st1 => callR ms F as st1 := rfl
def FR.k (r : FR) (f : D → List D → R D) (g : Ex → List D → R D) : R D := match r with
  | .ok d outs => f d outs
  | .ex e outs => g e outs
  | .stuck => .stuck
@[simp] theorem FR.k_ok (d : D) (outs : List D) (f : D → List D → R D) (g : Ex → List D → R D) : (FR.ok d outs).k f g = f d outs := rfl
@[simp] theorem FR.k_ex (d : Ex) (outs : List D) (f : D → List D → R D) (g : Ex → List D → R D) : (FR.ex d outs).k f g = g d outs := rfl
@[simp] theorem callR_eq (ms : List Md) (F : Fn) (as : List AD) (st : List D) : callR ms F as st = R.of (takeA ms as st) fun z => R.of (argsOf ms as z.2 z.1) fun args =>
    (F args).k (fun d outs => chk (D.noBorL (d :: outs) = true) (R.of (putA ms as outs z.1) fun st2 => .ok d st2)) (fun e outs => chk (D.noBorL (e.ds ++ outs) = true) (R.of (putA ms as outs z.1) fun st2 => .ex e st2)) := by
  unfold callR R.of chk
  cases takeA ms as st with
  | none => rfl
  | some z =>
    obtain ⟨st1, bs⟩ := z
    simp only
    cases argsOf ms as bs st1 with
    | none => rfl
    | some args =>
      simp only [FR.k]
      cases F args with
      | stuck => rfl
      | ok d outs =>
        simp only
        split
        · cases putA ms as outs st1 <;> rfl
        · rfl
      | ex d outs =>
        simp only
        split
        · cases putA ms as outs st1 <;> rfl
        · rfl
@[simp] theorem takeA_nil (st : List D) : takeA [] [] st = some (st, []) := rfl
@[simp] theorem takeA_bov (d : D) (ms : List Md) (as : List AD) (st : List D) : takeA (.bo :: ms) (.val d :: as) st = obn (takeA ms as st) fun z => some (z.1, d :: z.2) := by
  simp only [takeA, obn]; cases takeA ms as st <;> simp
@[simp] theorem takeA_iov (d : D) (ms : List Md) (as : List AD) (st : List D) : takeA (.io :: ms) (.val d :: as) st = obn (takeA ms as st) fun z => some (z.1, d :: z.2) := by
  simp only [takeA, obn]; cases takeA ms as st <;> simp
@[simp] theorem takeA_fzv (d : D) (ms : List Md) (as : List AD) (st : List D) : takeA (.fz :: ms) (.val d :: as) st = obn (takeA ms as st) fun z => some (z.1, d.frz :: z.2) := by
  simp only [takeA, obn]; cases takeA ms as st <;> simp
@[simp] theorem takeA_iol (r : Nat) (p : Pth) (ms : List Md) (as : List AD) (st : List D) : takeA (.io :: ms) (.lnd r p :: as) st = obn (getS st r p) fun e => obn (takeA ms as (setS st r p .un)) fun z => some (z.1, e :: z.2) := by
  simp only [takeA, obn]
  cases getS st r p with
  | none => rfl
  | some e => simp only; cases takeA ms as (setS st r p .un) <;> rfl
@[simp] theorem takeA_fzl (r : Nat) (p : Pth) (ms : List Md) (as : List AD) (st : List D) : takeA (.fz :: ms) (.lnd r p :: as) st = obn (getS st r p) fun e => obn (takeA ms as (setS st r p e.frz)) fun z => some (z.1, e.frz :: z.2) := by
  simp only [takeA, obn]
  cases getS st r p with
  | none => rfl
  | some e => simp only; cases takeA ms as (setS st r p e.frz) <;> rfl
@[simp] theorem takeA_bol (r : Nat) (p : Pth) (ms : List Md) (as : List AD) (st : List D) : takeA (.bo :: ms) (.lnd r p :: as) st = obn (takeA ms as st) fun z => some (z.1, .un :: z.2) := by
  simp only [takeA, obn]
  cases takeA ms as st <;> rfl
@[simp] theorem argsOf_nil (st : List D) : argsOf [] [] [] st = some [] := rfl
@[simp] theorem argsOf_bov (d b : D) (ms : List Md) (as : List AD) (bs st : List D) : argsOf (.bo :: ms) (.val d :: as) (b :: bs) st = obn (argsOf ms as bs st) fun l => some (b.len :: l) := by
  simp only [argsOf, obn]; cases argsOf ms as bs st <;> rfl
@[simp] theorem argsOf_bo (r : Nat) (p : Pth) (b : D) (ms : List Md) (as : List AD) (bs st : List D) : argsOf (.bo :: ms) (.lnd r p :: as) (b :: bs) st = obn (getS st r p) fun e => obn (argsOf ms as bs st) fun l => some (e.len :: l) := by
  simp only [argsOf, obn]
  cases getS st r p with
  | none => rfl
  | some e => simp only; cases argsOf ms as bs st <;> rfl
@[simp] theorem argsOf_iov (d b : D) (ms : List Md) (as : List AD) (bs st : List D) : argsOf (.io :: ms) (.val d :: as) (b :: bs) st = obn (argsOf ms as bs st) fun l => some (b :: l) := by
  simp only [argsOf, obn]; cases argsOf ms as bs st <;> rfl
@[simp] theorem argsOf_io (r : Nat) (p : Pth) (b : D) (ms : List Md) (as : List AD) (bs st : List D) : argsOf (.io :: ms) (.lnd r p :: as) (b :: bs) st = obn (getS st r p) fun e => obn (argsOf ms as bs st) fun l => some (b :: l) := by
  simp only [argsOf, obn]
  cases getS st r p with
  | none => rfl
  | some e => simp only; cases argsOf ms as bs st <;> rfl
@[simp] theorem argsOf_fz (a : AD) (b : D) (ms : List Md) (as : List AD) (bs st : List D) : argsOf (.fz :: ms) (a :: as) (b :: bs) st = obn (argsOf ms as bs st) fun l => some (b :: l) := by
  simp only [argsOf, obn]; cases argsOf ms as bs st <;> rfl
@[simp] theorem putA_nil (st : List D) : putA [] [] [] st = some st := rfl
@[simp] theorem putA_io (r : Nat) (p : Pth) (ms : List Md) (as : List AD) (o : D) (os st : List D) : putA (.io :: ms) (.lnd r p :: as) (o :: os) st = obn (putA ms as os st) fun st' => chkO ((isUn (getS st' r p) && (D.noOwn o || spS st' r p)) = true) (some (setS st' r p o)) := by
  simp only [putA, obn]
  cases putA ms as os st <;> rfl
@[simp] theorem putA_bo (a : AD) (ms : List Md) (as : List AD) (o : D) (os st : List D) : putA (.bo :: ms) (a :: as) (o :: os) st = putA ms as os st := by
  cases a <;> simp [putA]
@[simp] theorem putA_fz (a : AD) (ms : List Md) (as : List AD) (o : D) (os st : List D) : putA (.fz :: ms) (a :: as) (o :: os) st = putA ms as os st := by
  cases a <;> simp [putA]
@[simp] theorem putA_iov (d : D) (ms : List Md) (as : List AD) (o : D) (os st : List D) : putA (.io :: ms) (.val d :: as) (o :: os) st = putA ms as os st := by
  simp [putA]
@[simp] theorem isUn_un : isUn (some .un) = true := rfl
@[simp] theorem spS0 (st : List D) (r : Nat) (d : D) (h : st[r]? = some d) : spS st r [] = true := by
  unfold spS; rw [h]; simp [spOk]
/-! #### lists -/
def appR (st : List D) (d : D) (r : Nat) (p : Pth) (x : D) : R D := match x with
  | .nd (.lst .own) xs => chk (xs.length < 16777216) (.ok .non (setS st r p (.nd (.lst .own) (xs ++ [d]))))
  | _ => .stuck
@[simp] theorem appR_own (st : List D) (d : D) (r : Nat) (p : Pth) (xs : List D) : appR st d r p (.nd (.lst .own) xs) = chk (xs.length < 16777216) (.ok .non (setS st r p (.nd (.lst .own) (xs ++ [d])))) := rfl
def lstK {α : Type} (d : D) (k : R α) : R α := match d with
  | .nd (.lst _) _ => k
  | _ => .stuck
@[simp] theorem lstK_lst {α : Type} (f : Fl) (xs : List D) (k : R α) : lstK (.nd (.lst f) xs) k = k := rfl
def pthK {α : Type} (pl : PL) (f : Nat → Pth → R α) : R α := match pl with
  | .pth r p => f r p
  | .sc _ => .stuck
@[simp] theorem pthK_pth {α : Type} (r : Nat) (p : Pth) (f : Nat → Pth → R α) : pthK (.pth r p) f = f r p := rfl
@[simp] theorem mAppend_eq (qo : List D → Option PL) (mb : List D → R D) (st : List D) : mAppend qo mb st = R.of (qo st) fun pl => pthK pl fun r p => R.of (getS st r p) fun x => lstK x ((mb st).bind fun d st1 => R.of (getS st1 r p) (appR st1 d r p)) := by
  unfold mAppend R.of
  cases qo st with
  | none => rfl
  | some pl =>
    cases pl with
    | sc d => rfl
    | pth r p =>
      simp only [pthK]
      cases getS st r p with
      | none => rfl
      | some x =>
        cases x with
        | nd k xs =>
          cases k with
          | lst f =>
            simp only [lstK]
            congr 1; funext d st1
            cases getS st1 r p with
            | none => rfl
            | some y =>
              cases y with
              | nd k ys =>
                cases k with
                | lst g => cases g <;> rfl
                | _ => rfl
              | _ => rfl
          | _ => rfl
        | _ => rfl
def extR (st : List D) (ys : List D) (r : Nat) (p : Pth) (x : D) : R D := match x with
  | .nd (.lst .own) xs => chk (xs.length + ys.length ≤ 16777216) (.ok .non (setS st r p (.nd (.lst .own) (xs ++ ys))))
  | _ => .stuck
@[simp] theorem extR_own (st : List D) (ys : List D) (r : Nat) (p : Pth) (xs : List D) : extR st ys r p (.nd (.lst .own) xs) = chk (xs.length + ys.length ≤ 16777216) (.ok .non (setS st r p (.nd (.lst .own) (xs ++ ys)))) := rfl
def lstF {α : Type} (d : D) (k : List D → R α) : R α := match d with
  | .nd (.lst _) xs => k xs
  | _ => .stuck
@[simp] theorem lstF_lst {α : Type} (f : Fl) (xs : List D) (k : List D → R α) : lstF (.nd (.lst f) xs) k = k xs := rfl
@[simp] theorem mExtend_eq (qo : List D → Option PL) (mb : List D → R D) (st : List D) : mExtend qo mb st = R.of (qo st) fun pl => pthK pl fun r p => R.of (getS st r p) fun x => lstK x ((mb st).bind fun d st1 => lstF d fun ys => R.of (getS st1 r p) (extR st1 ys r p)) := by
  unfold mExtend R.of
  cases qo st with
  | none => rfl
  | some pl =>
    cases pl with
    | sc d => rfl
    | pth r p =>
      simp only [pthK]
      cases getS st r p with
      | none => rfl
      | some x =>
        cases x with
        | nd k xs =>
          cases k with
          | lst f =>
            simp only [lstK]
            congr 1; funext d st1
            cases d with
            | nd kd zs =>
              cases kd with
              | lst fd =>
                simp only [lstF]
                cases getS st1 r p with
                | none => rfl
                | some y =>
                  cases y with
                  | nd k ys =>
                    cases k with
                    | lst g => cases g <;> rfl
                    | _ => rfl
                  | _ => rfl
              | _ => rfl
            | _ => rfl
          | _ => rfl
        | _ => rfl
def ixS (st : List D) (d : D) (r : Nat) (p : Pth) (i : Int) (x : D) : Option (List D) := match x with
  | .nd (.lst .own) xs => obn (ixN xs.length i) fun j => some (setS st r p (.nd (.lst .own) (xs.set j d)))
  | _ => none
@[simp] theorem ixS_own (st : List D) (d : D) (r : Nat) (p : Pth) (i : Int) (xs : List D) : ixS st d r p i (.nd (.lst .own) xs) = obn (ixN xs.length i) fun j => some (setS st r p (.nd (.lst .own) (xs.set j d))) := rfl
def ixG (st : List D) (d : D) (a b : PL) : Option (List D) := match a, b with
  | .pth r p, .sc (.int i) => obn (getS st r p) (ixS st d r p i)
  | _, _ => none
@[simp] theorem ixG_pth (st : List D) (d : D) (r : Nat) (p : Pth) (i : Int) : ixG st d (.pth r p) (.sc (.int i)) = obn (getS st r p) (ixS st d r p i) := rfl
@[simp] theorem gIx_eq (qo qi : List D → Option PL) (d : D) (st : List D) : gIx qo qi d st = obn (qo st) fun a => obn (qi st) fun b => ixG st d a b := by
  unfold gIx obn
  cases qo st with
  | none => rfl
  | some a =>
    cases qi st with
    | none => cases a <;> rfl
    | some b =>
      cases a with
      | sc x => rfl
      | pth r p =>
        cases b with
        | pth r' p' => rfl
        | sc x =>
          cases x with
          | int i =>
            simp only [ixG, obn]
            cases getS st r p with
            | none => rfl
            | some y =>
              cases y with
              | nd k xs =>
                cases k with
                | lst f =>
                  cases f with
                  | own => simp only [ixS, obn]; cases ixN xs.length i <;> rfl
                  | _ => rfl
                | _ => rfl
              | _ => rfl
          | _ => rfl
def lisR (st : List D) (r : Nat) (p : Pth) (x : D) : R D := match x with
  | .nd (.lst f) xs => .ok (.nd (.lst .own) (D.setL .fz xs)) (setS st r p (.nd (.lst f) (D.setL .fz xs)))
  | .nd .tup xs => .ok (.nd (.lst .own) (D.setL .fz xs)) (setS st r p (.nd .tup (D.setL .fz xs)))
  | _ => .stuck
@[simp] theorem lisR_lst (st : List D) (r : Nat) (p : Pth) (f : Fl) (xs : List D) : lisR st r p (.nd (.lst f) xs) = .ok (.nd (.lst .own) (D.setL .fz xs)) (setS st r p (.nd (.lst f) (D.setL .fz xs))) := rfl
@[simp] theorem lisR_tup (st : List D) (r : Nat) (p : Pth) (xs : List D) : lisR st r p (.nd .tup xs) = .ok (.nd (.lst .own) (D.setL .fz xs)) (setS st r p (.nd .tup (D.setL .fz xs))) := rfl
@[simp] theorem mListQ_eq (qa : List D → Option PL) (st : List D) : mListQ qa st = R.of (qa st) fun pl => pthK pl fun r p => R.of (getS st r p) (lisR st r p) := by
  unfold mListQ R.of
  cases qa st with
  | none => rfl
  | some pl =>
    cases pl with
    | sc d => rfl
    | pth r p =>
      simp only [pthK]
      cases getS st r p with
      | none => rfl
      | some x => cases x with
        | nd k xs => cases k <;> rfl
        | _ => rfl
def sqD {α : Type} (d : D) (k : List D → R α) : R α := match d with
  | .nd (.lst _) xs => k xs
  | .nd .tup xs => k xs
  | _ => .stuck
@[simp] theorem sqD_lst {α : Type} (f : Fl) (xs : List D) (k : List D → R α) : sqD (.nd (.lst f) xs) k = k xs := rfl
@[simp] theorem sqD_tup {α : Type} (xs : List D) (k : List D → R α) : sqD (.nd .tup xs) k = k xs := rfl
@[simp] theorem mListE_eq (ma : List D → R D) (st : List D) : mListE ma st = (ma st).bind fun d st1 => sqD d fun xs => .ok (.nd (.lst .own) xs) st1 := by
  unfold mListE
  rfl
def int2 {α : Type} (x y : D) (k : Int → Int → R α) : R α := match x, y with
  | .int i, .int j => k i j
  | _, _ => .stuck
@[simp] theorem int2_int {α : Type} (i j : Int) (k : Int → Int → R α) : int2 (.int i) (.int j) k = k i j := rfl
@[simp] theorem mListR_eq (ma mb : List D → R D) (st : List D) : mListR ma mb st = (ma st).bind fun x st1 => (mb st1).bind fun y st2 => int2 x y fun i j => chk (RgOk i j) (.ok (.nd (.lst .own) (rangeD i j)) st2) := by
  unfold mListR
  congr 1
@[simp] theorem mK_eq (d : D) (st : List D) : mK d st = .ok d st := rfl
@[simp] theorem oNo_eq (st : List D) : oNo st = some none := rfl
@[simp] theorem oQ_eq (qa : List D → Option PL) (st : List D) : oQ qa st = obn (qa st) fun p => match p with
    | .sc (.int i) => some (some i)
    | _ => none := by
  unfold oQ obn
  cases qa st with
  | none => rfl
  | some a =>
    cases a with
    | pth r p => rfl
    | sc d => cases d <;> rfl
def slR (st : List D) (lo hi : Option Int) (r : Nat) (p : Pth) (x : D) : R D := match x with
  | .nd (.lst f) xs => .ok (.nd (.lst .own) (cutL (D.setL .fz xs) lo hi)) (setS st r p (.nd (.lst f) (D.setL .fz xs)))
  | .nd .tup xs => chk (¬ (HT.sIx xs.length 0 lo = 0 ∧ HT.sIx xs.length xs.length hi = xs.length)) (.ok (.nd .tup (cutL (D.setL .fz xs) lo hi)) (setS st r p (.nd .tup (D.setL .fz xs))))
  | _ => .stuck
@[simp] theorem slR_lst (st : List D) (lo hi : Option Int) (r : Nat) (p : Pth) (f : Fl) (xs : List D) : slR st lo hi r p (.nd (.lst f) xs) = .ok (.nd (.lst .own) (cutL (D.setL .fz xs) lo hi)) (setS st r p (.nd (.lst f) (D.setL .fz xs))) := rfl
@[simp] theorem slR_tup (st : List D) (lo hi : Option Int) (r : Nat) (p : Pth) (xs : List D) : slR st lo hi r p (.nd .tup xs) = chk (¬ (HT.sIx xs.length 0 lo = 0 ∧ HT.sIx xs.length xs.length hi = xs.length)) (.ok (.nd .tup (cutL (D.setL .fz xs) lo hi)) (setS st r p (.nd .tup (D.setL .fz xs)))) := rfl
def slQ (st : List D) (lo hi : Option Int) (pl : PL) : R D := match pl with
  | .pth r p => R.of (getS st r p) (slR st lo hi r p)
  | .sc (.str z) => chk (z.length ≤ sizeLine) (.ok (.str (cutS z lo hi)) st)
  | _ => .stuck
@[simp] theorem slQ_pth (st : List D) (lo hi : Option Int) (r : Nat) (p : Pth) : slQ st lo hi (.pth r p) = R.of (getS st r p) (slR st lo hi r p) := rfl
@[simp] theorem slQ_str (st : List D) (lo hi : Option Int) (z : Str) : slQ st lo hi (.sc (.str z)) = chk (z.length ≤ sizeLine) (.ok (.str (cutS z lo hi)) st) := rfl
@[simp] theorem mSlQ_eq (qa : List D → Option PL) (ql qh : List D → Option (Option Int)) (st : List D) : mSlQ qa ql qh st = R.of (ql st) fun lo => R.of (qh st) fun hi => R.of (qa st) (slQ st lo hi) := by
  unfold mSlQ R.of
  cases ql st with
  | none => rfl
  | some lo =>
    cases qh st with
    | none => rfl
    | some hi =>
      simp only
      cases qa st with
      | none => rfl
      | some pl =>
        cases pl with
        | sc d => cases d <;> rfl
        | pth r p =>
          simp only [slQ, R.of]
          cases getS st r p with
          | none => rfl
          | some x =>
            cases x with
            | nd k xs =>
              cases k with
              | tup => simp only [slR, chk]; split <;> simp_all
              | _ => rfl
            | _ => rfl
@[simp] theorem mAdd_eq (ma mb : List D → R D) (st : List D) : mAdd ma mb st = (ma st).bind fun x st1 => (mb st1).bind fun y st2 => mAddR x y st2 := rfl
@[simp] theorem mAddR_lst (f g : Fl) (xs ys st : List D) : mAddR (.nd (.lst f) xs) (.nd (.lst g) ys) st = chk (xs.length + ys.length ≤ sizeLine) (.ok (.nd (.lst .own) (xs ++ ys)) st) := rfl
@[simp] theorem mAddR_tup (xs ys st : List D) : mAddR (.nd .tup xs) (.nd .tup ys) st = chk (xs.length + ys.length ≤ sizeLine ∧ xs ≠ [] ∧ ys ≠ []) (.ok (.nd .tup (xs ++ ys)) st) := rfl
@[simp] theorem mAddR_int (i j : Int) (st : List D) : mAddR (.int i) (.int j) st = .ok (.int (i + j)) st := rfl
@[simp] theorem mAddR_str (x y : Str) (st : List D) : mAddR (.str x) (.str y) st = chk (x.length + y.length ≤ sizeLine) (.ok (.str (x ++ y)) st) := by
  by_cases h : x.length + y.length ≤ sizeLine
  · simp only [mAddR, gAdd, chk, if_pos h]
  · simp only [mAddR, gAdd, chk, if_neg h]
def scrK (st : List D) (d : D) : R D := match d with
  | .scr ns => .ok (.scr ns) st
  | _ => .stuck
@[simp] theorem scrK_scr (st : List D) (ns : List Int) : scrK st (.scr ns) = .ok (.scr ns) st := rfl
@[simp] theorem mScr_eq (i : Nat) (st : List D) : mScr i st = R.of st[i]? (scrK st) := by
  unfold mScr R.of
  cases st[i]? with
  | none => rfl
  | some d => cases d <;> rfl
def slS (st : List D) (lo hi : Option Int) (d : D) : R D := match d with
  | .scr ns => .ok (.nd (.lst .own) ((cutL ns lo hi).map D.int)) st
  | _ => .stuck
@[simp] theorem slS_scr (st : List D) (lo hi : Option Int) (ns : List Int) : slS st lo hi (.scr ns) = .ok (.nd (.lst .own) ((cutL ns lo hi).map D.int)) st := rfl
theorem cutL_map {α β : Type} (f : α → β) (xs : List α) (lo hi : Option Int) : cutL (xs.map f) lo hi = (cutL xs lo hi).map f := by
  simp [cutL, List.map_take, List.map_drop]
@[simp] theorem mSlScr_eq (ma : List D → R D) (ql qh : List D → Option (Option Int)) (st : List D) : mSlScr ma ql qh st = (ma st).bind fun d st1 => R.of (ql st1) fun lo => R.of (qh st1) fun hi => slS st1 lo hi d := by
  unfold mSlScr
  congr 1; funext d st1
  simp only [R.of]
  cases d <;> cases ql st1 <;> cases qh st1 <;> simp [slS, cutL_map]
def ixR (st : List D) (x y : D) : R D := match x, y with
  | .nd (.lst _) xs, .int i => R.of (atI xs i) fun d => .ok d st
  | .nd .tup xs, .int i => R.of (atI xs i) fun d => .ok d st
  | .str z, .int i => chk (z.length ≤ sizeLine) (R.of (atI z.cps.toList i) fun c => .ok (.str ⟨#[c]⟩) st)
  | _, _ => .stuck
@[simp] theorem ixR_lst (st : List D) (f : Fl) (xs : List D) (i : Int) : ixR st (.nd (.lst f) xs) (.int i) = R.of (atI xs i) fun d => .ok d st := rfl
@[simp] theorem ixR_tup (st : List D) (xs : List D) (i : Int) : ixR st (.nd .tup xs) (.int i) = R.of (atI xs i) fun d => .ok d st := rfl
@[simp] theorem ixR_str (st : List D) (z : Str) (i : Int) : ixR st (.str z) (.int i) = chk (z.length ≤ sizeLine) (R.of (atI z.cps.toList i) fun c => .ok (.str ⟨#[c]⟩) st) := rfl
@[simp] theorem mIxE_eq (ma mb : List D → R D) (st : List D) : mIxE ma mb st = (ma st).bind fun x st1 => (mb st1).bind fun y st2 => ixR st2 x y := by
  unfold mIxE
  congr 1; funext x st1; congr 1; funext y st2
  cases x with
  | nd k xs =>
    cases k <;> cases y <;> simp only [ixR, R.of] <;> cases atI xs _ <;> rfl
  | str z =>
    cases y <;> simp only [ixR, R.of, chk]
    split
    · cases atI z.cps.toList _ <;> rfl
    · rfl
  | _ => cases y <;> rfl
@[simp] theorem mLen_eq (ma : List D → R D) (st : List D) : mLen ma st = (ma st).bind fun d st' => match d with
    | .nd (.lst _) xs => .ok (.int xs.length) st'
    | .nd .tup xs => .ok (.int xs.length) st'
    | .str z => chk (z.length ≤ sizeLine) (.ok (.int z.length) st')
    | _ => .stuck := rfl
/-! #### loops -/
def lstS (d : D) (k : List D → RS) : RS := match d with
  | .nd (.lst _) xs => k xs
  | _ => .stuck
@[simp] theorem lstS_lst (f : Fl) (xs : List D) (k : List D → RS) : lstS (.nd (.lst f) xs) k = k xs := rfl
@[simp] theorem mForL_eq (ma : List D → R D) (g : MG) (b : MS) (st : List D) : mForL ma g b st = (ma st).s fun d st1 => lstS d.frz fun xs => forL g b xs st1 := rfl
def chkS (c : Prop) [Decidable c] (r : RS) : RS := if c then r else .stuck
theorem chkS_of {c : Prop} [Decidable c] {r : RS} (h : c) : chkS c r = r := if_pos h
def int2S (x y : D) (k : Int → Int → RS) : RS := match x, y with
  | .int i, .int j => k i j
  | _, _ => .stuck
@[simp] theorem int2S_int (i j : Int) (k : Int → Int → RS) : int2S (.int i) (.int j) k = k i j := rfl
@[simp] theorem mForR_eq (ma mb : List D → R D) (g : MG) (b : MS) (st : List D) : mForR ma mb g b st = (ma st).s fun x st1 => (mb st1).s fun y st2 => int2S x y fun i j => chkS (-4611686018427387904 ≤ i ∧ i < 4611686018427387904 ∧ -4611686018427387904 ≤ j ∧ j < 4611686018427387904) (forL g b (rangeD i j) st2) := rfl
@[simp] theorem mForR1_eq (ma : List D → R D) (g : MG) (b : MS) (st : List D) : mForR1 ma g b st = (ma st).s fun y st2 => int2S (.int 0) y fun i j => chkS (-4611686018427387904 ≤ i ∧ i < 4611686018427387904 ∧ -4611686018427387904 ≤ j ∧ j < 4611686018427387904) (forL g b (rangeD i j) st2) := rfl
def zipS (x y : D) (k : List D → List D → RS) : RS := match x, y with
  | .nd (.lst _) xs, .nd (.lst _) ys => chkS (xs.length = ys.length) (k xs ys)
  | .nd .tup xs, .nd .tup ys => chkS (xs.length = ys.length) (k xs ys)
  | _, _ => .stuck
@[simp] theorem zipS_lst (f g : Fl) (xs ys : List D) (k : List D → List D → RS) : zipS (.nd (.lst f) xs) (.nd (.lst g) ys) k = chkS (xs.length = ys.length) (k xs ys) := rfl
@[simp] theorem zipS_tup (xs ys : List D) (k : List D → List D → RS) : zipS (.nd .tup xs) (.nd .tup ys) k = chkS (xs.length = ys.length) (k xs ys) := rfl
@[simp] theorem mForZ_eq (ma mb : List D → R D) (g : MG) (b : MS) (st : List D) : mForZ ma mb g b st = (ma st).s fun x st1 => (mb st1).s fun y st2 => zipS x.frz y.frz fun xs ys => forL g b (zipD xs ys) st2 := rfl
/-- one turn -/
def turn (g : MG) (b : MS) (d : D) (st : List D) : RS := match g d st with
  | some st1 => match b st1 with
    | .ct st2 => .nx st2
    | r => r
  | none => .stuck
def RS.lp (r : RS) (f : List D → RS) : RS := match r with
  | .nx st => f st
  | .ct st => f st
  | .bk st => .nx st
  | r => r
@[simp] theorem lp_nx (st : List D) (f : List D → RS) : (RS.nx st).lp f = f st := rfl
@[simp] theorem lp_ct (st : List D) (f : List D → RS) : (RS.ct st).lp f = f st := rfl
@[simp] theorem lp_bk (st : List D) (f : List D → RS) : (RS.bk st).lp f = .nx st := rfl
@[simp] theorem lp_rt (d : D) (st : List D) (f : List D → RS) : (RS.rt d st).lp f = .rt d st := rfl
@[simp] theorem lp_ex (e : Ex) (st : List D) (f : List D → RS) : (RS.ex e st).lp f = .ex e st := rfl
def tgR (o : Option (List D)) (b : MS) : RS := match o with
  | some st => b st
  | none => .stuck
@[simp] theorem tgR_some (st : List D) (b : MS) : tgR (some st) b = b st := rfl
@[simp] theorem forL_nil (g : MG) (b : MS) (st : List D) : forL g b [] st = .nx st := rfl
theorem forL_cons (g : MG) (b : MS) (x : D) (xs st : List D) : forL g b (x :: xs) st = (tgR (g x st) b).lp (forL g b xs) := by
  simp only [forL, tgR, RS.lp]
  cases g x st with
  | none => rfl
  | some st1 => simp only; cases b st1 <;> rfl
/-! #### the def's frame -/
def RS.fr (r : RS) (ms : List Md) : FR := match r with
  | .nx st => .ok .non (outsOf ms st)
  | .rt d st => .ok d (outsOf ms st)
  | .ex e st => .ex e (outsOf ms st)
  | _ => .stuck
@[simp] theorem fr_nx (ms : List Md) (st : List D) : (RS.nx st).fr ms = .ok .non (outsOf ms st) := rfl
@[simp] theorem fr_rt (ms : List Md) (d : D) (st : List D) : (RS.rt d st).fr ms = .ok d (outsOf ms st) := rfl
@[simp] theorem fr_ex (ms : List Md) (e : Ex) (st : List D) : (RS.ex e st).fr ms = .ex e (outsOf ms st) := rfl
theorem runF_eq (ms : List Md) (n : Nat) (m : MS) (args : List D) : runF ms n m args = (m (args ++ List.replicate (n - args.length) .un)).fr ms := by
  unfold runF RS.fr
  cases m (args ++ List.replicate (n - args.length) .un) <;> rfl
@[simp] theorem outsOf_nil (st : List D) : outsOf [] st = [] := by simp [outsOf]
@[simp] theorem outsOf_io (ms : List Md) (d : D) (st : List D) : outsOf (.io :: ms) (d :: st) = d :: outsOf ms st := by simp [outsOf]
@[simp] theorem outsOf_bo (ms : List Md) (d : D) (st : List D) : outsOf (.bo :: ms) (d :: st) = .un :: outsOf ms st := by simp [outsOf]
@[simp] theorem outsOf_fz (ms : List Md) (d : D) (st : List D) : outsOf (.fz :: ms) (d :: st) = .un :: outsOf ms st := by simp [outsOf]
/-! #### trees -/
@[simp] theorem set_lst_own (g : Fl) (xs : List D) : D.set g (.nd (.lst .own) xs) = .nd (.lst g) (D.setL g xs) := by simp [D.set, Kd.fl, Kd.with]
@[simp] theorem set_lst_bor (g : Fl) (xs : List D) : D.set g (.nd (.lst .bor) xs) = .nd (.lst .bor) (D.setL g xs) := by simp [D.set, Kd.fl]
@[simp] theorem set_lst_fz (g : Fl) (xs : List D) : D.set g (.nd (.lst .fz) xs) = .nd (.lst .fz) (D.setL g xs) := by simp [D.set, Kd.fl]
@[simp] theorem set_tup (g : Fl) (xs : List D) : D.set g (.nd .tup xs) = .nd .tup (D.setL g xs) := by simp [D.set, Kd.fl]
@[simp] theorem set_int (g : Fl) (i : Int) : D.set g (.int i) = .int i := by simp [D.set]
@[simp] theorem set_bl (g : Fl) (i : Bool) : D.set g (.bl i) = .bl i := by simp [D.set]
@[simp] theorem set_str (g : Fl) (i : Str) : D.set g (.str i) = .str i := by simp [D.set]
@[simp] theorem set_non (g : Fl) : D.set g .non = .non := by simp [D.set]
@[simp] theorem set_un (g : Fl) : D.set g .un = .un := by simp [D.set]
@[simp] theorem set_scr (g : Fl) (ns : List Int) : D.set g (.scr ns) = .scr ns := by simp [D.set]
@[simp] theorem setL_nil (g : Fl) : D.setL g [] = [] := by simp [D.setL]
@[simp] theorem setL_cons (g : Fl) (d : D) (r : List D) : D.setL g (d :: r) = D.set g d :: D.setL g r := by simp [D.setL]
@[simp] theorem setL_app (g : Fl) (xs ys : List D) : D.setL g (xs ++ ys) = D.setL g xs ++ D.setL g ys := by simp [D.setL_map]
@[simp] theorem setL_ints (g : Fl) (xs : List Int) : D.setL g (xs.map D.int) = xs.map D.int := by
  rw [D.setL_map, List.map_map]
  exact List.map_congr_left fun x _ => by simp
@[simp] theorem setL_length (g : Fl) (xs : List D) : (D.setL g xs).length = xs.length := by simp [D.setL_map]
@[simp] theorem noBor_int (i : Int) : D.noBor (.int i) = true := by simp [D.noBor]
@[simp] theorem noBor_bl (i : Bool) : D.noBor (.bl i) = true := by simp [D.noBor]
@[simp] theorem noBor_str (i : Str) : D.noBor (.str i) = true := by simp [D.noBor]
@[simp] theorem noBor_non : D.noBor .non = true := by simp [D.noBor]
@[simp] theorem noBor_un : D.noBor .un = true := by simp [D.noBor]
@[simp] theorem noBor_own (xs : List D) : D.noBor (.nd (.lst .own) xs) = D.noBorL xs := by simp [D.noBor, Kd.fl]
@[simp] theorem noBor_fz (xs : List D) : D.noBor (.nd (.lst .fz) xs) = D.noBorL xs := by simp [D.noBor, Kd.fl]
@[simp] theorem noBor_tup (xs : List D) : D.noBor (.nd .tup xs) = D.noBorL xs := by simp [D.noBor, Kd.fl]
@[simp] theorem noBorL_nil : D.noBorL [] = true := by simp [D.noBorL]
@[simp] theorem noBorL_cons (d : D) (r : List D) : D.noBorL (d :: r) = (D.noBor d && D.noBorL r) := by simp [D.noBorL]
@[simp] theorem noBorL_app : ∀ (xs ys : List D), D.noBorL (xs ++ ys) = (D.noBorL xs && D.noBorL ys)
  | [], ys => by simp
  | x :: xs, ys => by simp [noBorL_app xs ys, Bool.and_assoc]
theorem noBorL_all : ∀ (xs : List D), D.noBorL xs = xs.all D.noBor
  | [] => by simp
  | x :: xs => by simp [noBorL_all xs]
@[simp] theorem noBorL_ints (xs : List Int) : D.noBorL (xs.map D.int) = true := by simp [noBorL_all]
/-! a row of pairs -/
def pD (p : Int × Int) : D := .nd .tup [.int p.1, .int p.2]
@[simp] theorem set_pD (g : Fl) (p : Int × Int) : D.set g (pD p) = pD p := by simp [pD]
@[simp] theorem setL_pDs (g : Fl) (xs : List (Int × Int)) : D.setL g (xs.map pD) = xs.map pD := by
  rw [D.setL_map, List.map_map]
  exact List.map_congr_left fun x _ => by simp
@[simp] theorem noBor_pD (p : Int × Int) : D.noBor (pD p) = true := by simp [pD]
@[simp] theorem noBorL_pDs (xs : List (Int × Int)) : D.noBorL (xs.map pD) = true := by simp [noBorL_all]
theorem ixN_int {n : Nat} {i : Int} (h0 : 0 ≤ i) (h : i < n) : ixN n i = some i.toNat := by
  unfold ixN
  rw [if_pos h0, if_pos h]
theorem ixN_neg {n : Nat} {i : Int} (h0 : i < 0) (h : -(n : Int) ≤ i) : ixN n i = some (i + n).toNat := by
  unfold ixN
  rw [if_neg (by omega), if_pos h]
@[simp] theorem CMul_eq (i j : Int) : CMul i j ↔ ((-18446744073709551616 < i ∧ i < 18446744073709551616) ∨ (-18446744073709551616 < j ∧ j < 18446744073709551616)) := Iff.rfl
@[simp] theorem RgOk_eq (a b : Int) : RgOk a b ↔ (-4611686018427387904 ≤ a ∧ a < 4611686018427387904 ∧ -4611686018427387904 ≤ b ∧ b < 4611686018427387904 ∧ (b - a).toNat ≤ 16777216) := Iff.rfl
theorem log2_ok {n : Nat} (h : n < 10000000000000000000000000000000000000000000000000000000000000000000000) : n.log2 < 9000 := by
  by_cases h0 : n = 0
  · subst h0; decide
  · rw [Nat.log2_lt h0]
    exact Nat.lt_trans h (by decide +kernel)
@[simp] theorem log2_okT {n : Nat} (h : n < 10000000000000000000000000000000000000000000000000000000000000000000000) : (n.log2 < 9000) = True := eq_true (log2_ok h)
/-! #### what holds of a def's end -/
def FR.sat (r : FR) (P : D → List D → Prop) : Prop := ∃ d o, r = .ok d o ∧ P d o
/-- cut behind a statement -/
theorem seq_cut {m n : MS} {st : List D} {ms : List Md} {P0 : D → List D → Prop} (P : List D → Prop) (h1 : ∃ st1, m st = .nx st1 ∧ P st1) (h2 : ∀ st1, P st1 → ((n st1).fr ms).sat P0) : ((mSeq m n st).fr ms).sat P0 := by
  obtain ⟨st1, e, h⟩ := h1
  rw [mSeq_eq, e, sq_nx]
  exact h2 st1 h
/-- a turn's end: continue is next -/
def RS.tn (r : RS) : RS := match r with
  | .ct st => .nx st
  | r => r
@[simp] theorem tn_nx (st : List D) : (RS.nx st).tn = .nx st := rfl
@[simp] theorem tn_ct (st : List D) : (RS.ct st).tn = .nx st := rfl
@[simp] theorem tn_bk (st : List D) : (RS.bk st).tn = .bk st := rfl
@[simp] theorem tn_rt (d : D) (st : List D) : (RS.rt d st).tn = .rt d st := rfl
@[simp] theorem tn_ex (d : Ex) (st : List D) : (RS.ex d st).tn = .ex d st := rfl
theorem lp_tn (r : RS) (f : List D → RS) : r.tn.lp f = r.lp f := by cases r <;> rfl
/-- a loop by an invariant over what is behind and what is ahead -/
theorem forL_inv {α : Type} {g : MG} {b : MS} {f : α → D} (P : List α → List α → List D → Prop) (h : ∀ pre x post st, P pre (x :: post) st → ∃ st2, (tgR (g (f x) st) b).tn = .nx st2 ∧ P (pre ++ [x]) post st2) :
    ∀ (pre xs : List α) (st : List D), P pre xs st → ∃ st', forL g b (xs.map f) st = .nx st' ∧ P (pre ++ xs) [] st'
  | pre, [], st, h0 => ⟨st, rfl, by simpa using h0⟩
  | pre, x :: xs, st, h0 => by
    obtain ⟨st2, e, h2⟩ := h pre x xs st h0
    obtain ⟨st', e', h'⟩ := forL_inv P h (pre ++ [x]) xs st2 h2
    refine ⟨st', ?_, by simpa using h'⟩
    rw [List.map_cons, forL_cons, ← lp_tn, e]
    simpa using e'
/-- a loop as a fold: the state is told by the fold's value and by junk -/
theorem forL_S {α β γ : Type} {g : MG} {b : MS} {f : α → D} (F : β → α → β) (S : β → γ → List D) (I : β → List α → Prop) (h : ∀ x post z w, I z (x :: post) → ∃ w', (tgR (g (f x) (S z w)) b).tn = .nx (S (F z x) w') ∧ I (F z x) post) :
    ∀ (xs : List α) (z : β) (w : γ), I z xs → ∃ w', forL g b (xs.map f) (S z w) = .nx (S (xs.foldl F z) w') ∧ I (xs.foldl F z) []
  | [], z, w, h0 => ⟨w, rfl, h0⟩
  | x :: xs, z, w, h0 => by
    obtain ⟨w2, e, h2⟩ := h x xs z w h0
    obtain ⟨w', e', h'⟩ := forL_S F S I h xs _ w2 h2
    refine ⟨w', ?_, h'⟩
    rw [List.map_cons, forL_cons, ← lp_tn, e]
    simpa using e'
end PV

namespace PV
open PySem L2
/-! ### indexes -/
@[simp] theorem ixN_last (n : Nat) : ixN (n + 1) (-1) = some n := by
  rw [ixN_neg (by decide) (by omega)]
  congr 1
  omega
@[simp] theorem ixN_zero (n : Nat) : ixN (n + 1) 0 = some 0 := by rw [ixN_int (by decide) (by omega)]; rfl
@[simp] theorem ixN_21 : ixN 2 1 = some 1 := rfl
@[simp] theorem ixN_31 : ixN 3 1 = some 1 := rfl
@[simp] theorem ixN_32 : ixN 3 2 = some 2 := rfl
@[simp] theorem ixN_41 : ixN 4 1 = some 1 := rfl
@[simp] theorem ixN_42 : ixN 4 2 = some 2 := rfl
@[simp] theorem ixN_43 : ixN 4 3 = some 3 := rfl
@[simp] theorem set_last {α : Type} (xs : List α) (x y : α) : (xs ++ [x]).set xs.length y = xs ++ [y] := by
  simp [List.set_append_right]
@[simp] theorem set_last_map {α β : Type} (f : α → β) (xs : List α) (x y : β) : (xs.map f ++ [x]).set xs.length y = xs.map f ++ [y] := by
  have := set_last (xs.map f) x y
  rwa [List.length_map] at this
@[simp] theorem get_last {α : Type} (xs : List α) (x : α) : (xs ++ [x])[xs.length]? = some x := by simp
@[simp] theorem get_last_map {α β : Type} (f : α → β) (xs : List α) (x : β) : (xs.map f ++ [x])[xs.length]? = some x := by
  have := get_last (xs.map f) x
  rwa [List.length_map] at this
theorem nil_or_last {α : Type} (xs : List α) : xs = [] ∨ ∃ init x, xs = init ++ [x] := by
  rcases List.eq_nil_or_concat xs with h | ⟨i, x, h⟩
  · exact .inl h
  · exact .inr ⟨i, x, by simpa using h⟩
/-! ### plain data, and == of it -/
mutual
def D.ok : D → Nat → Bool
  | .non, _ => true
  | .bl _, _ => true
  | .int _, _ => true
  | .str s, _ => PySem.PyData.strOk s
  | .nd (.lst _) xs, n + 1 => D.okL xs n
  | .nd .tup xs, n + 1 => D.okL xs n
  | _, _ => false
def D.okL : List D → Nat → Bool
  | [], _ => true
  | x :: xs, n => D.ok x n && D.okL xs n
end
mutual
def D.eqv : D → D → Bool
  | .non, .non => true
  | .bl a, .bl b => a == b
  | .bl a, .int j => (if a then 1 else 0) == j
  | .int i, .bl b => i == (if b then 1 else 0)
  | .int i, .int j => i == j
  | .str x, .str y => x == y
  | .nd (.lst _) xs, .nd (.lst _) ys => D.eqvL xs ys
  | .nd .tup xs, .nd .tup ys => D.eqvL xs ys
  | _, _ => false
def D.eqvL : List D → List D → Bool
  | [], [] => true
  | x :: xs, y :: ys => D.eqv x y && D.eqvL xs ys
  | _, _ => false
end
mutual
theorem ok_py : ∀ (x : D) (n : Nat), D.ok x n = true → ∃ p, toPy x = some p ∧ p.canLay0 = true ∧ p.depth ≤ n
  | .non, n, _ => ⟨.none, rfl, rfl, by simp [PyData.depth]⟩
  | .bl b, n, _ => ⟨.bool b, rfl, rfl, by simp [PyData.depth]⟩
  | .int b, n, _ => ⟨.int b, rfl, rfl, by simp [PyData.depth]⟩
  | .str s, n, h => ⟨.str s, rfl, by simpa [D.ok, PyData.canLay0] using h, by simp [PyData.depth]⟩
  | .nd (.lst _) xs, n + 1, h => by
    simp only [D.ok] at h
    obtain ⟨l, e, c, d⟩ := ok_pyL xs n h
    exact ⟨.list l, by simp [toPy, e], by simpa [PyData.canLay0] using c, by simpa [PyData.depth] using d⟩
  | .nd .tup xs, n + 1, h => by
    simp only [D.ok] at h
    obtain ⟨l, e, c, d⟩ := ok_pyL xs n h
    exact ⟨.tuple l, by simp [toPy, e], by simpa [PyData.canLay0] using c, by simpa [PyData.depth] using d⟩
  | .nd (.lst _) xs, 0, h => by simp [D.ok] at h
  | .nd .tup xs, 0, h => by simp [D.ok] at h
  | .nd (.dct _ _) xs, n, h => by simp [D.ok] at h
  | .nd (.ins _ _ _) xs, n, h => by simp [D.ok] at h
  | .un, n, h => by simp [D.ok] at h
  | .scr _, n, h => by simp [D.ok] at h
theorem ok_pyL : ∀ (xs : List D) (n : Nat), D.okL xs n = true → ∃ l, toPyL xs = some l ∧ PyData.canLayAll0 l = true ∧ PyData.depthAll l ≤ n
  | [], n, _ => ⟨[], rfl, rfl, by simp [PyData.depthAll]⟩
  | x :: xs, n, h => by
    simp only [D.okL, Bool.and_eq_true] at h
    obtain ⟨p, e1, c1, d1⟩ := ok_py x n h.1
    obtain ⟨l, e2, c2, d2⟩ := ok_pyL xs n h.2
    exact ⟨p :: l, by simp [toPyL, e1, e2], by simp [PyData.canLayAll0, c1, c2], by simp only [PyData.depthAll]; omega⟩
end
mutual
theorem eqv_py : ∀ (x y : D) (p q : PyData), toPy x = some p → toPy y = some q → PyData.eqv p q = D.eqv x y
  | .un, _, _, _, hp, _ => by simp [toPy] at hp
  | .scr _, _, _, _, hp, _ => by simp [toPy] at hp
  | .nd (.dct _ _) _, _, _, _, hp, _ => by simp [toPy] at hp
  | .nd (.ins _ _ _) _, _, _, _, hp, _ => by simp [toPy] at hp
  | .non, y, p, q, hp, hq => by
    simp only [toPy] at hp; cases hp
    cases y with
    | nd k xs => cases k <;> simp only [toPy] at hq <;> first | cases hq | (cases e : toPyL xs <;> rw [e] at hq <;> cases hq; simp [PyData.eqv, D.eqv])
    | _ => simp only [toPy] at hq <;> cases hq <;> simp [PyData.eqv, D.eqv]
  | .bl b, y, p, q, hp, hq => by
    simp only [toPy] at hp; cases hp
    cases y with
    | nd k xs => cases k <;> simp only [toPy] at hq <;> first | cases hq | (cases e : toPyL xs <;> rw [e] at hq <;> cases hq; simp [PyData.eqv, D.eqv])
    | _ => simp only [toPy] at hq <;> cases hq <;> simp [PyData.eqv, D.eqv]
  | .int b, y, p, q, hp, hq => by
    simp only [toPy] at hp; cases hp
    cases y with
    | nd k xs => cases k <;> simp only [toPy] at hq <;> first | cases hq | (cases e : toPyL xs <;> rw [e] at hq <;> cases hq; simp [PyData.eqv, D.eqv])
    | _ => simp only [toPy] at hq <;> cases hq <;> simp [PyData.eqv, D.eqv]
  | .str b, y, p, q, hp, hq => by
    simp only [toPy] at hp; cases hp
    cases y with
    | nd k xs => cases k <;> simp only [toPy] at hq <;> first | cases hq | (cases e : toPyL xs <;> rw [e] at hq <;> cases hq; simp [PyData.eqv, D.eqv])
    | _ => simp only [toPy] at hq <;> cases hq <;> simp [PyData.eqv, D.eqv]
  | .nd (.lst _) xs, y, p, q, hp, hq => by
    simp only [toPy] at hp
    cases e1 : toPyL xs with
    | none => rw [e1] at hp; cases hp
    | some l =>
      rw [e1] at hp; cases hp
      cases y with
      | nd k ys =>
        cases k with
        | lst g =>
          simp only [toPy] at hq
          cases e2 : toPyL ys with
          | none => rw [e2] at hq; cases hq
          | some m =>
            rw [e2] at hq; cases hq
            simp only [PyData.eqv, D.eqv]
            exact eqv_pyL xs ys l m e1 e2
        | tup =>
          simp only [toPy] at hq
          cases e2 : toPyL ys with
          | none => rw [e2] at hq; cases hq
          | some m =>
            rw [e2] at hq; cases hq
            simp [PyData.eqv, D.eqv]
        | dct g ks => simp [toPy] at hq
        | ins g c ns => simp [toPy] at hq
      | _ => simp only [toPy] at hq <;> cases hq <;> simp [PyData.eqv, D.eqv]
  | .nd .tup xs, y, p, q, hp, hq => by
    simp only [toPy] at hp
    cases e1 : toPyL xs with
    | none => rw [e1] at hp; cases hp
    | some l =>
      rw [e1] at hp; cases hp
      cases y with
      | nd k ys =>
        cases k with
        | lst g =>
          simp only [toPy] at hq
          cases e2 : toPyL ys with
          | none => rw [e2] at hq; cases hq
          | some m =>
            rw [e2] at hq; cases hq
            simp [PyData.eqv, D.eqv]
        | tup =>
          simp only [toPy] at hq
          cases e2 : toPyL ys with
          | none => rw [e2] at hq; cases hq
          | some m =>
            rw [e2] at hq; cases hq
            simp only [PyData.eqv, D.eqv]
            exact eqv_pyL xs ys l m e1 e2
        | dct g ks => simp [toPy] at hq
        | ins g c ns => simp [toPy] at hq
      | _ => simp only [toPy] at hq <;> cases hq <;> simp [PyData.eqv, D.eqv]
theorem eqv_pyL : ∀ (xs ys : List D) (p q : List PyData), toPyL xs = some p → toPyL ys = some q → PyData.eqvAll p q = D.eqvL xs ys
  | [], [], p, q, hp, hq => by simp only [toPyL] at hp hq; cases hp; cases hq; simp [PyData.eqvAll, D.eqvL]
  | x :: xs, y :: ys, p, q, hp, hq => by
    simp only [toPyL] at hp hq
    cases a1 : toPy x <;> cases a2 : toPyL xs <;> rw [a1, a2] at hp <;> simp only at hp <;> cases hp
    cases b1 : toPy y <;> cases b2 : toPyL ys <;> rw [b1, b2] at hq <;> simp only at hq <;> cases hq
    simp only [PyData.eqvAll, D.eqvL]
    rw [eqv_py x y _ _ a1 b1, eqv_pyL xs ys _ _ a2 b2]
  | [], y :: ys, p, q, hp, hq => by
    simp only [toPyL] at hp hq; cases hp
    cases b1 : toPy y <;> cases b2 : toPyL ys <;> rw [b1, b2] at hq <;> simp only at hq <;> cases hq
    simp [PyData.eqvAll, D.eqvL]
  | x :: xs, [], p, q, hp, hq => by
    simp only [toPyL] at hp hq; cases hq
    cases a1 : toPy x <;> cases a2 : toPyL xs <;> rw [a1, a2] at hp <;> simp only at hp <;> cases hp
    simp [PyData.eqvAll, D.eqvL]
end
theorem eqD_ok {x y : D} (hx : D.ok x 60 = true) (hy : D.ok y 60 = true) : eqD x y = some (D.eqv x y) := by
  obtain ⟨p, e1, c1, d1⟩ := ok_py x 60 hx
  obtain ⟨q, e2, c2, d2⟩ := ok_py y 60 hy
  unfold eqD
  rw [e1, e2]
  simp only
  have s1 : SeqAt.shaped p = true := by simp [SeqAt.shaped, c1]; omega
  have s2 : SeqAt.shaped q = true := by simp [SeqAt.shaped, c2]; omega
  have s3 : eqb p q = true := by unfold eqb; rw [s1, s2]; rfl
  rw [if_pos s3]
  simp [eqv_py x y p q e1 e2]
mutual
theorem ok_more : ∀ (x : D) (n m : Nat), n ≤ m → D.ok x n = true → D.ok x m = true
  | .non, n, m, _, _ => rfl
  | .bl b, n, m, _, _ => rfl
  | .int b, n, m, _, _ => rfl
  | .str s, n, m, _, h => by simpa [D.ok] using h
  | .nd (.lst _) xs, n + 1, m + 1, h, e => by simp only [D.ok] at e ⊢; exact ok_moreL xs n m (by omega) e
  | .nd .tup xs, n + 1, m + 1, h, e => by simp only [D.ok] at e ⊢; exact ok_moreL xs n m (by omega) e
  | .nd (.lst _) xs, n + 1, 0, h, e => by omega
  | .nd .tup xs, n + 1, 0, h, e => by omega
  | .nd (.lst _) xs, 0, m, _, h => by simp [D.ok] at h
  | .nd .tup xs, 0, m, _, h => by simp [D.ok] at h
  | .nd (.dct _ _) xs, n, m, _, h => by simp [D.ok] at h
  | .nd (.ins _ _ _) xs, n, m, _, h => by simp [D.ok] at h
  | .un, n, m, _, h => by simp [D.ok] at h
  | .scr _, n, m, _, h => by simp [D.ok] at h
theorem ok_moreL : ∀ (x : List D) (n m : Nat), n ≤ m → D.okL x n = true → D.okL x m = true
  | [], n, m, _, _ => by simp [D.okL]
  | x :: xs, n, m, h, e => by
    simp only [D.okL, Bool.and_eq_true] at e ⊢
    exact ⟨ok_more x n m h e.1, ok_moreL xs n m h e.2⟩
end
@[simp] theorem ok_non (n : Nat) : D.ok .non n = true := by simp [D.ok]
@[simp] theorem ok_bl (b : Bool) (n : Nat) : D.ok (.bl b) n = true := by simp [D.ok]
@[simp] theorem ok_int (b : Int) (n : Nat) : D.ok (.int b) n = true := by simp [D.ok]
@[simp] theorem ok_str (b : Str) (n : Nat) : D.ok (.str b) n = PySem.PyData.strOk b := by simp [D.ok]
@[simp] theorem ok_lst (f : Fl) (xs : List D) (n : Nat) : D.ok (.nd (.lst f) xs) (n + 1) = D.okL xs n := by simp [D.ok]
@[simp] theorem ok_tup (xs : List D) (n : Nat) : D.ok (.nd .tup xs) (n + 1) = D.okL xs n := by simp [D.ok]
@[simp] theorem okL_nil (n : Nat) : D.okL [] n = true := by simp [D.okL]
@[simp] theorem okL_cons (x : D) (xs : List D) (n : Nat) : D.okL (x :: xs) n = (D.ok x n && D.okL xs n) := by simp [D.okL]
theorem okL_all (n : Nat) : ∀ xs : List D, D.okL xs n = xs.all fun x => D.ok x n
  | [] => by simp
  | x :: xs => by simp [okL_all n xs]
@[simp] theorem okL_app (n : Nat) (xs ys : List D) : D.okL (xs ++ ys) n = (D.okL xs n && D.okL ys n) := by simp [okL_all]
@[simp] theorem okL_ints (n : Nat) (xs : List Int) : D.okL (xs.map D.int) n = true := by simp [okL_all]
@[simp] theorem ok_pD (p : Int × Int) (n : Nat) : D.ok (pD p) (n + 1) = true := by simp [pD]
@[simp] theorem okL_pDs (n : Nat) (xs : List (Int × Int)) : D.okL (xs.map pD) (n + 1) = true := by simp [okL_all]
@[simp] theorem eqv_int (i j : Int) : D.eqv (.int i) (.int j) = decide (i = j) := by simp only [D.eqv]; by_cases h : i = j <;> simp [h]
@[simp] theorem eqv_lst (f g : Fl) (xs ys : List D) : D.eqv (.nd (.lst f) xs) (.nd (.lst g) ys) = D.eqvL xs ys := by simp only [D.eqv]
@[simp] theorem eqv_tup (xs ys : List D) : D.eqv (.nd .tup xs) (.nd .tup ys) = D.eqvL xs ys := by simp only [D.eqv]
@[simp] theorem eqv_bl (i j : Bool) : D.eqv (.bl i) (.bl j) = (i == j) := by simp only [D.eqv]
@[simp] theorem eqv_str (i j : Str) : D.eqv (.str i) (.str j) = (i == j) := by simp only [D.eqv]
@[simp] theorem eqvL_nil : D.eqvL [] [] = true := by simp only [D.eqvL]
@[simp] theorem eqvL_cons (x y : D) (xs ys : List D) : D.eqvL (x :: xs) (y :: ys) = (D.eqv x y && D.eqvL xs ys) := by simp only [D.eqvL]
@[simp] theorem eqvL_nc (y : D) (ys : List D) : D.eqvL [] (y :: ys) = false := by simp only [D.eqvL]
@[simp] theorem eqvL_cn (y : D) (ys : List D) : D.eqvL (y :: ys) [] = false := by simp only [D.eqvL]
theorem eqvL_map {α : Type} [DecidableEq α] {f g : α → D} (h : ∀ x y, D.eqv (f x) (g y) = decide (x = y)) : ∀ xs ys : List α, D.eqvL (xs.map f) (ys.map g) = decide (xs = ys)
  | [], [] => by simp
  | [], y :: ys => by simp
  | x :: xs, [] => by simp
  | x :: xs, y :: ys => by
    simp only [List.map_cons, eqvL_cons, h, eqvL_map h xs ys, List.cons.injEq]
    by_cases a : x = y <;> simp [a]
@[simp] theorem eqvL_ints (xs ys : List Int) : D.eqvL (xs.map D.int) (ys.map D.int) = decide (xs = ys) := eqvL_map (by simp) xs ys
@[simp] theorem eqv_pD (p q : Int × Int) : D.eqv (pD p) (pD q) = decide (p = q) := by
  obtain ⟨a, b⟩ := p
  obtain ⟨c, d⟩ := q
  simp only [pD, eqv_tup, eqvL_cons, eqv_int, eqvL_nil, Bool.and_true, Prod.mk.injEq]
  by_cases h1 : a = c <;> by_cases h2 : b = d <;> simp [h1, h2]
@[simp] theorem eqvL_pDs (xs ys : List (Int × Int)) : D.eqvL (xs.map pD) (ys.map pD) = decide (xs = ys) := eqvL_map (by simp) xs ys
@[simp] theorem eqD_ints (i j : Int) : eqD (.int i) (.int j) = some (decide (i = j)) := by rw [eqD_ok (by simp) (by simp)]; simp
@[simp] theorem eqD_bls (i j : Bool) : eqD (.bl i) (.bl j) = some (i == j) := by rw [eqD_ok (by simp) (by simp)]; simp
/-! ### sameness of data: kinds and values -/
mutual
def D.same : D → D → Bool
  | .non, .non => true
  | .bl a, .bl b => a == b
  | .int i, .int j => i == j
  | .str x, .str y => x == y
  | .nd (.lst _) xs, .nd (.lst _) ys => D.sameL xs ys
  | .nd .tup xs, .nd .tup ys => D.sameL xs ys
  | _, _ => false
def D.sameL : List D → List D → Bool
  | [], [] => true
  | x :: xs, y :: ys => D.same x y && D.sameL xs ys
  | _, _ => false
end
@[simp] theorem same_int (i j : Int) : D.same (.int i) (.int j) = decide (i = j) := by simp only [D.same]; by_cases h : i = j <;> simp [h]
@[simp] theorem same_lst (f g : Fl) (xs ys : List D) : D.same (.nd (.lst f) xs) (.nd (.lst g) ys) = D.sameL xs ys := by simp only [D.same]
@[simp] theorem same_tup (xs ys : List D) : D.same (.nd .tup xs) (.nd .tup ys) = D.sameL xs ys := by simp only [D.same]
@[simp] theorem same_bl (i j : Bool) : D.same (.bl i) (.bl j) = (i == j) := by simp only [D.same]
@[simp] theorem same_str (i j : Str) : D.same (.str i) (.str j) = (i == j) := by simp only [D.same]
@[simp] theorem same_non : D.same .non .non = true := by simp only [D.same]
@[simp] theorem sameL_nil : D.sameL [] [] = true := by simp only [D.sameL]
@[simp] theorem sameL_cons (x y : D) (xs ys : List D) : D.sameL (x :: xs) (y :: ys) = (D.same x y && D.sameL xs ys) := by simp only [D.sameL]
@[simp] theorem sameL_nc (y : D) (ys : List D) : D.sameL [] (y :: ys) = false := by simp only [D.sameL]
@[simp] theorem sameL_cn (y : D) (ys : List D) : D.sameL (y :: ys) [] = false := by simp only [D.sameL]
@[simp] theorem same_nl (f : Fl) (xs : List D) : D.same .non (.nd (.lst f) xs) = false := by simp [D.same]
theorem sameL_map {α : Type} [DecidableEq α] {f g : α → D} (h : ∀ x y, D.same (f x) (g y) = decide (x = y)) : ∀ xs ys : List α, D.sameL (xs.map f) (ys.map g) = decide (xs = ys)
  | [], [] => by simp
  | [], y :: ys => by simp
  | x :: xs, [] => by simp
  | x :: xs, y :: ys => by
    simp only [List.map_cons, sameL_cons, h, sameL_map h xs ys, List.cons.injEq]
    by_cases a : x = y <;> simp [a]
@[simp] theorem sameL_ints (xs ys : List Int) : D.sameL (xs.map D.int) (ys.map D.int) = decide (xs = ys) := sameL_map (by simp) xs ys
@[simp] theorem same_pD (p q : Int × Int) : D.same (pD p) (pD q) = decide (p = q) := by
  obtain ⟨a, b⟩ := p
  obtain ⟨c, d⟩ := q
  simp only [pD, same_tup, sameL_cons, same_int, sameL_nil, Bool.and_true, Prod.mk.injEq]
  by_cases h1 : a = c <;> by_cases h2 : b = d <;> simp [h1, h2]
@[simp] theorem sameL_pDs (xs ys : List (Int × Int)) : D.sameL (xs.map pD) (ys.map pD) = decide (xs = ys) := sameL_map (by simp) xs ys
/-! isinstance of data -/
@[simp] theorem isi_int_non : isiD "int" .non = some false := by rfl
@[simp] theorem isi_int_bl (b : Bool) : isiD "int" (.bl b) = some true := by rfl
@[simp] theorem isi_int_int (i : Int) : isiD "int" (.int i) = some true := by rfl
@[simp] theorem isi_int_str (z : Str) : isiD "int" (.str z) = some false := by rfl
@[simp] theorem isi_int_lst (f : Fl) (xs : List D) : isiD "int" (.nd (.lst f) xs) = some false := by rfl
@[simp] theorem isi_int_tup (xs : List D) : isiD "int" (.nd .tup xs) = some false := by rfl
@[simp] theorem isi_str_non : isiD "str" .non = some false := by rfl
@[simp] theorem isi_str_bl (b : Bool) : isiD "str" (.bl b) = some false := by rfl
@[simp] theorem isi_str_int (i : Int) : isiD "str" (.int i) = some false := by rfl
@[simp] theorem isi_str_str (z : Str) : isiD "str" (.str z) = some true := by rfl
@[simp] theorem isi_str_lst (f : Fl) (xs : List D) : isiD "str" (.nd (.lst f) xs) = some false := by rfl
@[simp] theorem isi_str_tup (xs : List D) : isiD "str" (.nd .tup xs) = some false := by rfl
@[simp] theorem isi_bool_non : isiD "bool" .non = some false := by rfl
@[simp] theorem isi_bool_bl (b : Bool) : isiD "bool" (.bl b) = some true := by rfl
@[simp] theorem isi_bool_int (i : Int) : isiD "bool" (.int i) = some false := by rfl
@[simp] theorem isi_bool_str (z : Str) : isiD "bool" (.str z) = some false := by rfl
@[simp] theorem isi_bool_lst (f : Fl) (xs : List D) : isiD "bool" (.nd (.lst f) xs) = some false := by rfl
@[simp] theorem isi_bool_tup (xs : List D) : isiD "bool" (.nd .tup xs) = some false := by rfl
@[simp] theorem isi_list_non : isiD "list" .non = some false := by rfl
@[simp] theorem isi_list_bl (b : Bool) : isiD "list" (.bl b) = some false := by rfl
@[simp] theorem isi_list_int (i : Int) : isiD "list" (.int i) = some false := by rfl
@[simp] theorem isi_list_str (z : Str) : isiD "list" (.str z) = some false := by rfl
@[simp] theorem isi_list_lst (f : Fl) (xs : List D) : isiD "list" (.nd (.lst f) xs) = some true := by rfl
@[simp] theorem isi_list_tup (xs : List D) : isiD "list" (.nd .tup xs) = some false := by rfl
@[simp] theorem isi_tuple_non : isiD "tuple" .non = some false := by rfl
@[simp] theorem isi_tuple_bl (b : Bool) : isiD "tuple" (.bl b) = some false := by rfl
@[simp] theorem isi_tuple_int (i : Int) : isiD "tuple" (.int i) = some false := by rfl
@[simp] theorem isi_tuple_str (z : Str) : isiD "tuple" (.str z) = some false := by rfl
@[simp] theorem isi_tuple_lst (f : Fl) (xs : List D) : isiD "tuple" (.nd (.lst f) xs) = some false := by rfl
@[simp] theorem isi_tuple_tup (xs : List D) : isiD "tuple" (.nd .tup xs) = some true := by rfl
@[simp] theorem isNonD_non : isNonD .non = true := rfl
@[simp] theorem isNonD_bl (b : Bool) : isNonD (.bl b) = false := rfl
@[simp] theorem isNonD_int (b : Int) : isNonD (.int b) = false := rfl
@[simp] theorem isNonD_str (b : Str) : isNonD (.str b) = false := rfl
@[simp] theorem isNonD_nd (k : Kd) (xs : List D) : isNonD (.nd k xs) = false := rfl
@[simp] theorem set_dct (g f : Fl) (ks : List Key) (xs : List D) : D.set g (.nd (.dct f ks) xs) = .nd (.dct (if f = .own then g else f) ks) (D.setL g xs) := by cases f <;> simp [D.set, Kd.fl, Kd.with]
@[simp] theorem set_ins (g f : Fl) (c : Str) (ns : List Str) (xs : List D) : D.set g (.nd (.ins f c ns) xs) = .nd (.ins (if f = .own then g else f) c ns) (D.setL g xs) := by cases f <;> simp [D.set, Kd.fl, Kd.with]
mutual
@[simp] theorem set_after_fz (g : Fl) : ∀ (x : D), D.set g (D.set .fz x) = D.set .fz x
  | .nd (.lst f) xs => by cases f <;> simp [setL_after_fz g xs]
  | .nd .tup xs => by simp [setL_after_fz g xs]
  | .nd (.dct f ks) xs => by cases f <;> simp [setL_after_fz g xs]
  | .nd (.ins f c ns) xs => by cases f <;> simp [setL_after_fz g xs]
  | .non => by simp
  | .un => by simp
  | .bl b => by simp
  | .int b => by simp
  | .str b => by simp
  | .scr b => by simp
@[simp] theorem setL_after_fz (g : Fl) : ∀ (xs : List D), D.setL g (D.setL .fz xs) = D.setL .fz xs
  | [] => by simp
  | x :: xs => by simp [set_after_fz g x, setL_after_fz g xs]
end
mutual
@[simp] theorem set_after_bor (g : Fl) : ∀ (x : D), D.set g (D.set .bor x) = D.set .bor x
  | .nd (.lst f) xs => by cases f <;> simp [setL_after_bor g xs]
  | .nd .tup xs => by simp [setL_after_bor g xs]
  | .nd (.dct f ks) xs => by cases f <;> simp [setL_after_bor g xs]
  | .nd (.ins f c ns) xs => by cases f <;> simp [setL_after_bor g xs]
  | .non => by simp
  | .un => by simp
  | .bl b => by simp
  | .int b => by simp
  | .str b => by simp
  | .scr b => by simp
@[simp] theorem setL_after_bor (g : Fl) : ∀ (xs : List D), D.setL g (D.setL .bor xs) = D.setL .bor xs
  | [] => by simp
  | x :: xs => by simp [set_after_bor g x, setL_after_bor g xs]
end
mutual
theorem ok_set (g : Fl) : ∀ (x : D) (n : Nat), D.ok (D.set g x) n = D.ok x n
  | .nd (.lst f) xs, 0 => by cases f <;> simp [D.ok]
  | .nd (.lst f) xs, n + 1 => by cases f <;> simp [ok_setL g xs n]
  | .nd .tup xs, 0 => by simp [D.ok]
  | .nd .tup xs, n + 1 => by simp [ok_setL g xs n]
  | .nd (.dct f ks) xs, n => by cases f <;> simp [D.set, Kd.fl, Kd.with, D.ok]
  | .nd (.ins f c ns) xs, n => by cases f <;> simp [D.set, Kd.fl, Kd.with, D.ok]
  | .non, n => by simp
  | .un, n => by simp
  | .bl b, n => by simp
  | .int b, n => by simp
  | .str b, n => by simp
  | .scr b, n => by simp
theorem ok_setL (g : Fl) : ∀ (xs : List D) (n : Nat), D.okL (D.setL g xs) n = D.okL xs n
  | [], n => by simp
  | x :: xs, n => by simp [ok_set g x n, ok_setL g xs n]
end
mutual
theorem same_set (g g' : Fl) : ∀ (x y : D), D.same (D.set g x) (D.set g' y) = D.same x y
  | .nd (.lst f) xs, .nd (.lst f') ys => by cases f <;> cases f' <;> simp [same_setL g g' xs ys]
  | .nd .tup xs, .nd .tup ys => by simp [same_setL g g' xs ys]
  | .nd (.dct f ks) xs, y => by simp [D.same]
  | .nd (.ins f c ns) xs, y => by simp [D.same]
  | .nd (.lst f) xs, .nd .tup ys => by cases f <;> simp [D.same]
  | .nd (.lst f) xs, .nd (.dct f' ks) ys => by cases f <;> simp [D.same]
  | .nd (.lst f) xs, .nd (.ins f' c ns) ys => by cases f <;> simp [D.same]
  | .nd (.lst f) xs, .non => by cases f <;> simp [D.same]
  | .nd (.lst f) xs, .un => by cases f <;> simp [D.same]
  | .nd (.lst f) xs, .bl _ => by cases f <;> simp [D.same]
  | .nd (.lst f) xs, .int _ => by cases f <;> simp [D.same]
  | .nd (.lst f) xs, .str _ => by cases f <;> simp [D.same]
  | .nd (.lst f) xs, .scr _ => by cases f <;> simp [D.same]
  | .nd .tup xs, .nd (.lst f) ys => by cases f <;> simp [D.same]
  | .nd .tup xs, .nd (.dct f' ks) ys => by simp [D.same]
  | .nd .tup xs, .nd (.ins f' c ns) ys => by simp [D.same]
  | .nd .tup xs, .non => by simp [D.same]
  | .nd .tup xs, .un => by simp [D.same]
  | .nd .tup xs, .bl _ => by simp [D.same]
  | .nd .tup xs, .int _ => by simp [D.same]
  | .nd .tup xs, .str _ => by simp [D.same]
  | .nd .tup xs, .scr _ => by simp [D.same]
  | .non, y => by
    cases y with
    | nd k ys => cases k with
      | lst f => cases f <;> simp [D.same]
      | _ => simp [D.same]
    | _ => simp [D.same]
  | .un, y => by
    cases y with
    | nd k ys => cases k with
      | lst f => cases f <;> simp [D.same]
      | _ => simp [D.same]
    | _ => simp [D.same]
  | .bl b, y => by
    cases y with
    | nd k ys => cases k with
      | lst f => cases f <;> simp [D.same]
      | _ => simp [D.same]
    | _ => simp [D.same]
  | .int b, y => by
    cases y with
    | nd k ys => cases k with
      | lst f => cases f <;> simp [D.same]
      | _ => simp [D.same]
    | int j => simp
    | _ => simp [D.same]
  | .str b, y => by
    cases y with
    | nd k ys => cases k with
      | lst f => cases f <;> simp [D.same]
      | _ => simp [D.same]
    | _ => simp [D.same]
  | .scr b, y => by
    cases y with
    | nd k ys => cases k with
      | lst f => cases f <;> simp [D.same]
      | _ => simp [D.same]
    | _ => simp [D.same]
theorem same_setL (g g' : Fl) : ∀ (xs ys : List D), D.sameL (D.setL g xs) (D.setL g' ys) = D.sameL xs ys
  | [], [] => by simp
  | x :: xs, y :: ys => by simp [same_set g g' x y, same_setL g g' xs ys]
  | [], y :: ys => by simp
  | x :: xs, [] => by simp
end
theorem ok_cases {x : D} {n : Nat} (h : D.ok x n = true) : x = .non ∨ (∃ b, x = .bl b) ∨ (∃ i, x = .int i) ∨ (∃ s, x = .str s ∧ PySem.PyData.strOk s = true) ∨ (∃ f xs m, x = .nd (.lst f) xs ∧ n = m + 1 ∧ D.okL xs m = true) ∨ (∃ xs m, x = .nd .tup xs ∧ n = m + 1 ∧ D.okL xs m = true) := by
  match x, n, h with
  | .non, _, _ => exact .inl rfl
  | .bl b, _, _ => exact .inr (.inl ⟨b, rfl⟩)
  | .int b, _, _ => exact .inr (.inr (.inl ⟨b, rfl⟩))
  | .str b, _, h => exact .inr (.inr (.inr (.inl ⟨b, rfl, by simpa using h⟩)))
  | .nd (.lst f) xs, n + 1, h => exact .inr (.inr (.inr (.inr (.inl ⟨f, xs, n, rfl, rfl, by simpa using h⟩))))
  | .nd .tup xs, n + 1, h => exact .inr (.inr (.inr (.inr (.inr ⟨xs, n, rfl, rfl, by simpa using h⟩))))
  | .nd (.lst f) xs, 0, h => simp [D.ok] at h
  | .nd .tup xs, 0, h => simp [D.ok] at h
  | .nd (.dct _ _) xs, _, h => simp [D.ok] at h
  | .nd (.ins _ _ _) xs, _, h => simp [D.ok] at h
  | .un, _, h => simp [D.ok] at h
  | .scr _, _, h => simp [D.ok] at h
theorem plD0_ok {x : D} {n : Nat} (h : D.ok x n = true) (r : Nat) (p : Pth) : plD0 r p x = some (.sc x) ∨ plD0 r p x = some (.pth r p) := by
  rcases ok_cases h with rfl | ⟨b, rfl⟩ | ⟨b, rfl⟩ | ⟨b, rfl, _⟩ | ⟨f, xs, m, rfl, _, _⟩ | ⟨xs, m, rfl, _, _⟩ <;> simp
theorem sameL_len : ∀ {xs ys : List D}, D.sameL xs ys = true → xs.length = ys.length
  | [], [], _ => rfl
  | x :: xs, y :: ys, h => by simp at h; simp [sameL_len h.2]
  | [], y :: ys, h => by simp at h
  | x :: xs, [], h => by simp at h
@[simp] theorem noOwn_un : D.noOwn .un = true := by simp [D.noOwn]
end PV

namespace PV
open PySem L2
section
variable {X : Cx} {C : Cc} {st ds : List D} {σ : L2.St} {vs : List V} {H H' : Hp} {a b e : Expr} {pos pos' p p2 : Pos} {ss : List Stmt} {m : MS} {Dn : Ends}
/-! ### refusals: classes below ValueError -/
structure ExcC (X : Cx) (C : Cc) (x : Str) : Prop where
  at_ : ∃ a, C.CA x = some a ∧ X.mg x = some (.ref a) ∧ PySem.W.excIn X.K a [.type "ValueError", .type "Exception", .type "BaseException", .type "object"] "ValueError.__new__" = true ∧ PySem.W.keepIn X.K (.ref a) = true ∧ PySem.W.subIn X.K (.ref a) (.type "BaseException") = some true ∧ PySem.W.typeIn X.K (.ref a) = some (.type "type")
def mRaise (c : Str) : MS := fun st => .ex ⟨c, "", none⟩ st
theorem vs_raise {x m : Str} {j : Nat} (O : COk X C) (hc : X.calm = true) (E : ExcC X C x) (hg : Gl X x) (hdb : (x == ("__debug__" : Str)) = false := by decide) : VS X C (.Raise (some (.Call (.Name x p) [.Constant (.str m) j p2] [] pos)) none pos') (mRaise x) := by
  obtain ⟨a, hca, gC, q, kC, sb, ty⟩ := E.at_
  refine (ps_raise hc O.tk (pmk_own PySem.F.excBase_ValueError q gC kC (raises_own sb ty) hg hdb)).impV ?_
  rintro Dn σ H ⟨st, ds, vs, s, hl, h⟩
  exact h σ _ none [] H (by simpa [Ex.ds] using s) ⟨a, hca, rfl, rfl, rfl⟩
/-! ### try .. except X: .. -/
/-- who catches whom: told by a table -/
def Hier (K : PySem.W.Frag) (CA : Str → Option Addr) (hi : Str → Str → Option Bool) : Prop := ∀ x y b, hi x y = some b → ∀ a, CA x = some a → ∃ c, CA y = some c ∧ PySem.W.exmOne K (.ref a) (.ref c) = some b
/-- the first clause that takes it -/
def hdl (hi : Str → Str → Option Bool) (e : Ex) (st : List D) : List (Str × MS) → RS
  | [] => .ex e st
  | (y, m) :: r => match hi e.c y with
    | some true => m st
    | some false => hdl hi e st r
    | none => .stuck
def mTry (hi : Str → Str → Option Bool) (mb : MS) (hs : List (Str × MS)) : MS := fun st => match mb st with
  | .ex e st' => hdl hi e st' hs
  | r => r
/-- the clauses' suites -/
inductive VHs (X : Cx) (C : Cc) : List ExceptHandler → List (Str × MS) → Prop
  | nil : VHs X C [] []
  | cons {x : Str} {b₀ : Stmt} {suite : List Stmt} {np pos' : Pos} {hds : List ExceptHandler} {m : MS} {l : List (Str × MS)} (hg : Gl X x) (hd : (x == ("__debug__" : Str)) = false) (hm : ∃ a, C.CA x = some a ∧ X.mg x = some (.ref a))
      (hb : ∀ (a : Addr) (oe : Obj) (pn : List (Addr × Obj)), VB (X.suite a ((a, oe) :: pn)) C (b₀ :: suite) m) (r : VHs X C hds l) :
      VHs X C (.ExceptHandler (some (.Name x np)) none (b₀ :: suite) pos' :: hds) ((x, m) :: l)
theorem VHs.ok {hds : List ExceptHandler} {l : List (Str × MS)} (h : VHs X C hds l) : ∃ l', HdsOk X hds l' ∧ ∀ (O : COk X C) (hi : Str → Str → Option Bool) (Hi : Hier C.K C.CA hi) (Dn : Ends) (ds : List D) (vs : List V) (hl : ds.length = vs.length) (e : Ex) (st : List D) (cls : Value) (dx : Option Addr) (us : List V) (σ' : L2.St) (H' : Hp),
    rZ C ds vs Dn (hdl hi e st l) → SX C st (ds ++ e.ds) σ' (vs ++ us) H' → ExOk C e cls dx H' us → wMany X.K C.W Dn l' cls dx σ' H' := by
  induction h with
  | nil => exact ⟨[], .nil, fun O hi Hi Dn ds vs hl e st cls dx us σ' H' hr s k => hr σ' cls dx us H' s k⟩
  | @cons x b₀ suite np pos' hds m l hg hd hm hb r ih =>
    obtain ⟨l', h1, h2⟩ := ih
    obtain ⟨a, ca, gm⟩ := hm
    refine ⟨(.ref a, fun _ _ _ => trS C m) :: l', .cons ⟨hg, hd, .inl gm⟩ (fun a' oe cls d pn _ _ => hb a' oe pn) h1, fun O hi Hi Dn ds vs hl e st cls dx us σ' H' hr s k => ?_⟩
    obtain ⟨ae, hae, rfl, kp⟩ := id k
    unfold hdl at hr
    cases q : hi e.c x with
    | none => rw [q] at hr; exact hr.elim
    | some b =>
      rw [q] at hr
      obtain ⟨c, hc, hx⟩ := Hi _ _ _ q ae hae
      rw [ca] at hc; cases hc
      refine ⟨b, by rw [← O.k]; exact hx, fun hb' a' na => ?_, fun hb' => ?_⟩
      · subst hb'
        exact ⟨st, ds, vs, s.drop hl, hl, hr⟩
      · subst hb'
        exact h2 O hi Hi Dn ds vs hl e st _ dx us σ' H' hr s k
theorem SR.setW {Z : Addr → Prop} {os : Ct} {W : WX} (s : SR C Z st ds σ vs H os) : SR { C with W := W } Z st ds σ vs H os := ⟨s.rp, s.nd, s.ln, s.sl, s.kp, s.fr, s.al, s.bb, s.fx⟩
theorem SX.setW {W : WX} (s : SX C st ds σ vs H) : SX { C with W := W } st ds σ vs H := let ⟨Z, os, s⟩ := s; ⟨Z, os, s.setW⟩
theorem SR.getW {Z : Addr → Prop} {os : Ct} {W : WX} (s : SR { C with W := W } Z st ds σ vs H os) : SR C Z st ds σ vs H os := ⟨s.rp, s.nd, s.ln, s.sl, s.kp, s.fr, s.al, s.bb, s.fx⟩
theorem SX.getW {W : WX} (s : SX { C with W := W } st ds σ vs H) : SX C st ds σ vs H := let ⟨Z, os, s⟩ := s; ⟨Z, os, s.getW⟩
theorem vs_try {hi : Str → Str → Option Bool} {h₀ : ExceptHandler} {hds : List ExceptHandler} {l : List (Str × MS)} {body : List Stmt} {mb : MS} (O : COk X C) (Hi : Hier C.K C.CA hi) (hs : X.stack = X.env :: X.outer) (hf : X.env.frame = some X.env.locals)
    (hb : ∀ (W : WX) (pn : List (Addr × Obj)) (xe : Value → Shared → Prop), COk (X.tr pn xe) { C with W := W } → PassesOwn (model X.prog X.w) X.A X.env xe → VB (X.tr pn xe) { C with W := W } body mb)
    (hh : VHs X C (h₀ :: hds) l) : VS X C (.Try body (h₀ :: hds) [] [] pos) (mTry hi mb l) := by
  obtain ⟨l', h1, h2⟩ := hh.ok
  refine (ps_try_many (tb := fun W => trS { C with W := W } mb) hs hf O.tk (fun W pn xe tk pa => hb W pn xe ⟨O.k, tk⟩ pa) h1).impV ?_
  rintro Dn σ H ⟨st, ds, vs, s, hl, h⟩
  refine ⟨st, ds, vs, s.setW, hl, ?_⟩
  unfold mTry at h
  cases q : mb st with
  | ex e st' =>
    rw [q] at h
    intro σ' cls dx us H' s' k
    exact h2 O hi Hi Dn ds vs hl e st' cls dx us σ' H' h s'.getW k
  | stuck => rw [q] at h; exact h.elim
  | nx st' => rw [q] at h; exact fun σ' H' s' => h σ' H' s'.getW
  | rt d st' => rw [q] at h; exact fun v σ' H' s' => h v σ' H' s'.getW
  | bk st' => rw [q] at h; exact fun σ' H' s' => h σ' H' s'.getW
  | ct st' => rw [q] at h; exact fun σ' H' s' => h σ' H' s'.getW
theorem exm_of {K : PySem.W.Frag} {S T : Addr} {b : Bool} (h1 : PySem.W.subIn K (.ref T) (.type "BaseException") = some true) (h2 : PySem.W.isClsIn K T = true) (h3 : PySem.W.typeIn K (.ref T) = some (.type "type")) (h4 : PySem.W.subIn K (.ref S) (.ref T) = some b) :
    PySem.W.exmOne K (.ref S) (.ref T) = some b := by
  unfold PySem.W.exmOne PySem.W.kitCls
  rw [h1]
  have h2' : (PySem.W.clsIn K T).isSome = true := h2
  simp [h2', h3, h4]
def hiOf (t : List (Str × Str × Bool)) (x y : Str) : Option Bool := match t with
  | [] => none
  | (a, b, c) :: r => if a = x ∧ b = y then some c else hiOf r x y
theorem hier_nil {K : PySem.W.Frag} {CA : Str → Option Addr} : Hier K CA (hiOf []) := fun x y b h => by simp [hiOf] at h
theorem hier_cons {K : PySem.W.Frag} {CA : Str → Option Addr} {x y : Str} {b : Bool} {r : List (Str × Str × Bool)} {a c : Addr} (h1 : CA x = some a) (h2 : CA y = some c) (h3 : PySem.W.exmOne K (.ref a) (.ref c) = some b) (h : Hier K CA (hiOf r)) : Hier K CA (hiOf ((x, y, b) :: r)) := fun x' y' b' e a' ha => by
  unfold hiOf at e
  split at e
  · rename_i q
    obtain ⟨rfl, rfl⟩ := q
    cases e
    rw [h1] at ha; cases ha
    exact ⟨c, h2, h3⟩
  · exact h x' y' b' e a' ha
/-! ### in running -/
@[simp] theorem mRaise_eq (c : Str) (st : List D) : mRaise c st = .ex ⟨c, "", none⟩ st := rfl
def RS.hd (r : RS) (hi : Str → Str → Option Bool) (hs : List (Str × MS)) : RS := match r with
  | .ex e st => hdl hi e st hs
  | r => r
@[simp] theorem hd_nx (st : List D) (hi : Str → Str → Option Bool) (hs : List (Str × MS)) : (RS.nx st).hd hi hs = .nx st := rfl
@[simp] theorem hd_rt (d : D) (st : List D) (hi : Str → Str → Option Bool) (hs : List (Str × MS)) : (RS.rt d st).hd hi hs = .rt d st := rfl
@[simp] theorem hd_bk (st : List D) (hi : Str → Str → Option Bool) (hs : List (Str × MS)) : (RS.bk st).hd hi hs = .bk st := rfl
@[simp] theorem hd_ct (st : List D) (hi : Str → Str → Option Bool) (hs : List (Str × MS)) : (RS.ct st).hd hi hs = .ct st := rfl
@[simp] theorem hd_ex (e : Ex) (st : List D) (hi : Str → Str → Option Bool) (hs : List (Str × MS)) : (RS.ex e st).hd hi hs = hdl hi e st hs := rfl
@[simp] theorem mTry_eq (hi : Str → Str → Option Bool) (mb : MS) (hs : List (Str × MS)) (st : List D) : mTry hi mb hs st = (mb st).hd hi hs := rfl
@[simp] theorem hdl_nil (hi : Str → Str → Option Bool) (e : Ex) (st : List D) : hdl hi e st [] = .ex e st := rfl
def hdlK (b : Option Bool) (m : MS) (e : Ex) (st : List D) (hi : Str → Str → Option Bool) (r : List (Str × MS)) : RS := match b with
  | some true => m st
  | some false => hdl hi e st r
  | none => .stuck
@[simp] theorem hdl_cons (hi : Str → Str → Option Bool) (e : Ex) (st : List D) (y : Str) (m : MS) (r : List (Str × MS)) : hdl hi e st ((y, m) :: r) = hdlK (hi e.c y) m e st hi r := by
  rw [hdl]
  rfl
@[simp] theorem hdlK_yes (m : MS) (e : Ex) (st : List D) (hi : Str → Str → Option Bool) (r : List (Str × MS)) : hdlK (some true) m e st hi r = m st := rfl
@[simp] theorem hdlK_no (m : MS) (e : Ex) (st : List D) (hi : Str → Str → Option Bool) (r : List (Str × MS)) : hdlK (some false) m e st hi r = hdl hi e st r := rfl
/-! ### x[lo:hi] of values -/
def slEK (x y : D) (lo : Option Int) (st : List D) : R D := match x, y with
  | .nd (.lst _) xs, .int u => .ok (.nd (.lst .own) (cutL xs lo (some u))) st
  | _, _ => .stuck
@[simp] theorem slEK_lst (f : Fl) (xs : List D) (u : Int) (lo : Option Int) (st : List D) : slEK (.nd (.lst f) xs) (.int u) lo st = .ok (.nd (.lst .own) (cutL xs lo (some u))) st := rfl
def mSlE (ma : List D → R D) (ql : List D → Option (Option Int)) (mb : List D → R D) : List D → R D := fun st => (ma st).bind fun x st1 => R.of (ql st1) fun lo => (mb st1).bind fun y st2 => slEK x y lo st2
@[simp] theorem mSlE_eq (ma : List D → R D) (ql : List D → Option (Option Int)) (mb : List D → R D) (st : List D) : mSlE ma ql mb st = (ma st).bind fun x st1 => R.of (ql st1) fun lo => (mb st1).bind fun y st2 => slEK x y lo st2 := rfl
end
end PV

namespace PV
open PySem L2
section
variable {X : Cx} {C : Cc} {st ds : List D} {σ : L2.St} {vs : List V} {H H' : Hp} {a b e : Expr} {pos pos' p p2 : Pos}
/-! ### a temporary is changed -/
theorem SX.mutT {k k' : Kd} {xs xs' new : List D} {ws ws' nw : List V} {a : Addr} {o' : HO} (s : SX C st (ds ++ (.nd k xs :: new)) σ (vs ++ (.ref a :: nw)) H) (hl : ds.length = vs.length) (hf : k.fl = some .own) (hk : HoK C.CA H a ws k)
    (hk' : HoK C.CA (upd H a o') a ws' k') (hf' : k'.fl = some .own)
    (build : ∀ (G : Gd) (ox on : Ct), RpL G xs ws ox → RpL G new nw on → ∃ ox', RpL G xs' ws' ox' ∧ ∀ b, ox' b ≤ ox b + on b) : SX C st (ds ++ [.nd k' xs']) σ (vs ++ [.ref a]) (upd H a o') := by
  have t := s.rot hl
  obtain ⟨Z, os, t⟩ := t
  rw [← List.append_assoc, ← List.append_assoc] at t
  obtain ⟨o1, o2, o3, r1, r2, r3, e⟩ := t.top
  obtain ⟨o4, o5, r4, r5, e'⟩ := RpL.cut hl r2
  cases r3 with
  | nd hk2 rl n =>
    rename_i ws2 ox
    have ew : ws2 = ws := by
      obtain ⟨q1, q2, q3⟩ := hk2.vals
      obtain ⟨q4, q5, q6⟩ := hk.vals
      have q2' : H a = some q1 := q2
      rw [q2'] at q5; cases q5; exact q3.symm.trans q6
    subst ew
    rw [hf] at n
    obtain ⟨nz, nb, on⟩ := n
    have eq : ∀ b, os b = o1 b + o4 b + o5 b + one a b + ox b := fun b => by rw [e, e', on]; omega
    have za : o1 a + o4 a + o5 a + ox a = 0 := by have := t.nd a; rw [eq, one_self] at this; omega
    have keep : ∀ b u, b ≠ a → H b = some u → upd H a o' b = some u := fun b u q z => by rw [upd_ne q]; exact z
    have T : Gd.To (C.G Z H) (C.G Z (upd H a o')) (fun b => o1 b + o4 b + o5 b + ox b) :=
      ⟨rfl, rfl, fun b u q z => keep b u (fun y => by
        subst y
        rcases z with z | z
        · (try dsimp only at z); omega
        · exact z nz) q, fun b u q z => z, fun b q => (t.rp.dom b (by rw [eq]; (try dsimp only at *); omega)).2, fun _ _ _ _ q => q⟩
    obtain ⟨ox', rx', hx'⟩ := build _ _ _ (rl.mono (T.sub fun b q => by (try dsimp only); omega)) (r5.mono (T.sub fun b q => by (try dsimp only); omega))
    have node : Rp (C.G Z (upd H a o')) (.nd k' xs') (.ref a) (fun b => one a b + ox' b) := .nd hk' rx' (by rw [hf']; exact ⟨nz, nb, fun _ => rfl⟩)
    have t2 : SR C Z st (ds ++ [.nd k' xs']) σ (vs ++ [.ref a]) (upd H a o') (fun b => o1 b + o4 b + (one a b + ox' b)) :=
      ⟨(r1.mono (T.sub fun b q => by (try dsimp only); omega)).app (o2 := fun b => o4 b + (one a b + ox' b)) ((r4.mono (T.sub fun b q => by (try dsimp only); omega)).app (RpL.one node) fun _ => rfl) (fun b => by (try dsimp only); omega),
        fun b => by have := t.nd b; rw [eq] at this; have := hx' b; (try dsimp only); omega, t.ln, t.sl, fun b u q z => keep b u (fun y => by
          subst y
          rcases t.fr b nz with w | w
          · omega
          · rw [q] at w; cases w) (t.kp b u q z), t.fr, fun b z => by
            by_cases q : b = a
            · subst q; exact ⟨o', upd_same, hk'.notup hf' upd_same⟩
            · obtain ⟨u, w, w2⟩ := t.al b z; exact ⟨u, keep b u q w, w2⟩, t.bb, t.fx⟩
    exact t2.sx
/-! ### slots forgotten -/
def wipeD (st : List D) : List Nat → List D
  | [] => st
  | v :: vs => (wipeD st vs).set v .un
theorem wipeD_len (st : List D) : ∀ ws : List Nat, (wipeD st ws).length = st.length
  | [] => rfl
  | v :: ws => by unfold wipeD; rw [List.length_set, wipeD_len st ws]
theorem wipeD_in {st : List D} {i : Nat} : ∀ {ws : List Nat}, i ∈ ws → i < st.length → (wipeD st ws)[i]? = some .un
  | v :: ws, h, hl => by
    unfold wipeD
    by_cases e : v = i
    · subst e
      rw [List.getElem?_set_self (by rw [wipeD_len]; exact hl)]
    · rw [List.getElem?_set_ne e]
      simp at h
      exact wipeD_in (h.resolve_left (Ne.symm e)) hl
theorem wipe_out {σ : L2.St} {i : Nat} : ∀ {ws : List Nat}, i ∉ ws → (wipe σ ws)[i]? = σ[i]?
  | [], _ => rfl
  | v :: ws, h => by
    unfold wipe
    simp at h
    rw [List.getElem?_set_ne (Ne.symm h.1)]
    exact wipe_out h.2
theorem wipe_in {σ : L2.St} {i : Nat} : ∀ {ws : List Nat}, i ∈ ws → i < σ.length → (wipe σ ws)[i]? = some none
  | v :: ws, h, hl => by
    unfold wipe
    by_cases e : v = i
    · subst e
      rw [List.getElem?_set_self (by rw [wipe_length]; exact hl)]
    · rw [List.getElem?_set_ne e]
      simp at h
      exact wipe_in (h.resolve_left (Ne.symm e)) hl
theorem wipe_ext {σ σ2 : L2.St} {ws : List Nat} (hl : σ2.length = σ.length) (h : ∀ i, i ∉ ws → σ2[i]? = σ[i]?) : wipe σ2 ws = wipe σ ws := by
  apply List.ext_getElem?
  intro i
  by_cases q : i ∈ ws
  · by_cases l : i < σ.length
    · rw [wipe_in q l, wipe_in q (by omega)]
    · rw [List.getElem?_eq_none (by rw [wipe_length]; omega), List.getElem?_eq_none (by rw [wipe_length]; omega)]
  · rw [wipe_out q, wipe_out q, h i q]
theorem wipe_set {σ : L2.St} {i : Nat} {v : Option V} {ws : List Nat} (hi : i ∈ ws) : wipe (σ.set i v) ws = wipe σ ws :=
  wipe_ext (by simp) fun j hj => by have e : i ≠ j := fun e => hj (by rw [← e]; exact hi); rw [List.getElem?_set_ne e]
theorem RpL.other {G : Gd} : ∀ {xs : List D} {ws ws' : List V} {os : Ct}, RpL G xs ws os → ws'.length = ws.length → (∀ i : Nat, xs[i]? = some D.un ∨ ws'[i]? = ws[i]?) → RpL G xs ws' os
  | _, _, [], _, .nil h, _, _ => .nil h
  | _, _, [], _, .cons _ _ _, h, _ => by simp at h
  | _, _, w' :: ws', _, .nil _, h, _ => by simp at h
  | d :: xs, w :: ws, w' :: ws', os, .cons r t h, hl, k => by
    refine .cons ?_ (RpL.other t (by simpa using hl) fun i => by simpa using k (i + 1)) h
    rcases k 0 with q | q
    · simp at q; subst q
      cases r with | un z => exact .un z
    · simp at q; subst q; exact r
theorem SX.unSlots (s : SX C st ds σ vs H) : ∀ ws : List Nat, SX C (wipeD st ws) ds σ vs H
  | [] => s
  | _ :: ws => (s.unSlots ws).unSlot
theorem SX.rewipe {σ2 : L2.St} {ws : List Nat} (s : SX C st ds σ2 vs H) (hl : σ.length = σ2.length) (h : ∀ i, i ∉ ws → σ2[i]? = σ[i]?) (hf : ∀ i ∈ ws, C.fx i = none) : SX C (wipeD st ws) ds σ vs H := by
  obtain ⟨Z, os, t⟩ := s.unSlots ws
  obtain ⟨o1, o2, r1, r2, e⟩ := t.cut
  have ln := t.ln
  have key : ∀ i : Nat, (wipeD st ws)[i]? = some D.un ∨ σ[i]? = σ2[i]? := fun i => by
    by_cases q : i ∈ ws
    · by_cases l : i < st.length
      · exact .inl (wipeD_in q l)
      · rw [wipeD_len] at ln
        exact .inr (by rw [List.getElem?_eq_none (by omega), List.getElem?_eq_none (by omega)])
    · exact .inr (h i q).symm
  refine ⟨Z, os, (r1.other (ws' := σ.map gd) (by simp [hl]) fun i => (key i).imp id fun q => by simp [q]).app r2 e, t.nd, by rw [ln, hl], fun i d hd hn => ?_, t.kp, t.fr, t.al, t.bb, fun i v hv => ?_, by rw [hl]; exact t.fx.2⟩
  · rcases key i with q | q
    · rw [hd] at q; cases q; exact absurd rfl hn
    · rw [q]; exact t.sl i d hd hn
  · have q : i ∉ ws := fun z => by rw [hf i z] at hv; cases hv
    rw [← h i q]; exact t.fx.1 i v hv
theorem SX.rewipe1 {σ2 : L2.St} {ws : List Nat} (s : SX C st ds σ2 vs H) (hw : wipe σ2 ws = wipe σ ws) (hf : ∀ i ∈ ws, C.fx i = none) : SX C (wipeD st ws) ds σ vs H :=
  s.rewipe (by have := congrArg List.length hw; rw [wipe_length, wipe_length] at this; exact this.symm) (fun i q => by rw [← wipe_out (σ := σ2) q, hw, wipe_out q]) hf
theorem SX.towipe {ws : List Nat} (s : SX C st ds σ vs H) (hf : ∀ i ∈ ws, C.fx i = none) : SX C (wipeD st ws) ds (wipe σ ws) vs H :=
  s.rewipe (wipe_length σ ws) (fun i q => (wipe_out q).symm) hf
/-! ### a comprehension's target -/
def trGo (C : Cc) (ws : List Nat) (g : MG) : TG := fun v σ H Q => ∃ st ds vs d, SX C st (ds ++ [d]) σ (vs ++ [v]) H ∧ ds.length = vs.length ∧ match g d st with
  | some st' => ∀ σ' H', wipe σ' ws = wipe σ ws → SX C st' ds σ' vs H' → Q σ' H'
  | none => False
def VGo (X : Cx) (C : Cc) (ws : List Nat) (t : Expr) (g : MG) : Prop := PG X t (trGo C ws g)
def trGso (C : Cc) (ws : List Nat) (g : MGs) : TGs := fun us σ H Q => ∃ st ds vs xs, SX C st (ds ++ xs) σ (vs ++ us) H ∧ ds.length = vs.length ∧ match g xs st with
  | some st' => ∀ σ' H', wipe σ' ws = wipe σ ws → SX C st' ds σ' vs H' → Q σ' H'
  | none => False
def VGso (X : Cx) (C : Cc) (ws : List Nat) (t : List Expr) (g : MGs) : Prop := PGs X t (trGso C ws g)
theorem vgo_name {ws : List Nat} {i : Nat} {x : Str} {p : Pos} (hN : X.N.Nodup) (hw : i ∈ ws) (hfx : C.fx i = none) (hi : X.N[i]? = some x := by rfl) (hx : Loc X.env.scope x := by first | exact Or.inl rfl | exact Or.inr rfl) (hf : X.fn x = true ∨ X.env.scope.names.lookup x = some .local := by first | exact .inl rfl | exact .inr rfl | assumption) : VGo X C ws (.Name x p) (gNm i) := by
  refine (pg_name hN hi hx hf).impV ?_
  rintro v σ H Q ⟨st, ds, vs, d, s, hl, h⟩
  unfold gNm at h
  split at h
  · rename_i st' e
    split at e
    · rename_i hlt
      simp at e; subst e
      exact h _ H (wipe_set hw) (s.toSlot hlt hfx)
    · cases e
  · exact h.elim
theorem vgso_nil {ws : List Nat} : VGso X C ws [] gN0 := by
  refine pgs_nil.impV ?_
  rintro us σ H Q ⟨st, ds, vs, xs, s, hl, h⟩
  cases xs with
  | nil =>
    have hd := s.dn
    simp at hd
    have : us = [] := List.length_eq_zero_iff.mp (by omega)
    subst this
    exact ⟨rfl, h σ H rfl (by simpa using s)⟩
  | cons x xs => exact h.elim
theorem vgso_cons {ws : List Nat} {es : List Expr} {g : MG} {gs : MGs} (h1 : VGo X C ws e g) (h2 : VGso X C ws es gs) (hs : (assignEach (e :: es) X.env).map (·.2) = assign e X.env :: (assignEach es X.env).map (·.2) := by rfl) : VGso X C ws (e :: es) (gC1 g gs) := by
  refine (pgs_cons h1 h2 hs).impV ?_
  rintro us σ H Q ⟨st, ds, vs, xs, s, hl, h⟩
  cases xs with
  | nil => exact h.elim
  | cons x xs =>
    have hd := s.dn
    cases us with
    | nil => simp at hd; omega
    | cons u us =>
      refine ⟨u, us, rfl, st, ds ++ xs, vs ++ us, x, ?_, by simp at hd ⊢; omega, ?_⟩
      · have := s.rot hl; simpa [List.append_assoc] using this
      · unfold gC1 at h
        simp only at h
        cases q : g x st with
        | none => rw [q] at h; exact h.elim
        | some st1 =>
          rw [q] at h
          simp only at h
          intro σ' H' w' s'
          refine ⟨st1, ds, vs, xs, s', hl, ?_⟩
          cases q2 : gs xs st1 with
          | none => rw [q2] at h; exact h.elim
          | some st2 => rw [q2] at h; exact fun σ'' H'' w'' s'' => h σ'' H'' (w''.trans w') s''
theorem vgo_tup {ws : List Nat} {es : List Expr} {gs : MGs} {j n : Nat} (O : COk X C) (hc : X.calm = true) (h : VGso X C ws es gs) (hn : (assignEach es X.env).length = n := by rfl) (hst : (assignEach es X.env).findIdx? (·.1) = none := by rfl) : VGo X C ws (.Tuple es j pos) (gTu n gs) := by
  refine (pg_tup hc h hn hst).impV ?_
  rintro v σ H Q ⟨st, ds, vs, d, s, hl, h⟩
  unfold gTu at h
  cases d with
  | nd k xs =>
    cases k with
    | tup =>
      simp only at h
      split at h
      · rename_i st' hq
        split at hq
        · rename_i hlen
          obtain ⟨a, ws, rfl, hk, hw, s2⟩ := s.open
          refine ⟨a, ws, rfl, SqT.of hk, by rw [← hw]; exact hlen, st, ds, vs, xs, s2, hl, ?_⟩
          rw [hq]; exact h
        · cases hq
      · exact h.elim
    | _ => exact h.elim
  | _ => exact h.elim
/-! ### [elt for tg in xs if ..] -/
def VTs (X : Cx) (C : Cc) (ifs : List Expr) (m : List D → R Bool) : Prop := PTs X ifs (trT C m)
def mYes : List D → R Bool := fun st => .ok true st
theorem vts_nil : VTs X C [] mYes := ⟨fun pins s σ H Q I ⟨st, ds, vs, q, hl, h⟩ => pts_nil.run pins s σ H Q I (h H q)⟩
theorem vts_one {m : List D → R Bool} (h : VT X C e m) : VTs X C [e] m := pts_one h
/-- a turn -/
def lcT (ws : List Nat) (g : MG) (mt : List D → R Bool) (me : List D → R D) (x : D) (st : List D) : R (Option D) := match g x (wipeD st ws) with
  | some st1 => (mt st1).bind fun b st2 => if b = true then (me st2).bind fun y st3 => .ok (some y) (wipeD st3 ws) else .ok none (wipeD st2 ws)
  | none => .stuck
def lcL (T : D → List D → R (Option D)) : List D → List D → List D → R (List D)
  | [], acc, st => .ok acc st
  | x :: r, acc, st => match T x st with
    | .ok (some y) st' => if acc.length < sizeLine then lcL T r (acc ++ [y]) st' else .stuck
    | .ok none st' => lcL T r acc st'
    | _ => .stuck
def lcE : R (List D) → R D
  | .ok acc st => .ok (.nd (.lst .own) acc) st
  | _ => .stuck
/-- the state of a turn's beginning, the new list last -/
def LcP (C : Cc) (T : D → List D → R (Option D)) (ds ls : List D) (σ : L2.St) (vs lv : List V) (Da : Addr) (accE stE xs : List D) (H : Hp) : Prop :=
  ∃ st acc, SX C st (ds ++ ls ++ [.nd (.lst .own) acc]) σ (vs ++ lv ++ [.ref Da]) H ∧ lcL T xs acc st = .ok accE stE
theorem COk.noX (O : COk X C) : COk X { C with W := fun _ _ _ _ => False } := ⟨O.k, fun u s' ⟨a, B, sI, pins, σ, H, cls, d, e, I, nb, up, sky, na, os, ag, w⟩ => w.elim⟩
abbrev Cc.noX (C : Cc) : Cc := { C with W := fun _ _ _ _ => False }
theorem lc_step {ws : List Nat} {g : MG} {mt : List D → R Bool} {me : List D → R D} {se : Bool} {ls : List D} {lv : List V} {Da : Addr} {accE stE r acc : List D} {x : D} {w : V} (hf : ∀ i ∈ ws, C.fx i = none) (hl : ds.length = vs.length) (hll : ls.length = lv.length)
    (s : SX C st (ds ++ [.nd (.lst .own) acc] ++ ls ++ [x]) σ (vs ++ [.ref Da] ++ lv ++ [w]) H) (h : lcL (lcT ws g mt me) (x :: r) acc st = .ok accE stE) :
    trGo C.noX ws g w (wipe σ ws) H fun σ2 H2 => wipe σ2 ws = wipe σ ws ∧ trT C.noX mt σ2 H2 fun b H3 =>
      if b = true then trE C.noX se me σ2 H3 fun y H4 => ∃ acc, H4 Da = some (.lst acc) ∧ acc.length < sizeLine ∧ LcP C (lcT ws g mt me) ds ls σ vs lv Da accE stE r (upd H4 Da (.lst (acc ++ [y]))) else LcP C (lcT ws g mt me) ds ls σ vs lv Da accE stE r H3 := by
  refine ⟨wipeD st ws, ds ++ [.nd (.lst .own) acc] ++ ls, vs ++ [.ref Da] ++ lv, x, (s.towipe hf).setW, by simp [hl, hll], ?_⟩
  simp only [lcL] at h
  cases qT : lcT ws g mt me x st with
  | stuck => rw [qT] at h; cases h
  | ex _ _ => rw [qT] at h; cases h
  | ok o st' =>
    rw [qT] at h
    unfold lcT at qT
    cases qg : g x (wipeD st ws) with
    | none => rw [qg] at qT; cases qT
    | some st1 =>
      rw [qg] at qT
      simp only at qT
      intro σ2 H2 hw s2
      have hw2 : wipe σ2 ws = wipe σ ws := hw.trans (wipe_ext (wipe_length σ ws) fun i q => wipe_out q)
      refine ⟨hw2, st1, _, _, s2, by simp [hl, hll], ?_⟩
      cases qt : mt st1 with
      | stuck => rw [qt] at qT; cases qT
      | ex _ _ => rw [qt] at qT; cases qT
      | ok b st2 =>
        rw [qt] at qT
        simp only [R.bind_ok] at qT
        intro H3 s3
        cases b with
        | false =>
          simp only [Bool.false_eq_true, if_false] at qT ⊢
          cases qT
          refine ⟨wipeD st2 ws, acc, ?_, h⟩
          have s4 := (s3.getW.rewipe1 hw2 hf)
          have s5 := SX.rot (x := .nd (.lst .own) acc) (v := .ref Da) (B := ls) (vB := lv) (by simpa [List.append_assoc] using s4) hl
          simpa [List.append_assoc] using s5
        | true =>
          simp only [if_true] at qT ⊢
          refine ⟨st2, _, _, s3, by simp [hl, hll], ?_⟩
          cases qe : me st2 with
          | stuck => rw [qe] at qT; cases qT
          | ex _ _ => rw [qe] at qT; cases qT
          | ok y st3 =>
            rw [qe] at qT
            simp only [R.bind_ok] at qT
            cases qT
            intro v H4 _ s4
            have s5 := s4.getW.rewipe1 hw2 hf
            have s6 := SX.rot (x := .nd (.lst .own) acc) (v := .ref Da) (B := ls ++ [y]) (vB := lv ++ [v]) (by simpa [List.append_assoc] using s5) hl
            have s7 := SX.rot (ds := ds ++ ls) (vs := vs ++ lv) (x := y) (v := v) (B := [.nd (.lst .own) acc]) (vB := [.ref Da]) (by simpa [List.append_assoc] using s6) (by simp [hl, hll])
            have s8 : SX C (wipeD st3 ws) ((ds ++ ls) ++ (.nd (.lst .own) acc :: [y])) σ ((vs ++ lv) ++ (.ref Da :: [v])) H4 := by simpa [List.append_assoc] using s7
            have s9 : SX C (wipeD st3 ws) ((ds ++ ls) ++ [.nd (.lst .own) acc]) σ ((vs ++ lv) ++ [.ref Da]) H4 := SX.drop (ds' := [y]) (vs' := [v]) (by simpa [List.append_assoc] using s8) (by simp [hl, hll])
            obtain ⟨a', us, Z, os, e', hk, rl⟩ := s9.ndTop
            cases e'
            have hk1 : H4 Da = some (.lst us) := hk
            simp only at h
            split at h
            · rename_i hz
              refine ⟨us, hk1, by rw [← rl.len]; exact hz, wipeD st3 ws, acc ++ [y], ?_, h⟩
              exact s8.mutT (k' := .lst .own) (xs' := acc ++ [y]) (ws' := us ++ [v]) (by simp [hl, hll]) rfl hk1 (show (upd H4 Da (.lst (us ++ [v]))) Da = some (.lst (us ++ [v])) from upd_same) rfl fun G ox on r1 r2 => ⟨fun b => ox b + on b, r1.app r2 fun _ => rfl, fun _ => Nat.le_refl _⟩
            · cases h
end
end PV

namespace PV
open PySem L2
section
variable {X : Cx} {C : Cc} {st ds : List D} {σ : L2.St} {vs : List V} {H H' : Hp} {a b e elt tg iter : Expr} {pos pos' spos p p2 py : Pos} {ma mb : List D → R D} {sa sb se : Bool} {ws : List Nat} {g : MG} {mt : List D → R Bool} {me : List D → R D} {ifs : List Expr} {scope : Scope} {own : List (Str × Nat)}
def mLcL (ma : List D → R D) (ws : List Nat) (g : MG) (mt : List D → R Bool) (me : List D → R D) : List D → R D := fun st => (ma st).bind fun d st1 => match d.frz with
  | .nd (.lst _) xs => lcE (lcL (lcT ws g mt me) xs [] st1)
  | _ => .stuck
theorem lcL_red (hf : ∀ i ∈ ws, C.fx i = none) : ∀ σ H Q, trE C false (mLcL ma ws g mt me) σ H Q → tLc (iList X.K (trE C sa ma)) (trGo C.noX ws g) (trT C.noX mt) (trE C.noX se me) ws σ H Q := by
  rintro σ H Q ⟨st, ds, vs, s, hl, h⟩
  show trE C sa ma σ H _
  refine seq1 (sm := false) s hl h fun d st1 v H1 _ s1 h1 => ?_
  have s2 := s1.frzTop
  generalize hd : d.frz = df at h1 s2
  match df, h1 with
  | .nd (.lst f) xs, h1 =>
    have hfz := kd_frz hd
    obtain ⟨a, us, Z, os, rfl, hk, rl⟩ := s2.ndTop
    refine ⟨a, rfl, ⟨us, SqL.of hk⟩, fun Da hD => ?_⟩
    simp only at h1
    cases qL : lcL (lcT ws g mt me) xs [] st1 with
    | stuck => rw [qL] at h1; exact h1.elim
    | ex _ _ => rw [qL] at h1; exact h1.elim
    | ok accE stE =>
      rw [qL] at h1
      have h1 : rE C false ds vs σ H Q (.ok (.nd (.lst .own) accE) stE) := h1
      have s3 : SX C st1 (ds ++ [.nd (.lst f) xs] ++ [.nd (.lst .own) []]) σ (vs ++ [.ref a] ++ [.ref Da]) (upd H1 Da (.lst [])) :=
        SX.alloc (xs := []) (ws := []) (by simpa using s2) (by simp [hl]) hD (show (upd H1 Da (.lst [])) Da = some (.lst []) from upd_same) (.inr rfl)
      have back : ∀ {acc st' H}, SX C st' (ds ++ [.nd (.lst f) xs] ++ [.nd (.lst .own) acc]) σ (vs ++ [.ref a] ++ [.ref Da]) H → SX C st' (ds ++ [.nd (.lst .own) acc] ++ [.nd (.lst f) xs]) σ (vs ++ [.ref Da] ++ [.ref a]) H := fun {acc st' H} s4 => by
        have := SX.rot (x := .nd (.lst f) xs) (v := .ref a) (B := [.nd (.lst .own) acc]) (vB := [.ref Da]) (by simpa [List.append_assoc] using s4) hl
        simpa [List.append_assoc] using this
      have at_ : ∀ {r H}, LcP C (lcT ws g mt me) ds [.nd (.lst f) xs] σ vs [.ref a] Da accE stE r H → ∃ us', H a = some (.lst us') ∧ xs.length = us'.length := fun {r H} ⟨st', acc, s4, _⟩ => by
        obtain ⟨a', us', Z', os', e', hk', rl'⟩ := (back s4).ndTop
        cases e'
        exact ⟨us', hk', rl'.len⟩
      refine ⟨fun i m H => m = xs.length - i ∧ i ≤ xs.length ∧ LcP C (lcT ws g mt me) ds [.nd (.lst f) xs] σ vs [.ref a] Da accE stE (xs.drop i) H, ⟨xs.length, by simp, Nat.zero_le _, st1, [], s3, by simpa using qL⟩, ?_⟩
      rintro i m H ⟨rfl, hi, p⟩
      obtain ⟨us', hk', hlen⟩ := at_ p
      by_cases hlt : i < xs.length
      · refine .inr ⟨⟨us', us'[i], SqL.of hk', by simp [← hlen, hlt]⟩, LcP C (lcT ws g mt me) ds [.nd (.lst f) xs] σ vs [.ref a] Da accE stE (xs.drop (i + 1)), fun H' p' => ⟨xs.length - (i + 1), by omega, rfl, hlt, p'⟩, fun x H' y => ?_⟩
        obtain ⟨e, y⟩ := y
        subst e
        obtain ⟨st', acc, s4, h4⟩ := p
        have hx : xs[i]? = some xs[i] := by simp [hlt]
        have s6 := (back s4).item hfz hx hk' (y us' (SqL.of hk'))
        rw [List.drop_eq_getElem_cons hlt] at h4
        exact lc_step hf hl rfl s6 h4
      · have e : i = xs.length := by omega
        subst e
        refine .inl ⟨⟨us', SqL.of hk', by omega⟩, ?_⟩
        obtain ⟨st', acc, s4, h4⟩ := p
        rw [List.drop_length] at h4
        simp only [lcL] at h4
        cases h4
        exact h1 _ _ (fun z => by cases z) (s4.dropMid hl rfl)
  | .un, h1 => exact h1.elim
  | .non, h1 => exact h1.elim
  | .bl _, h1 => exact h1.elim
  | .int _, h1 => exact h1.elim
  | .str _, h1 => exact h1.elim
  | .scr _, h1 => exact h1.elim
  | .nd .tup _, h1 => exact h1.elim
  | .nd (.dct _ _) _, h1 => exact h1.elim
  | .nd (.ins _ _ _) _, h1 => exact h1.elim
theorem rg_red (hf : ∀ i ∈ ws, C.fx i = none) {i j : Int} {Q : VK} {H0 : Hp} (hl : ds.length = vs.length) (s : SX C st ds σ vs H) (h : rE C false ds vs σ H0 Q (lcE (lcL (lcT ws g mt me) (rangeD i j) [] st))) {Da : Addr} (hD : H Da = none) :
    ∃ W : Nat → Nat → Hp → Prop, (∃ m, W 0 m (upd H Da (.lst []))) ∧ ∀ k m H, W k m H →
      ((Itr i (j - i).toNat).stop k H ∧ Q (.ref Da) H) ∨ ((Itr i (j - i).toNat).go k H ∧ ∃ Nx : Hp → Prop, (∀ H', Nx H' → ∃ m', m' < m ∧ W (k + 1) m' H') ∧ ∀ x H', (Itr i (j - i).toNat).yld k H x H' → trGo C.noX ws g x (wipe σ ws) H' fun σ2 H2 => wipe σ2 ws = wipe σ ws ∧ trT C.noX mt σ2 H2 fun b H3 =>
        if b = true then trE C.noX se me σ2 H3 fun y H4 => ∃ acc, H4 Da = some (.lst acc) ∧ acc.length < sizeLine ∧ Nx (upd H4 Da (.lst (acc ++ [y]))) else Nx H3) := by
  cases qL : lcL (lcT ws g mt me) (rangeD i j) [] st with
  | stuck => rw [qL] at h; exact h.elim
  | ex _ _ => rw [qL] at h; exact h.elim
  | ok accE stE =>
    rw [qL] at h
    have h : rE C false ds vs σ H0 Q (.ok (.nd (.lst .own) accE) stE) := h
    have s3 : SX C st (ds ++ [.nd (.lst .own) []]) σ (vs ++ [.ref Da]) (upd H Da (.lst [])) :=
      SX.alloc (xs := []) (ws := []) (by simpa using s) hl hD (show (upd H Da (.lst [])) Da = some (.lst []) from upd_same) (.inr rfl)
    refine lc_range (lo := i) (n := (j - i).toNat) (fun k H => LcP C (lcT ws g mt me) ds [] σ vs [] Da accE stE ((rangeD i j).drop k) H) ⟨st, [], by simpa using s3, by simpa using qL⟩ (fun k H hk p => ?_) (fun H p => ?_)
    · obtain ⟨st', acc, s4, h4⟩ := p
      have hk' : k < (rangeD i j).length := by rw [rangeD_len]; exact hk
      have hx : (rangeD i j)[k] = .int (i + (k : Nat)) := by
        have := rangeD_get hk
        rw [List.getElem?_eq_getElem hk'] at this
        exact Option.some.inj this
      rw [List.drop_eq_getElem_cons hk', hx] at h4
      exact lc_step (ls := []) (lv := []) hf hl rfl (by simpa using s4.pushc (d := .int (i + (k : Nat))) rfl) h4
    · obtain ⟨st', acc, s4, h4⟩ := p
      rw [← rangeD_len i j, List.drop_length] at h4
      simp only [lcL] at h4
      cases h4
      exact h _ _ (fun z => by cases z) (by simpa using s4)
def mLcR (ma mb : List D → R D) (ws : List Nat) (g : MG) (mt : List D → R Bool) (me : List D → R D) : List D → R D := fun st => (ma st).bind fun x st1 => (mb st1).bind fun y st2 => match x, y with
  | .int i, .int j => if -(2 ^ 62) ≤ i ∧ i < 2 ^ 62 ∧ -(2 ^ 62) ≤ j ∧ j < 2 ^ 62 then lcE (lcL (lcT ws g mt me) (rangeD i j) [] st2) else .stuck
  | _, _ => .stuck
def mLcR1 (ma : List D → R D) (ws : List Nat) (g : MG) (mt : List D → R Bool) (me : List D → R D) : List D → R D := mLcR (mK (.int 0)) ma ws g mt me
/-- what a comprehension's block is asked -/
structure Blk (X : Cx) (C : Cc) (scope : Scope) (own : List (Str × Nat)) (tg elt : Expr) (ifs : List Expr) (g : MG) (mt : List D → R Bool) (se : Bool) (me : List D → R D) : Prop where
  ok : blkC X.N X.env.scope scope own = true
  hg : ∀ (s : Shared) (H : Hp) (c : Addr) (cl : List (Str × Addr)) (fp : List Addr), COk (X.blk s H scope (compEnvC scope cl c X.env) fp) C.noX → VGo (X.blk s H scope (compEnvC scope cl c X.env) fp) C.noX (own.map (·.2)) tg g
  ht : ∀ (s : Shared) (H : Hp) (c : Addr) (cl : List (Str × Addr)) (fp : List Addr), COk (X.blk s H scope (compEnvC scope cl c X.env) fp) C.noX → VTs (X.blk s H scope (compEnvC scope cl c X.env) fp) C.noX ifs mt
  he : ∀ (s : Shared) (H : Hp) (c : Addr) (cl : List (Str × Addr)) (fp : List Addr), COk (X.blk s H scope (compEnvC scope cl c X.env) fp) C.noX → VE (X.blk s H scope (compEnvC scope cl c X.env) fp) C.noX se elt me
theorem blkC_by {N Nn : List Str} {sc scn scope : Scope} {own : List (Str × Nat)} (h1 : N = Nn) (h2 : sc = scn) (h : blkC Nn scn scope own = true) : blkC N sc scope own = true := by rw [h1, h2]; exact h
theorem fxs_nil {fx : Nat → Option V} : ∀ i ∈ ([] : List Nat), fx i = none := fun i h => by simp at h
theorem fxs_cons {fx : Nat → Option V} {i : Nat} {l : List Nat} (h : fx i = none) (t : ∀ j ∈ l, fx j = none) : ∀ j ∈ i :: l, fx j = none := fun j hj => by
  rcases List.mem_cons.mp hj with rfl | hj
  · exact h
  · exact t j hj
theorem COk.blk (O : COk X C) {s : Shared} {H : Hp} {scope : Scope} {ce : Env} {fp : List Addr} : COk (X.blk s H scope ce fp) C.noX := ⟨O.k, fun u s' ⟨a, B, sI, pins, σ, H, cls, d, e, I, nb, up, sky, na, os, ag, w⟩ => w.elim⟩
theorem ve_lcL (O : COk X C) (hc : X.calm = true) (hN : X.N.Nodup) (hf : ∀ i ∈ own.map (·.2), C.fx i = none) (ha : VE X C sa iter ma) (B : Blk X C scope own tg elt ifs g mt se me) (hs : ∀ x, foldedSetIterable iter X.env x = pure x := by intro _; rfl) :
    VE X C false (.ListComp elt [⟨tg, iter, ifs, 0⟩] scope pos) (mLcL ma (own.map (·.2)) g mt me) :=
  (pe_lc hc hN (pi_list ha) (blkOk_by B.ok) (fun s H c cl fp => B.hg s H c cl fp O.blk) (fun s H c cl fp => B.ht s H c cl fp O.blk) (fun s H c cl fp => B.he s H c cl fp O.blk) hs).impV (lcL_red hf)
theorem vs_setLcL {i : Nat} {y : Str} (O : COk X C) (hc : X.calm = true) (hN : X.N.Nodup) (hf : ∀ i ∈ own.map (·.2), C.fx i = none) (ha : VE X C sa iter ma) (B : Blk X C scope own tg elt ifs g mt se me) (hfx : C.fx i = none) (hy : X.N[i]? = some y := by rfl) (hyl : X.env.scope.names.lookup y = some .local := by rfl)
    (hk : X.env.scope.kind = .function := by rfl) (hline : (py.line == pos.line) = true := by rfl) (hany : (scope.names.any fun (n, k) => n == y && (k == .local || k == .cell)) = false := by rfl) (hs : ∀ x, foldedSetIterable iter X.env x = pure x := by intro _; rfl) :
    VS X C (.Assign [.Name y py] (.ListComp elt [⟨tg, iter, ifs, 0⟩] scope pos) spos) (mAsg (mLcL ma (own.map (·.2)) g mt me) (gNm i)) :=
  (ps_setLc hc hN hy hyl (sw_true hk hyl hline hany) (pi_list ha) (blkOk_by B.ok) (fun s H c cl fp => B.hg s H c cl fp O.blk) (fun s H c cl fp => B.ht s H c cl fp O.blk) (fun s H c cl fp => B.he s H c cl fp O.blk) hs).impV (asg_red hfx (lcL_red hf))
theorem lcR1_red (hf : ∀ i ∈ ws, C.fx i = none) : ∀ σ H Q, trE C false (mLcR1 ma ws g mt me) σ H Q → tLc (iRng1 (tCons (trE C sa ma) tNil)) (trGo C.noX ws g) (trT C.noX mt) (trE C.noX se me) ws σ H Q := by
  rintro σ H Q ⟨st, ds, vs, s, hl, h⟩
  show trE C sa ma σ H _
  unfold mLcR1 mLcR mK at h
  simp only [R.bind_ok] at h
  refine seq1 (sm := false) s hl h fun y st2 u H2 _ s2 h1 => ?_
  cases y with
  | int j =>
    simp only at h1
    split at h1
    · rename_i hz
      have e2 : u = .int j := s2.scTop rfl
      subst e2
      refine ⟨j, rfl, hz.2.2.1, hz.2.2.2, fun Da hD => ?_⟩
      have := rg_red (se := se) hf hl s2.pop h1 hD
      rw [Int.sub_zero] at this
      exact this
    · exact h1.elim
  | _ => exact h1.elim
theorem ve_lcR1 (O : COk X C) (hc : X.calm = true) (hN : X.N.Nodup) (hf : ∀ i ∈ own.map (·.2), C.fx i = none) (ha : VE X C sa a ma) (B : Blk X C scope own tg elt ifs g mt se me) (hgr : Gl X "range") (hm : X.mg "range" = none)
    (hs1 : starEach [a] X.env = [(false, eval a X.env)] := by rfl) (hs : ∀ x, foldedSetIterable (.Call (.Name "range" p) [a] [] pos') X.env x = pure x := by intro _; rfl) :
    VE X C false (.ListComp elt [⟨tg, .Call (.Name "range" p) [a] [] pos', ifs, 0⟩] scope pos) (mLcR1 ma (own.map (·.2)) g mt me) :=
  (pe_lc hc hN (pi_range1 hgr hm (pa_cons ha pa_nil hs1) hs1) (blkOk_by B.ok) (fun s H c cl fp => B.hg s H c cl fp O.blk) (fun s H c cl fp => B.ht s H c cl fp O.blk) (fun s H c cl fp => B.he s H c cl fp O.blk) hs).impV (lcR1_red hf)
theorem vs_setLcR1 {i : Nat} {y : Str} (O : COk X C) (hc : X.calm = true) (hN : X.N.Nodup) (hf : ∀ i ∈ own.map (·.2), C.fx i = none) (ha : VE X C sa a ma) (B : Blk X C scope own tg elt ifs g mt se me) (hfx : C.fx i = none) (hgr : Gl X "range") (hm : X.mg "range" = none)
    (hy : X.N[i]? = some y := by rfl) (hyl : X.env.scope.names.lookup y = some .local := by rfl)
    (hk : X.env.scope.kind = .function := by rfl) (hline : (py.line == pos.line) = true := by rfl) (hany : (scope.names.any fun (n, k) => n == y && (k == .local || k == .cell)) = false := by rfl)
    (hs1 : starEach [a] X.env = [(false, eval a X.env)] := by rfl) (hs : ∀ x, foldedSetIterable (.Call (.Name "range" p) [a] [] pos') X.env x = pure x := by intro _; rfl) :
    VS X C (.Assign [.Name y py] (.ListComp elt [⟨tg, .Call (.Name "range" p) [a] [] pos', ifs, 0⟩] scope pos) spos) (mAsg (mLcR1 ma (own.map (·.2)) g mt me) (gNm i)) :=
  (ps_setLc hc hN hy hyl (sw_true hk hyl hline hany) (pi_range1 hgr hm (pa_cons ha pa_nil hs1) hs1) (blkOk_by B.ok) (fun s H c cl fp => B.hg s H c cl fp O.blk) (fun s H c cl fp => B.ht s H c cl fp O.blk) (fun s H c cl fp => B.he s H c cl fp O.blk) hs).impV (asg_red hfx (lcR1_red hf))
end
/-! ### in running -/
@[simp] theorem mYes_eq (st : List D) : mYes st = .ok true st := rfl
@[simp] theorem wipeD_nil (st : List D) : wipeD st [] = st := rfl
@[simp] theorem wipeD_cons (st : List D) (v : Nat) (vs : List Nat) : wipeD st (v :: vs) = (wipeD st vs).set v .un := rfl
@[simp] theorem lcE_ok (acc st : List D) : lcE (.ok acc st) = .ok (.nd (.lst .own) acc) st := rfl
def lcB (ws : List Nat) (me : List D → R D) (b : Bool) (st2 : List D) : R (Option D) := if b = true then (me st2).bind fun y st3 => .ok (some y) (wipeD st3 ws) else .ok none (wipeD st2 ws)
@[simp] theorem lcB_true (ws : List Nat) (me : List D → R D) (st2 : List D) : lcB ws me true st2 = (me st2).bind fun y st3 => .ok (some y) (wipeD st3 ws) := rfl
@[simp] theorem lcB_false (ws : List Nat) (me : List D → R D) (st2 : List D) : lcB ws me false st2 = .ok none (wipeD st2 ws) := rfl
@[simp] theorem lcT_eq (ws : List Nat) (g : MG) (mt : List D → R Bool) (me : List D → R D) (x : D) (st : List D) : lcT ws g mt me x st = R.of (g x (wipeD st ws)) fun st1 => (mt st1).bind fun b st2 => lcB ws me b st2 := by
  unfold lcT R.of
  cases g x (wipeD st ws) <;> rfl
def lcK (ws : List Nat) (g : MG) (mt : List D → R Bool) (me : List D → R D) (st : List D) (d : D) : R D := match d with
  | .nd (.lst _) xs => lcE (lcL (lcT ws g mt me) xs [] st)
  | _ => .stuck
@[simp] theorem lcK_lst (ws : List Nat) (g : MG) (mt : List D → R Bool) (me : List D → R D) (st : List D) (f : Fl) (xs : List D) : lcK ws g mt me st (.nd (.lst f) xs) = lcE (lcL (lcT ws g mt me) xs [] st) := rfl
@[simp] theorem mLcL_eq (ma : List D → R D) (ws : List Nat) (g : MG) (mt : List D → R Bool) (me : List D → R D) (st : List D) : mLcL ma ws g mt me st = (ma st).bind fun d st1 => lcK ws g mt me st1 d.frz := rfl
@[simp] theorem mLcR_eq (ma mb : List D → R D) (ws : List Nat) (g : MG) (mt : List D → R Bool) (me : List D → R D) (st : List D) : mLcR ma mb ws g mt me st = (ma st).bind fun x st1 => (mb st1).bind fun y st2 => int2 x y fun i j => chk (-4611686018427387904 ≤ i ∧ i < 4611686018427387904 ∧ -4611686018427387904 ≤ j ∧ j < 4611686018427387904) (lcE (lcL (lcT ws g mt me) (rangeD i j) [] st2)) := rfl
@[simp] theorem mLcR1_eq (ma : List D → R D) (ws : List Nat) (g : MG) (mt : List D → R Bool) (me : List D → R D) (st : List D) : mLcR1 ma ws g mt me st = (ma st).bind fun y st2 => int2 (.int 0) y fun i j => chk (-4611686018427387904 ≤ i ∧ i < 4611686018427387904 ∧ -4611686018427387904 ≤ j ∧ j < 4611686018427387904) (lcE (lcL (lcT ws g mt me) (rangeD i j) [] st2)) := rfl
/-- a comprehension with one reading a turn, that leaves the state as it is -/
theorem lcL_pure {α : Type} {T : D → List D → R (Option D)} {f : α → D} (h : α → Option D) {st : List D} : ∀ (xs : List α) (acc : List D), acc.length + xs.length ≤ 16777216 → (∀ x ∈ xs, T (f x) st = .ok (h x) st) → lcL T (xs.map f) acc st = .ok (acc ++ xs.filterMap h) st
  | [], acc, _, _ => by simp [lcL]
  | x :: xs, acc, hl, k => by
    have k1 := k x (by simp)
    simp at hl
    simp only [List.map_cons, lcL, k1]
    cases q : h x with
    | none =>
      simp only
      rw [lcL_pure h xs acc (by omega) fun y hy => k y (by simp [hy])]
      simp [q]
    | some y =>
      have : acc.length < sizeLine := by show acc.length < 16777216; omega
      simp only [if_pos this]
      rw [lcL_pure h xs (acc ++ [y]) (by simp; omega) fun y hy => k y (by simp [hy])]
      simp [q]
end PV

/-! ### list(range(a, b)) of any bounds, with few items -/
namespace PV.Long
open PySem
open Sem (wp)
section
variable {prog : Program} {w : World} {A : Around} {E : Value → Shared → Prop} {s : Shared}
theorem extend {R : Result → Shared → Prop} {r : Addr} {a b c : Int} {t u v : Tok} {n : Nat} (hh : A.handled = none) (hr : IsRange s.heap r a b c t u v) (hbig : Builtin.Range.small a b c = false)
    (hn : Builtin.Range.rangeSize a b c = n) (hlen : n ≤ 2 ^ 24) (S : Addr) (res : Value) (c₀ : Nat) (hS : s.heap.get? S = some { cls := .type "list", data := .seq #[] c₀ })
    (hR : ∀ h' tk acc' c', (∀ b o, b ≠ S → s.heap.get? b = some o → h'.get? b = some o) → h'.get? S = some { cls := .type "list", dict := none, data := .seq acc' c', slots := #[] } →
      ItemsOf (fun i v => ∃ t, v = .int (a + i * c) t) acc' n → R (.ok (.ret res)) { s with heap := h', toks := tk }) :
    wpAny (model prog w) A.in1 (Builtin.List.listExtendWith (.ref S) (.ref r) res)
      (fun fin s' => match fin with | .done f => R (.ok f) s' | .again c' => c'.quiet = true ∧ codeAny (model prog w) A c' R s') (fun e s' => R (.error e) s') s := by
  have hSr : S ≠ r := fun e => by rw [e, hr] at hS; simp at hS
  have hSlt : S < s.heap.objs.size := Heap.lt_size hS
  have hSI : S ≠ s.heap.objs.size := Nat.ne_of_lt hSlt
  have hSf : S ∉ [s.heap.objs.size] := fun hm => hSI (List.mem_singleton.mp hm)
  have W := (Walks.longrange (prog := prog) (w := w) (A := A.in1) hh s.heap.objs.size a c n).toS
  have key : ∀ (h : Heap) (c₁ tk : Nat), IsLongIter h s.heap.objs.size (a + ((0 : Nat) : Int) * c) ((n : Int) - ((0 : Nat) : Int)) c → (∀ b o, b ≠ S → s.heap.get? b = some o → h.get? b = some o) →
      h.get? S = some { cls := .type "list", data := .seq #[] c₁ } → codeAny (model prog w) A (.builtin "list.extend.loop" ⟨[.ref S, .ref s.heap.objs.size, res], []⟩) R { s with heap := h, toks := tk } := by
    intro h c₁ tk hit hk hS₁
    refine codeAny_extend_loopS W (by rw [sizeLine_eq]; omega) S hSf res n 0 _ #[] c₁ rfl (Nat.zero_le _) hit hS₁ (ItemsOf.nil _) fun s' acc' c' hm hS' hacc => ?_
    rw [Moved.eq_with hm]
    refine hR s'.heap s'.toks acc' c' (fun b o hb e => hm.heap b o (fun hmem => ?_) (hk b o hb e)) hS' hacc
    rcases List.mem_cons.mp hmem with e' | hmem
    · exact hb e'
    · exact absurd (Heap.lt_size e) (by rw [List.mem_singleton.mp hmem]; exact Nat.lt_irrefl _)
  unfold Builtin.List.listExtendWith
  refine wpAny_bind (wpAny_typeOf (T := "range") ⟨_, hr, rfl⟩ ?_)
  have h1 : Builtin.List.listSameRef (.ref S) (.ref r) = false := by simp [Builtin.List.listSameRef, hSr]
  have h2 : (Value.type "range" == Value.type "list") = false := by decide
  have h3 : (Value.type "range" == Value.type "tuple") = false := by decide
  simp only [h1, h2, h3, Bool.or_false, Bool.false_eq_true, if_false]
  refine wpAny_bind (wpAny_pyIter_longrange hr hbig ?_)
  refine wpAny_bind (wpAny_holding (wpAny_hint_range (n := n) (Heap.get?_push_of_some _ hr) hn hlen ?_))
  have hit₁ : IsLongIter (s.heap.push { cls := .type "longrange_iterator", data := .fields #[rawInt a, rawInt (Builtin.Range.rangeSize a b c), rawInt c] }) s.heap.objs.size (a + ((0 : Nat) : Int) * c) ((n : Int) - ((0 : Nat) : Int)) c := by
    show IsLongIter _ _ _ _ _; rw [hn]; simpa using Heap.get?_push_size _ rfl
  have hS₁ := Heap.get?_push_of_some { cls := .type "longrange_iterator", data := .fields #[rawInt a, rawInt (Builtin.Range.rangeSize a b c), rawInt c] } hS
  refine wpAny_ite_split (fun _ => ?_) (fun _ => wpAny_pure ⟨plainId_quiet F.plain_extend_loop _, key _ c₀ _ hit₁ (fun b o _ e => Heap.get?_push_of_some _ e) hS₁⟩)
  refine wpAny_bind (wpAny_rule ?_)
  refine wpAny_bind ?_
  show wpAny _ _ (updateSeq S (·.push .none) >>= fun _ => updateSeq S (·.pop)) _ _ _
  refine wpAny_bind (wpAny_updateSeq hS₁ rfl ?_)
  have hS₂ := Heap.get?_update_self (Obj.mapSeq (·.push Value.none)) hS₁ rfl
  refine wpAny_updateSeq (hz := by seq_fits) hS₂ rfl ?_
  have hS₃ := Heap.get?_update_self (Obj.mapSeq (·.pop)) hS₂ rfl
  refine wpAny_pure ⟨plainId_quiet F.plain_extend_loop _, key _ _ _ ?_ (fun b o hb e => ?_) hS₃⟩
  · exact (Heap.get?_update_other _ _ hSI).trans ((Heap.get?_update_other _ _ hSI).trans hit₁)
  · exact (Heap.get?_update_other _ _ (Ne.symm hb)).trans ((Heap.get?_update_other _ _ (Ne.symm hb)).trans (Heap.get?_push_of_some _ e))
theorem init {R : Result → Shared → Prop} {r : Addr} {a b c : Int} {t u v : Tok} {n : Nat} (hh : A.handled = none) (hr : IsRange s.heap r a b c t u v) (hbig : Builtin.Range.small a b c = false)
    (hn : Builtin.Range.rangeSize a b c = n) (hlen : n ≤ 2 ^ 24) (S : Addr) (hS : s.heap.get? S = some { cls := .type "list", data := .seq #[] })
    (hR : ∀ h' tk acc' c', (∀ b o, b ≠ S → s.heap.get? b = some o → h'.get? b = some o) → h'.get? S = some { cls := .type "list", dict := none, data := .seq acc' c', slots := #[] } →
      ItemsOf (fun i v => ∃ t, v = .int (a + i * c) t) acc' n → R (.ok (.ret .none)) { s with heap := h', toks := tk }) :
    wpAny (model prog w) A.in1 (Builtin.«list.__init__» ⟨[.ref S, .ref r], []⟩)
      (fun fin s' => match fin with | .done f => R (.ok f) s' | .again c' => c'.quiet = true ∧ codeAny (model prog w) A c' R s') (fun e s' => R (.error e) s') s := by
  have hSr : S ≠ r := fun e => by rw [e, hr] at hS; simp at hS
  show wpAny _ _ (do let old ← Builtin.List.listItems (.ref S); Builtin.List.listUpdate (.ref S) (fun _ => #[]); letGo old.toList.reverse; Builtin.List.listExtendWith (.ref S) (.ref r) .none) _ _ s
  refine wpAny_bind ?_
  unfold Builtin.List.listItems
  refine wpAny_bind (wpAny_seqItems hS rfl (wpAny_pure ?_))
  show wpAny _ _ (updateSeq S (fun _ => #[]) >>= fun _ => letGo (#[] : Array Value).toList.reverse >>= fun _ => Builtin.List.listExtendWith (.ref S) (.ref r) .none) _ _ s
  refine wpAny_bind (wpAny_updateSeq hS rfl ?_)
  have hS₂ := Heap.get?_update_self (Obj.mapSeq (fun _ => (#[] : Array Value))) hS rfl
  have oth : ∀ b o, b ≠ S → s.heap.get? b = some o → (s.heap.update S (Obj.mapSeq (fun _ => (#[] : Array Value)))).get? b = some o :=
    fun b o hb e => (Heap.get?_update_other _ _ (Ne.symm hb)).trans e
  refine wpAny_bind (wpAny_letGo ?_)
  refine extend hh (oth r _ (Ne.symm hSr) hr) hbig hn hlen S .none _ hS₂ fun h' tk acc' c' hk hS' hacc => ?_
  exact hR h' tk acc' c' (fun b o hb e => hk b o hb (oth b o hb e)) hS' hacc
theorem list {Q : Value → Shared → Prop} {r : Addr} {a b c : Int} {t u v : Tok} {n : Nat} (hh : A.handled = none) (hr : IsRange s.heap r a b c t u v)
    (hn : Builtin.Range.rangeSize a b c = n) (hlen : n ≤ 2 ^ 24)
    (hQ : ∀ h' tk acc' c', (∀ b o, s.heap.get? b = some o → h'.get? b = some o) →
      h'.get? s.heap.objs.size = some { cls := .type "list", dict := none, data := .seq acc' c', slots := #[] } → ItemsOf (fun i v => ∃ t, v = .int (a + i * c) t) acc' n → Q (.ref s.heap.objs.size) { s with heap := h', toks := tk }) :
    wpAny (model prog w) A (call (.type "list") [.ref r]) Q E s := by
  cases hb : Builtin.Range.small a b c with
  | true => exact call_list_range hh hr hb hn hlen hQ
  | false =>
    refine callType_codes (Q₁ := fun obj s₁ => obj = .ref s.heap.objs.size ∧ s₁ = { s with heap := s.heap.push { cls := .type "list", data := .seq #[] } }) F.called_list (F.typeCall_list_1 _) F.entry_list_init
      (code_list_new _ ⟨rfl, rfl⟩) fun obj s₁ h₁ => ?_
    obtain ⟨rfl, rfl⟩ := h₁
    have hS : (s.heap.push { cls := .type "list", data := .seq #[] }).get? s.heap.objs.size = some { cls := .type "list", data := .seq #[] } := Heap.get?_push_size _ rfl
    refine ⟨⟨_, hS, rfl⟩, F.args_list_init_2 _ _, init (A := A.in1) hh (Heap.get?_push_of_some _ hr) hb hn hlen _ hS fun h' tk acc' c' hk hS' hacc => ?_⟩
    exact ⟨rfl, hQ h' tk acc' c' (fun b o e => hk b o (Nat.ne_of_lt (Heap.lt_size e)) (Heap.get?_push_of_some _ e)) hS' hacc⟩
end
end PV.Long
namespace PV
open PySem L2 PySem.Spec PyProof.Rows
section
variable {X : Cx} {C : Cc} {st ds : List D} {σ : L2.St} {vs : List V} {H H' : Hp} {a b e : Expr} {te : L2.St → Hp → (Int → Int → Hp → Prop) → Prop} {ma mb : List D → R D} {sa sb : Bool} {p pos : Pos}
def tLstRgA (te : L2.St → Hp → (Int → Int → Hp → Prop) → Prop) : TE := fun σ H Q => te σ H fun a b H1 => (b - a).toNat ≤ 2 ^ 24 ∧ ∀ q, H1 q = none → Q (.ref q) (upd H1 q (.lst (rgV a b)))
def mListRA (ma mb : List D → R D) : List D → R D := fun st => (ma st).bind fun x st1 => (mb st1).bind fun y st2 => int2 x y fun i j => chk ((j - i).toNat ≤ 16777216) (.ok (.nd (.lst .own) (rangeD i j)) st2)
@[simp] theorem mListRA_eq (ma mb : List D → R D) (st : List D) : mListRA ma mb st = (ma st).bind fun x st1 => (mb st1).bind fun y st2 => int2 x y fun i j => chk ((j - i).toNat ≤ 16777216) (.ok (.nd (.lst .own) (rangeD i j)) st2) := rfl
end
end PV

namespace PV
open PySem L2
section
variable {X : Cx} {C : Cc} {st ds : List D} {σ : L2.St} {vs : List V} {H H' : Hp} {a b e : Expr} {es : List Expr} {pos pos' p p2 px py pt : Pos} {ma mb : List D → R D} {sa sb : Bool} {qa qb : List D → Option PL}
/-! ### a, b = e1, e2 -/
def mPar (i j : Nat) (ml : List D → R (List D)) : MS := fun st => (ml st).s fun xs st1 => match xs with
  | [x, y] => if i < st1.length ∧ j < st1.length then .nx ((st1.set j y).set i x) else .stuck
  | _ => .stuck
/-! ### x in xs, of flat things -/
def vsOf : List D → Option (List V)
  | [] => some []
  | d :: r => match vOf d, vsOf r with
    | some v, some l => some (v :: l)
    | _, _ => none
def inD (x y : D) : Option Bool := match vOf x, y with
  | some v, .nd (.lst _) ys => match vsOf ys with
    | some us => some (inV v us)
    | none => none
  | some v, .nd .tup ys => match vsOf ys with
    | some us => some (inV v us)
    | none => none
  | _, _ => none
def qIn (neg : Bool) (qa qb : List D → Option PL) : List D → Option PL := fun st => match qa st, qb st with
  | some p, some q => match plD st p, plD st q with
    | some x, some y => match inD x y with
      | some b => some (.sc (.bl (if neg = true then !b else b)))
      | none => none
    | _, _ => none
  | _, _ => none
def mIn (neg : Bool) (ma mb : List D → R D) : List D → R D := fun st => (ma st).bind fun x st1 => (mb st1).bind fun y st2 => match inD x y with
  | some b => .ok (.bl (if neg = true then !b else b)) st2
  | none => .stuck
/-! ### sorted -/
def lexLe (p q : Int × Int) : Bool := !(SrtO.lexB q p)
def sortP (ps : List (Int × Int)) : List (Int × Int) := ps.mergeSort lexLe
def sortI (ns : List Int) : List Int := ns.mergeSort fun a b => decide (a ≤ b)
def intsD : List D → Option (List Int)
  | [] => some []
  | .int i :: r => match intsD r with
    | some l => some (i :: l)
    | none => none
  | _ => none
@[simp] theorem intsD_map : ∀ ns : List Int, intsD (ns.map D.int) = some ns
  | [] => rfl
  | n :: ns => by simp [intsD, intsD_map ns]
def mSortI (ma : List D → R D) : List D → R D := fun st => (ma st).bind fun d st1 => match d with
  | .nd (.lst _) xs => match intsD xs with
    | some ns => .ok (.nd (.lst .own) ((sortI ns).map D.int)) st1
    | none => .stuck
  | _ => .stuck
def pairsD : List D → Option (List (Int × Int))
  | [] => some []
  | .nd .tup [.int i, .int j] :: r => match pairsD r with
    | some l => some ((i, j) :: l)
    | none => none
  | _ => none
@[simp] theorem pairsD_map : ∀ ps : List (Int × Int), pairsD (ps.map pD) = some ps
  | [] => rfl
  | (i, j) :: ps => by simp [pairsD, pD, pairsD_map ps]
def mSortP (ma : List D → R D) : List D → R D := fun st => (ma st).bind fun d st1 => match d with
  | .nd (.lst _) xs => match pairsD xs with
    | some ps => .ok (.nd (.lst .own) ((sortP ps).map pD)) st1
    | none => .stuck
  | _ => .stuck
def kfH (H : Hp) : V → Int × Int
  | .ref t => match H t with
    | some (.tup [.int i, .int j]) => (i, j)
    | _ => (0, 0)
  | _ => (0, 0)
end
/-! ### in running -/
def parK (i j : Nat) (st1 : List D) (xs : List D) : RS := match xs with
  | [x, y] => if i < st1.length ∧ j < st1.length then .nx ((st1.set j y).set i x) else .stuck
  | _ => .stuck
@[simp] theorem mPar_eq (i j : Nat) (ml : List D → R (List D)) (st : List D) : mPar i j ml st = (ml st).s fun xs st1 => parK i j st1 xs := rfl
@[simp] theorem parK_two (i j : Nat) (st1 : List D) (x y : D) : parK i j st1 [x, y] = chkS (i < st1.length ∧ j < st1.length) (.nx ((st1.set j y).set i x)) := rfl
@[simp] theorem qIn_eq (neg : Bool) (qa qb : List D → Option PL) (st : List D) : qIn neg qa qb st = q2 (qa st) (qb st) fun p q => obn (plD st p) fun x => obn (plD st q) fun y => obn (inD x y) fun b => some (.sc (.bl (neg ^^ b))) := by
  unfold qIn q2
  cases qa st with
  | none => rfl
  | some a =>
    cases qb st with
    | none => rfl
    | some b =>
      simp only [obn]
      cases plD st a with
      | none => rfl
      | some x =>
        cases plD st b with
        | none => rfl
        | some y =>
          simp only
          cases inD x y with
          | none => rfl
          | some b => cases neg <;> cases b <;> rfl
@[simp] theorem mIn_eq (neg : Bool) (ma mb : List D → R D) (st : List D) : mIn neg ma mb st = (ma st).bind fun x st1 => (mb st1).bind fun y st2 => R.of (inD x y) fun b => .ok (.bl (neg ^^ b)) st2 := by
  unfold mIn
  congr 1; funext x st1; congr 1; funext y st2
  cases inD x y with
  | none => rfl
  | some b => cases neg <;> cases b <;> rfl
theorem vsOf_ints : ∀ ns : List Int, vsOf (ns.map D.int) = some (ns.map V.int)
  | [] => rfl
  | n :: ns => by simp [vsOf, vOf, vsOf_ints ns]
@[simp] theorem inD_ints (i : Int) (f : Fl) (ns : List Int) : inD (.int i) (.nd (.lst f) (ns.map D.int)) = some (decide (i ∈ ns)) := by
  unfold inD
  simp only [vOf, vsOf_ints, inV]
  congr 1
  rw [Bool.eq_iff_iff]
  simp [List.any_eq_true, eqV]
def srtIK (st1 : List D) (d : D) : R D := match d with
  | .nd (.lst _) xs => R.of (intsD xs) fun ns => .ok (.nd (.lst .own) ((sortI ns).map D.int)) st1
  | _ => .stuck
@[simp] theorem srtIK_lst (st1 xs : List D) (f : Fl) : srtIK st1 (.nd (.lst f) xs) = R.of (intsD xs) fun ns => .ok (.nd (.lst .own) ((sortI ns).map D.int)) st1 := rfl
@[simp] theorem mSortI_eq (ma : List D → R D) (st : List D) : mSortI ma st = (ma st).bind fun d st1 => srtIK st1 d := by
  unfold mSortI
  congr 1; funext d st1
  match d with
  | .nd (.lst f) xs => simp only [srtIK_lst, R.of]; cases intsD xs <;> rfl
  | .un | .non | .bl _ | .int _ | .str _ | .scr _ | .nd .tup _ | .nd (.dct _ _) _ | .nd (.ins _ _ _) _ => rfl
def srtPK (st1 : List D) (d : D) : R D := match d with
  | .nd (.lst _) xs => R.of (pairsD xs) fun ps => .ok (.nd (.lst .own) ((sortP ps).map pD)) st1
  | _ => .stuck
@[simp] theorem srtPK_lst (st1 xs : List D) (f : Fl) : srtPK st1 (.nd (.lst f) xs) = R.of (pairsD xs) fun ps => .ok (.nd (.lst .own) ((sortP ps).map pD)) st1 := rfl
@[simp] theorem mSortP_eq (ma : List D → R D) (st : List D) : mSortP ma st = (ma st).bind fun d st1 => srtPK st1 d := by
  unfold mSortP
  congr 1; funext d st1
  match d with
  | .nd (.lst f) xs => simp only [srtPK_lst, R.of]; cases pairsD xs <;> rfl
  | .un | .non | .bl _ | .int _ | .str _ | .scr _ | .nd .tup _ | .nd (.dct _ _) _ | .nd (.ins _ _ _) _ => rfl
end PV

namespace PV
open PySem L2 PySem.Spec PyProof.Rows
section
variable {X : Cx} {CX : CXT} {k : Nat} {f C0 : Addr} {fd : FuncData} {ps : List Str} {sp : Sp} {E : L2.St → XK} {x m : Str} {p pos apos : Pos} {e o : Expr} {es : List Expr} {ta : TE} {t : TA}
/-! ### methods that may raise; making -/
def tMethV (Ca : Addr) (m : Str) (sp : Sp) (E : L2.St → XK) (ta : TE) (t : TA) : TE := fun σ H Q => ta σ H fun x H1 => ∃ a dx fs, x = .ref a ∧ H1 a = some (.ins Ca dx fs) ∧ fs.lookup m = none ∧ t σ H1 fun vs H2 => sp (x :: vs) H2 Q (E σ)
theorem pe_methV {pl : Sem Bool} (he : PE X o ta) (c : Cls X.K C0) (hm : Meth X.K C0 m f) (F : FnOk X.prog X.w X.K X.mg X.base CX k f fd ps sp) (hr : Room k X.A) (hb : Binds X.K fd ps []) (hx : ∀ σ, PassesAt CX X σ (E σ)) (ha : PA X (e :: es) t)
    (hst : starEach (e :: es) X.env = (false, eval e X.env) :: starEach es X.env := by rfl) (hpl : (backTo pos (starEach es X.env)).any (·.1) = false := by rfl)
    (ht : eval (.Call (.Attribute o m apos) (e :: es) [] pos) X.env = (do
      let ov ← eval o X.env
      standAt apos.atName
      let (f, first) ← holding [ov] (getMethod ov m pl)
      callWith pos f first (backTo pos (starEach (e :: es) X.env)) (backToKw pos (keywordEach [] X.env))) := by rfl) :
    PE X (.Call (.Attribute o m apos) (e :: es) [] pos) (tMethV C0 m sp E ta t) := by
  refine ⟨fun pins s σ H Q I h => ?_⟩
  refine PySem.W.methodCall_KW (pl := pl) (thn (he.run pins s σ H _ I h) fun u s1 ⟨x, H1, I1, rx, a, dx, fs, ex, ea, l, q⟩ => ?_) ht
  subst ex
  obtain rfl : u = Value.ref a := rx
  refine getmeth_ok I1 ea c hm l ?_
  refine PySem.W.callWith_K (first := [.ref a]) (h₀ := X.base) I.ok.mod.kin hm.kp (thn (ha.run pos pins s1 σ H1 _ I1 q) fun us s2 ⟨vs, H2, I2, r, q2⟩ => ⟨I2.kIn, ?_⟩) hst hpl
  exact run_fnS (us := .ref a :: us) (vs := .ref a :: vs) F hr hb (hx σ) I2 (.cons rfl r) q2
theorem pe_methV0 {pl : Sem Bool} (he : PE X o ta) (c : Cls X.K C0) (hm : Meth X.K C0 m f) (F : FnOk X.prog X.w X.K X.mg X.base CX k f fd ps sp) (hr : Room k X.A) (hb : Binds X.K fd ps []) (hx : ∀ σ, PassesAt CX X σ (E σ))
    (ht : eval (.Call (.Attribute o m apos) [] [] pos) X.env = (do
      let ov ← eval o X.env
      standAt apos.atName
      let (f, first) ← holding [ov] (getMethod ov m pl)
      callWith pos f first (backTo pos (starEach [] X.env)) (backToKw pos (keywordEach [] X.env))) := by rfl) :
    PE X (.Call (.Attribute o m apos) [] [] pos) (tMethV C0 m sp E ta tNil) := by
  refine ⟨fun pins s σ H Q I h => ?_⟩
  refine PySem.W.methodCall_KW (pl := pl) (thn (he.run pins s σ H _ I h) fun u s1 ⟨x, H1, I1, rx, a, dx, fs, ex, ea, l, q⟩ => ?_) ht
  subst ex
  obtain rfl : u = Value.ref a := rx
  refine getmeth_ok I1 ea c hm l ?_
  exact PySem.W.callWith_K0 (first := [.ref a]) I1.kIn hm.kp (run_fnS (us := [.ref a]) (vs := [.ref a]) F hr hb (hx σ) I1 (.cons rfl .nil) q)
end
section
variable {X : Cx} {C : Cc} {st ds : List D} {σ : L2.St} {vs : List V} {H H' : Hp} {a b e o : Expr} {es : List Expr} {pos apos p : Pos} {ma : List D → R D} {sa sb : Bool} {qo : List D → Option PL}
variable {k : Nat} {f : Addr} {fd : FuncData} {ps : List Str} {x m c : Str} {ms : List Md} {F : Fn} {am : List D → R (List AD)}
theorem takeNo (O : COk X C) : Takes X fun _ _ _ _ => False := fun u s' ⟨a, B, sI, pins, σ, H, cls, d, e, I, nb, up, sky, na, os, ag, w⟩ => w.elim
theorem passNo (O : COk X C) : Passes (L2.CX X.prog X.w) X fun _ _ _ => False := fun pins σ H s e s' I c => takeNo O e s' (XE.of_call (W := fun _ _ _ _ => False) I (fun _ _ _ h => h) c)
theorem lookup_zip_none {m : Str} : ∀ {ns : List Str} {ws : List V}, m ∉ ns → (ns.zip ws).lookup m = none
  | [], _, _ => rfl
  | _ :: _, [], _ => rfl
  | n :: ns, w :: ws, h => by
    simp at h
    rw [List.zip_cons_cons, List.lookup_cons]
    have : (m == n) = false := by simp; exact h.1
    rw [this]
    exact lookup_zip_none h.2
theorem SX.pushU (s : SX C st ds σ vs H) (u : V) : SX C st (ds ++ [.un]) σ (vs ++ [u]) H := by
  obtain ⟨Z, os, t⟩ := s
  obtain ⟨o1, o2, r1, r2, e⟩ := t.cut
  exact (t.mk2 r1 (r2.app (os := o2) (RpL.one (.un fun _ => rfl)) fun b => by simp) e (fun b => Nat.le_refl _) t.sl).sx
def isMeth (st : List D) (c m : Str) : Option PL → Bool
  | some (.pth r p) => match getS st r p with
    | some (.nd (.ins _ c' ns) _) => decide (c' = c ∧ m ∉ ns)
    | _ => false
  | _ => false
/-- o.m(..) -/
def mMeth (c m : Str) (ms : List Md) (F : Fn) (qo : List D → Option PL) (am : List D → R (List AD)) : List D → R D := fun st => if isMeth st c m (qo st) = true then mCall ms F (aPth qo am) st else .stuck
theorem meth_red {n : Nat} {Ca : Addr} (hn : ms.length = n) (O : COk X C) (hca : C.CA c = some Ca) (hk : sb = true ∨ qPin qo) : ∀ σ H Q, trE C (sb && noIo ms) (mMeth c m ms F qo am) σ H Q → tMethV Ca m (spF X.K C.CA n F) (WE C.W) (trQ C qo) (trA C sb am) σ H Q := by
  rintro σ H Q ⟨st, ds, vs, s, hl, h⟩
  refine ⟨st, ds, vs, s, ?_⟩
  unfold mMeth at h
  split at h
  case isFalse => exact h.elim
  rename_i hi
  cases q : qo st with
  | none => rw [q] at hi; simp [isMeth] at hi
  | some pl =>
    rw [q] at hi
    cases pl with
    | sc d => simp [isMeth] at hi
    | pth r pp =>
      simp only [isMeth] at hi
      cases hg : getS st r pp with
      | none => rw [hg] at hi; simp at hi
      | some d =>
        rw [hg] at hi
        match d, hi, hg with
        | .nd (.ins fl c' ns) xs, hi, hg =>
          simp only [decide_eq_true_eq] at hi
          obtain ⟨rfl, hmn⟩ := hi
          intro u hp
          obtain ⟨a, ws, Z, os, rfl, hk', rl⟩ := s.node hg hp
          obtain ⟨_, A, dx, hA, hH⟩ := id hk'
          rw [hca] at hA; cases hA
          refine ⟨a, dx, _, rfl, hH, lookup_zip_none hmn, st, ds ++ [.un], vs ++ [.ref a], s.pushU _, by simp [hl], ?_⟩
          unfold mCall aPth at h
          rw [q] at h
          simp only at h
          cases q2 : am st with
          | stuck => rw [q2] at h; exact h.elim
          | ex y st' => rw [q2] at h; exact rX.up h hl rfl
          | ok as st2 =>
            rw [q2] at h
            intro us H2 sm2 s2 l2
            refine call_red (as := .lnd r pp :: as) (us := .ref a :: us) hn O (by simpa [List.append_assoc, AD.d] using s2) hl (.lnd ?_ l2) (h.weak sm2)
            rcases hk with hk | hk
            · exact hp.same (sm2 hk)
            · have := hk _ _ _ q
              subst this
              obtain ⟨v, e1, e2⟩ := hp
              exact ⟨v, e1, e2⟩
        | .un, hi, _ => simp at hi
        | .non, hi, _ => simp at hi
        | .bl _, hi, _ => simp at hi
        | .int _, hi, _ => simp at hi
        | .str _, hi, _ => simp at hi
        | .scr _, hi, _ => simp at hi
        | .nd .tup _, hi, _ => simp at hi
        | .nd (.lst _) _, hi, _ => simp at hi
        | .nd (.dct _ _) _, hi, _ => simp at hi
/-- a class's facts -/
structure ClsX (X : Cx) (C : Cc) (c : Str) (Ca : Addr) : Prop where
  ca : C.CA c = some Ca
  cl : Cls X.K Ca
theorem ve_meth {Ca : Addr} {pl : Sem Bool} (O : COk X C) (ho : VQ X C o qo) (T : ClsX X C c Ca) (hm : Meth X.K Ca m f) (G : FnOk X.prog X.w X.K X.mg X.base (L2.CX X.prog X.w) k f fd ps (spF X.K C.CA ps.length F)) (hn : ms.length = ps.length) (hr : Room k X.A) (hb : Binds X.K fd ps [])
    (ha : VA X C sb (e :: es) am) (hk : sb = true ∨ qPin qo)
    (hst : starEach (e :: es) X.env = (false, eval e X.env) :: starEach es X.env := by rfl) (hpl : (backTo pos (starEach es X.env)).any (·.1) = false := by rfl)
    (ht : eval (.Call (.Attribute o m apos) (e :: es) [] pos) X.env = (do
      let ov ← eval o X.env
      standAt apos.atName
      let (f, first) ← holding [ov] (getMethod ov m pl)
      callWith pos f first (backTo pos (starEach (e :: es) X.env)) (backToKw pos (keywordEach [] X.env))) := by rfl) :
    VE X C (sb && noIo ms) (.Call (.Attribute o m apos) (e :: es) [] pos) (mMeth c m ms F qo am) :=
  (pe_methV (pl := pl) ho.pe T.cl hm G hr hb (fun σ => passAt O.tk σ) ha hst hpl ht).impV (meth_red hn O T.ca hk)
theorem ve_meth0 {Ca : Addr} {pl : Sem Bool} (O : COk X C) (ho : VQ X C o qo) (T : ClsX X C c Ca) (hm : Meth X.K Ca m f) (G : FnOk X.prog X.w X.K X.mg X.base (L2.CX X.prog X.w) k f fd ps (spF X.K C.CA ps.length F)) (hn : ms.length = ps.length) (hr : Room k X.A) (hb : Binds X.K fd ps [])
    (ht : eval (.Call (.Attribute o m apos) [] [] pos) X.env = (do
      let ov ← eval o X.env
      standAt apos.atName
      let (f, first) ← holding [ov] (getMethod ov m pl)
      callWith pos f first (backTo pos (starEach [] X.env)) (backToKw pos (keywordEach [] X.env))) := by rfl) :
    VE X C (true && noIo ms) (.Call (.Attribute o m apos) [] [] pos) (mMeth c m ms F qo aNil) :=
  by
    refine (pe_methV0 (pl := pl) (E := WE C.W) ho.pe T.cl hm G hr hb (fun σ => passAt O.tk σ) ht).impV ?_
    intro σ H Q h
    have h2 := meth_red (m := m) (sb := true) (am := aNil) hn O T.ca (.inl rfl) σ H Q h
    obtain ⟨st, ds, vs, s, q⟩ := h2
    refine ⟨st, ds, vs, s, ?_⟩
    cases w : qo st with
    | none => rw [w] at q; exact q
    | some pl =>
      rw [w] at q
      cases pl with
      | sc d =>
        intro v hv
        obtain ⟨a, dx, fs, e1, e2, e3, st', ds', vs', s', hl', r⟩ := q v hv
        exact ⟨a, dx, fs, e1, e2, e3, r [] H (fun _ => Same.refl H) (by simpa using s') .nil⟩
      | pth r p =>
        intro v hv
        obtain ⟨a, dx, fs, e1, e2, e3, st', ds', vs', s', hl', r⟩ := q v hv
        exact ⟨a, dx, fs, e1, e2, e3, r [] H (fun _ => Same.refl H) (by simpa using s') .nil⟩
/-! ### making -/
theorem SX.unrot {x : D} {v : V} {B : List D} {vB : List V} (s : SX C st (ds ++ (B ++ [x])) σ (vs ++ (vB ++ [v])) H) (hl : ds.length = vs.length) (hB : B.length = vB.length) : SX C st (ds ++ (x :: B)) σ (vs ++ (v :: vB)) H := by
  obtain ⟨Z, os, s⟩ := s
  obtain ⟨o1, o2, r1, r2, e⟩ := s.cut
  obtain ⟨o3, o4, r3, r4, e'⟩ := RpL.cut hl r2
  obtain ⟨o5, o6, r5, r6, e2⟩ := RpL.cut hB r4
  exact (s.mk2 (os' := os) (o2 := fun b => o3 b + (o6 b + o5 b)) r1 (r3.app (.cons r6.of1 r5 fun _ => rfl) fun _ => rfl) (fun b => by rw [e, e', e2]; omega) (fun _ => Nat.le_refl _) s.sl).sx
def makeR (c : Str) (ms : List Md) (F : Fn) (as : List AD) (st : List D) : R D := match takeA ms as st with
  | none => .stuck
  | some (st1, bs) => match argsOf ms as bs st1 with
    | none => .stuck
    | some args => match F (.nd (.ins .own c []) [] :: args) with
      | .ok .non (o :: outs) => if D.noBorL (o :: outs) = true then match putA ms as outs st1 with
          | some st2 => .ok o st2
          | none => .stuck
        else .stuck
      | _ => .stuck
def mMake (c : Str) (ms : List Md) (F : Fn) (am : List D → R (List AD)) : List D → R D := fun st => (am st).bind fun as st1 => makeR c ms F as st1
theorem Lnd.len2 {as : List AD} {us : List V} (h : Lnd H σ as us) : (as.map AD.d).length = us.length := by simp [h.len]
theorem make_red {n : Nat} {Ca : Addr} (hn : ms.length + 1 = n) (O : COk X C) (hca : C.CA c = some Ca) : ∀ σ H Q, trE C false (mMake c ms F am) σ H Q → tMake Ca (spF X.K C.CA n F) [] (fun _ _ _ => False) (trA C sa am) σ H Q := by
  rintro σ H Q ⟨st, ds, vs, s, hl, h⟩
  refine ⟨st, ds, vs, s, hl, ?_⟩
  unfold mMake at h
  cases q : am st with
  | stuck => rw [q] at h; exact h.elim
  | ex y st' => rw [q] at h; exact h
  | ok as st1 =>
    rw [q] at h
    simp only [R.bind_ok] at h
    intro us H1 sm s1 hL x dx hx hdx hne
    rw [List.append_nil]
    unfold makeR at h
    cases h1 : takeA ms as st1 with
    | none => rw [h1] at h; exact h.elim
    | some z =>
      obtain ⟨st2, bs⟩ := z
      rw [h1] at h
      simp only at h
      cases h2 : argsOf ms as bs st2 with
      | none => rw [h2] at h; exact h.elim
      | some args =>
        rw [h2] at h
        simp only at h
        have hx' : (upd H1 dx (.own x)) x = none := by rw [upd_ne (fun e => hne e.symm)]; exact hx
        have sH : Same H1 (upd H1 dx (.own x)) := same_new hdx
        have sH2 : Same H1 (upd (upd H1 dx (.own x)) x (.ins Ca dx [])) := sH.trans (same_new hx')
        have s2 := SX.alloc (k := .ins .own c []) (xs := []) (ws := []) (o := .ins Ca dx []) (by simpa using s1.ext sH) (by simp [hl, hL.len]) hx' (show HoK _ _ _ _ _ from ⟨rfl, Ca, dx, hca, upd_same⟩) (.inr rfl)
        have s3 := SX.unrot (ds := ds) (vs := vs) (x := .nd (.ins .own c []) []) (v := .ref x) (B := as.map AD.d) (vB := us) (by simpa [List.append_assoc] using s2) hl hL.len2
        have t1 : takeA (.io :: ms) (.val (.nd (.ins .own c []) []) :: as) st1 = some (st2, .nd (.ins .own c []) [] :: bs) := by simp [takeA, h1]
        have t2 : argsOf (.io :: ms) (.val (.nd (.ins .own c []) []) :: as) (.nd (.ins .own c []) [] :: bs) st2 = some (.nd (.ins .own c []) [] :: args) := by simp [argsOf, h2]
        have hL2 : Lnd (upd (upd H1 dx (.own x)) x (.ins Ca dx [])) σ (.val (.nd (.ins .own c []) []) :: as) (.ref x :: us) := .val (hL.same sH2)
        obtain ⟨os, B, P, kk⟩ := SX.call0 (ms := .io :: ms) (as := .val (.nd (.ins .own c []) []) :: as) (us := .ref x :: us) (by simpa [AD.d] using s3) hl hL2 t1 t2
        have hlen : (V.ref x :: us).length = n := by
          have e1 : ∀ {ms : List Md} {as : List AD} {st st1 bs : List D}, takeA ms as st = some (st1, bs) → as.length = ms.length := by
            intro ms
            induction ms with
            | nil => intro as st st1 bs h; cases as with
              | nil => rfl
              | cons a as => simp [takeA] at h
            | cons m ms ih =>
              intro as st st1 bs h
              cases as with
              | nil => simp [takeA] at h
              | cons a as =>
                cases a with
                | val x =>
                  simp only [takeA] at h
                  cases q : takeA ms as st with
                  | none => rw [q] at h; simp at h
                  | some z => simp [ih q]
                | lnd r p =>
                  cases m <;> simp only [takeA] at h
                  · cases q0 : getS st r p with
                    | none => rw [q0] at h; simp at h
                    | some x =>
                      rw [q0] at h; simp only at h
                      cases q : takeA ms as (setS st r p .un) with
                      | none => rw [q] at h; simp at h
                      | some z => simp [ih q]
                  · cases q : takeA ms as st with
                    | none => rw [q] at h; simp at h
                    | some z => simp [ih q]
                  · cases q0 : getS st r p with
                    | none => rw [q0] at h; simp at h
                    | some x =>
                      rw [q0] at h; simp only at h
                      cases q : takeA ms as (setS st r p x.frz) with
                      | none => rw [q] at h; simp at h
                      | some z => simp [ih q]
          rw [List.length_cons, ← hL.len, e1 h1, hn]
        have hK : C.K = X.K := O.k
        refine ⟨hlen, _, os, B, hK ▸ P, ?_⟩
        cases hF : F (.nd (.ins .own c []) [] :: args) with
        | stuck => rw [hF] at h; exact h.elim
        | ex e outs => rw [hF] at h; exact h.elim
        | ok d outs =>
          rw [hF] at h
          simp only
          match d, outs, h with
          | .non, o :: outs, h =>
            simp only at h
            split at h
            · rename_i nb
              cases h3 : putA ms as outs st2 with
              | none => rw [h3] at h; exact h.elim
              | some st3 =>
                rw [h3] at h
                intro v H' Z' os' Po
                have hv : v = .non := by
                  have := Po.rp
                  cases this with
                  | cons r _ _ => cases r; rfl
                subst hv
                refine ⟨rfl, h _ _ (fun z => by cases z) ?_⟩
                obtain ⟨S2, hL'⟩ := kk [.non] [.non] (o :: outs) H' Z' os' rfl (by simpa using (hK ▸ Po)) (by simpa [D.noBorL, D.noBor] using nb)
                have S3 : SX C st2 ((ds ++ [.non] ++ [o]) ++ outs) σ ((vs ++ [.non] ++ [.ref x]) ++ us) H' := by simpa [List.append_assoc] using S2
                have S4 := SX.putA S3 (by simp [hl]) (show LndI H' σ ms as us from hL') h3
                exact S4.dropMid (d' := [.non]) (v' := [.non]) hl rfl
            · exact h.elim
          | .non, [], h => exact h.elim
          | .un, _, h => exact h.elim
          | .bl _, _, h => exact h.elim
          | .int _, _, h => exact h.elim
          | .str _, _, h => exact h.elim
          | .scr _, _, h => exact h.elim
          | .nd _ _, _, h => exact h.elim
theorem ve_make0 {Ca : Addr} (O : COk X C) (T : ClsX X C c Ca) (M : Mk X.K Ca f) (G : FnOk X.prog X.w X.K X.mg X.base (L2.CX X.prog X.w) k f fd ps (spF X.K C.CA ps.length F)) (hn : 1 = ps.length) (hr : Room (k + 1) X.A) (hg : Gl X x) (hm : X.mg x = some (.ref Ca)) (hb : Binds X.K fd ps [])
    (hdb : (x == ("__debug__" : Str)) = false := by decide) : VE X C false (.Call (.Name x p) [] [] pos) (mMake c [] F aNil) :=
  (pe_make0 (dvs := []) M G hr hg hm hb .nil (passNo O) hdb).impV fun σ H Q h => by
    obtain ⟨st, ds, vs, s, hl, q⟩ := make_red (ms := []) (sa := true) (am := aNil) hn O T.ca σ H Q h
    exact q [] H (fun _ => Same.refl H) (by simpa using s) .nil
/-! ### self.f = e -/
def fldP (c f : Str) (d : D) (st1 : List D) : Option PL → RS
  | some (.pth r p) => match getS st1 r p with
    | some (.nd (.ins .own c' ns) xs) => if c' = c ∧ ns.length < 1000 then match ns.findIdx? (· == f) with
        | some j => .nx (setS st1 r p (.nd (.ins .own c' ns) (xs.set j d)))
        | none => .nx (setS st1 r p (.nd (.ins .own c' (ns ++ [f])) (xs ++ [d])))
      else .stuck
    | _ => .stuck
  | _ => .stuck
def mFld (qo : List D → Option PL) (c f : Str) (ma : List D → R D) : MS := fun st => (ma st).s fun d st1 => fldP c f d st1 (qo st1)
theorem putF_at {f : Str} {y : V} : ∀ {ns : List Str} {ws : List V} {j : Nat}, ns.length = ws.length → ns.findIdx? (· == f) = some j → putF f y (ns.zip ws) = ns.zip (ws.set j y)
  | [], _, _, _, h => by simp at h
  | n :: ns, [], _, hl, _ => by simp at hl
  | n :: ns, w :: ws, j, hl, h => by
    rw [List.findIdx?_cons] at h
    by_cases e : n = f
    · have : (n == f) = true := by simp [e]
      rw [this] at h; simp at h; subst h
      simp [putF, e]
    · have : (n == f) = false := by simp [e]
      rw [this] at h
      cases q : ns.findIdx? (· == f) with
      | none => rw [q] at h; simp at h
      | some i =>
        rw [q] at h; simp at h; subst h
        simp only [List.zip_cons_cons, putF, if_neg e, List.set_cons_succ]
        rw [putF_at (by simpa using hl) q]
theorem putF_new {f : Str} {y : V} : ∀ {ns : List Str} {ws : List V}, ns.length = ws.length → ns.findIdx? (· == f) = none → putF f y (ns.zip ws) = (ns ++ [f]).zip (ws ++ [y])
  | [], [], _, _ => rfl
  | [], _ :: _, hl, _ => by simp at hl
  | n :: ns, [], hl, _ => by simp at hl
  | n :: ns, w :: ws, hl, h => by
    rw [List.findIdx?_cons] at h
    by_cases e : n = f
    · have : (n == f) = true := by simp [e]
      rw [this] at h; simp at h
    · have : (n == f) = false := by simp [e]
      rw [this] at h
      have h' : ns.findIdx? (· == f) = none := by simpa using h
      simp only [List.zip_cons_cons, putF, if_neg e, List.cons_append]
      rw [putF_new (by simpa using hl) h']
theorem vs_fld {value : Expr} {pos' : Pos} {f : Str} (O : COk X C) (ho : VQ X C o qo) (hc : ClsOk X.K C.CA c f) (hv : VE X C sa value ma) (hs : swapsWith value (some (.Attribute o f pos')) pos.line X.env = pure false := by rfl) : VS X C (.Assign [.Attribute o f pos'] value pos) (mFld qo c f ma) := by
  refine (ps_fld ho.pe hv hs).impV ?_
  rintro Dn σ H ⟨st, ds, vs, s, hl, h⟩
  refine seqS s hl h fun d st1 v H1 s1 h1 => ?_
  refine ⟨st1, ds ++ [d], vs ++ [v], s1, ?_⟩
  cases q : qo st1 with
  | none => rw [q] at h1; exact h1.elim
  | some pl =>
    rw [q] at h1
    cases pl with
    | sc _ => exact h1.elim
    | pth r pp =>
      simp only [fldP] at h1
      cases hg : getS st1 r pp with
      | none => rw [hg] at h1; exact h1.elim
      | some x =>
        rw [hg] at h1
        match x, hg, h1 with
        | .nd (.ins .own c' ns) xs, hg, h2 =>
          clear h1
          simp only at h2
          split at h2
          case isFalse => exact h2.elim
          rename_i hz
          obtain ⟨rfl, hz⟩ := hz
          intro u hp
          obtain ⟨a, ws, Z, os, rfl, hk, rl⟩ := s1.node hg hp
          obtain ⟨hlen, A, dx, hA, hH⟩ := id hk
          obtain ⟨c1, c2⟩ := hc A hA
          refine ⟨a, A, dx, _, rfl, hH, c1, c2, by rw [List.length_zip]; omega, ?_⟩
          cases hj : ns.findIdx? (· == f) with
          | some j =>
            rw [hj] at h2
            refine h2 σ _ ?_
            refine s1.mut hl hg rfl hp hk (show HoK _ _ _ (ws.set j v) (.ins .own c' ns) from ⟨by simpa using hlen, A, dx, hA, by rw [upd_same, putF_at hlen hj]⟩) rfl fun G ox on r1 r2 => ?_
            have rd := r2.of1
            by_cases hlt : j < xs.length
            · obtain ⟨w, od, orr, hw, _, ho, k'⟩ := r1.at (j := j) (d := xs[j]) (by simp [hlt])
              exact ⟨fun b => on b + orr b, k' d v on _ rd fun _ => rfl, fun b => by rw [ho]; (try dsimp only); omega⟩
            · rw [List.set_eq_of_length_le (by omega), List.set_eq_of_length_le (by rw [← r1.len]; omega)]
              exact ⟨ox, r1, fun b => by omega⟩
          | none =>
            rw [hj] at h2
            refine h2 σ _ ?_
            exact s1.mut hl hg rfl hp hk (show HoK _ _ _ (ws ++ [v]) (.ins .own c' (ns ++ [f])) from ⟨by simp [hlen], A, dx, hA, by rw [upd_same, putF_new hlen hj]⟩) rfl fun G ox on r1 r2 => ⟨fun b => ox b + on b, r1.app r2 fun _ => rfl, fun b => Nat.le_refl _⟩
        | .un, _, h1 => exact h1.elim
        | .non, _, h1 => exact h1.elim
        | .bl _, _, h1 => exact h1.elim
        | .int _, _, h1 => exact h1.elim
        | .str _, _, h1 => exact h1.elim
        | .scr _, _, h1 => exact h1.elim
        | .nd .tup _, _, h1 => exact h1.elim
        | .nd (.lst _) _, _, h1 => exact h1.elim
        | .nd (.dct _ _) _, _, h1 => exact h1.elim
        | .nd (.ins .bor _ _) _, _, h1 => exact h1.elim
        | .nd (.ins .fz _ _) _, _, h1 => exact h1.elim
end
end PV

namespace PV
open PySem L2
section
variable {X : Cx} {C : Cc} {st ds : List D} {σ : L2.St} {vs : List V} {H H' : Hp} {a b e o : Expr} {es : List Expr} {pos apos p : Pos} {ma : List D → R D} {sa sb : Bool} {qo : List D → Option PL}
variable {k : Nat} {f : Addr} {fd : FuncData} {ps : List Str} {x m c : Str} {ms : List Md} {F : Fn} {am : List D → R (List AD)} {ns : List Str}
/-! ### classes whose fields are known -/
theorem clsOk_of {K : PySem.W.Frag} {CA : Str → Option Addr} {c f : Str} {Ca : Addr} (h : CA c = some Ca) (cl : Cls K Ca) (na : NoAttr K Ca f) : ClsOk K CA c f := fun a h' => by rw [h] at h'; cases h'; exact ⟨cl, na⟩
/-- an instance with just these fields: it, or nothing -/
def insD (c : Str) (ns : List Str) : Option D → Option (Fl × List D)
  | some (.nd (.ins fl c' ns') xs) => if c' = c ∧ ns' = ns then some (fl, xs) else none
  | _ => none
def qFs (c : Str) (ns : List Str) (j : Nat) (qa : List D → Option PL) : List D → Option PL := fun st => match qa st with
  | some (.pth r p) => match insD c ns (getS st r p) with
    | some _ => plOf st r (p ++ [j])
    | none => none
  | _ => none
theorem insD_eq {d : Option D} {fl : Fl} {xs : List D} (h : insD c ns d = some (fl, xs)) : d = some (.nd (.ins fl c ns) xs) := by
  unfold insD at h
  split at h
  · split at h
    · rename_i q
      obtain ⟨rfl, rfl⟩ := q
      simp at h
      obtain ⟨rfl, rfl⟩ := h
      rfl
    · cases h
  · cases h
theorem qFs_qF {f : Str} {j : Nat} (hj : ns.findIdx? (· == f) = some j) {qa : List D → Option PL} {st : List D} {pl : PL} (h : qFs c ns j qa st = some pl) : qF c f qa st = some pl := by
  unfold qFs at h
  unfold qF
  cases q : qa st with
  | none => rw [q] at h; cases h
  | some p =>
    rw [q] at h
    cases p with
    | sc d => cases h
    | pth r pp =>
      simp only at h ⊢
      cases w : insD c ns (getS st r pp) with
      | none => rw [w] at h; cases h
      | some z =>
        obtain ⟨fl, xs⟩ := z
        rw [w] at h
        rw [insD_eq w]
        simp only [if_pos, hj]
        exact h
theorem vq_fs {f : Str} {j : Nat} {qa : List D → Option PL} (O : COk X C) (ha : VQ X C e qa) (hc : ClsOk X.K C.CA c f) (hj : ns.findIdx? (· == f) = some j := by decide +kernel) (hb : attributeBase e f X.env (eval e X.env) = eval e X.env := by rfl) : VQ X C (.Attribute e f pos) (qFs c ns j qa) := by
  have V := vq_f (pos := pos) O ha hc hb
  refine ⟨V.pe.impV ?_, fun st pl h => V.ok st pl (qFs_qF hj h)⟩
  rintro σ H Q ⟨st, ds, vs, s, h⟩
  refine ⟨st, ds, vs, s, ?_⟩
  cases q : qFs c ns j qa st with
  | none => rw [q] at h; exact h.elim
  | some pl => rw [q] at h; rw [qFs_qF hj q]; exact h
def mMethS (c : Str) (ns : List Str) (ms : List Md) (F : Fn) (qo : List D → Option PL) (am : List D → R (List AD)) : List D → R D := fun st => match qo st with
  | some (.pth r p) => match insD c ns (getS st r p) with
    | some _ => mCall ms F (aPth qo am) st
    | none => .stuck
  | _ => .stuck
theorem methS_red (hm : m ∉ ns) {s' : Bool} : ∀ σ H Q, trE C s' (mMethS c ns ms F qo am) σ H Q → trE C s' (mMeth c m ms F qo am) σ H Q := by
  rintro σ H Q ⟨st, ds, vs, s, hl, h⟩
  refine ⟨st, ds, vs, s, hl, ?_⟩
  unfold mMethS at h
  unfold mMeth
  cases q : qo st with
  | none => rw [q] at h; exact h.elim
  | some pl =>
    rw [q] at h
    cases pl with
    | sc d => exact h.elim
    | pth r pp =>
      simp only at h
      cases w : insD c ns (getS st r pp) with
      | none => rw [w] at h; exact h.elim
      | some z =>
        obtain ⟨fl, xs⟩ := z
        rw [w] at h
        have : isMeth st c m (some (.pth r pp)) = true := by simp only [isMeth, insD_eq w, hm]; simp
        rw [if_pos this]
        exact h
theorem ve_methS {Ca : Addr} {pl : Sem Bool} (O : COk X C) (ho : VQ X C o qo) (T : ClsX X C c Ca) (hm : Meth X.K Ca m f) (hmn : m ∉ ns) (G : FnOk X.prog X.w X.K X.mg X.base (L2.CX X.prog X.w) k f fd ps (spF X.K C.CA ps.length F)) (hn : ms.length = ps.length) (hr : Room k X.A) (hb : Binds X.K fd ps [])
    (ha : VA X C sb (e :: es) am) (hk : sb = true ∨ qPin qo)
    (hst : starEach (e :: es) X.env = (false, eval e X.env) :: starEach es X.env := by rfl) (hpl : (backTo pos (starEach es X.env)).any (·.1) = false := by rfl)
    (ht : eval (.Call (.Attribute o m apos) (e :: es) [] pos) X.env = (do
      let ov ← eval o X.env
      standAt apos.atName
      let (f, first) ← holding [ov] (getMethod ov m pl)
      callWith pos f first (backTo pos (starEach (e :: es) X.env)) (backToKw pos (keywordEach [] X.env))) := by rfl) :
    VE X C (sb && noIo ms) (.Call (.Attribute o m apos) (e :: es) [] pos) (mMethS c ns ms F qo am) :=
  (ve_meth (pl := pl) O ho T hm G hn hr hb ha hk hst hpl ht : PE _ _ _).impV (methS_red hmn)
theorem ve_methS0 {Ca : Addr} {pl : Sem Bool} (O : COk X C) (ho : VQ X C o qo) (T : ClsX X C c Ca) (hm : Meth X.K Ca m f) (hmn : m ∉ ns) (G : FnOk X.prog X.w X.K X.mg X.base (L2.CX X.prog X.w) k f fd ps (spF X.K C.CA ps.length F)) (hn : ms.length = ps.length) (hr : Room k X.A) (hb : Binds X.K fd ps [])
    (ht : eval (.Call (.Attribute o m apos) [] [] pos) X.env = (do
      let ov ← eval o X.env
      standAt apos.atName
      let (f, first) ← holding [ov] (getMethod ov m pl)
      callWith pos f first (backTo pos (starEach [] X.env)) (backToKw pos (keywordEach [] X.env))) := by rfl) :
    VE X C (true && noIo ms) (.Call (.Attribute o m apos) [] [] pos) (mMethS c ns ms F qo aNil) :=
  (ve_meth0 (pl := pl) O ho T hm G hn hr hb ht : PE _ _ _).impV (methS_red hmn)
/-- a field that is there -/
def fldK (c : Str) (ns : List Str) (j : Nat) (d : D) (st1 : List D) : Option PL → RS
  | some (.pth r p) => match insD c ns (getS st1 r p) with
    | some (.own, xs) => .nx (setS st1 r p (.nd (.ins .own c ns) (xs.set j d)))
    | _ => .stuck
  | _ => .stuck
def mFldS (qo : List D → Option PL) (c : Str) (ns : List Str) (j : Nat) (ma : List D → R D) : MS := fun st => (ma st).s fun d st1 => fldK c ns j d st1 (qo st1)
/-- a new field -/
def fldN (c : Str) (ns : List Str) (f : Str) (d : D) (st1 : List D) : Option PL → RS
  | some (.pth r p) => match insD c ns (getS st1 r p) with
    | some (.own, xs) => .nx (setS st1 r p (.nd (.ins .own c (ns ++ [f])) (xs ++ [d])))
    | _ => .stuck
  | _ => .stuck
def mFldN (qo : List D → Option PL) (c : Str) (ns : List Str) (f : Str) (ma : List D → R D) : MS := fun st => (ma st).s fun d st1 => fldN c ns f d st1 (qo st1)
theorem fldK_P {f : Str} {j : Nat} {d : D} {st1 : List D} {pl : Option PL} (hz : ns.length < 1000) (hj : ns.findIdx? (· == f) = some j) : fldK c ns j d st1 pl = fldP c f d st1 pl ∨ fldK c ns j d st1 pl = .stuck := by
  cases pl with
  | none => exact .inr rfl
  | some p =>
    cases p with
    | sc _ => exact .inr rfl
    | pth r p =>
      simp only [fldK, fldP]
      cases w : insD c ns (getS st1 r p) with
      | none => exact .inr rfl
      | some z =>
        obtain ⟨fl, xs⟩ := z
        rw [insD_eq w]
        cases fl with
        | own => exact .inl (by simp [hz, hj])
        | bor => exact .inr rfl
        | fz => exact .inr rfl
theorem fldN_P {f : Str} {d : D} {st1 : List D} {pl : Option PL} (hz : ns.length < 1000) (hj : ns.findIdx? (· == f) = none) : fldN c ns f d st1 pl = fldP c f d st1 pl ∨ fldN c ns f d st1 pl = .stuck := by
  cases pl with
  | none => exact .inr rfl
  | some p =>
    cases p with
    | sc _ => exact .inr rfl
    | pth r p =>
      simp only [fldN, fldP]
      cases w : insD c ns (getS st1 r p) with
      | none => exact .inr rfl
      | some z =>
        obtain ⟨fl, xs⟩ := z
        rw [insD_eq w]
        cases fl with
        | own => exact .inl (by simp only [hj, true_and, if_pos hz])
        | bor => exact .inr rfl
        | fz => exact .inr rfl
theorem fld_red {g1 g2 : D → List D → RS} (hg : ∀ d st, g1 d st = g2 d st ∨ g1 d st = .stuck) : ∀ Dn σ H, trS C (fun st => (ma st).s g1) Dn σ H → trS C (fun st => (ma st).s g2) Dn σ H := by
  rintro Dn σ H ⟨st, ds, vs, s, hl, h⟩
  refine ⟨st, ds, vs, s, hl, ?_⟩
  cases q : ma st with
  | stuck => simp only [q] at h; exact h.elim
  | ex e st' => simp only [q] at h ⊢; exact h
  | ok d st1 =>
    simp only [q, R.s_ok] at h ⊢
    rcases hg d st1 with e | e
    · rw [← e]; exact h
    · rw [e] at h; exact h.elim
theorem vs_fldS {value : Expr} {pos' : Pos} {f : Str} {j : Nat} (O : COk X C) (ho : VQ X C o qo) (hc : ClsOk X.K C.CA c f) (hv : VE X C sa value ma) (hz : ns.length < 1000 := by decide) (hj : ns.findIdx? (· == f) = some j := by decide +kernel) (hs : swapsWith value (some (.Attribute o f pos')) pos.line X.env = pure false := by rfl) : VS X C (.Assign [.Attribute o f pos'] value pos) (mFldS qo c ns j ma) :=
  (vs_fld O ho hc hv hs : PS _ _ _).impV (fld_red fun d st => fldK_P hz hj)
theorem vs_fldN {value : Expr} {pos' : Pos} {f : Str} (O : COk X C) (ho : VQ X C o qo) (hc : ClsOk X.K C.CA c f) (hv : VE X C sa value ma) (hz : ns.length < 1000 := by decide) (hj : ns.findIdx? (· == f) = none := by decide +kernel) (hs : swapsWith value (some (.Attribute o f pos')) pos.line X.env = pure false := by rfl) : VS X C (.Assign [.Attribute o f pos'] value pos) (mFldN qo c ns f ma) :=
  (vs_fld O ho hc hv hs : PS _ _ _).impV (fld_red fun d st => fldN_P hz hj)
end
/-! ### in running -/
@[simp] theorem insD_ins (c : Str) (ns : List Str) (fl : Fl) (xs : List D) : insD c ns (some (.nd (.ins fl c ns) xs)) = some (fl, xs) := by simp [insD]
@[simp] theorem qFs_eq (c : Str) (ns : List Str) (j : Nat) (qa : List D → Option PL) (st : List D) : qFs c ns j qa st = obn (qa st) fun pl => match pl with
    | .pth r p => obn (insD c ns (getS st r p)) fun _ => plOf st r (p ++ [j])
    | _ => none := by
  unfold qFs obn
  cases qa st with
  | none => rfl
  | some p => cases p with
    | sc _ => rfl
    | pth r p => simp only; cases insD c ns (getS st r p) <;> rfl
def methK (c : Str) (ns : List Str) (ms : List Md) (F : Fn) (qo : List D → Option PL) (am : List D → R (List AD)) (st : List D) : PL → R D
  | .pth r p => R.of (insD c ns (getS st r p)) fun _ => mCall ms F (aPth qo am) st
  | _ => .stuck
@[simp] theorem methK_pth (c : Str) (ns : List Str) (ms : List Md) (F : Fn) (qo : List D → Option PL) (am : List D → R (List AD)) (st : List D) (r : Nat) (p : Pth) : methK c ns ms F qo am st (.pth r p) = R.of (insD c ns (getS st r p)) fun _ => mCall ms F (aPth qo am) st := rfl
@[simp] theorem mMethS_eq (c : Str) (ns : List Str) (ms : List Md) (F : Fn) (qo : List D → Option PL) (am : List D → R (List AD)) (st : List D) : mMethS c ns ms F qo am st = R.of (qo st) (methK c ns ms F qo am st) := by
  unfold mMethS R.of methK
  cases qo st with
  | none => rfl
  | some p => cases p with
    | sc _ => rfl
    | pth r p => simp only; cases insD c ns (getS st r p) <;> rfl
def fldKk (c : Str) (ns : List Str) (j : Nat) (d : D) (st1 : List D) (r : Nat) (p : Pth) : Option (Fl × List D) → RS
  | some (.own, xs) => .nx (setS st1 r p (.nd (.ins .own c ns) (xs.set j d)))
  | _ => .stuck
@[simp] theorem fldKk_own (c : Str) (ns : List Str) (j : Nat) (d : D) (st1 : List D) (r : Nat) (p : Pth) (xs : List D) : fldKk c ns j d st1 r p (some (.own, xs)) = .nx (setS st1 r p (.nd (.ins .own c ns) (xs.set j d))) := rfl
@[simp] theorem fldK_pth (c : Str) (ns : List Str) (j : Nat) (d : D) (st1 : List D) (r : Nat) (p : Pth) : fldK c ns j d st1 (some (.pth r p)) = fldKk c ns j d st1 r p (insD c ns (getS st1 r p)) := by
  simp only [fldK]
  generalize insD c ns (getS st1 r p) = z
  match z with
  | none => rfl
  | some (.own, xs) => rfl
  | some (.bor, xs) => rfl
  | some (.fz, xs) => rfl
@[simp] theorem mFldS_eq (qo : List D → Option PL) (c : Str) (ns : List Str) (j : Nat) (ma : List D → R D) (st : List D) : mFldS qo c ns j ma st = (ma st).s fun d st1 => fldK c ns j d st1 (qo st1) := rfl
def fldNk (c : Str) (ns : List Str) (f : Str) (d : D) (st1 : List D) (r : Nat) (p : Pth) : Option (Fl × List D) → RS
  | some (.own, xs) => .nx (setS st1 r p (.nd (.ins .own c (ns ++ [f])) (xs ++ [d])))
  | _ => .stuck
@[simp] theorem fldNk_own (c : Str) (ns : List Str) (f : Str) (d : D) (st1 : List D) (r : Nat) (p : Pth) (xs : List D) : fldNk c ns f d st1 r p (some (.own, xs)) = .nx (setS st1 r p (.nd (.ins .own c (ns ++ [f])) (xs ++ [d]))) := rfl
@[simp] theorem fldN_pth (c : Str) (ns : List Str) (f : Str) (d : D) (st1 : List D) (r : Nat) (p : Pth) : fldN c ns f d st1 (some (.pth r p)) = fldNk c ns f d st1 r p (insD c ns (getS st1 r p)) := by
  simp only [fldN]
  generalize insD c ns (getS st1 r p) = z
  match z with
  | none => rfl
  | some (.own, xs) => rfl
  | some (.bor, xs) => rfl
  | some (.fz, xs) => rfl
@[simp] theorem mFldN_eq (qo : List D → Option PL) (c : Str) (ns : List Str) (f : Str) (ma : List D → R D) (st : List D) : mFldN qo c ns f ma st = (ma st).s fun d st1 => fldN c ns f d st1 (qo st1) := rfl
/-- what making gives -/
def mkK (ms : List Md) (as : List AD) (st1 : List D) : FR → R D
  | .ok .non (o :: outs) => chk (D.noBor o = true ∧ D.noBorL outs = true) (R.of (putA ms as outs st1) fun st2 => .ok o st2)
  | _ => .stuck
@[simp] theorem mkK_ok (ms : List Md) (as : List AD) (st1 : List D) (o : D) (outs : List D) : mkK ms as st1 (.ok .non (o :: outs)) = chk (D.noBor o = true ∧ D.noBorL outs = true) (R.of (putA ms as outs st1) fun st2 => .ok o st2) := rfl
@[simp] theorem mMake_eq (c : Str) (ms : List Md) (F : Fn) (am : List D → R (List AD)) (st : List D) : mMake c ms F am st = (am st).bind fun as st1 => R.of (takeA ms as st1) fun z => R.of (argsOf ms as z.2 z.1) fun args => mkK ms as z.1 (F (.nd (.ins .own c []) [] :: args)) := by
  unfold mMake
  congr 1; funext as st1
  unfold makeR R.of
  cases takeA ms as st1 with
  | none => rfl
  | some z =>
    obtain ⟨st2, bs⟩ := z
    simp only
    cases argsOf ms as bs st2 with
    | none => rfl
    | some args =>
      simp only
      cases hF : F (.nd (.ins .own c []) [] :: args) with
      | stuck => rfl
      | ex e outs => rfl
      | ok d outs =>
        match d, outs with
        | .non, o :: outs =>
          simp only [mkK, chk, R.of, D.noBorL, Bool.and_eq_true]
          split
          · cases putA ms as outs st2 <;> rfl
          · rfl
        | .non, [] => rfl
        | .un, _ => cases outs <;> rfl
        | .bl _, _ => cases outs <;> rfl
        | .int _, _ => cases outs <;> rfl
        | .str _, _ => cases outs <;> rfl
        | .scr _, _ => cases outs <;> rfl
        | .nd _ _, _ => cases outs <;> rfl
@[simp] theorem noBor_insOwn (c : Str) (ns : List Str) (xs : List D) : D.noBor (.nd (.ins .own c ns) xs) = D.noBorL xs := by simp [D.noBor, Kd.fl]
@[simp] theorem noBor_insFz (c : Str) (ns : List Str) (xs : List D) : D.noBor (.nd (.ins .fz c ns) xs) = D.noBorL xs := by simp [D.noBor, Kd.fl]
@[simp] theorem noBor_dctOwn (ks : List Key) (xs : List D) : D.noBor (.nd (.dct .own ks) xs) = D.noBorL xs := by simp [D.noBor, Kd.fl]
@[simp] theorem noBor_dctFz (ks : List Key) (xs : List D) : D.noBor (.nd (.dct .fz ks) xs) = D.noBorL xs := by simp [D.noBor, Kd.fl]
def spAt (p : Pth) : Option D → Bool
  | some x => spOk x p
  | none => false
@[simp] theorem spAt_some (p : Pth) (x : D) : spAt p (some x) = spOk x p := rfl
@[simp] theorem spS_eq (st : List D) (r : Nat) (j : Nat) (p : Pth) : spS st r (j :: p) = spAt (j :: p) st[r]? := by
  unfold spS spAt
  cases st[r]? <;> rfl
@[simp] theorem spOk_nil (d : D) : spOk d [] = true := by cases d <;> rfl
@[simp] theorem spOk_lst (xs : List D) (j : Nat) (p : Pth) : spOk (.nd (.lst .own) xs) (j :: p) = spAt p xs[j]? := by
  unfold spAt
  simp only [spOk]
  cases xs[j]? <;> rfl
@[simp] theorem spOk_tup (xs : List D) (j : Nat) (p : Pth) : spOk (.nd .tup xs) (j :: p) = spAt p xs[j]? := by
  unfold spAt
  simp only [spOk]
  cases xs[j]? <;> rfl
@[simp] theorem spOk_ins (c : Str) (ns : List Str) (xs : List D) (j : Nat) (p : Pth) : spOk (.nd (.ins .own c ns) xs) (j :: p) = spAt p xs[j]? := by
  unfold spAt
  simp only [spOk]
  cases xs[j]? <;> rfl
end PV

namespace PV
open PySem L2
def enumD : Nat → List D → List D
  | _, [] => []
  | k, x :: r => .nd .tup [.int (k : Nat), x] :: enumD (k + 1) r
section
variable {X : Cx} {C : Cc} {st ds : List D} {σ : L2.St} {vs : List V} {H H' : Hp} {a b e tg elt : Expr} {pos p pos' spos py : Pos} {ma : List D → R D} {sa se : Bool} {ss : List Stmt} {m : MS} {Dn : Ends} {ws : List Nat} {mt : List D → R Bool} {me : List D → R D} {ifs : List Expr} {scope : Scope} {own : List (Str × Nat)}
/-! ### for i, x in enumerate(xs) -/
def mForE (ma : List D → R D) (g : MG) (body : MS) : MS := fun st => (ma st).s fun d st1 => match d.frz with
  | .nd (.lst _) xs => forL g body (enumD 0 xs) st1
  | _ => .stuck
/-! ### [.. for i, x in enumerate(xs) ..] -/
def mLcN (ma : List D → R D) (ws : List Nat) (g : MG) (mt : List D → R Bool) (me : List D → R D) : List D → R D := fun st => (ma st).bind fun d st1 => match d.frz with
  | .nd (.lst _) xs => lcE (lcL (lcT ws g mt me) (enumD 0 xs) [] st1)
  | _ => .stuck
/-! ### while -/
def whK (f : List D → RS) : RS → RS
  | .nx st2 => f st2
  | .ct st2 => f st2
  | .bk st2 => .nx st2
  | .rt d st2 => .rt d st2
  | .ex e st2 => .ex e st2
  | .stuck => .stuck
def whL (t : List D → R Bool) (b : MS) : Nat → MS
  | 0 => fun _ => .stuck
  | n + 1 => fun st => (t st).s fun c st1 => if c = true then whK (whL t b n) (b st1) else .nx st1
end
/-! ### in running -/
def enK (g : MG) (b : MS) (st1 : List D) : D → RS
  | .nd (.lst _) xs => forL g b (enumD 0 xs) st1
  | _ => .stuck
@[simp] theorem enK_lst (g : MG) (b : MS) (st1 : List D) (f : Fl) (xs : List D) : enK g b st1 (.nd (.lst f) xs) = forL g b (enumD 0 xs) st1 := rfl
@[simp] theorem mForE_eq (ma : List D → R D) (g : MG) (b : MS) (st : List D) : mForE ma g b st = (ma st).s fun d st1 => enK g b st1 d.frz := rfl
def lcNK (ws : List Nat) (g : MG) (mt : List D → R Bool) (me : List D → R D) (st : List D) : D → R D
  | .nd (.lst _) xs => lcE (lcL (lcT ws g mt me) (enumD 0 xs) [] st)
  | _ => .stuck
@[simp] theorem lcNK_lst (ws : List Nat) (g : MG) (mt : List D → R Bool) (me : List D → R D) (st : List D) (f : Fl) (xs : List D) : lcNK ws g mt me st (.nd (.lst f) xs) = lcE (lcL (lcT ws g mt me) (enumD 0 xs) [] st) := rfl
@[simp] theorem mLcN_eq (ma : List D → R D) (ws : List Nat) (g : MG) (mt : List D → R Bool) (me : List D → R D) (st : List D) : mLcN ma ws g mt me st = (ma st).bind fun d st1 => lcNK ws g mt me st1 d.frz := rfl
/-- numbered -/
def enumF {α : Type} : Nat → List α → List (Nat × α)
  | _, [] => []
  | k, x :: r => (k, x) :: enumF (k + 1) r
end PV

namespace PV
open PySem L2
section
variable {X : Cx} {C : Cc} {st ds : List D} {σ : L2.St} {vs : List V} {H H' : Hp} {a b e tg elt : Expr} {pos p pos' spos py : Pos} {ma mb : List D → R D} {sa sb se : Bool} {ss : List Stmt} {m : MS} {ws : List Nat} {mt : List D → R Bool} {me : List D → R D} {ifs : List Expr} {scope : Scope} {own : List (Str × Nat)}
/-! ### ranges over a length: the guard is one that the kernel does not compute -/
def RgC (i j : Int) : Prop := -(2 ^ 62) ≤ i ∧ i < 2 ^ 62 ∧ -(2 ^ 62) ≤ j ∧ j < 2 ^ 62
theorem rgC_of {i j : Int} (h0 : 0 ≤ i) (h1 : i < 1000000000) (h2 : 0 ≤ j) (h3 : j < 1000000000) : RgC i j := ⟨by omega, by omega, by omega, by omega⟩
noncomputable def chC {α : Type} (c : Prop) (x y : α) : α := @ite α c (Classical.propDecidable c) x y
theorem chC_of {α : Type} {c : Prop} {x y : α} (h : c) : chC c x y = x := if_pos h
noncomputable def mLcRC (ma mb : List D → R D) (ws : List Nat) (g : MG) (mt : List D → R Bool) (me : List D → R D) : List D → R D := fun st => (ma st).bind fun x st1 => (mb st1).bind fun y st2 => match x, y with
  | .int i, .int j => chC (RgC i j) (lcE (lcL (lcT ws g mt me) (rangeD i j) [] st2)) .stuck
  | _, _ => .stuck
noncomputable def mLcRC1 (ma : List D → R D) (ws : List Nat) (g : MG) (mt : List D → R Bool) (me : List D → R D) : List D → R D := mLcRC (mK (.int 0)) ma ws g mt me
theorem mLcRC_is (g : MG) : mLcRC ma mb ws g mt me = mLcR ma mb ws g mt me := by
  funext st
  unfold mLcRC mLcR
  congr 1; funext x st1; congr 1; funext y st2
  cases x <;> cases y <;> try rfl
  rename_i i j
  simp only
  by_cases h : RgC i j
  · rw [chC_of h]; unfold RgC at h; rw [if_pos h]
  · unfold chC; rw [if_neg h]; unfold RgC at h; rw [if_neg h]
theorem ve_lcRC1 {g : MG} (O : COk X C) (hc : X.calm = true) (hN : X.N.Nodup) (hf : ∀ i ∈ own.map (·.2), C.fx i = none) (ha : VE X C sa a ma) (B : Blk X C scope own tg elt ifs g mt se me) (hgr : Gl X "range") (hm : X.mg "range" = none)
    (hs1 : starEach [a] X.env = [(false, eval a X.env)] := by rfl) (hs : ∀ x, foldedSetIterable (.Call (.Name "range" p) [a] [] pos') X.env x = pure x := by intro _; rfl) :
    VE X C false (.ListComp elt [⟨tg, .Call (.Name "range" p) [a] [] pos', ifs, 0⟩] scope pos) (mLcRC1 ma (own.map (·.2)) g mt me) := by
  unfold mLcRC1; rw [mLcRC_is]; exact ve_lcR1 O hc hN hf ha B hgr hm hs1 hs
theorem vs_setLcRC1 {g : MG} {i : Nat} {y : Str} (O : COk X C) (hc : X.calm = true) (hN : X.N.Nodup) (hf : ∀ i ∈ own.map (·.2), C.fx i = none) (ha : VE X C sa a ma) (B : Blk X C scope own tg elt ifs g mt se me) (hfx : C.fx i = none) (hgr : Gl X "range") (hm : X.mg "range" = none)
    (hy : X.N[i]? = some y := by rfl) (hyl : X.env.scope.names.lookup y = some .local := by rfl)
    (hk : X.env.scope.kind = .function := by rfl) (hline : (py.line == pos.line) = true := by rfl) (hany : (scope.names.any fun (n, k) => n == y && (k == .local || k == .cell)) = false := by rfl)
    (hs1 : starEach [a] X.env = [(false, eval a X.env)] := by rfl) (hs : ∀ x, foldedSetIterable (.Call (.Name "range" p) [a] [] pos') X.env x = pure x := by intro _; rfl) :
    VS X C (.Assign [.Name y py] (.ListComp elt [⟨tg, .Call (.Name "range" p) [a] [] pos', ifs, 0⟩] scope pos) spos) (mAsg (mLcRC1 ma (own.map (·.2)) g mt me) (gNm i)) := by
  unfold mLcRC1; rw [mLcRC_is]; exact vs_setLcR1 O hc hN hf ha B hfx hgr hm hy hyl hk hline hany hs1 hs
end
theorem lcRC1_of {ma : List D → R D} {ws : List Nat} {g : MG} {mt : List D → R Bool} {me : List D → R D} {st st1 acc st2 : List D} {z : Int} (h : ma st = .ok (.int z) st1) (h0 : 0 ≤ z) (h1 : z < 1000000000) (e : lcL (lcT ws g mt me) (rangeD 0 z) [] st1 = .ok acc st2) : mLcRC1 ma ws g mt me st = .ok (.nd (.lst .own) acc) st2 := by
  unfold mLcRC1 mLcRC mK
  simp only [R.bind_ok, h]
  rw [chC_of (rgC_of (by omega) (by omega) h0 h1), e]
  rfl
end PV

namespace PV
open PySem L2
section
variable {X : Cx} {C : Cc} {st ds : List D} {σ : L2.St} {vs : List V} {H H' : Hp} {a b e i o : Expr} {es : List Expr} {pos pos' p p2 px py pt apos : Pos} {ma mb : List D → R D} {sa sb : Bool} {qa qb qo : List D → Option PL}
/-! ### int(x) of an int or a bool -/
def int1D : D → Option Int
  | .int i => some i
  | .bl b => some (if b then 1 else 0)
  | _ => none
def mInt1 (ma : List D → R D) : List D → R D := fun st => (ma st).bind fun d st1 => match int1D d with
  | some i => .ok (.int i) st1
  | none => .stuck
/-! ### xs * k, of scalars -/
def mRep (ma mb : List D → R D) : List D → R D := fun st => (ma st).bind fun x st1 => (mb st1).bind fun y st2 => match x, y with
  | .nd (.lst _) xs, .int k => match vsOf xs with
    | some _ => if -(2 ^ 63) ≤ k ∧ k < 2 ^ 63 ∧ xs.length * k.toNat ≤ sizeLine then .ok (.nd (.lst .own) (List.replicate k.toNat xs).flatten) st2 else .stuck
    | none => .stuck
  | _, _ => .stuck
/-! ### tuples by <= -/
def leT (ns ms : List Int) : Bool := Ob.lexAt (fun j => decide (ns.getD j 0 = ms.getD j 0)) (fun j => decide (ns.getD j 0 ≤ ms.getD j 0)) (decide (ns.length ≤ ms.length)) 0 (min ns.length ms.length)
theorem leT_two (a b c d : Int) : leT [a, b] [c, d] = if a = c then decide (b ≤ d) else decide (a ≤ c) := by
  simp only [leT, List.length_cons, List.length_nil]
  show Ob.lexAt _ _ _ 0 2 = _
  simp only [Ob.lexAt]
  by_cases h : a = c
  · by_cases h2 : b = d
    · simp [h, h2]
    · simp [h, h2]
  · simp [h]
def mLeT (ma mb : List D → R D) : List D → R D := fun st => (ma st).bind fun x st1 => (mb st1).bind fun y st2 => match x, y with
  | .nd .tup xs, .nd .tup ys => match intsD xs, intsD ys with
    | some ns, some ms => .ok (.bl (leT ns ms)) st2
    | _, _ => .stuck
  | _, _ => .stuck
/-! ### xs.reverse(), xs.pop(), xs.pop(i), xs.insert(i, y) -/
/-- a list at a place, changed by nothing else -/
def mMeth0 (f : List D → Option (D × List D)) (qo : List D → Option PL) : List D → R D := fun st => match qo st with
  | some (.pth r p) => match getS st r p with
    | some (.nd (.lst .own) xs) => match f xs with
      | some (d, ys) => .ok d (setS st r p (.nd (.lst .own) ys))
      | none => .stuck
    | _ => .stuck
  | _ => .stuck
def revF (xs : List D) : Option (D × List D) := some (.non, xs.reverse)
def popF (xs : List D) : Option (D × List D) := match xs.getLast? with
  | some d => match vOf d with
    | some _ => some (d, xs.dropLast)
    | none => none
  | none => none
/-! .. with arguments -/
def mMeth1 (f : D → List D → Option (D × List D)) (qo : List D → Option PL) (mb : List D → R D) : List D → R D := fun st => match qo st with
  | some (.pth r p) => match getS st r p with
    | some (.nd (.lst _) _) => (mb st).bind fun d st1 => match getS st1 r p with
      | some (.nd (.lst .own) xs) => match f d xs with
        | some (y, ys) => .ok y (setS st1 r p (.nd (.lst .own) ys))
        | none => .stuck
      | _ => .stuck
    | _ => .stuck
  | _ => .stuck
def popAtF (d : D) (xs : List D) : Option (D × List D) := match d with
  | .int i => if -(2 ^ 63) ≤ i ∧ i < 2 ^ 63 then match ixN xs.length i with
      | some k => match xs[k]? with
        | some z => match vOf z with
          | some _ => some (z, xs.eraseIdx k)
          | none => none
        | none => none
      | none => none
    else none
  | _ => none
/-- x.insert(i, e), i quiet -/
def mInsert (qo : List D → Option PL) (mi mb : List D → R D) : List D → R D := fun st => match qo st with
  | some (.pth r p) => match getS st r p with
    | some (.nd (.lst _) _) => (mi st).bind fun x st1 => (mb st1).bind fun d st2 => match x, getS st2 r p with
      | .int i, some (.nd (.lst .own) xs) => if xs.length < sizeLine ∧ 0 ≤ i ∧ i < 2 ^ 63 then .ok .non (setS st2 r p (.nd (.lst .own) (xs.take i.toNat ++ [d] ++ xs.drop i.toNat))) else .stuck
      | _, _ => .stuck
    | _ => .stuck
  | _ => .stuck
end
/-! ### in running -/
@[simp] theorem int1D_int (i : Int) : int1D (.int i) = some i := rfl
@[simp] theorem int1D_bl (b : Bool) : int1D (.bl b) = some (if b then 1 else 0) := rfl
@[simp] theorem mInt1_eq (ma : List D → R D) (st : List D) : mInt1 ma st = (ma st).bind fun d st1 => R.of (int1D d) fun i => .ok (.int i) st1 := by
  unfold mInt1; congr 1; funext d st1; cases int1D d <;> rfl
def repK (st2 : List D) (x y : D) : R D := match x, y with
  | .nd (.lst _) xs, .int k => R.of (vsOf xs) fun _ => chk (-9223372036854775808 ≤ k ∧ k < 9223372036854775808 ∧ xs.length * k.toNat ≤ 16777216) (.ok (.nd (.lst .own) (List.replicate k.toNat xs).flatten) st2)
  | _, _ => .stuck
@[simp] theorem repK_lst (st2 : List D) (f : Fl) (xs : List D) (k : Int) : repK st2 (.nd (.lst f) xs) (.int k) = R.of (vsOf xs) fun _ => chk (-9223372036854775808 ≤ k ∧ k < 9223372036854775808 ∧ xs.length * k.toNat ≤ 16777216) (.ok (.nd (.lst .own) (List.replicate k.toNat xs).flatten) st2) := rfl
@[simp] theorem mRep_eq (ma mb : List D → R D) (st : List D) : mRep ma mb st = (ma st).bind fun x st1 => (mb st1).bind fun y st2 => repK st2 x y := by
  unfold mRep
  congr 1; funext x st1; congr 1; funext y st2
  unfold repK
  match x, y with
  | .nd (.lst f) xs, .int k =>
    simp only
    cases vsOf xs <;> rfl
  | .nd (.lst f) xs, .un | .nd (.lst f) xs, .non | .nd (.lst f) xs, .bl _ | .nd (.lst f) xs, .str _ | .nd (.lst f) xs, .scr _ | .nd (.lst f) xs, .nd _ _ => rfl
  | .un, _ | .non, _ | .bl _, _ | .int _, _ | .str _, _ | .scr _, _ | .nd .tup _, _ | .nd (.dct _ _) _, _ | .nd (.ins _ _ _) _, _ => rfl
def leTK (st2 : List D) (x y : D) : R D := match x, y with
  | .nd .tup xs, .nd .tup ys => R.of (intsD xs) fun ns => R.of (intsD ys) fun ms => .ok (.bl (leT ns ms)) st2
  | _, _ => .stuck
@[simp] theorem leTK_two (st2 : List D) (a b c d : Int) : leTK st2 (.nd .tup [.int a, .int b]) (.nd .tup [.int c, .int d]) = .ok (.bl (if a = c then decide (b ≤ d) else decide (a ≤ c))) st2 := by
  simp [leTK, intsD, leT_two, R.of]
@[simp] theorem mLeT_eq (ma mb : List D → R D) (st : List D) : mLeT ma mb st = (ma st).bind fun x st1 => (mb st1).bind fun y st2 => leTK st2 x y := by
  unfold mLeT
  congr 1; funext x st1; congr 1; funext y st2
  unfold leTK
  split
  · rename_i xs ys
    cases intsD xs <;> cases intsD ys <;> rfl
  · rfl
def m0K (f : List D → Option (D × List D)) (st : List D) (r : Nat) (p : Pth) (x : D) : R D := match x with
  | .nd (.lst .own) xs => R.of (f xs) fun z => .ok z.1 (setS st r p (.nd (.lst .own) z.2))
  | _ => .stuck
@[simp] theorem m0K_own (f : List D → Option (D × List D)) (st : List D) (r : Nat) (p : Pth) (xs : List D) : m0K f st r p (.nd (.lst .own) xs) = R.of (f xs) fun z => .ok z.1 (setS st r p (.nd (.lst .own) z.2)) := rfl
@[simp] theorem mMeth0_eq (f : List D → Option (D × List D)) (qo : List D → Option PL) (st : List D) : mMeth0 f qo st = R.of (qo st) fun pl => pthK pl fun r p => R.of (getS st r p) (m0K f st r p) := by
  unfold mMeth0 R.of
  cases qo st with
  | none => rfl
  | some pl =>
    cases pl with
    | sc d => rfl
    | pth r p =>
      simp only [pthK]
      cases getS st r p with
      | none => rfl
      | some x =>
        simp only
        unfold m0K
        match x with
        | .nd (.lst .own) xs =>
          simp only [R.of]
          cases f xs <;> rfl
        | .nd (.lst .bor) _ | .nd (.lst .fz) _ | .nd .tup _ | .nd (.dct _ _) _ | .nd (.ins _ _ _) _ | .un | .non | .bl _ | .int _ | .str _ | .scr _ => rfl
def m1K (f : D → List D → Option (D × List D)) (d : D) (st : List D) (r : Nat) (p : Pth) (x : D) : R D := match x with
  | .nd (.lst .own) xs => R.of (f d xs) fun z => .ok z.1 (setS st r p (.nd (.lst .own) z.2))
  | _ => .stuck
@[simp] theorem m1K_own (f : D → List D → Option (D × List D)) (d : D) (st : List D) (r : Nat) (p : Pth) (xs : List D) : m1K f d st r p (.nd (.lst .own) xs) = R.of (f d xs) fun z => .ok z.1 (setS st r p (.nd (.lst .own) z.2)) := rfl
@[simp] theorem mMeth1_eq (f : D → List D → Option (D × List D)) (qo : List D → Option PL) (mb : List D → R D) (st : List D) : mMeth1 f qo mb st = R.of (qo st) fun pl => pthK pl fun r p => R.of (getS st r p) fun x => lstK x ((mb st).bind fun d st1 => R.of (getS st1 r p) (m1K f d st1 r p)) := by
  unfold mMeth1 R.of
  cases qo st with
  | none => rfl
  | some pl =>
    cases pl with
    | sc d => rfl
    | pth r p =>
      simp only [pthK]
      cases getS st r p with
      | none => rfl
      | some x =>
        match x with
        | .nd (.lst g) xs =>
          simp only [lstK]
          congr 1; funext d st1
          cases getS st1 r p with
          | none => rfl
          | some y =>
            simp only
            unfold m1K
            match y with
            | .nd (.lst .own) ys =>
              simp only [R.of]
              cases f d ys <;> rfl
            | .nd (.lst .bor) _ | .nd (.lst .fz) _ | .nd .tup _ | .nd (.dct _ _) _ | .nd (.ins _ _ _) _ | .un | .non | .bl _ | .int _ | .str _ | .scr _ => rfl
        | .nd .tup _ | .nd (.dct _ _) _ | .nd (.ins _ _ _) _ | .un | .non | .bl _ | .int _ | .str _ | .scr _ => rfl
@[simp] theorem revF_eq (xs : List D) : revF xs = some (.non, xs.reverse) := rfl
@[simp] theorem popF_int (xs : List D) (i : Int) : popF (xs ++ [.int i]) = some (.int i, xs) := by simp [popF, vOf]
@[simp] theorem popAtF_0 (xs : List D) (i : Int) : popAtF (.int 0) (.int i :: xs) = some (.int i, xs) := by
  have h : ixN (xs.length + 1) 0 = some 0 := by
    unfold ixN
    rw [if_pos (by decide), if_pos (by omega)]; rfl
  simp [popAtF, vOf, h]
def insK (x d : D) (st : List D) (r : Nat) (p : Pth) (y : D) : R D := match x, y with
  | .int i, .nd (.lst .own) xs => chk (xs.length < 16777216 ∧ 0 ≤ i ∧ i < 9223372036854775808) (.ok .non (setS st r p (.nd (.lst .own) (xs.take i.toNat ++ [d] ++ xs.drop i.toNat))))
  | _, _ => .stuck
@[simp] theorem insK_own (i : Int) (d : D) (st : List D) (r : Nat) (p : Pth) (xs : List D) : insK (.int i) d st r p (.nd (.lst .own) xs) = chk (xs.length < 16777216 ∧ 0 ≤ i ∧ i < 9223372036854775808) (.ok .non (setS st r p (.nd (.lst .own) (xs.take i.toNat ++ [d] ++ xs.drop i.toNat)))) := rfl
@[simp] theorem mInsert_eq (qo : List D → Option PL) (ma mb : List D → R D) (st : List D) : mInsert qo ma mb st = R.of (qo st) fun pl => pthK pl fun r p => R.of (getS st r p) fun x => lstK x ((ma st).bind fun i st1 => (mb st1).bind fun d st2 => R.of (getS st2 r p) (insK i d st2 r p)) := by
  unfold mInsert R.of
  cases qo st with
  | none => rfl
  | some pl =>
    cases pl with
    | sc d => rfl
    | pth r p =>
      simp only [pthK]
      cases getS st r p with
      | none => rfl
      | some x =>
        match x with
        | .nd (.lst g) xs =>
          simp only [lstK]
          congr 1; funext i st1; congr 1; funext d st2
          cases getS st2 r p with
          | none => cases i <;> rfl
          | some y =>
            simp only
            unfold insK
            match i, y with
            | .int i, .nd (.lst .own) ys => rfl
            | .int i, .nd (.lst .bor) _ | .int i, .nd (.lst .fz) _ | .int i, .nd .tup _ | .int i, .nd (.dct _ _) _ | .int i, .nd (.ins _ _ _) _ | .int i, .un | .int i, .non | .int i, .bl _ | .int i, .int _ | .int i, .str _ | .int i, .scr _ => rfl
            | .un, _ | .non, _ | .bl _, _ | .str _, _ | .scr _, _ | .nd _ _, _ => rfl
        | .nd .tup _ | .nd (.dct _ _) _ | .nd (.ins _ _ _) _ | .un | .non | .bl _ | .int _ | .str _ | .scr _ => rfl
end PV

namespace PV
open PySem L2
section
variable {X : Cx} {C : Cc} {st ds : List D} {σ : L2.St} {vs : List V} {H H' : Hp} {a b e o tg elt iter : Expr} {pos p pos' p2 spos py apos : Pos} {ma mb : List D → R D} {sa sb se : Bool} {ss : List Stmt} {m : MS} {ws : List Nat} {g : MG} {mt : List D → R Bool} {me : List D → R D} {ifs : List Expr} {scope : Scope} {own : List (Str × Nat)} {Dn : Ends} {qa qb qo : List D → Option PL}
/-! ### sep.join(xs) -/
def strsD : List D → Option (List Str)
  | [] => some []
  | .str s :: r => match strsD r with
    | some l => some (s :: l)
    | none => none
  | _ => none
@[simp] theorem strsD_map : ∀ ns : List Str, strsD (ns.map D.str) = some ns
  | [] => rfl
  | n :: ns => by simp [strsD, strsD_map ns]
def JoinOk (a : Str) (l : List Str) : Prop := (l.map (·.length)).sum + l.length * a.length ≤ 16777216
instance (a : Str) (l : List Str) : Decidable (JoinOk a l) := by unfold JoinOk; infer_instance
def mJoin (ma mb : List D → R D) : List D → R D := fun st => (ma st).bind fun x st1 => match x with
  | .str a => (mb st1).bind fun y st2 => match y with
    | .nd (.lst _) ys => match strsD ys with
      | some l => if JoinOk a l then .ok (.str (Txt.join a l)) st2 else .stuck
      | none => .stuck
    | _ => .stuck
  | _ => .stuck
/-! ### walks over a text -/
def signsD (z : Str) : List D := z.cps.toList.map fun c => .str ⟨#[c]⟩
def mLcS (ma : List D → R D) (ws : List Nat) (g : MG) (mt : List D → R Bool) (me : List D → R D) : List D → R D := fun st => (ma st).bind fun d st1 => match d with
  | .str z => lcE (lcL (lcT ws g mt me) (signsD z) [] st1)
  | _ => .stuck
/-- for c in s -/
def mForS (ma : List D → R D) (g : MG) (body : MS) : MS := fun st => (ma st).s fun d st1 => match d with
  | .str z => forL g body (signsD z) st1
  | _ => .stuck
end
/-! ### in running -/
def joinK (st2 : List D) (a : Str) (y : D) : R D := match y with
  | .nd (.lst _) ys => R.of (strsD ys) fun l => chk (JoinOk a l) (.ok (.str (Txt.join a l)) st2)
  | _ => .stuck
@[simp] theorem joinK_lst (st2 : List D) (a : Str) (f : Fl) (ys : List D) : joinK st2 a (.nd (.lst f) ys) = R.of (strsD ys) fun l => chk (JoinOk a l) (.ok (.str (Txt.join a l)) st2) := rfl
def strK {α : Type} (x : D) (k : Str → R α) : R α := match x with
  | .str a => k a
  | _ => .stuck
@[simp] theorem strK_str {α : Type} (a : Str) (k : Str → R α) : strK (.str a) k = k a := rfl
@[simp] theorem mJoin_eq (ma mb : List D → R D) (st : List D) : mJoin ma mb st = (ma st).bind fun x st1 => strK x fun a => (mb st1).bind fun y st2 => joinK st2 a y := by
  unfold mJoin
  congr 1; funext x st1
  cases x with
  | str a =>
    simp only [strK]
    congr 1; funext y st2
    match y with
    | .nd (.lst f) ys =>
      simp only [joinK_lst, R.of]
      cases strsD ys <;> rfl
    | .un | .non | .bl _ | .int _ | .str _ | .scr _ | .nd .tup _ | .nd (.dct _ _) _ | .nd (.ins _ _ _) _ => rfl
  | _ => rfl
@[simp] theorem mLcS_eq (ma : List D → R D) (ws : List Nat) (g : MG) (mt : List D → R Bool) (me : List D → R D) (st : List D) : mLcS ma ws g mt me st = (ma st).bind fun d st1 => strK d fun z => lcE (lcL (lcT ws g mt me) (signsD z) [] st1) := by
  unfold mLcS; congr 1
def strS (x : D) (k : Str → RS) : RS := match x with
  | .str a => k a
  | _ => .stuck
@[simp] theorem strS_str (a : Str) (k : Str → RS) : strS (.str a) k = k a := rfl
@[simp] theorem mForS_eq (ma : List D → R D) (g : MG) (body : MS) (st : List D) : mForS ma g body st = (ma st).s fun d st1 => strS d fun z => forL g body (signsD z) st1 := by
  unfold mForS; congr 1
end PV

namespace PV
open PySem L2
section
variable {X : Cx} {C : Cc} {st ds : List D} {σ : L2.St} {vs : List V} {H H' : Hp} {a b e o tg : Expr} {es : List Expr} {pos p apos : Pos} {qa qb qo : List D → Option PL} {ma mb : List D → R D} {sa sb : Bool} {ss : List Stmt} {m : MS} {Dn : Ends}
def tupS (d : D) (k : List D → RS) : RS := match d with
  | .nd .tup xs => k xs
  | _ => .stuck
@[simp] theorem tupS_tup (xs : List D) (k : List D → RS) : tupS (.nd .tup xs) k = k xs := rfl
/-- for .. in a tuple -/
def mForT (ma : List D → R D) (g : MG) (body : MS) : MS := fun st => (ma st).s fun d st1 => tupS d.frz fun xs => forL g body xs st1
@[simp] theorem mForT_eq (ma : List D → R D) (g : MG) (b : MS) (st : List D) : mForT ma g b st = (ma st).s fun d st1 => tupS d.frz fun xs => forL g b xs st1 := rfl
end
end PV

namespace PV
open PySem L2
/-! ### dicts with numbers or texts for keys -/
def keyD : D → Option Key
  | .int i => some (.inl i)
  | .str s => some (.inr s)
  | _ => none
@[simp] theorem keyD_int (i : Int) : keyD (.int i) = some (.inl i) := rfl
@[simp] theorem keyD_str (s : Str) : keyD (.str s) = some (.inr s) := rfl
def kpos (ks : List Key) (k : Key) : Option Nat := ks.findIdx? fun q => decide (q = k)
section
variable {X : Cx} {C : Cc} {st ds : List D} {σ : L2.St} {vs : List V} {H H' : Hp} {a b e o i tg value : Expr} {es : List Expr} {pos p apos pos' : Pos} {qa qb qo qi : List D → Option PL} {ma mb : List D → R D} {sa sb : Bool} {ss : List Stmt} {m : MS} {Dn : Ends}
/-! #### d[k] -/
def dgAt (st : List D) (r : Nat) (p : Pth) (k : Key) (d : D) : Option PL := match d with
  | .nd (.dct _ ks) _ => obn (kpos ks k) fun j => plOf st r (p ++ [j])
  | _ => none
@[simp] theorem dgAt_dct (st : List D) (r : Nat) (p : Pth) (k : Key) (f : Fl) (ks : List Key) (xs : List D) : dgAt st r p k (.nd (.dct f ks) xs) = obn (kpos ks k) fun j => plOf st r (p ++ [j]) := rfl
def dgQ (st : List D) (a b : PL) : Option PL := match a, b with
  | .pth r p, .sc y => obn (keyD y) fun k => obn (getS st r p) (dgAt st r p k)
  | _, _ => none
@[simp] theorem dgQ_pth (st : List D) (r : Nat) (p : Pth) (y : D) : dgQ st (.pth r p) (.sc y) = obn (keyD y) fun k => obn (getS st r p) (dgAt st r p k) := rfl
def qDg (qa qb : List D → Option PL) : List D → Option PL := fun st => q2 (qa st) (qb st) (dgQ st)
@[simp] theorem qDg_eq (qa qb : List D → Option PL) (st : List D) : qDg qa qb st = q2 (qa st) (qb st) (dgQ st) := rfl
/-! #### k in d -/
def diAt (neg : Bool) (k : Key) (d : D) : Option PL := match d with
  | .nd (.dct _ ks) _ => some (.sc (.bl (if neg = true then !(kpos ks k).isSome else (kpos ks k).isSome)))
  | _ => none
@[simp] theorem diAt_dct (neg : Bool) (k : Key) (f : Fl) (ks : List Key) (xs : List D) : diAt neg k (.nd (.dct f ks) xs) = some (.sc (.bl (if neg = true then !(kpos ks k).isSome else (kpos ks k).isSome))) := rfl
def diQ (neg : Bool) (st : List D) (a b : PL) : Option PL := match a, b with
  | .sc y, .pth r p => obn (keyD y) fun k => obn (getS st r p) (diAt neg k)
  | _, _ => none
@[simp] theorem diQ_pth (neg : Bool) (st : List D) (r : Nat) (p : Pth) (y : D) : diQ neg st (.sc y) (.pth r p) = obn (keyD y) fun k => obn (getS st r p) (diAt neg k) := rfl
def qDin (neg : Bool) (qa qb : List D → Option PL) : List D → Option PL := fun st => q2 (qa st) (qb st) (diQ neg st)
@[simp] theorem qDin_eq (neg : Bool) (qa qb : List D → Option PL) (st : List D) : qDin neg qa qb st = q2 (qa st) (qb st) (diQ neg st) := rfl
/-! #### {} -/
def mDNew : List D → R D := fun st => .ok (.nd (.dct .own []) []) st
@[simp] theorem mDNew_eq (st : List D) : mDNew st = .ok (.nd (.dct .own []) []) st := rfl
/-! #### d[k] = e -/
def dpS (k : Key) (d : D) (st : List D) (r : Nat) (p : Pth) (x : D) : RS := match x with
  | .nd (.dct .own ks) xs => match kpos ks k with
    | some j => chkS (ks.Nodup ∧ ks.length < 16777216) (.nx (setS st r p (.nd (.dct .own ks) (xs.set j d))))
    | none => chkS (ks.length < 16777216) (.nx (setS st r p (.nd (.dct .own (ks ++ [k])) (xs ++ [d]))))
  | _ => .stuck
def ofS {α : Type} (a : Option α) (f : α → RS) : RS := match a with
  | some x => f x
  | none => .stuck
@[simp] theorem ofS_some {α : Type} (x : α) (f : α → RS) : ofS (some x) f = f x := rfl
def pthS (a : PL) (f : Nat → Pth → RS) : RS := match a with
  | .pth r p => f r p
  | _ => .stuck
@[simp] theorem pthS_pth (r : Nat) (p : Pth) (f : Nat → Pth → RS) : pthS (.pth r p) f = f r p := rfl
def scS (a : PL) (f : D → RS) : RS := match a with
  | .sc d => f d
  | _ => .stuck
@[simp] theorem scS_sc (d : D) (f : D → RS) : scS (.sc d) f = f d := rfl
def mDPut (qo qi : List D → Option PL) (ma : List D → R D) : MS := fun st => (ma st).s fun d st1 => ofS (qo st1) fun po => pthS po fun r p => ofS (qi st1) fun pi => scS pi fun y => ofS (keyD y) fun k => ofS (getS st1 r p) (dpS k d st1 r p)
@[simp] theorem mDPut_eq (qo qi : List D → Option PL) (ma : List D → R D) (st : List D) : mDPut qo qi ma st = (ma st).s fun d st1 => ofS (qo st1) fun po => pthS po fun r p => ofS (qi st1) fun pi => scS pi fun y => ofS (keyD y) fun k => ofS (getS st1 r p) (dpS k d st1 r p) := rfl
/-! #### {k: v}, k quiet, v a scalar -/
def dpK (st : List D) (a b : PL) : R D := match a, b with
  | .sc y, .sc d => R.of (keyD y) fun k => .ok (.nd (.dct .own [k]) [d]) st
  | _, _ => .stuck
@[simp] theorem dpK_sc (st : List D) (y d : D) : dpK st (.sc y) (.sc d) = R.of (keyD y) fun k => .ok (.nd (.dct .own [k]) [d]) st := rfl
def mDisp1 (qi qv : List D → Option PL) : List D → R D := fun st => R.of (qi st) fun a => R.of (qv st) fun b => dpK st a b
@[simp] theorem mDisp1_eq (qi qv : List D → Option PL) (st : List D) : mDisp1 qi qv st = R.of (qi st) fun a => R.of (qv st) fun b => dpK st a b := rfl
end
/-! #### places of keys -/
end PV

namespace PV
open PySem L2
section
variable {X : Cx} {C : Cc} {st ds : List D} {σ : L2.St} {vs : List V} {H H' : Hp} {a b e o i tg value : Expr} {es : List Expr} {pos p apos pos' p1 p2 p3 : Pos} {qa qb qo qi : List D → Option PL} {ma mb : List D → R D} {sa sb : Bool} {ss : List Stmt} {m : MS} {Dn : Ends}
/-! ### xs[::-1] of a list -/
def rvR (st : List D) (r : Nat) (p : Pth) (x : D) : R D := match x with
  | .nd (.lst f) xs => .ok (.nd (.lst .own) (D.setL .fz xs).reverse) (setS st r p (.nd (.lst f) (D.setL .fz xs)))
  | _ => .stuck
@[simp] theorem rvR_lst (st : List D) (r : Nat) (p : Pth) (f : Fl) (xs : List D) : rvR st r p (.nd (.lst f) xs) = .ok (.nd (.lst .own) (D.setL .fz xs).reverse) (setS st r p (.nd (.lst f) (D.setL .fz xs))) := rfl
def mRevQ (qa : List D → Option PL) : List D → R D := fun st => R.of (qa st) fun pl => pthK pl fun r p => R.of (getS st r p) (rvR st r p)
@[simp] theorem mRevQ_eq (qa : List D → Option PL) (st : List D) : mRevQ qa st = R.of (qa st) fun pl => pthK pl fun r p => R.of (getS st r p) (rvR st r p) := rfl
end
end PV

namespace PV
open PySem L2
section
variable {X : Cx} {C : Cc} {st ds : List D} {σ : L2.St} {vs : List V} {H H' : Hp} {a b e o i tg value : Expr} {es : List Expr} {pos p apos pos' p1 p2 p3 : Pos} {qa qb qo qi : List D → Option PL} {ma mb : List D → R D} {sa sb : Bool} {ss : List Stmt} {m : MS} {Dn : Ends}
/-! ### x == e, x != e: x a name that stays as it is -/
def eqpK (neg : Bool) (y : D) (st : List D) (x : D) : R D := R.of (eqD x y) fun b => .ok (.bl (if neg = true then !b else b)) st
@[simp] theorem eqpK_eq (neg : Bool) (y : D) (st : List D) (x : D) : eqpK neg y st x = R.of (eqD x y) fun b => .ok (.bl (if neg = true then !b else b)) st := rfl
def mEqP (neg : Bool) (qa : List D → Option PL) (mb : List D → R D) : List D → R D := fun st => R.of (qa st) fun pl => pthK pl fun r p => (mb st).bind fun y st1 => R.of (getS st1 r p) (eqpK neg y st1)
@[simp] theorem mEqP_eq (neg : Bool) (qa : List D → Option PL) (mb : List D → R D) (st : List D) : mEqP neg qa mb st = R.of (qa st) fun pl => pthK pl fun r p => (mb st).bind fun y st1 => R.of (getS st1 r p) (eqpK neg y st1) := rfl
/-! ### any of a list of truths -/
def blsD : List D → Option (List Bool)
  | [] => some []
  | .bl b :: r => match blsD r with
    | some l => some (b :: l)
    | none => none
  | _ => none
@[simp] theorem blsD_map : ∀ bs : List Bool, blsD (bs.map D.bl) = some bs
  | [] => rfl
  | n :: ns => by simp [blsD, blsD_map ns]
def anyK (st : List D) (x : D) : R D := match x with
  | .nd (.lst _) xs => R.of (blsD xs) fun bs => .ok (.bl (bs.any id)) st
  | _ => .stuck
@[simp] theorem anyK_lst (st : List D) (f : Fl) (xs : List D) : anyK st (.nd (.lst f) xs) = R.of (blsD xs) fun bs => .ok (.bl (bs.any id)) st := rfl
def mAny (ma : List D → R D) : List D → R D := fun st => (ma st).bind fun x st1 => anyK st1 x
@[simp] theorem mAny_eq (ma : List D → R D) (st : List D) : mAny ma st = (ma st).bind fun x st1 => anyK st1 x := rfl
end
end PV

namespace L2
open PySem PySem.Spec
end L2
namespace PV
open PySem L2
/-! ### one slot alone -/
def onlyS (n q : Nat) (d : D) : List D := (List.replicate n D.un).set q d
/-- the same context over another ground -/
structure Gr where
  H0 : Hp
  os0 : Ct
  B : Addr → Prop
def Cc.on (C : Cc) (g : Gr) : Cc := ⟨C.K, C.CA, g.H0, g.os0, g.B, C.W, C.fx, C.n⟩
theorem rp_uns' {G : Gd} : ∀ {n : Nat} {ws : List V}, ws.length = n → RpL G (List.replicate n .un) ws (fun _ => 0)
  | 0, [], _ => .nil fun _ => rfl
  | n + 1, w :: ws, h => .cons (o1 := fun _ => 0) (.un fun _ => rfl) (rp_uns' (by simpa using h)) fun b => by simp
  | 0, _ :: _, h => by simp at h
  | n + 1, [], h => by simp at h
section
variable {C : Cc} {Z Z' : Addr → Prop} {st ds : List D} {σ : L2.St} {vs : List V} {H H' : Hp} {os os' : Ct}
theorem SX.only {q : Nat} {dq : D} (s : SX C st ds σ vs H) (hl : ds.length = vs.length) (hq : st[q]? = some dq) (hu : dq ≠ .un) : ∃ g : Gr, SX (C.on g) (onlyS st.length q dq) [] σ [] H ∧
    ∀ (st1 ds1 : List D) (vs1 : List V) (H1 : Hp) (d1 : D), SX (C.on g) st1 ds1 σ vs1 H1 → st1[q]? = some d1 → D.noBorL (d1 :: ds1) = true →
      SX C (st.set q d1) (ds ++ ds1) σ (vs ++ vs1) H1 ∧ ∀ (r : Nat) (p : Pth) (u : V) (e : D), r ≠ q → getS st r p = some e → HPs H σ r p u → HPs H1 σ r p u := by
  classical
  obtain ⟨Z, os, s⟩ := s
  obtain ⟨o1, o2, r1, r2, e⟩ := s.cut
  obtain ⟨w, od, orr, hw, rd, hod, kset⟩ := r1.at hq
  have rest : RpL (C.G Z H) (st.set q .un) (σ.map gd) orr := by
    have := kset .un w (fun _ => 0) orr (.un fun _ => rfl) fun b => by simp
    rw [list_set_same hw] at this
    exact this
  have tot : ∀ b, os b = od b + (orr b + o2 b) := fun b => by rw [e, hod]; omega
  have zd : ∀ b, 0 < od b → Z b ∧ ¬ C.B b := fun b h => ⟨(s.rp.dom b (by rw [tot]; omega)).2.1, (s.rp.dom b (by rw [tot]; omega)).2.2⟩
  have za : ∀ b, 0 < orr b + o2 b → Z b ∧ ¬ C.B b := fun b h => ⟨(s.rp.dom b (by rw [tot]; omega)).2.1, (s.rp.dom b (by rw [tot]; omega)).2.2⟩
  have one1 : ∀ b, od b + (orr b + o2 b) ≤ 1 := fun b => by have := s.nd b; rw [tot] at this; exact this
  have hB : ∀ b, C.B b → ¬ Z b := fun b hb hz => by
    obtain ⟨⟨o, h1⟩, h2⟩ := s.bb b hb
    rcases s.fr b hz with h3 | h3
    · omega
    · rw [h1] at h3; cases h3
  let g : Gr := ⟨H, fun a => if Z a ∧ orr a + o2 a = 0 then 1 else 0, fun a => C.B a ∨ 0 < orr a + o2 a⟩
  have g0 : ∀ a, g.os0 a = 0 ↔ ¬ (Z a ∧ orr a + o2 a = 0) := fun a => by
    show (if Z a ∧ orr a + o2 a = 0 then 1 else 0) = 0 ↔ _
    by_cases c : Z a ∧ orr a + o2 a = 0
    · rw [if_pos c]; exact ⟨fun h => by omega, fun h => absurd c h⟩
    · rw [if_neg c]; exact ⟨fun _ => c, fun _ => rfl⟩
  have hsl : st.length = (σ.map gd).length := by simpa using s.ln
  have hql : q < st.length := (List.getElem?_eq_some_iff.mp hq).1
  obtain ⟨vq, hvq⟩ := s.sl q dq hq hu
  refine ⟨g, ⟨fun a => Z a ∧ orr a + o2 a = 0, od, ?_, ?_, ?_, ?_, ?_, ?_, ?_, ?_, s.fx⟩, ?_⟩
  · have t : Gd.To (C.G Z H) ((C.on g).G (fun a => Z a ∧ orr a + o2 a = 0) H) od := ⟨rfl, rfl, fun b o q _ => q, fun b o _ z y => z y.1, fun b h => ⟨⟨(zd b h).1, by have := one1 b; omega⟩, fun y => y.elim (zd b h).2 fun y => by have := one1 b; omega⟩, fun b o _ z y w => w.elim y fun w => z (za b w).1⟩
    have ru : RpL ((C.on g).G (fun a => Z a ∧ orr a + o2 a = 0) H) (List.replicate st.length .un) (σ.map gd) (fun _ => 0) := rp_uns' hsl.symm
    obtain ⟨w', od', orr', hw', rd', hod', kset'⟩ := ru.at (j := q) (d := .un) (by rw [List.getElem?_replicate, if_pos hql])
    rw [hw] at hw'; cases hw'
    have := kset' dq w od od (rd.mono t) fun b => by have := hod' b; omega
    rw [list_set_same hw] at this
    rw [List.append_nil, List.append_nil]
    exact this
  · intro b; have := one1 b; omega
  · unfold onlyS; simp [s.ln]
  · intro i d hi hd
    unfold onlyS at hi
    by_cases c : i = q
    · subst c; exact ⟨vq, hvq⟩
    · rw [List.getElem?_set_ne (Ne.symm c), List.getElem?_replicate] at hi
      split at hi
      · cases hi; exact absurd rfl hd
      · cases hi
  · intro a o h _; exact h
  · intro a ha
    left
    exact Nat.pos_of_ne_zero fun h => (g0 a).mp h ha
  · intro a ha; exact s.al a ha.1
  · rintro a (ha | ha)
    · obtain ⟨⟨o, h1⟩, h2⟩ := s.bb a ha
      exact ⟨⟨o, s.kp a o h1 h2⟩, (g0 a).mpr fun y => hB a ha y.1⟩
    · obtain ⟨⟨o, h1⟩, _⟩ := s.rp.dom a (by rw [tot]; omega)
      exact ⟨⟨o, h1⟩, (g0 a).mpr fun y => by omega⟩
  · rintro st1 ds1 vs1 H1 d1 ⟨Z1, os1, s1⟩ hd1 nb
    have kp1 : ∀ a o, H a = some o → ¬ (Z a ∧ orr a + o2 a = 0) → H1 a = some o := fun a o h c => s1.kp a o h ((g0 a).mpr c)
    have fr1 : ∀ a, Z1 a → (Z a ∧ orr a + o2 a = 0) ∨ H a = none := fun a h => by
      rcases s1.fr a h with y | y
      · left
        by_cases c : Z a ∧ orr a + o2 a = 0
        · exact c
        · have := (g0 a).mpr c
          have y : 0 < g.os0 a := y
          omega
      · exact .inr y
    have T : Gd.To (C.G Z H) (C.G (fun a => Z1 a ∨ 0 < orr a + o2 a) H1) (fun b => orr b + o2 b) := by
      refine ⟨rfl, rfl, fun b o h c => kp1 b o h fun y => ?_, fun b o h z y => ?_, fun b h => ⟨.inr h, (za b h).2⟩, fun b o _ _ z => z⟩
      · rcases c with c | c
        · have c : 0 < orr b + o2 b := c
          omega
        · exact c y.1
      · rcases y with y | y
        · rcases fr1 b y with w | w
          · exact z w.1
          · have h' : H b = some o := h
            rw [w] at h'; cases h'
        · exact z (za b y).1
    obtain ⟨p1, p2, q1, q2, e1⟩ := s1.cut
    obtain ⟨w1, od1, orr1, hw1, rd1, hod1, _⟩ := q1.at hd1
    rw [hw] at hw1; cases hw1
    have K : Gd.Bk ((C.on g).G Z1 H1) (C.G (fun a => Z1 a ∨ 0 < orr a + o2 a) H1) (fun b => od1 b + p2 b) := by
      refine ⟨rfl, rfl, rfl, fun b h => ?_, fun b z w => ?_, fun b ys h z y => ?_⟩
      · obtain ⟨_, h2, h3⟩ := s1.rp.dom b (by rw [e1, hod1]; (try dsimp only at h); omega)
        exact ⟨.inl h2, fun y => h3 (.inl y)⟩
      · exact ⟨fun y => y.elim z fun y => w (.inr y), fun y => w (.inl y)⟩
      · rcases y with y | y
        · exact z y
        · obtain ⟨o, h3, h4⟩ := s.al b (za b y).1
          have h5 : H1 b = some o := kp1 b o h3 fun c => by omega
          have h6 : H1 b = some (.tup ys) := h
          rw [h5] at h6; cases h6
          exact h4 ys rfl
    simp only [D.noBorL, Bool.and_eq_true] at nb
    have rd2 := rd1.back nb.1 (K.sub fun b h => by (try dsimp only); omega)
    have rs2 := q2.back nb.2 (K.sub fun b h => by (try dsimp only); omega)
    have restT := rest.mono (T.sub fun b h => by (try dsimp only); omega)
    have dsT := r2.mono (T.sub fun b h => by (try dsimp only); omega)
    obtain ⟨w3, od3, orr3, hw3, rd3, hod3, kset3⟩ := restT.at (j := q) (d := .un) (by rw [List.getElem?_set_self hql])
    rw [hw] at hw3; cases hw3
    have full := kset3 d1 w od1 (fun b => od1 b + orr3 b) rd2 fun _ => rfl
    rw [list_set_same hw, List.set_set] at full
    have one2 : ∀ b, 0 < od1 b + p2 b → orr b + o2 b = 0 := fun b h => by
      obtain ⟨_, h2, h3⟩ := s1.rp.dom b (by rw [e1, hod1]; omega)
      exact Nat.eq_zero_of_not_pos fun y => h3 (.inr y)
    refine ⟨⟨fun a => Z1 a ∨ 0 < orr a + o2 a, fun b => (od1 b + orr3 b) + (o2 b + p2 b), ?_, ?_, ?_, ?_, ?_, ?_, ?_, s.bb, s.fx⟩, fun r p u e' hr hg hp => ?_⟩
    · exact full.app (dsT.app rs2 fun _ => rfl) fun _ => rfl
    · intro b
      have h1 := one1 b
      have h2 := s1.nd b
      rw [e1, hod1] at h2
      have h3 := hod3 b
      by_cases c : 0 < od1 b + p2 b
      · have := one2 b c; (try dsimp only); omega
      · (try dsimp only); omega
    · simp [s.ln]
    · intro i d hi hd
      by_cases c : i = q
      · subst c; exact ⟨vq, hvq⟩
      · rw [List.getElem?_set_ne (Ne.symm c)] at hi
        exact s.sl i d hi hd
    · intro a o h1 h2
      refine kp1 a o (s.kp a o h1 h2) fun y => ?_
      rcases s.fr a y.1 with w | w
      · omega
      · rw [h1] at w; cases w
    · rintro a (h | h)
      · rcases fr1 a h with y | y
        · exact s.fr a y.1
        · by_cases c : C.os0 a = 0
          · right
            cases z : C.H0 a with
            | none => rfl
            | some o => have := s.kp a o z c; rw [y] at this; cases this
          · left; omega
      · exact s.fr a (za a h).1
    · rintro a (h | h)
      · exact s1.al a h
      · obtain ⟨o, h3, h4⟩ := s.al a (za a h).1
        exact ⟨o, kp1 a o h3 fun c => by omega, h4⟩
    · -- a path elsewhere
      obtain ⟨v, hv, hp⟩ := hp
      refine ⟨v, hv, ?_⟩
      unfold getS at hg
      cases h0 : st[r]? with
      | none => rw [h0] at hg; cases hg
      | some x =>
        rw [h0] at hg
        have h0' : (st.set q .un)[r]? = some x := by rw [List.getElem?_set_ne (Ne.symm hr)]; exact h0
        obtain ⟨w4, od4, orr4, hw4, rd4, hod4, _⟩ := rest.at h0'
        have : w4 = v := by rw [List.getElem?_map, hv] at hw4; simp at hw4; exact hw4.symm
        subst this
        exact rd4.hpt hg hp (T.sub fun b h => by (try dsimp only); have := hod4 b; omega)
end

/-! ### xs.insert(i, e): xs at a place within a slot, i and e asking one other slot alone -/
def okN {α β : Type} (r : R α) (f : α → List D → R β) : R β := match r with
  | .ok a st => f a st
  | _ => .stuck
@[simp] theorem okN_ok {α β : Type} (a : α) (st : List D) (f : α → List D → R β) : okN (.ok a st) f = f a st := rfl
def mInsN (q : Nat) (qo : List D → Option PL) (mi mb : List D → R D) : List D → R D := fun st => R.of (qo st) fun pl => pthK pl fun r p => chk (r ≠ q) (R.of (getS st r p) fun x => lstK x (R.of st[q]? fun dq => chk (isUn (some dq) = false) (
  okN (mi (onlyS st.length q dq)) fun i st1 => okN (mb st1) fun d st2 => R.of st2[q]? fun d1 => chk (D.noBorL [d1, i, d] = true) (R.of (getS (st.set q d1) r p) (insK i d (st.set q d1) r p)))))
@[simp] theorem mInsN_eq (q : Nat) (qo : List D → Option PL) (mi mb : List D → R D) (st : List D) : mInsN q qo mi mb st = R.of (qo st) fun pl => pthK pl fun r p => chk (r ≠ q) (R.of (getS st r p) fun x => lstK x (R.of st[q]? fun dq => chk (isUn (some dq) = false) (
  okN (mi (onlyS st.length q dq)) fun i st1 => okN (mb st1) fun d st2 => R.of st2[q]? fun d1 => chk (D.noBorL [d1, i, d] = true) (R.of (getS (st.set q d1) r p) (insK i d (st.set q d1) r p))))) := rfl
section
variable {X : Cx} {C : Cc} {st ds : List D} {σ : L2.St} {vs : List V} {H H' : Hp} {a b e o i tg value : Expr} {es : List Expr} {pos p apos pos' p1 p2 p3 : Pos} {qa qb qo qi : List D → Option PL} {ma mb : List D → R D} {sa sb : Bool} {ss : List Stmt} {m : MS} {Dn : Ends}
@[simp] theorem isUn_nd (k : Kd) (xs : List D) : isUn (some (.nd k xs)) = false := rfl
end
end PV

namespace PV
open PySem L2
section
variable {X : Cx} {C : Cc} {st ds : List D} {σ : L2.St} {vs : List V} {H H' : Hp} {a b e tg elt : Expr} {pos p pos' spos py : Pos} {ma mb : List D → R D} {sa sb se : Bool} {ss : List Stmt} {m : MS}
/-! ### for over a range of a length: the guard is one that the kernel does not compute -/
noncomputable def mForRC (ma mb : List D → R D) (g : MG) (body : MS) : MS := fun st => (ma st).s fun x st1 => (mb st1).s fun y st2 => match x, y with
  | .int i, .int j => chC (RgC i j) (forL g body (rangeD i j) st2) .stuck
  | _, _ => .stuck
noncomputable def mForRC1 (mb : List D → R D) (g : MG) (body : MS) : MS := mForRC (mK (.int 0)) mb g body
theorem mForRC_is (g : MG) : mForRC ma mb g m = mForR ma mb g m := by
  funext st
  unfold mForRC
  rw [mForR_eq]
  congr 1; funext x st1; congr 1; funext y st2
  cases x <;> cases y <;> try rfl
  rename_i i j
  simp only [int2S]
  by_cases h : RgC i j
  · rw [chC_of h]; unfold RgC at h; rw [chkS_of (by omega)]
  · unfold chC chkS; rw [if_neg h]; unfold RgC at h; rw [if_neg (by omega)]
theorem vs_forRC1 {g : MG} (hp : PassesOwn (model X.prog X.w) X.A X.env X.xe) (hc : X.calm = true) (ha : VE X C sa a ma) (hg : VG X C tg g) (hb : VB X C ss m) (hgr : Gl X "range") (hm : X.mg "range" = none)
    (hs1 : starEach [a] X.env = [(false, eval a X.env)] := by rfl) (hs : ∀ x, foldedSetIterable (.Call (.Name "range" p) [a] [] pos) X.env x = pure x := by intro _; rfl) {fpos : Pos} : VS X C (.For tg (.Call (.Name "range" p) [a] [] pos) ss [] fpos) (mForRC1 ma g m) := by
  unfold mForRC1; rw [mForRC_is]; exact vs_forR1 hp hc ha hg hb hgr hm hs1 hs
end
theorem forRC1_of {ma : List D → R D} {g : MG} {b : MS} {st st1 : List D} {z : Int} {r : RS} (h : ma st = .ok (.int z) st1) (h0 : 0 ≤ z) (h1 : z < 1000000000) (e : forL g b (rangeD 0 z) st1 = r) : mForRC1 ma g b st = r := by
  unfold mForRC1 mForRC mK
  simp only [R.s_ok, h]
  rw [chC_of (rgC_of (by omega) (by omega) h0 h1), e]
end PV

namespace PV
open PySem L2
section
variable {X : Cx} {C : Cc} {st ds : List D} {σ : L2.St} {vs : List V} {H H' : Hp} {a b e tg elt : Expr} {pos p pos' spos py : Pos} {ma mb : List D → R D} {sa sb se : Bool} {ss : List Stmt} {m : MS}
/-! ### list(range(n)), n a length: the guard is one that the kernel does not compute -/
noncomputable def mListRC1 (mb : List D → R D) : List D → R D := fun st => (mb st).bind fun y st2 => match y with
  | .int j => chC (RgOk 0 j) (.ok (.nd (.lst .own) (rangeD 0 j)) st2) .stuck
  | _ => .stuck
end
end PV

namespace PV
open PySem L2
section
variable {X : Cx} {C : Cc} {st ds : List D} {σ : L2.St} {vs : List V} {H H' : Hp} {a b e o tg elt : Expr} {pos p apos pos' spos py : Pos} {ma mb : List D → R D} {sa sb se : Bool} {ss : List Stmt} {m : MS}
/-! ### e.append(x), e a new list that nobody keeps -/
def appTK (st : List D) (y : D) (x : D) : R D := match x with
  | .nd (.lst .own) xs => chk (xs.length < 16777216) (.ok .non st)
  | _ => .stuck
@[simp] theorem appTK_own (st : List D) (y : D) (xs : List D) : appTK st y (.nd (.lst .own) xs) = chk (xs.length < 16777216) (.ok .non st) := rfl
def mAppT (ma mb : List D → R D) : List D → R D := fun st => (ma st).bind fun x st1 => lstK x ((mb st1).bind fun y st2 => appTK st2 y x)
@[simp] theorem mAppT_eq (ma mb : List D → R D) (st : List D) : mAppT ma mb st = (ma st).bind fun x st1 => lstK x ((mb st1).bind fun y st2 => appTK st2 y x) := rfl
end
end PV

namespace PV
open PySem L2
section
variable {X : Cx} {C : Cc} {st ds : List D} {σ : L2.St} {vs : List V} {H H' : Hp} {a b e o tg elt : Expr} {pos p apos pos' spos py : Pos} {ma mb : List D → R D} {sa sb se : Bool} {ss : List Stmt} {m : MS} {qa qb : List D → Option PL}
/-! ### texts of numbers, numbers of texts -/
def nS (i : Int) : Str := Str.ofString (toString i)
def strIK (st : List D) (d : D) : R D := match d with
  | .int i => chk (i.natAbs.log2 < 1920) (.ok (.str (nS i)) st)
  | _ => .stuck
@[simp] theorem strIK_int (st : List D) (i : Int) : strIK st (.int i) = chk (i.natAbs.log2 < 1920) (.ok (.str (nS i)) st) := rfl
def mStrI (ma : List D → R D) : List D → R D := fun st => (ma st).bind fun d st1 => strIK st1 d
@[simp] theorem mStrI_eq (ma : List D → R D) (st : List D) : mStrI ma st = (ma st).bind fun d st1 => strIK st1 d := rfl
def intSK (st : List D) (d : D) : R D := match d with
  | .str z => R.of (intText? z) fun n => chk (z.length ≤ 640) (.ok (.int n) st)
  | _ => .stuck
@[simp] theorem intSK_str (st : List D) (z : Str) : intSK st (.str z) = R.of (intText? z) fun n => chk (z.length ≤ 640) (.ok (.int n) st) := rfl
def mIntS (ma : List D → R D) : List D → R D := fun st => (ma st).bind fun d st1 => intSK st1 d
@[simp] theorem mIntS_eq (ma : List D → R D) (st : List D) : mIntS ma st = (ma st).bind fun d st1 => intSK st1 d := rfl
/-! ### s.split(sep), s.partition(sep) -/
def splitK (st : List D) (x y : D) : R D := match x, y with
  | .str z, .str w => chk (w.length ≠ 0 ∧ z.length + 2 ≤ 16777216) (.ok (.nd (.lst .own) ((Txt.split z w).map D.str)) st)
  | _, _ => .stuck
@[simp] theorem splitK_str (st : List D) (z w : Str) : splitK st (.str z) (.str w) = chk (w.length ≠ 0 ∧ z.length + 2 ≤ 16777216) (.ok (.nd (.lst .own) ((Txt.split z w).map D.str)) st) := rfl
def mSplit (ma mb : List D → R D) : List D → R D := fun st => (ma st).bind fun x st1 => strK x fun _ => (mb st1).bind fun y st2 => splitK st2 x y
@[simp] theorem mSplit_eq (ma mb : List D → R D) (st : List D) : mSplit ma mb st = (ma st).bind fun x st1 => strK x fun _ => (mb st1).bind fun y st2 => splitK st2 x y := rfl
def partK (st : List D) (x y : D) : R D := match x, y with
  | .str z, .str w => chk (w.length ≠ 0 ∧ z.length ≤ 16777216) (.ok (.nd .tup [.str (Txt.partition z w).1, .str (Txt.partition z w).2.1, .str (Txt.partition z w).2.2]) st)
  | _, _ => .stuck
@[simp] theorem partK_str (st : List D) (z w : Str) : partK st (.str z) (.str w) = chk (w.length ≠ 0 ∧ z.length ≤ 16777216) (.ok (.nd .tup [.str (Txt.partition z w).1, .str (Txt.partition z w).2.1, .str (Txt.partition z w).2.2]) st) := rfl
def mPart (ma mb : List D → R D) : List D → R D := fun st => (ma st).bind fun x st1 => strK x fun _ => (mb st1).bind fun y st2 => partK st2 x y
@[simp] theorem mPart_eq (ma mb : List D → R D) (st : List D) : mPart ma mb st = (ma st).bind fun x st1 => strK x fun _ => (mb st1).bind fun y st2 => partK st2 x y := rfl
/-! ### c in s, c one sign -/
def gInS (neg : Bool) : G2
  | .str ⟨⟨[c]⟩⟩, .str z => some (.bl (if neg = true then !decide (c ∈ z.cps.toList) else decide (c ∈ z.cps.toList)))
  | _, _ => none
@[simp] theorem gInS_sign (neg : Bool) (c : Nat) (z : Str) : gInS neg (.str ⟨#[c]⟩) (.str z) = some (.bl (if neg = true then !decide (c ∈ z.cps.toList) else decide (c ∈ z.cps.toList))) := rfl
/-! ### tuple(xs), xs a list of scalars -/
def tupK (st : List D) (x : D) : R D := match x with
  | .nd (.lst _) xs => R.of (vsOf xs) fun _ => .ok (.nd .tup xs) st
  | _ => .stuck
@[simp] theorem tupK_lst (st : List D) (f : Fl) (xs : List D) : tupK st (.nd (.lst f) xs) = R.of (vsOf xs) fun _ => .ok (.nd .tup xs) st := rfl
def mTupL (ma : List D → R D) : List D → R D := fun st => (ma st).bind fun d st1 => tupK st1 d
@[simp] theorem mTupL_eq (ma : List D → R D) (st : List D) : mTupL ma st = (ma st).bind fun d st1 => tupK st1 d := rfl
@[simp] theorem vsOf_strs : ∀ zs : List Str, vsOf (zs.map D.str) = some (zs.map V.str)
  | [] => rfl
  | z :: zs => by simp [vsOf, vsOf_strs zs, vOf]
end
end PV

namespace PV
open PySem L2
section
variable {X : Cx} {C : Cc} {st ds : List D} {σ : L2.St} {vs : List V} {H H' : Hp} {a b e o f tg elt : Expr} {pos p apos pos' cpos : Pos} {ma mb mc : List D → R D} {sa sb sc : Bool} {ss : List Stmt} {m : MS} {qa qb qo qi qv : List D → Option PL}
/-! ### a number of the module -/
/-! ### d.get(k, x), all quiet -/
def dget2At (st : List D) (r : Nat) (p : Pth) (k : Key) (z : D) (d : D) : Option PL := match d with
  | .nd (.dct _ ks) _ => match kpos ks k with
    | some j => plOf st r (p ++ [j])
    | none => some (.sc z)
  | _ => none
def dget2Q (st : List D) (a b c : PL) : Option PL := match a, b, c with
  | .pth r p, .sc y, .sc z => obn (keyD y) fun k => obn (getS st r p) (dget2At st r p k z)
  | _, _, _ => none
def q3 (a b c : Option PL) (f : PL → PL → PL → Option PL) : Option PL := match a, b, c with
  | some p, some q, some r => f p q r
  | _, _, _ => none
@[simp] theorem q3_some (p q r : PL) (f : PL → PL → PL → Option PL) : q3 (some p) (some q) (some r) f = f p q r := rfl
@[simp] theorem dget2Q_pth (st : List D) (r : Nat) (p : Pth) (y z : D) : dget2Q st (.pth r p) (.sc y) (.sc z) = obn (keyD y) fun k => obn (getS st r p) (dget2At st r p k z) := rfl
def qDget2 (qa qb qc : List D → Option PL) : List D → Option PL := fun st => q3 (qa st) (qb st) (qc st) (dget2Q st)
@[simp] theorem qDget2_eq (qa qb qc : List D → Option PL) (st : List D) : qDget2 qa qb qc st = q3 (qa st) (qb st) (qc st) (dget2Q st) := rfl
end
end PV

namespace PV
open PySem L2
/-! ### a written dict of the module: texts to numbers -/
structure KTb (K : PySem.W.Frag) (mg : Str → Option Value) (w : World) (x : Str) (tb : List (Str × Int)) : Prop where
  ex : ∃ d es n, mg x = some (.ref d) ∧ KDict K w d es n ∧ ∀ z : Str, ∃ r, PySem.W.nsIn K d z = some r ∧ r.isSome = (tb.lookup z).isSome ∧ ∀ i, tb.lookup z = some i → ∃ u, r = some u ∧ RelV (.int i) u
section
variable {X : Cx} {C : Cc} {st ds : List D} {σ : L2.St} {vs : List V} {H H' : Hp} {a b e o : Expr} {pos p : Pos} {ma mb : List D → R D} {sa sb : Bool} {qa qb : List D → Option PL}
def kinQ (neg : Bool) (tb : List (Str × Int)) (p : PL) : Option PL := match p with
  | .sc (.str z) => some (.sc (.bl (if neg = true then !(tb.lookup z).isSome else (tb.lookup z).isSome)))
  | _ => none
@[simp] theorem kinQ_str (neg : Bool) (tb : List (Str × Int)) (z : Str) : kinQ neg tb (.sc (.str z)) = some (.sc (.bl (if neg = true then !(tb.lookup z).isSome else (tb.lookup z).isSome))) := rfl
def qKIn (neg : Bool) (tb : List (Str × Int)) (qa : List D → Option PL) : List D → Option PL := fun st => obn (qa st) (kinQ neg tb)
@[simp] theorem qKIn_eq (neg : Bool) (tb : List (Str × Int)) (qa : List D → Option PL) (st : List D) : qKIn neg tb qa st = obn (qa st) (kinQ neg tb) := rfl
/-! ### a statement that is never reached -/
def mNever : MS := fun _ => .stuck
@[simp] theorem mNever_eq (st : List D) : mNever st = .stuck := rfl
end
/-! ### the end over a head by facts -/
end PV
namespace L2
open PySem PySem.Spec PyProof.Rows PV
end L2

namespace PV
open PySem L2
section
variable {X : Cx} {C : Cc} {st ds : List D} {σ : L2.St} {vs : List V} {H H' : Hp} {a b e o f k v tg elt : Expr} {pos p p2 apos pos' cpos : Pos} {ma mb mc : List D → R D} {sa sb sc : Bool} {ss : List Stmt} {m : MS} {qa qb qo qi qv : List D → Option PL}
/-! ### {k: v, ..}: written keys -/
def rP (C : Cc) (ds : List D) (vs : List V) (σ : L2.St) (ks : List Key) (Q : List (V × V) → Hp → Prop) : R (List D) → Prop
  | .ok xs st => ∀ us H', SX C st (ds ++ xs) σ (vs ++ us) H' → xs.length = us.length → Q ((ks.zip us).map fun q => (kV q.1, q.2)) H'
  | .ex e st => rX C ds vs σ e st
  | .stuck => False
def trP (C : Cc) (ks : List Key) (m : List D → R (List D)) (σ : L2.St) (H : Hp) (Q : List (V × V) → Hp → Prop) : Prop := ∃ st ds vs, SX C st ds σ vs H ∧ ds.length = vs.length ∧ rP C ds vs σ ks Q (m st)
def VP (X : Cx) (C : Cc) (pos : Pos) (keys : List (Option Expr)) (values : List Expr) (ks : List Key) (ml : List D → R (List D)) : Prop := ∃ trs, PPs X pos keys values trs ∧ ∀ σ H Q, trP C ks ml σ H Q → tPairs trs σ H Q
def mDisp (ks : List Key) (ml : List D → R (List D)) : List D → R D := fun st => (ml st).bind fun xs st1 => chk (xs.length = ks.length) (.ok (.nd (.dct .own ks) xs) st1)
@[simp] theorem mDisp_eq (ks : List Key) (ml : List D → R (List D)) (st : List D) : mDisp ks ml st = (ml st).bind fun xs st1 => chk (xs.length = ks.length) (.ok (.nd (.dct .own ks) xs) st1) := rfl
/-! ### x[lo:hi] of a value, quiet bounds -/
def slVK (x : D) (lo hi : Option Int) (st : List D) : R D := match x with
  | .nd (.lst _) xs => .ok (.nd (.lst .own) (cutL xs lo hi)) st
  | _ => .stuck
@[simp] theorem slVK_lst (f : Fl) (xs : List D) (lo hi : Option Int) (st : List D) : slVK (.nd (.lst f) xs) lo hi st = .ok (.nd (.lst .own) (cutL xs lo hi)) st := rfl
def mSlV (ma : List D → R D) (ql qh : List D → Option (Option Int)) : List D → R D := fun st => (ma st).bind fun x st1 => R.of (ql st1) fun lo => R.of (qh st1) fun hi => slVK x lo hi st1
@[simp] theorem mSlV_eq (ma : List D → R D) (ql qh : List D → Option (Option Int)) (st : List D) : mSlV ma ql qh st = (ma st).bind fun x st1 => R.of (ql st1) fun lo => R.of (qh st1) fun hi => slVK x lo hi st1 := rfl
/-! ### sum(xs), max(xs) of a list of numbers -/
def intsK (x : D) (k : List Int → R D) : R D := match x with
  | .nd (.lst _) xs => R.of (intsD xs) k
  | _ => .stuck
@[simp] theorem intsK_lst (f : Fl) (xs : List D) (k : List Int → R D) : intsK (.nd (.lst f) xs) k = R.of (intsD xs) k := rfl
def mSum (ma : List D → R D) : List D → R D := fun st => (ma st).bind fun x st1 => intsK x fun ns => .ok (.int ns.sum) st1
@[simp] theorem mSum_eq (ma : List D → R D) (st : List D) : mSum ma st = (ma st).bind fun x st1 => intsK x fun ns => .ok (.int ns.sum) st1 := rfl
def maxI : List Int → Int
  | [] => 0
  | x :: xs => xs.foldl max x
def mMaxL (ma : List D → R D) : List D → R D := fun st => (ma st).bind fun x st1 => intsK x fun ns => chk (0 < ns.length) (.ok (.int (maxI ns)) st1)
@[simp] theorem mMaxL_eq (ma : List D → R D) (st : List D) : mMaxL ma st = (ma st).bind fun x st1 => intsK x fun ns => chk (0 < ns.length) (.ok (.int (maxI ns)) st1) := rfl
end
end PV

namespace PV
open PySem PySem.Spec PyProof.Rows L2
/-! ### the head's facts over few objects -/
def nsG (g : Addr → Option Obj) (ns : Addr) (x : Str) : Option Value := match g ns with
  | some ⟨_, _, .dict es _, _⟩ => (es.toList.find? (·.key.isStr x)).map (·.val)
  | _ => none
def codeG (g : Addr → Option Obj) (f : Addr) : List Addr := match g f with
  | some ⟨_, _, .func fd, _⟩ => He.refV fd.code
  | _ => []
def globG (g : Addr → Option Obj) (q : Str × List Str) : List Addr := match nsG g mainGlobals q.1 with
  | some (.ref a) => a :: (match g a with
    | some ⟨_, _, .func fd, _⟩ => He.refV fd.code
    | some ⟨_, _, .cls cd, _⟩ => cd.ns :: q.2.flatMap fun m => match nsG g cd.ns m with
      | some (.ref f) => f :: codeG g f
      | _ => []
    | _ => [])
  | _ => []
def asP (g : Addr → Option Obj) (gl : List (Str × List Str)) : List Addr := mainGlobals :: gl.flatMap (globG g)
/-- the list worked out -/
def frK {α : Type} : PySem.W.Frag → (PySem.W.Frag → α) → α
  | [], k => k []
  | (a, o) :: r, k => frK r fun r' => HandSHeadRun.frNat a fun a' => k ((a', o) :: r')
theorem frK_eq {α : Type} : ∀ (l : PySem.W.Frag) (k : PySem.W.Frag → α), frK l k = k l
  | [], k => rfl
  | (a, o) :: r, k => by
    unfold frK
    rw [frK_eq r, HandSHeadRun.frNat_eq]
abbrev AlP : Type := He.AlT × Bool
def obsP (gl : List (Str × List Str)) (fa : List He.Fa) (fn : List He.DefD) (ts : List He.Tab) (ex : PySem.W.Frag → Bool) (g : Addr → Option Obj) : AlP := frK (He.frG g (asP g gl)) fun K => (He.obsT fa fn ts K, ex K)
def valP (fn : List He.DefD) (ts : List He.Tab) (w : World) : AlP := (He.valT fn ts w, true)
structure SaysP (fa : List He.Fa) (fn : List He.DefD) (ts : List He.Tab) (ex : PySem.W.Frag → Bool) (w : World) (K : PySem.W.Frag) : Prop where
  t : He.SaysT fa fn ts w K
  more : ex K = true
def hookP (gl : List (Str × List Str)) (fa : List He.Fa) (fn : List He.DefD) (ts : List He.Tab) (ex : PySem.W.Frag → Bool) : PySem.W.Hook where
  α := AlP
  obs := fun s => obsP gl fa fn ts ex s.heap.get?
  val := fun w => valP fn ts w
  says := fun w h => ∃ K : PySem.W.Frag, K.In h ∧ SaysP fa fn ts ex w K
  of := fun w s e => ⟨_, He.frG_in, by
    have e : obsP gl fa fn ts ex s.heap.get? = valP fn ts w := e
    unfold obsP at e
    rw [frK_eq] at e
    exact ⟨congrArg (fun z : AlP => z.1) e, congrArg (fun z : AlP => z.2) e⟩⟩
  keeps := fun _ _ _ ⟨K, hK, c⟩ k => ⟨K, PySem.W.Frag.In.keeps hK k, c⟩
end PV

namespace PV
open PySem L2
section
variable {X : Cx} {C : Cc} {st ds : List D} {σ : L2.St} {vs : List V} {H H' : Hp} {a b e o f k v tg elt : Expr} {pos p p2 apos pos' cpos : Pos} {ma mb mc : List D → R D} {sa sb sc : Bool} {ss : List Stmt} {m : MS} {qa qb qo qi qv : List D → Option PL}
/-! ### s.count(t), s.find(t), s.index(t) -/
def s2K (f : Str → Str → Option Int) (st : List D) (x y : D) : R D := match x, y with
  | .str z, .str w => R.of (f z w) fun i => .ok (.int i) st
  | _, _ => .stuck
@[simp] theorem s2K_str (f : Str → Str → Option Int) (st : List D) (z w : Str) : s2K f st (.str z) (.str w) = R.of (f z w) fun i => .ok (.int i) st := rfl
def mS2 (f : Str → Str → Option Int) (ma mb : List D → R D) : List D → R D := fun st => (ma st).bind fun x st1 => strK x fun _ => (mb st1).bind fun y st2 => s2K f st2 x y
@[simp] theorem mS2_eq (f : Str → Str → Option Int) (ma mb : List D → R D) (st : List D) : mS2 f ma mb st = (ma st).bind fun x st1 => strK x fun _ => (mb st1).bind fun y st2 => s2K f st2 x y := rfl
def fCount (z w : Str) : Option Int := some (Txt.count z w)
def fFind (z w : Str) : Option Int := some (Txt.find z w)
def fIdx (z w : Str) : Option Int := (Txt.index0 z w).map fun n => (n : Int)
end
end PV

namespace PV
open PySem L2
section
variable {X : Cx} {C : Cc} {st ds : List D} {σ : L2.St} {vs : List V} {H H' : Hp} {a b e o f k v tg elt : Expr} {pos p p2 apos pos' cpos : Pos} {ma mb mc : List D → R D} {sa sb sc : Bool} {ss : List Stmt} {m : MS} {qa qb qo qi qv : List D → Option PL}
/-! ### x in xs, data of any depth -/
def inDD (x y : D) : Option Bool := match toPy x, toPy y with
  | some p, some (.list l) => if (SeqAt.shaped p && SeqAt.shaped (.list l)) = true then some (l.any fun z => PyData.eqv z p) else none
  | _, _ => none
def qInD (neg : Bool) (qa qb : List D → Option PL) : List D → Option PL := fun st => q2 (qa st) (qb st) fun p q => obn (plD st p) fun x => obn (plD st q) fun y => obn (inDD x y) fun b => some (.sc (.bl (if neg = true then !b else b)))
@[simp] theorem qInD_eq (neg : Bool) (qa qb : List D → Option PL) (st : List D) : qInD neg qa qb st = q2 (qa st) (qb st) fun p q => obn (plD st p) fun x => obn (plD st q) fun y => obn (inDD x y) fun b => some (.sc (.bl (if neg = true then !b else b))) := rfl
def mInD (neg : Bool) (ma mb : List D → R D) : List D → R D := fun st => (ma st).bind fun x st1 => (mb st1).bind fun y st2 => R.of (inDD x y) fun b => .ok (.bl (if neg = true then !b else b)) st2
@[simp] theorem mInD_eq (neg : Bool) (ma mb : List D → R D) (st : List D) : mInD neg ma mb st = (ma st).bind fun x st1 => (mb st1).bind fun y st2 => R.of (inDD x y) fun b => .ok (.bl (if neg = true then !b else b)) st2 := rfl
end
end PV

namespace PV
open PySem L2
section
variable {X : Cx} {C : Cc} {st ds : List D} {σ : L2.St} {vs : List V} {H H' : Hp} {a b e o f k v tg elt : Expr} {pos p p2 apos pos' cpos : Pos} {ma mb mc : List D → R D} {sa sb sc : Bool} {ss : List Stmt} {m : MS} {qa qb qo qi qv : List D → Option PL}
/-! ### c * n, one sign -/
def repSK (st : List D) (x y : D) : R D := match x, y with
  | .str ⟨⟨[c]⟩⟩, .int n => chk (2 ≤ n ∧ n ≤ 1000) (.ok (.str ⟨(List.replicate n.toNat c).toArray⟩) st)
  | _, _ => .stuck
@[simp] theorem repSK_sign (st : List D) (c : Nat) (n : Int) : repSK st (.str ⟨#[c]⟩) (.int n) = chk (2 ≤ n ∧ n ≤ 1000) (.ok (.str ⟨(List.replicate n.toNat c).toArray⟩) st) := rfl
def mRepS (ma mb : List D → R D) : List D → R D := fun st => (ma st).bind fun x st1 => (mb st1).bind fun y st2 => repSK st2 x y
@[simp] theorem mRepS_eq (ma mb : List D → R D) (st : List D) : mRepS ma mb st = (ma st).bind fun x st1 => (mb st1).bind fun y st2 => repSK st2 x y := rfl
end
end PV

namespace PV
open PySem L2
section
variable {X : Cx} {C : Cc} {st ds : List D} {σ : L2.St} {vs : List V} {H H' : Hp} {a b e elt tg iter : Expr} {pos pos' spos p p2 py : Pos} {ma mb : List D → R D} {sa sb se : Bool} {ws : List Nat} {g : MG} {mt : List D → R Bool} {me : List D → R D} {ifs : List Expr} {scope : Scope} {own : List (Str × Nat)}
/-! ### a comprehension over a tuple -/
def lcKP (ws : List Nat) (g : MG) (mt : List D → R Bool) (me : List D → R D) (st : List D) (d : D) : R D := match d with
  | .nd .tup xs => lcE (lcL (lcT ws g mt me) xs [] st)
  | _ => .stuck
@[simp] theorem lcKP_tup (ws : List Nat) (g : MG) (mt : List D → R Bool) (me : List D → R D) (st xs : List D) : lcKP ws g mt me st (.nd .tup xs) = lcE (lcL (lcT ws g mt me) xs [] st) := rfl
def mLcP (ma : List D → R D) (ws : List Nat) (g : MG) (mt : List D → R Bool) (me : List D → R D) : List D → R D := fun st => (ma st).bind fun d st1 => lcKP ws g mt me st1 d.frz
@[simp] theorem mLcP_eq (ma : List D → R D) (ws : List Nat) (g : MG) (mt : List D → R Bool) (me : List D → R D) (st : List D) : mLcP ma ws g mt me st = (ma st).bind fun d st1 => lcKP ws g mt me st1 d.frz := rfl
end
end PV

namespace PV
open PySem L2
section
variable {X : Cx} {C : Cc} {st ds : List D} {σ : L2.St} {vs : List V} {H H' : Hp} {a b e elt tg iter : Expr} {pos pos' spos p p2 py : Pos} {ma mb : List D → R D} {sa sb se : Bool} {me : List D → R D} {scope : Scope}
/-! ### a call without arguments -/
/-! ### a comprehension over a text that changes nothing old -/
/-- what the block of a comprehension over a text with one name is asked -/
structure BlkS (X : Cx) (C : Cc) (scope : Scope) (y : Str) (i : Nat) (py : Pos) (elt : Expr) (me : List D → R D) : Prop where
  ok : blkC X.N X.env.scope scope [(y, i)] = true
  hi : X.N[i]? = some y
  hx : ∀ (s : Shared) (H : Hp) (c : Addr) (cl : List (Str × Addr)) (fp : List Addr), Loc (X.blk s H scope (compEnvC scope cl c X.env) fp).env.scope y ∧ ((X.blk s H scope (compEnvC scope cl c X.env) fp).fn y = true ∨ (X.blk s H scope (compEnvC scope cl c X.env) fp).env.scope.names.lookup y = some .local)
  he : ∀ (s : Shared) (H : Hp) (c : Addr) (cl : List (Str × Addr)) (fp : List Addr), COk (X.blk s H scope (compEnvC scope cl c X.env) fp) C.noX → VE (X.blk s H scope (compEnvC scope cl c X.env) fp) C.noX true elt me
end
end PV

namespace PV
open PySem L2
section
variable {X : Cx} {C : Cc} {st ds : List D} {σ : L2.St} {vs : List V} {H H' : Hp} {a b : Expr} {pos p2 : Pos}
/-! ### a text's slice whose end is worked out -/
def slTK (x y : D) (lo : Option Int) (st : List D) : R D := match x, y with
  | .str z, .int u => chk (z.length ≤ sizeLine) (.ok (.str (cutS z lo (some u))) st)
  | _, _ => .stuck
@[simp] theorem slTK_str (z : Str) (u : Int) (lo : Option Int) (st : List D) : slTK (.str z) (.int u) lo st = chk (z.length ≤ 16777216) (.ok (.str (cutS z lo (some u))) st) := rfl
def mSlT (ma : List D → R D) (ql : List D → Option (Option Int)) (mb : List D → R D) : List D → R D := fun st => (ma st).bind fun x st1 => R.of (ql st1) fun lo => (mb st1).bind fun y st2 => slTK x y lo st2
@[simp] theorem mSlT_eq (ma : List D → R D) (ql : List D → Option (Option Int)) (mb : List D → R D) (st : List D) : mSlT ma ql mb st = (ma st).bind fun x st1 => R.of (ql st1) fun lo => (mb st1).bind fun y st2 => slTK x y lo st2 := rfl
end
end PV

namespace PV
open PySem L2
section
variable {X : Cx} {C : Cc} {st ds : List D} {σ : L2.St} {vs : List V} {H H' : Hp} {a b e o f k v tg elt : Expr} {pos p p2 apos pos' cpos : Pos} {ma mb mc : List D → R D} {sa sb sc : Bool} {ss : List Stmt} {m : MS} {qa qb qo qi qv : List D → Option PL}
/-! ### a text n times -/
def repTK (st : List D) (x y : D) : R D := match x, y with
  | .str z, .int n => chk (1 ≤ z.length ∧ z.length ≤ 1000 ∧ 2 ≤ n ∧ n ≤ 1000) (.ok (.str ⟨((List.replicate n.toNat z.cps.toList).flatten).toArray⟩) st)
  | _, _ => .stuck
@[simp] theorem repTK_str (st : List D) (z : Str) (n : Int) : repTK st (.str z) (.int n) = chk (1 ≤ z.length ∧ z.length ≤ 1000 ∧ 2 ≤ n ∧ n ≤ 1000) (.ok (.str ⟨((List.replicate n.toNat z.cps.toList).flatten).toArray⟩) st) := rfl
def mRepT (ma mb : List D → R D) : List D → R D := fun st => (ma st).bind fun x st1 => (mb st1).bind fun y st2 => repTK st2 x y
@[simp] theorem mRepT_eq (ma mb : List D → R D) (st : List D) : mRepT ma mb st = (ma st).bind fun x st1 => (mb st1).bind fun y st2 => repTK st2 x y := rfl
end
end PV

namespace PV
open PySem PySem.Spec PyProof.Rows L2
section
variable {X : Cx} {e : Expr} {td : TE} {p pos apos cpos : Pos}
/-! ### sorted(d.keys()), fewer than 64 keys, all ints -/
def tSK (td : TE) : TE := fun σ H Q => td σ H fun x H1 => ∃ (d : Addr) (kvs : List (Key × V)) (ks : List Int), x = .ref d ∧ Rd H1 d (.dK kvs) ∧ kvs.map (·.1) = ks.map Sum.inl ∧ ks.length < 64 ∧ ∀ (ys : List Int) (q : Addr), ys.Perm ks → ys.Pairwise (· ≤ ·) → H1 q = none → Q (.ref q) (upd H1 q (.lst (ys.map V.int)))
/-! #### as a value -/
def keysI : List Key → Option (List Int)
  | [] => some []
  | .inl i :: ks => match keysI ks with
    | some l => some (i :: l)
    | none => none
  | _ => none
@[simp] theorem keysI_map : ∀ ns : List Int, keysI (ns.map Sum.inl) = some ns
  | [] => rfl
  | i :: ns => by simp [keysI, keysI_map ns]
def skK (st : List D) : D → R D
  | .nd (.dct _ ks) _ => R.of (keysI ks) fun ns => chk (ns.length < 64) (.ok (.nd (.lst .own) ((sortI ns).map D.int)) st)
  | _ => .stuck
@[simp] theorem skK_dct (st : List D) (f : Fl) (ks : List Key) (xs : List D) : skK st (.nd (.dct f ks) xs) = R.of (keysI ks) fun ns => chk (ns.length < 64) (.ok (.nd (.lst .own) ((sortI ns).map D.int)) st) := rfl
def skQ (st : List D) : PL → R D
  | .pth r p => R.of (getS st r p) (skK st)
  | _ => .stuck
@[simp] theorem skQ_pth (st : List D) (r : Nat) (p : Pth) : skQ st (.pth r p) = R.of (getS st r p) (skK st) := rfl
def mSK (qa : List D → Option PL) : List D → R D := fun st => R.of (qa st) (skQ st)
@[simp] theorem mSK_eq (qa : List D → Option PL) (st : List D) : mSK qa st = R.of (qa st) (skQ st) := rfl
end
section
variable {X : Cx} {C : Cc} {st ds : List D} {σ : L2.St} {vs : List V} {H : Hp} {e : Expr} {p pos apos cpos : Pos} {qa : List D → Option PL}
end
end PV

namespace PV
open PySem PySem.Spec PyProof.Rows L2
section
variable {X : Cx} {e : Expr} {td : TE} {p pos apos cpos : Pos}
/-! ### sum(d.values()), all ints -/
def tSV (td : TE) : TE := fun σ H Q => td σ H fun x H1 => ∃ (d : Addr) (kvs : List (Key × V)) (ns : List Int), x = .ref d ∧ Rd H1 d (.dK kvs) ∧ kvs.map (·.2) = ns.map V.int ∧ Q (.int ns.sum) H1
/-! #### as a value -/
def svK (st : List D) : D → R D
  | .nd (.dct _ _) xs => R.of (intsD xs) fun ns => .ok (.int ns.sum) st
  | _ => .stuck
@[simp] theorem svK_dct (st : List D) (f : Fl) (ks : List Key) (xs : List D) : svK st (.nd (.dct f ks) xs) = R.of (intsD xs) fun ns => .ok (.int ns.sum) st := rfl
def svQ (st : List D) : PL → R D
  | .pth r p => R.of (getS st r p) (svK st)
  | _ => .stuck
@[simp] theorem svQ_pth (st : List D) (r : Nat) (p : Pth) : svQ st (.pth r p) = R.of (getS st r p) (svK st) := rfl
def mSV (qa : List D → Option PL) : List D → R D := fun st => R.of (qa st) (svQ st)
@[simp] theorem mSV_eq (qa : List D → Option PL) (st : List D) : mSV qa st = R.of (qa st) (svQ st) := rfl
end
section
variable {X : Cx} {C : Cc} {st ds : List D} {σ : L2.St} {vs : List V} {H : Hp} {e : Expr} {p pos apos cpos : Pos} {qa : List D → Option PL}
end
end PV

namespace PV
open PySem L2
/-! ### one slot alone, and another one lent -/
section
variable {C : Cc} {Z Z' : Addr → Prop} {st ds : List D} {σ : L2.St} {vs : List V} {H H' : Hp} {os os' : Ct}
end

/-! ### xs[e]: xs at a place within a slot; e asks one other slot, and reads the one of xs -/
def ixpK (st : List D) (y x : D) : R D := match x, y with
  | .nd (.lst _) xs, .int i => R.of (atI xs i) fun d => chk (D.noOwn d = true) (.ok d st)
  | _, _ => .stuck
@[simp] theorem ixpK_lst (st : List D) (f : Fl) (xs : List D) (i : Int) : ixpK st (.int i) (.nd (.lst f) xs) = R.of (atI xs i) fun d => chk (D.noOwn d = true) (.ok d st) := rfl
def mIxP (q : Nat) (qo : List D → Option PL) (mb : List D → R D) : List D → R D := fun st => R.of (qo st) fun pl => pthK pl fun r p => chk (r ≠ q) (R.of st[q]? fun dq => R.of st[r]? fun dr => chk (isUn (some dq) = false) (
  okN (mb ((onlyS st.length q dq).set r dr.len)) fun y st1 => R.of st1[q]? fun d1 => chk (D.noBorL [d1, y] = true) (R.of (getS st r p) (ixpK (st.set q d1) y))))
@[simp] theorem mIxP_eq (q : Nat) (qo : List D → Option PL) (mb : List D → R D) (st : List D) : mIxP q qo mb st = R.of (qo st) fun pl => pthK pl fun r p => chk (r ≠ q) (R.of st[q]? fun dq => R.of st[r]? fun dr => chk (isUn (some dq) = false) (
  okN (mb ((onlyS st.length q dq).set r dr.len)) fun y st1 => R.of st1[q]? fun d1 => chk (D.noBorL [d1, y] = true) (R.of (getS st r p) (ixpK (st.set q d1) y)))) := rfl
section
variable {X : Cx} {C : Cc} {st ds : List D} {σ : L2.St} {vs : List V} {H H' : Hp} {a b e o i tg value : Expr} {es : List Expr} {pos p apos pos' p1 p2 p3 : Pos} {qa qb qo qi : List D → Option PL} {ma mb : List D → R D} {sa sb : Bool} {ss : List Stmt} {m : MS} {Dn : Ends}
end
end PV

namespace PV
open PySem L2
/-! ### raise X(e), X's own __init__ keeping list(e) as its one field -/
def spI (K : PySem.W.Frag) (fld : Str) : Sp := fun vs H Q E => vs.length = 2 ∧ ∃ (a l Cx : Addr) (ys : List V), vs = [.ref a, .ref l] ∧ OexC K Cx ∧ PySem.W.findIn K (.ref Cx) fld = some none ∧ H a = some (exo a Cx none) ∧ (SqL K H l ys ∨ SqT K H l ys) ∧
  ∀ l2 dx : Addr, H l2 = none → upd H l2 (.lst ys) dx = none → dx ≠ a → Q .non (upd (upd (upd H l2 (.lst ys)) dx (exd dx [(fld, .ref l2)])) a (exo a Cx (some dx)))
def rLs (K : PySem.W.Frag) : List V → Hp → VK → Prop := fun xs H Q => ∃ p ys, xs = [.ref p] ∧ (SqL K H p ys ∨ SqT K H p ys) ∧ ∀ l, H l = none → Q (.ref l) (upd H l (.lst ys))
structure OexF (K : PySem.W.Frag) (mg : Str → Option Value) (CA : Str → Option Addr) (x fld : Str) (fI : Addr) : Prop where
  at_ : ∃ a, CA x = some a ∧ mg x = some (.ref a) ∧ OexC K a ∧ PySem.W.findIn K (.ref a) "__init__" = some (some (.ref fI)) ∧ PySem.W.typeIn K (.ref fI) = some (.type "function") ∧ PySem.W.findIn K (.ref a) fld = some none
def mRaiseI (x fld : Str) (ma : List D → R D) : MS := fun st => (ma st).s fun d st1 => match d with
  | .nd (.lst _) xs => match intsD xs with
    | some ns => .ex ⟨x, fld, some (.nd (.lst .own) (ns.map D.int))⟩ st1
    | none => .stuck
  | _ => .stuck
def riK (x fld : Str) (st : List D) : D → RS
  | .nd (.lst _) xs => match intsD xs with
    | some ns => .ex ⟨x, fld, some (.nd (.lst .own) (ns.map D.int))⟩ st
    | none => .stuck
  | _ => .stuck
@[simp] theorem riK_ints (x fld : Str) (st : List D) (f : Fl) (ns : List Int) : riK x fld st (.nd (.lst f) (ns.map D.int)) = .ex ⟨x, fld, some (.nd (.lst .own) (ns.map D.int))⟩ st := by simp [riK]
@[simp] theorem mRaiseI_eq (x fld : Str) (ma : List D → R D) (st : List D) : mRaiseI x fld ma st = (ma st).s fun d st1 => riK x fld st1 d := rfl
section
variable {X : Cx} {C : Cc} {st ds : List D} {σ : L2.St} {vs : List V} {H H' : Hp} {a b e : Expr} {pos pos' p p2 : Pos} {ma : List D → R D} {sa : Bool} {Dn : Ends}
end
/-! ### what the head tells of such a class -/
def oexB (K : PySem.W.Frag) (C : Addr) : Bool := match K.lookup C with
  | some ⟨.type "type", _, .cls cd, sl⟩ => (match cd.mro, sl.toList with
    | .ref C' :: bm, [_, _, _, _, some (.builtin n), _] => C' == C && n == "ValueError.__new__" && !cd.hasDel && cd.hasDict && PySem.HandSPX.refsVE bm
    | _, _ => false)
  | _ => false
def oexA (K : PySem.W.Frag) (C : Addr) : Bool := oexB K C && (decide (PySem.W.findIn K (.ref C) "__setattr__" = some (some (.builtin "object.__setattr__"))) && (decide (PySem.W.subIn K (.ref C) (.type "BaseException") = some true) && (decide (PySem.W.typeIn K (.ref C) = some (.type "type")) && PySem.W.keepIn K (.ref C))))
end PV

/-! several except clauses, where some give the exception a name -/
namespace L2
open PySem PySem.Spec PyProof.Rows
/-- a clause: the class, the slot of its name (where it has one), its suite -/
abbrev ClA := Value × Option Nat × (Addr → Value → Option Addr → TS)
/-- the ends of a suite whose name goes behind it -/
def Ends.drop (D : Ends) : Option Nat → Ends
  | none => D
  | some i => { nx := fun σ H => D.nx (σ.set i none) H, rt := D.rt, bk := fun σ H => D.bk (σ.set i none) H, ct := fun σ H => D.ct (σ.set i none) H }
def St.name (σ : L2.St) (a : Addr) : Option Nat → L2.St
  | none => σ
  | some i => σ.set i (some (.ref a))
def wManyA (K : PySem.W.Frag) (Wout : WX) (D : Ends) (l : List ClA) : WX := l.foldr (fun q w cls d σ H => ∃ b, PySem.W.exmOne K cls q.1 = some b ∧ if b then ∀ a, H a = none → q.2.2 a cls d (D.drop q.2.1) (St.name σ a q.2.1) H else w cls d σ H) Wout
/-- the name of a clause lives in a slot -/
def NameIn (X : Cx) : Option Str → Option Nat → Prop
  | none, none => True
  | some n, some i => X.N.Nodup ∧ X.N[i]? = some n ∧ X.env.kindOf n = some .local
  | _, _ => False
inductive HdsA (X : Cx) : List ExceptHandler → List ClA → Prop
  | nil : HdsA X [] []
  | cons {x : Str} {nm : Option Str} {c : Value} {oi : Option Nat} {ts : Addr → Value → Option Addr → TS} {b₀ : Stmt} {suite : List Stmt} {np pos' : Pos} {hds : List ExceptHandler} {l : List ClA} (hn : NameIn X nm oi) (hc : Names X x c)
      (hsu : ∀ (a : Addr) (oe : Obj) (cls : Value) (d : Option Addr) (pn : List (Addr × Obj)), Zc cls d oe → (∃ vs, oe.data = .fields vs) → PSs (X.suite a ((a, oe) :: pn)) (b₀ :: suite) (ts a cls d)) (r : HdsA X hds l) :
      HdsA X (.ExceptHandler (some (.Name x np)) nm (b₀ :: suite) pos' :: hds) ((c, oi, ts) :: l)
/-- an exception that has come down to this frame -/
structure Cau (X : Cx) (pins : List (Addr × Obj)) (a : Addr) (cls : Value) (d : Option Addr) (σ : L2.St) (H : Hp) (B : Heap) (sI s : Shared) : Prop where
  I : Inv X pins σ H sI
  nb : ∀ b o, sI.heap.get? b = some o → b ∉ frs X.stack → B.get? b = some o
  up : sI.heap.UpToSlots s.heap
  fl : HandSPX.FlyingZ B (X.env :: X.outer) a (Zc cls d) s.heap
  na : H a = none
  os : s.os = sI.os
  ag : AllBare s.gens
section
variable {X : Cx} {pins : List (Addr × Obj)} {a : Addr} {cls : Value} {d : Option Addr} {σ : L2.St} {H : Hp} {B : Heap} {sI s : Shared} {D : Ends} {hds : List ExceptHandler} {Wout : WX}
theorem Cau.inv (c : Cau X pins a cls d σ H B sI s) : Inv X pins σ H s := c.I.landed c.nb c.fl.1 c.up c.os c.ag
theorem Cau.obj (c : Cau X pins a cls d σ H B sI s) (hf : X.env.frame = some X.env.locals) : ∃ oe vs, s.heap.get? a = some oe ∧ Zc cls d oe ∧ oe.data = .fields vs ∧ a ≠ X.env.locals ∧ a ∉ X.fs := by
  obtain ⟨oe, vs, he, hz, hd⟩ := c.fl.there
  have out : a ∉ frs (X.env :: X.outer) := fun m => by
    obtain ⟨_, o, e, k⟩ := c.fl.2.2.1.mem m
    rw [he] at e
    cases e
    exact k _ hd
  have inn : ∀ e ∈ X.env :: X.outer, e.frame = some a → False := fun e me q => out (List.mem_filterMap.mpr ⟨e, me, q⟩)
  refine ⟨oe, vs, he, hz, hd, fun z => inn X.env (by simp) (by rw [hf, z]), fun m => ?_⟩
  obtain ⟨e, me, q⟩ := List.mem_filterMap.mp m
  exact inn e (by simp [me]) q
theorem Cau.again (c : Cau X pins a cls d σ H B sI s) {M : Model} {A : Around} {E : Value → Shared → Prop} {Q : Unit → Shared → Prop} (h : ∀ s', Cau X pins a cls d σ H B sI s' → Q () s') : wpAny M A (setFlight (.ref a) none) Q E s :=
  HandSPX.lands_againZ c.fl fun _ fl u => h _ ⟨c.I, c.nb, c.up.trans u, fl, c.na, c.os, c.ag⟩
/-- a clause is asked -/
theorem Cau.ask (c : Cau X pins a cls d σ H B sI s) (hf : X.env.frame = some X.env.locals) {x : Str} {cv : Value} {nm : Option Str} {b₀ : Stmt} {suite : List Stmt} {np pos' : Pos} {b : Bool} {Q : Flow → Shared → Prop} (hc : Names X x cv) (hb : PySem.W.exmOne X.K cls cv = some b)
    (h : if b then codeAny (model X.prog X.w) (X.A.mark (some (.ref a))) (.handlers (.ref a) [.ExceptHandler none nm (b₀ :: suite) pos'] X.env) (fun r s₂ => match r with
          | .ok f => (match nm with
            | none => Q f s₂
            | some n => wpAny (model X.prog X.w) X.A (do bindName X.env n .none; unbindBehindTheSuite X.env n pos') (fun _ s₃ => Q f s₃) X.xe s₂)
          | .error y => cameBackBy (model X.prog X.w) X.A X.env X.xe y s₂) s
      else wpAny (model X.prog X.w) X.A (handleBy (.ref a) X.env hds) Q X.xe s) :
    wpAny (model X.prog X.w) X.A (handleBy (.ref a) X.env (.ExceptHandler (some (.Name x np)) nm (b₀ :: suite) pos' :: hds)) Q X.xe s := by
  obtain ⟨oe, vs, he, hz, hd, nl, nf⟩ := c.obj hf
  have S := c.inv.suite he hd c.na nl nf
  have LT : PySem.W.Looks (model X.prog X.w) s.heap (typeOf (.ref a)) cls := fun _ _ _ _ k q => wpAny_typeOf_ref (k _ _ he) (by rw [hz.1]; exact q)
  have out : ∀ {R : Result → Shared → Prop}, R (.ok (if b then .brk else .next)) s → codeAny (model X.prog X.w) (X.A.mark (some (.ref a))) (.handlers (.ref a) [.ExceptHandler (some (.Name x np)) none [] pos'] X.env) R s := fun {R} q => by
    refine codeAny_handlers_test ?_
    have fin := (PySem.W.exm_one (M := model X.prog X.w) c.inv.kIn LT hb).here (A := X.A.mark (some (.ref a))) (Q := fun b s₂ => R (.ok (if b then .brk else .next)) s₂) (E := notedBy (model X.prog X.w) (X.A.mark (some (.ref a))) X.env fun y s₂ => R (.error y) s₂) (s := s) q
    rcases hc with ⟨hg, hdb, hm | ⟨hm, hv, hnn⟩⟩
    · exact ld_glob (X := X.suite a ((a, oe) :: (X.pn ++ pins))) S hg hm fin hdb
    · exact ld_blt (X := X.suite a ((a, oe) :: (X.pn ++ pins))) S hg hm hv fin hnn hdb
  refine wpAny_handleBy_cons (out ?_) (by intro q; cases q)
  cases b with
  | true => exact h
  | false => exact h
/-- behind a suite -/
theorem sp_back {oe : Obj} {f : Flow} {s6 : Shared} (ok : X.Ok) (h : SP (X.suite a ((a, oe) :: (X.pn ++ pins))) [] D f s6) : SP X pins D f s6 := by
  cases f with
  | next => obtain ⟨σ6, H6, S6, q⟩ := h; exact ⟨_, _, S6.unsuite ok, q⟩
  | brk => obtain ⟨σ6, H6, S6, q⟩ := h; exact ⟨_, _, S6.unsuite ok, q⟩
  | cont => obtain ⟨σ6, H6, S6, q⟩ := h; exact ⟨_, _, S6.unsuite ok, q⟩
  | ret u => obtain ⟨v, σ6, H6, S6, r, q⟩ := h; exact ⟨_, _, _, S6.unsuite ok, r, q⟩
theorem sp_gone {i : Nat} {n : Str} {pos' : Pos} {f : Flow} {s6 : Shared} (hn : NameIn X (some n) (some i)) (h : SP X pins (D.drop (some i)) f s6) : wpAny (model X.prog X.w) X.A (do bindName X.env n .none; unbindBehindTheSuite X.env n pos') (fun _ s7 => SP X pins D f s7) X.xe s6 := by
  cases f with
  | next => obtain ⟨σ6, H6, S6, q⟩ := h; exact gone_ok S6 hn.1 hn.2.1 hn.2.2 fun s7 J => ⟨_, _, J, q⟩
  | brk => obtain ⟨σ6, H6, S6, q⟩ := h; exact gone_ok S6 hn.1 hn.2.1 hn.2.2 fun s7 J => ⟨_, _, J, q⟩
  | cont => obtain ⟨σ6, H6, S6, q⟩ := h; exact gone_ok S6 hn.1 hn.2.1 hn.2.2 fun s7 J => ⟨_, _, J, q⟩
  | ret u => obtain ⟨v, σ6, H6, S6, r, q⟩ := h; exact gone_ok S6 hn.1 hn.2.1 hn.2.2 fun s7 J => ⟨_, _, _, J, r, q⟩
/-- the clauses, one behind the other -/
theorem Cau.clauses (c : Cau X pins a cls d σ H B sI s) (hs : X.stack = X.env :: X.outer) (hf : X.env.frame = some X.env.locals) (tk : Takes X Wout) : ∀ {hds : List ExceptHandler} {l : List ClA}, HdsA X hds l → wManyA X.K Wout D l cls d σ H → wpAny (model X.prog X.w) X.A (handleBy (.ref a) X.env hds) (SP X pins D) X.xe s
  | _, _, .nil, w => by
    refine wpAny_handleBy_nil ?_
    have fl0 := c.fl
    obtain ⟨_, _, _, oe, vs, T, oT, ts', he, hz, hd, h1, _⟩ := id fl0
    unfold PySem.passOn
    refine wpAny_bind (wpAny_field he hd h1 ?_)
    rw [if_neg (by simp)]
    have up : wpAny (model X.prog X.w) X.A (setFlight (.ref a) X.env.frame) (fun _ s4 => wpAny (model X.prog X.w) X.A (throw (.ref a) : Sem Flow) (SP X pins D) X.xe s4) X.xe s := by
      rw [hf]
      exact HandSPX.setFlight_upZ fl0 fun h4 hh u => wpAny_throw (tk _ _ ⟨a, B, sI, pins, σ, H, cls, d, rfl, c.I, c.nb, c.up.trans u, .inr (.inr (by rw [hs]; exact hh)), c.na, c.os, c.ag, w⟩)
    first
      | exact wpAny_bind (wpAny_pure (wpAny_bind up))
      | exact wpAny_bind up
  | _, _, .cons (nm := nm) (oi := oi) hn hc hsu r, w => by
    obtain ⟨b, hb, w⟩ := w
    refine c.ask hf hc hb ?_
    cases b with
    | false => exact c.clauses hs hf tk r w
    | true =>
      have w := w a c.na
      match nm, oi, hn, w with
      | none, none, _, w =>
        refine codeAny_handlers_suite (c.again fun s4 c4 => ?_)
        obtain ⟨oe, vs, he, hz, hd, nl, nf⟩ := c4.obj hf
        exact wpAny_mono ((hsu a oe cls d (X.pn ++ pins) hz ⟨_, hd⟩).run [] _ _ H _ (c4.inv.suite he hd c4.na nl nf) w) (fun f s6 h => sp_back c.I.ok h) fun _ _ z => z.elim
      | some n, some i, hn, w =>
        refine codeAny_handlers_suite_as (c.again fun s4 c4 => ?_)
        obtain ⟨oe, vs, he, hz, hd, nl, nf⟩ := c4.obj hf
        refine store_ok (X := X.suite a ((a, oe) :: (X.pn ++ pins))) (v := .ref a) (c4.inv.suite he hd c4.na nl nf) hn.1 hn.2.1 (.inl hn.2.2) rfl (fun s5 S5 => ?_) (.inr hn.2.2)
        exact wpAny_mono ((hsu a oe cls d (X.pn ++ pins) hz ⟨_, hd⟩).run [] s5 _ H _ S5 w) (fun f s6 h => sp_gone hn (sp_back c.I.ok h)) fun _ _ z => z.elim
end
end L2
namespace PV
open PySem L2
/-! ### try .. except X as n: y = 'c'; z = n.f -/
inductive HM where | pl (m : MS) | way (fld c : Str) (i yi zi : Nat)
def wayK (fld c : Str) (i yi zi : Nat) (e : Ex) (st : List D) : RS := match e.p with
  | some d => if e.f = fld ∧ i < st.length ∧ yi < st.length ∧ zi < st.length then .nx (((st.set zi d).set yi (.str c)).set i .un) else .stuck
  | none => .stuck
def hdlA (hi : Str → Str → Option Bool) (e : Ex) (st : List D) : List (Str × HM) → RS
  | [] => .ex e st
  | (y, .pl m) :: r => match hi e.c y with
    | some true => m st
    | some false => hdlA hi e st r
    | none => .stuck
  | (y, .way fld c i yi zi) :: r => match hi e.c y with
    | some true => if e.c = y then wayK fld c i yi zi e st else .stuck
    | some false => hdlA hi e st r
    | none => .stuck
def mTryA (hi : Str → Str → Option Bool) (mb : MS) (hs : List (Str × HM)) : MS := fun st => match mb st with
  | .ex e st' => hdlA hi e st' hs
  | r => r
inductive VHA (X : Cx) (C : Cc) : List ExceptHandler → List (Str × HM) → Prop
  | nil : VHA X C [] []
  | cons {x : Str} {b₀ : Stmt} {suite : List Stmt} {np pos' : Pos} {hds : List ExceptHandler} {m : MS} {l : List (Str × HM)} (hg : Gl X x) (hd : (x == ("__debug__" : Str)) = false) (hm : ∃ a, C.CA x = some a ∧ X.mg x = some (.ref a))
      (hb : ∀ (a : Addr) (oe : Obj) (pn : List (Addr × Obj)), VB (X.suite a ((a, oe) :: pn)) C (b₀ :: suite) m) (r : VHA X C hds l) :
      VHA X C (.ExceptHandler (some (.Name x np)) none (b₀ :: suite) pos' :: hds) ((x, .pl m) :: l)
  | way {x n fld c : Str} {i yi zi : Nat} {b₀ : Stmt} {suite : List Stmt} {np pos' : Pos} {hds : List ExceptHandler} {l : List (Str × HM)} (hN : X.N.Nodup) (hi : X.N[i]? = some n) (hln : X.env.kindOf n = some .local) (ne : i ≠ yi ∧ i ≠ zi ∧ yi ≠ zi) (hf : C.fx i = none ∧ C.fx yi = none ∧ C.fx zi = none)
      (hg : Gl X x) (hd : (x == ("__debug__" : Str)) = false) (hm : ∃ Ca, C.CA x = some Ca ∧ X.mg x = some (.ref Ca) ∧ ∀ (a : Addr) (oe : Obj) (cls : Value) (d : Option Addr) (pn : List (Addr × Obj)), Zc cls d oe → (∃ vs, oe.data = .fields vs) →
        PSs (X.suite a ((a, oe) :: pn)) (b₀ :: suite) (tSeq (tAsg (tC (.str c)) (gName yi)) (tAsg (tXf a cls d Ca fld (tVar i)) (gName zi)))) (r : VHA X C hds l) :
      VHA X C (.ExceptHandler (some (.Name x np)) (some n) (b₀ :: suite) pos' :: hds) ((x, .way fld c i yi zi) :: l)
section
variable {X : Cx} {C : Cc} {st ds : List D} {σ : L2.St} {vs : List V} {H H' : Hp} {pos : Pos} {Dn : Ends}
theorem VHA.ok {hds : List ExceptHandler} {l : List (Str × HM)} (h : VHA X C hds l) : ∃ l', HdsA X hds l' ∧ ∀ (O : COk X C) (hi : Str → Str → Option Bool) (Hi : Hier C.K C.CA hi) (Dn : Ends) (ds : List D) (vs : List V) (hl : ds.length = vs.length) (e : Ex) (st : List D) (cls : Value) (dx : Option Addr) (us : List V) (σ' : L2.St) (H' : Hp),
    rZ C ds vs Dn (hdlA hi e st l) → SX C st (ds ++ e.ds) σ' (vs ++ us) H' → ExOk C e cls dx H' us → wManyA X.K C.W Dn l' cls dx σ' H' := by
  induction h with
  | nil => exact ⟨[], .nil, fun O hi Hi Dn ds vs hl e st cls dx us σ' H' hr s k => hr σ' cls dx us H' s k⟩
  | @cons x b₀ suite np pos' hds m l hg hd hm hb r ih =>
    obtain ⟨l', h1, h2⟩ := ih
    obtain ⟨a, ca, gm⟩ := hm
    refine ⟨(.ref a, none, fun _ _ _ => trS C m) :: l', .cons (nm := none) trivial ⟨hg, hd, .inl gm⟩ (fun a' oe cls d pn _ _ => hb a' oe pn) h1, fun O hi Hi Dn ds vs hl e st cls dx us σ' H' hr s k => ?_⟩
    obtain ⟨ae, hae, rfl, kp⟩ := id k
    unfold hdlA at hr
    cases q : hi e.c x with
    | none => rw [q] at hr; exact hr.elim
    | some b =>
      rw [q] at hr
      obtain ⟨c, hc, hx⟩ := Hi _ _ _ q ae hae
      rw [ca] at hc; cases hc
      refine ⟨b, by rw [← O.k]; exact hx, ?_⟩
      cases b with
      | true =>
        intro a' na
        exact ⟨st, ds, vs, s.drop hl, hl, hr⟩
      | false =>
        exact h2 O hi Hi Dn ds vs hl e st _ dx us σ' H' hr s k
  | @way x n fld c i yi zi b₀ suite np pos' hds l hN hin hln ne hf hg hd hm r ih =>
    obtain ⟨l', h1, h2⟩ := ih
    obtain ⟨Ca, ca, gm, hsu⟩ := hm
    refine ⟨(.ref Ca, some i, fun a cls d => tSeq (tAsg (tC (.str c)) (gName yi)) (tAsg (tXf a cls d Ca fld (tVar i)) (gName zi))) :: l', .cons (nm := some n) ⟨hN, hin, hln⟩ ⟨hg, hd, .inl gm⟩ hsu h1, fun O hi Hi Dn ds vs hl e st cls dx us σ' H' hr s k => ?_⟩
    obtain ⟨ae, hae, rfl, kp⟩ := id k
    unfold hdlA at hr
    cases q : hi e.c x with
    | none => rw [q] at hr; exact hr.elim
    | some b =>
      rw [q] at hr
      obtain ⟨c', hc, hx⟩ := Hi _ _ _ q ae hae
      rw [ca] at hc; cases hc
      refine ⟨b, by rw [← O.k]; exact hx, ?_⟩
      cases b with
      | true =>
        intro a' na
        have hr : rZ C ds vs Dn (if e.c = x then wayK fld c i yi zi e st else .stuck) := hr
        split at hr
        · rename_i ec
          rw [ec, ca] at hae; cases hae
          unfold wayK at hr
          cases ep : e.p with
          | none => rw [ep] at hr; exact hr.elim
          | some d =>
            rw [ep] at hr kp
            obtain ⟨x', v, rfl, hxd, rfl⟩ := kp
            by_cases hh : e.f = fld ∧ i < st.length ∧ yi < st.length ∧ zi < st.length
            · simp only [if_pos hh] at hr
              obtain ⟨hfld, l1, l2, l3⟩ := hh
              have eds : e.ds = [d] := by unfold Ex.ds; rw [ep]
              rw [eds] at s
              have ln : st.length = σ'.length := by obtain ⟨Z, os, t⟩ := s; exact t.ln
              refine ⟨.ref a', ?_, rfl, rfl, x', [(e.f, v)], v, rfl, hxd, ?_, ?_⟩
              · rw [List.getElem?_set_ne (Ne.symm ne.1)]
                show (σ'.set i (some (.ref a')))[i]? = _
                rw [List.getElem?_set_self (by omega)]
              · rw [hfld]; simp [List.lookup]
              · have s2 := s.toSlot l3 hf.2.2
                have s3 := (s2.pushc (d := .str c) (v := .str c) rfl).toSlot (i := yi) (by rw [List.length_set]; exact l2) hf.2.1
                refine hr _ H' ?_
                have s4 := s3.rewipe (σ := (((σ'.set i (some (.ref a'))).set yi (some (.str c))).set zi (some v)).set i none) (ws := [i]) (by simp) (fun j hj => ?_) (fun j hj => by simp at hj; subst hj; exact hf.1)
                · exact s4
                · have hji : i ≠ j := fun z => hj (by simp [z])
                  rw [List.getElem?_set_ne hji]
                  by_cases cz : zi = j
                  · subst cz
                    rw [List.getElem?_set_ne ne.2.2, List.getElem?_set_self (by omega), List.getElem?_set_self (by simp; omega)]
                  · rw [List.getElem?_set_ne cz]
                    by_cases cy : yi = j
                    · subst cy
                      rw [List.getElem?_set_self (by simp; omega), List.getElem?_set_self (by simp; omega)]
                    · rw [List.getElem?_set_ne cy, List.getElem?_set_ne cz, List.getElem?_set_ne cy, List.getElem?_set_ne hji]
            · simp only [if_neg hh] at hr
              exact hr.elim
        · exact hr.elim
      | false =>
        exact h2 O hi Hi Dn ds vs hl e st _ dx us σ' H' hr s k
end
def RS.hdA (r : RS) (hi : Str → Str → Option Bool) (hs : List (Str × HM)) : RS := match r with
  | .ex e st => hdlA hi e st hs
  | r => r
@[simp] theorem hdA_nx (st : List D) (hi : Str → Str → Option Bool) (hs : List (Str × HM)) : (RS.nx st).hdA hi hs = .nx st := rfl
@[simp] theorem hdA_rt (d : D) (st : List D) (hi : Str → Str → Option Bool) (hs : List (Str × HM)) : (RS.rt d st).hdA hi hs = .rt d st := rfl
@[simp] theorem hdA_bk (st : List D) (hi : Str → Str → Option Bool) (hs : List (Str × HM)) : (RS.bk st).hdA hi hs = .bk st := rfl
@[simp] theorem hdA_ct (st : List D) (hi : Str → Str → Option Bool) (hs : List (Str × HM)) : (RS.ct st).hdA hi hs = .ct st := rfl
@[simp] theorem hdA_ex (e : Ex) (st : List D) (hi : Str → Str → Option Bool) (hs : List (Str × HM)) : (RS.ex e st).hdA hi hs = hdlA hi e st hs := rfl
@[simp] theorem mTryA_eq (hi : Str → Str → Option Bool) (mb : MS) (hs : List (Str × HM)) (st : List D) : mTryA hi mb hs st = (mb st).hdA hi hs := rfl
@[simp] theorem hdlA_nil (hi : Str → Str → Option Bool) (e : Ex) (st : List D) : hdlA hi e st [] = .ex e st := rfl
def hdlAK (b : Option Bool) (m : RS) (n : RS) : RS := match b with
  | some true => m
  | some false => n
  | none => .stuck
@[simp] theorem hdlAK_yes (m n : RS) : hdlAK (some true) m n = m := rfl
@[simp] theorem hdlAK_no (m n : RS) : hdlAK (some false) m n = n := rfl
@[simp] theorem hdlA_pl (hi : Str → Str → Option Bool) (e : Ex) (st : List D) (y : Str) (m : MS) (r : List (Str × HM)) : hdlA hi e st ((y, .pl m) :: r) = hdlAK (hi e.c y) (m st) (hdlA hi e st r) := by
  rw [hdlA]; rfl
@[simp] theorem hdlA_way (hi : Str → Str → Option Bool) (e : Ex) (st : List D) (y : Str) (fld c : Str) (i yi zi : Nat) (r : List (Str × HM)) : hdlA hi e st ((y, .way fld c i yi zi) :: r) = hdlAK (hi e.c y) (if e.c = y then wayK fld c i yi zi e st else .stuck) (hdlA hi e st r) := by
  rw [hdlA]; rfl
end PV

namespace PV
open PySem L2
section
variable {X : Cx} {C : Cc} {st ds : List D} {σ : L2.St} {vs : List V} {H H' : Hp} {a b e o : Expr} {pos p : Pos} {ma mb : List D → R D} {sa sb : Bool} {qa qb : List D → Option PL}
/-! ### a written dict of the module asked at a text -/
def kixQ (tb : List (Str × Int)) (p : PL) : Option PL := match p with
  | .sc (.str z) => match tb.lookup z with
    | some i => some (.sc (.int i))
    | none => none
  | _ => none
@[simp] theorem kixQ_str (tb : List (Str × Int)) (z : Str) : kixQ tb (.sc (.str z)) = obn (tb.lookup z) fun i => some (.sc (.int i)) := by
  cases h : tb.lookup z <;> simp [kixQ, obn, h]
def qKIx (tb : List (Str × Int)) (qa : List D → Option PL) : List D → Option PL := fun st => obn (qa st) (kixQ tb)
@[simp] theorem qKIx_eq (tb : List (Str × Int)) (qa : List D → Option PL) (st : List D) : qKIx tb qa st = obn (qa st) (kixQ tb) := rfl
end
end PV

namespace PV
open PySem L2
/-! ### a block beside hidden slots, one slot lent what stands at a place -/
inductive BM | io | hd | al
  deriving DecidableEq
def bOut : List BM → List D → List D
  | .io :: ms, _ :: st => .un :: bOut ms st
  | .hd :: ms, d :: st => d :: bOut ms st
  | .al :: ms, _ :: st => .un :: bOut ms st
  | _, _ => []
def bAs (r : Nat) (p : Pth) : List BM → List D → List AD
  | .io :: ms, d :: st => .val d :: bAs r p ms st
  | .hd :: ms, _ :: st => .val .un :: bAs r p ms st
  | .al :: ms, _ :: st => .lnd r p :: bAs r p ms st
  | _, _ => []
def bVis (e : D) : List BM → List D → List D
  | .io :: ms, d :: st => d :: bVis e ms st
  | .hd :: ms, _ :: st => .un :: bVis e ms st
  | .al :: ms, _ :: st => e :: bVis e ms st
  | _, _ => []
def bIo : List BM → List D → List D
  | .io :: ms, d :: st => d :: bIo ms st
  | .hd :: ms, _ :: st => .un :: bIo ms st
  | .al :: ms, _ :: st => .un :: bIo ms st
  | _, _ => []
def bLn : List BM → List D → List D
  | .io :: ms, _ :: st => .un :: bLn ms st
  | .hd :: ms, _ :: st => .un :: bLn ms st
  | .al :: ms, d :: st => d :: bLn ms st
  | _, _ => []
def bMrg : List BM → List D → List D → List D
  | .io :: ms, _ :: o, d :: st => d :: bMrg ms o st
  | .hd :: ms, x :: o, _ :: st => x :: bMrg ms o st
  | .al :: ms, _ :: o, _ :: st => .un :: bMrg ms o st
  | _, _, _ => []
def bCt : List BM → Nat
  | .io :: ms => bCt ms
  | .hd :: ms => bCt ms
  | .al :: ms => bCt ms + 1
  | [] => 0
def bTree : List BM → List D → D
  | .io :: ms, _ :: st => bTree ms st
  | .hd :: ms, _ :: st => bTree ms st
  | .al :: _, d :: _ => d
  | _, _ => .un
def bMd (ms : List BM) : List Md := ms.map fun _ => .io
def bHp (H : Hp) (σ : St) (r : Nat) (p : Pth) : List BM → List V → Prop
  | .al :: ms, v :: vs => HPs H σ r p v ∧ bHp H σ r p ms vs
  | .io :: ms, _ :: vs => bHp H σ r p ms vs
  | .hd :: ms, _ :: vs => bHp H σ r p ms vs
  | _, _ => True
theorem bSplit {G : Gd} {r : Nat} {p : Pth} : ∀ {ms : List BM} {st : List D} {vs : List V} {os : Ct}, ms.length = st.length → RpL G st vs os → ∃ o1 o2, RpL G (bOut ms st) vs o1 ∧ RpL G ((bAs r p ms st).map AD.d) vs o2 ∧ ∀ b, o1 b + o2 b ≤ os b
  | [], _, _, _, _, .nil h => ⟨fun _ => 0, fun _ => 0, .nil fun _ => rfl, .nil fun _ => rfl, fun b => by simp⟩
  | .io :: ms, _, _, os, hl, .cons (o1 := a) (o2 := c) x t h => by
    obtain ⟨o1, o2, r1, r2, e⟩ := bSplit (r := r) (p := p) (ms := ms) (by simpa using hl) t
    exact ⟨o1, fun b => a b + o2 b, .cons (o1 := fun _ => 0) (.un fun _ => rfl) r1 (fun b => by simp), .cons x r2 (fun _ => rfl), fun b => by have := e b; rw [h]; (try dsimp only); omega⟩
  | .hd :: ms, _, _, os, hl, .cons (o1 := a) (o2 := c) x t h => by
    obtain ⟨o1, o2, r1, r2, e⟩ := bSplit (r := r) (p := p) (ms := ms) (by simpa using hl) t
    exact ⟨fun b => a b + o1 b, o2, .cons x r1 (fun _ => rfl), .cons (o1 := fun _ => 0) (.un fun _ => rfl) r2 (fun b => by simp), fun b => by have := e b; rw [h]; (try dsimp only); omega⟩
  | .al :: ms, _, _, os, hl, .cons (o1 := a) (o2 := c) x t h => by
    obtain ⟨o1, o2, r1, r2, e⟩ := bSplit (r := r) (p := p) (ms := ms) (by simpa using hl) t
    exact ⟨o1, o2, .cons (o1 := fun _ => 0) (.un fun _ => rfl) r1 (fun b => by simp), .cons (o1 := fun _ => 0) (.un fun _ => rfl) r2 (fun b => by simp), fun b => by have := e b; rw [h]; (try dsimp only); omega⟩
theorem bTake0 {r : Nat} {p : Pth} {e : D} {O : List D} : ∀ {ms : List BM} {st : List D}, ms.length = st.length → bCt ms = 0 → takeA (bMd ms) (bAs r p ms st) O = some (O, bVis e ms st)
  | [], [], _, _ => rfl
  | .io :: ms, d :: st, hl, hc => by
    have := bTake0 (r := r) (p := p) (e := e) (O := O) (ms := ms) (st := st) (by simpa using hl) (by simpa [bCt] using hc)
    simp only [bMd] at this
    simp [bMd, bAs, bVis, takeA, this]
  | .hd :: ms, d :: st, hl, hc => by
    have := bTake0 (r := r) (p := p) (e := e) (O := O) (ms := ms) (st := st) (by simpa using hl) (by simpa [bCt] using hc)
    simp only [bMd] at this
    simp [bMd, bAs, bVis, takeA, this]
  | .al :: ms, d :: st, hl, hc => by simp [bCt] at hc
  | [], _ :: _, hl, _ => by simp at hl
  | _ :: _, [], hl, _ => by simp at hl
theorem bTake {r : Nat} {p : Pth} {e : D} {O : List D} (he : getS O r p = some e) : ∀ {ms : List BM} {st : List D}, ms.length = st.length → bCt ms = 1 → takeA (bMd ms) (bAs r p ms st) O = some (setS O r p .un, bVis e ms st)
  | [], [], _, hc => by simp [bCt] at hc
  | .io :: ms, d :: st, hl, hc => by
    have := bTake he (ms := ms) (st := st) (by simpa using hl) (by simpa [bCt] using hc)
    simp only [bMd] at this
    simp [bMd, bAs, bVis, takeA, this]
  | .hd :: ms, d :: st, hl, hc => by
    have := bTake he (ms := ms) (st := st) (by simpa using hl) (by simpa [bCt] using hc)
    simp only [bMd] at this
    simp [bMd, bAs, bVis, takeA, this]
  | .al :: ms, d :: st, hl, hc => by
    have := bTake0 (r := r) (p := p) (e := e) (O := setS O r p .un) (ms := ms) (st := st) (by simpa using hl) (by simpa [bCt] using hc)
    simp only [bMd] at this
    simp [bMd, bAs, bVis, takeA, he, this]
  | [], _ :: _, hl, _ => by simp at hl
  | _ :: _, [], hl, _ => by simp at hl
theorem bArgs {r : Nat} {p : Pth} {e x : D} {O : List D} (he : getS O r p = some x) : ∀ {ms : List BM} {st : List D}, ms.length = st.length → argsOf (bMd ms) (bAs r p ms st) (bVis e ms st) O = some (bVis e ms st)
  | [], [], _ => rfl
  | .io :: ms, d :: st, hl => by
    have := bArgs (e := e) he (ms := ms) (st := st) (by simpa using hl)
    simp only [bMd] at this
    simp [bMd, bAs, bVis, argsOf, this]
  | .hd :: ms, d :: st, hl => by
    have := bArgs (e := e) he (ms := ms) (st := st) (by simpa using hl)
    simp only [bMd] at this
    simp [bMd, bAs, bVis, argsOf, this]
  | .al :: ms, d :: st, hl => by
    have := bArgs (e := e) he (ms := ms) (st := st) (by simpa using hl)
    simp only [bMd] at this
    simp [bMd, bAs, bVis, argsOf, he, this]
  | [], _ :: _, hl => by simp at hl
  | _ :: _, [], hl => by simp at hl
theorem bLnd {H : Hp} {σ : St} {r : Nat} {p : Pth} : ∀ {ms : List BM} {st : List D} {vs : List V}, ms.length = st.length → st.length = vs.length → bHp H σ r p ms vs → Lnd H σ (bAs r p ms st) vs
  | [], [], [], _, _, _ => .nil
  | .io :: ms, d :: st, v :: vs, hl, hv, h => .val (bLnd (by simpa using hl) (by simpa using hv) h)
  | .hd :: ms, d :: st, v :: vs, hl, hv, h => .val (bLnd (by simpa using hl) (by simpa using hv) h)
  | .al :: ms, d :: st, v :: vs, hl, hv, h => .lnd h.1 (bLnd (by simpa using hl) (by simpa using hv) h.2)
  | [], _ :: _, _, hl, _, _ => by simp at hl
  | _ :: _, [], _, hl, _, _ => by simp at hl
  | _, [], _ :: _, _, hv, _ => by simp at hv
  | _, _ :: _, [], _, hv, _ => by simp at hv
theorem bPut0 {r : Nat} {p : Pth} {O : List D} : ∀ {ms : List BM} {st st2 : List D}, ms.length = st.length → ms.length = st2.length → bCt ms = 0 → putA (bMd ms) (bAs r p ms st) (bLn ms st2) O = some O
  | [], [], [], _, _, _ => rfl
  | .io :: ms, d :: st, x :: st2, hl, h2, hc => by
    have := bPut0 (r := r) (p := p) (O := O) (ms := ms) (st := st) (st2 := st2) (by simpa using hl) (by simpa using h2) (by simpa [bCt] using hc)
    simp only [bMd] at this
    simp [bMd, bAs, bLn, putA, this]
  | .hd :: ms, d :: st, x :: st2, hl, h2, hc => by
    have := bPut0 (r := r) (p := p) (O := O) (ms := ms) (st := st) (st2 := st2) (by simpa using hl) (by simpa using h2) (by simpa [bCt] using hc)
    simp only [bMd] at this
    simp [bMd, bAs, bLn, putA, this]
  | .al :: ms, d :: st, x :: st2, hl, h2, hc => by simp [bCt] at hc
  | [], _ :: _, _, hl, _, _ => by simp at hl
  | _ :: _, [], _, hl, _, _ => by simp at hl
  | [], _, _ :: _, _, h2, _ => by simp at h2
  | _ :: _, _, [], _, h2, _ => by simp at h2
theorem bPut {r : Nat} {p : Pth} {O : List D} (hu : getS O r p = some .un) : ∀ {ms : List BM} {st st2 : List D}, ms.length = st.length → ms.length = st2.length → bCt ms = 1 → (D.noOwn (bTree ms st2) = true ∨ spS O r p = true) → putA (bMd ms) (bAs r p ms st) (bLn ms st2) O = some (setS O r p (bTree ms st2))
  | [], [], [], _, _, hc, _ => by simp [bCt] at hc
  | .io :: ms, d :: st, x :: st2, hl, h2, hc, hs => by
    have := bPut hu (ms := ms) (st := st) (st2 := st2) (by simpa using hl) (by simpa using h2) (by simpa [bCt] using hc) hs
    simp only [bMd] at this
    simp [bMd, bAs, bLn, putA, this, bTree]
  | .hd :: ms, d :: st, x :: st2, hl, h2, hc, hs => by
    have := bPut hu (ms := ms) (st := st) (st2 := st2) (by simpa using hl) (by simpa using h2) (by simpa [bCt] using hc) hs
    simp only [bMd] at this
    simp [bMd, bAs, bLn, putA, this, bTree]
  | .al :: ms, d :: st, x :: st2, hl, h2, hc, hs => by
    have := bPut0 (r := r) (p := p) (O := O) (ms := ms) (st := st) (st2 := st2) (by simpa using hl) (by simpa using h2) (by simpa [bCt] using hc)
    simp only [bMd] at this
    have hs : D.noOwn x = true ∨ spS O r p = true := hs
    simp [bMd, bAs, bLn, putA, this, bTree, hu, isUn, hs, chkO]
  | [], _ :: _, _, hl, _, _, _ => by simp at hl
  | _ :: _, [], _, hl, _, _, _ => by simp at hl
  | [], _, _ :: _, _, h2, _, _ => by simp at h2
  | _ :: _, _, [], _, h2, _, _ => by simp at h2
theorem bLndI {H : Hp} {σ : St} {r : Nat} {p : Pth} : ∀ {ms : List BM} {st : List D} {vs : List V}, ms.length = st.length → st.length = vs.length → LndI H σ (bMd ms) (bAs r p ms st) vs → ∀ (i : Nat) (v : V), ms[i]? = some .al → vs[i]? = some v → HPs H σ r p v
  | [], _, _, _, _, _, i, v, h, _ => by simp at h
  | .io :: ms, d :: st, u :: vs, hl, hv, h, i, v, h1, h2 => by
    cases i with
    | zero => simp at h1
    | succ i => exact bLndI (ms := ms) (st := st) (vs := vs) (by simpa using hl) (by simpa using hv) (by simpa [bMd, bAs, LndI] using h) i v (by simpa using h1) (by simpa using h2)
  | .hd :: ms, d :: st, u :: vs, hl, hv, h, i, v, h1, h2 => by
    cases i with
    | zero => simp at h1
    | succ i => exact bLndI (ms := ms) (st := st) (vs := vs) (by simpa using hl) (by simpa using hv) (by simpa [bMd, bAs, LndI] using h) i v (by simpa using h1) (by simpa using h2)
  | .al :: ms, d :: st, u :: vs, hl, hv, h, i, v, h1, h2 => by
    have h : HPs H σ r p u ∧ LndI H σ (bMd ms) (bAs r p ms st) vs := by simpa [bMd, bAs, LndI] using h
    cases i with
    | zero => simp at h2; subst h2; exact h.1
    | succ i => exact bLndI (ms := ms) (st := st) (vs := vs) (by simpa using hl) (by simpa using hv) h.2 i v (by simpa using h1) (by simpa using h2)
  | _ :: _, [], _, hl, _, _, _, _, _, _ => by simp at hl
  | _ :: _, _ :: _, [], _, hv, _, _, _, _, _ => by simp at hv
theorem bFin {G : Gd} : ∀ {ms : List BM} {st2 : List D} {us1 us2 : List V} {os : Ct}, ms.length = st2.length → us1.length = us2.length → (∀ (i : Nat) (v w : V), ms[i]? = some .al → us1[i]? = some v → us2[i]? = some w → v = w) → RpL G st2 us2 os → ∃ o1 o2, RpL G (bIo ms st2) us2 o1 ∧ RpL G (bLn ms st2) us1 o2 ∧ ∀ b, o1 b + o2 b ≤ os b
  | [], _, [], _, _, _, _, _, .nil h => ⟨fun _ => 0, fun _ => 0, .nil fun _ => rfl, .nil fun _ => rfl, fun b => by simp⟩
  | .io :: ms, _, v1 :: us1, _, os, hl, hu, h, .cons (o1 := a) (o2 := c) x t e0 => by
    obtain ⟨o1, o2, r1, r2, e⟩ := bFin (ms := ms) (us1 := us1) (by simpa using hl) (by simpa using hu) (fun i v w q1 q2 q3 => h (i + 1) v w (by simpa using q1) (by simpa using q2) (by simpa using q3)) t
    exact ⟨fun b => a b + o1 b, o2, .cons x r1 (fun _ => rfl), .cons (o1 := fun _ => 0) (.un fun _ => rfl) r2 (fun b => by simp), fun b => by have := e b; rw [e0]; (try dsimp only); omega⟩
  | .hd :: ms, _, v1 :: us1, _, os, hl, hu, h, .cons (o1 := a) (o2 := c) x t e0 => by
    obtain ⟨o1, o2, r1, r2, e⟩ := bFin (ms := ms) (us1 := us1) (by simpa using hl) (by simpa using hu) (fun i v w q1 q2 q3 => h (i + 1) v w (by simpa using q1) (by simpa using q2) (by simpa using q3)) t
    exact ⟨o1, o2, .cons (o1 := fun _ => 0) (.un fun _ => rfl) r1 (fun b => by simp), .cons (o1 := fun _ => 0) (.un fun _ => rfl) r2 (fun b => by simp), fun b => by have := e b; rw [e0]; (try dsimp only); omega⟩
  | .al :: ms, _, v1 :: us1, _, os, hl, hu, h, .cons (o1 := a) (o2 := c) x t e0 => by
    obtain ⟨o1, o2, r1, r2, e⟩ := bFin (ms := ms) (us1 := us1) (by simpa using hl) (by simpa using hu) (fun i v w q1 q2 q3 => h (i + 1) v w (by simpa using q1) (by simpa using q2) (by simpa using q3)) t
    have ev := h 0 v1 _ rfl rfl rfl
    subst ev
    exact ⟨o1, fun b => a b + o2 b, .cons (o1 := fun _ => 0) (.un fun _ => rfl) r1 (fun b => by simp), .cons x r2 (fun _ => rfl), fun b => by have := e b; rw [e0]; (try dsimp only); omega⟩
  | [], _, _ :: _, _, _, _, hu, _, .nil _ => by simp at hu
  | _ :: _, _, [], _, _, _, hu, _, .cons _ _ _ => by simp at hu
theorem bMerge {G : Gd} : ∀ {ms : List BM} {O st2 : List D} {us1 us2 : List V} {o1 o2 : Ct}, ms.length = st2.length → (∀ (i : Nat) (d : D) (v w : V), ms[i]? = some .hd → O[i]? = some d → us1[i]? = some v → us2[i]? = some w → d = .un ∨ v = w) → RpL G O us1 o1 → RpL G (bIo ms st2) us2 o2 → us1.length = us2.length → ∃ os, RpL G (bMrg ms O st2) us2 os ∧ ∀ b, os b ≤ o1 b + o2 b
  | [], _, [], _, _, o1, o2, _, _, _, .nil h, _ => ⟨fun _ => 0, by cases ‹List D› <;> exact .nil fun _ => rfl, fun b => by simp⟩
  | .io :: ms, _, y :: st2, _, _, o1, o2, hl, h, .cons (o1 := a1) (o2 := c1) x1 t1 e1, .cons (o1 := a2) (o2 := c2) x2 t2 e2, hu => by
    obtain ⟨os, r, e⟩ := bMerge (ms := ms) (st2 := st2) (by simpa using hl) (fun i d v w q1 q2 q3 q4 => h (i + 1) d v w (by simpa using q1) (by simpa using q2) (by simpa using q3) (by simpa using q4)) t1 t2 (by simpa using hu)
    exact ⟨fun b => a2 b + os b, .cons x2 r (fun _ => rfl), fun b => by have := e b; rw [e1, e2]; (try dsimp only); omega⟩
  | .hd :: ms, _, y :: st2, _, _, o1, o2, hl, h, .cons (o1 := a1) (o2 := c1) x1 t1 e1, .cons (o1 := a2) (o2 := c2) x2 t2 e2, hu => by
    obtain ⟨os, r, e⟩ := bMerge (ms := ms) (st2 := st2) (by simpa using hl) (fun i d v w q1 q2 q3 q4 => h (i + 1) d v w (by simpa using q1) (by simpa using q2) (by simpa using q3) (by simpa using q4)) t1 t2 (by simpa using hu)
    rcases h 0 _ _ _ rfl rfl rfl rfl with e0 | e0 <;> subst e0
    · exact ⟨os, .cons (o1 := fun _ => 0) (.un fun _ => rfl) r (fun b => by simp), fun b => by have := e b; rw [e1, e2]; (try dsimp only); omega⟩
    · exact ⟨fun b => a1 b + os b, .cons x1 r (fun _ => rfl), fun b => by have := e b; rw [e1, e2]; (try dsimp only); omega⟩
  | .al :: ms, _, y :: st2, _, _, o1, o2, hl, h, .cons (o1 := a1) (o2 := c1) x1 t1 e1, .cons (o1 := a2) (o2 := c2) x2 t2 e2, hu => by
    obtain ⟨os, r, e⟩ := bMerge (ms := ms) (st2 := st2) (by simpa using hl) (fun i d v w q1 q2 q3 q4 => h (i + 1) d v w (by simpa using q1) (by simpa using q2) (by simpa using q3) (by simpa using q4)) t1 t2 (by simpa using hu)
    exact ⟨os, .cons (o1 := fun _ => 0) (.un fun _ => rfl) r (fun b => by simp), fun b => by have := e b; rw [e1, e2]; (try dsimp only); omega⟩
  | _ :: _, _, [], _, _, _, _, hl, _, _, _, _ => by simp at hl
  | [], _, _ :: _, _, _, _, _, hl, _, _, _, _ => by simp at hl
  | .io :: _, _, _ :: _, _, _, _, _, _, _, .nil _, .cons _ _ _, hu => by simp at hu
  | .hd :: _, _, _ :: _, _, _, _, _, _, _, .nil _, .cons _ _ _, hu => by simp at hu
  | .al :: _, _, _ :: _, _, _, _, _, _, _, .nil _, .cons _ _ _, hu => by simp at hu
theorem bLen {r : Nat} {p : Pth} {e : D} : ∀ {ms : List BM} {st : List D}, ms.length = st.length → (bOut ms st).length = ms.length ∧ (bVis e ms st).length = ms.length ∧ (bAs r p ms st).length = ms.length ∧ (bIo ms st).length = ms.length ∧ (bLn ms st).length = ms.length
  | [], [], _ => ⟨rfl, rfl, rfl, rfl, rfl⟩
  | m :: ms, d :: st, h => by
    obtain ⟨a, b, c, f, g⟩ := bLen (r := r) (p := p) (e := e) (ms := ms) (st := st) (by simpa using h)
    cases m <;> simp [bOut, bVis, bAs, bIo, bLn, a, b, c, f, g]
  | [], _ :: _, h => by simp at h
  | _ :: _, [], h => by simp at h
theorem bOut_get : ∀ {ms : List BM} {st : List D} {i : Nat} {d : D}, (bOut ms st)[i]? = some d → d ≠ .un → st[i]? = some d ∧ ms[i]? = some .hd
  | [], st, i, d, h, _ => by cases st <;> simp [bOut] at h
  | m :: ms, [], i, d, h, _ => by cases m <;> simp [bOut] at h
  | m :: ms, x :: st, 0, d, h, hd => by
    cases m <;> simp [bOut] at h
    · exact absurd h.symm hd
    · exact ⟨by simp [h], rfl⟩
    · exact absurd h.symm hd
  | m :: ms, x :: st, i + 1, d, h, hd => by
    have : (bOut ms st)[i]? = some d := by cases m <;> simpa [bOut] using h
    obtain ⟨a, b⟩ := bOut_get this hd
    exact ⟨by simpa using a, by simpa using b⟩
theorem bVis_get {e : D} : ∀ {ms : List BM} {st : List D} {i : Nat} {d : D}, (bVis e ms st)[i]? = some d → d ≠ .un → (ms[i]? = some .io ∧ st[i]? = some d) ∨ ms[i]? = some .al
  | [], st, i, d, h, _ => by cases st <;> simp [bVis] at h
  | m :: ms, [], i, d, h, _ => by cases m <;> simp [bVis] at h
  | m :: ms, x :: st, 0, d, h, hd => by
    cases m <;> simp [bVis] at h
    · exact .inl ⟨rfl, by simp [h]⟩
    · exact absurd h.symm hd
    · exact .inr rfl
  | m :: ms, x :: st, i + 1, d, h, hd => by
    have : (bVis e ms st)[i]? = some d := by cases m <;> simpa [bVis] using h
    rcases bVis_get this hd with ⟨a, b⟩ | a
    · exact .inl ⟨by simpa using a, by simpa using b⟩
    · exact .inr (by simpa using a)
theorem bMrg_get : ∀ {ms : List BM} {O st : List D} {i : Nat} {d : D}, (bMrg ms O st)[i]? = some d → d ≠ .un → (ms[i]? = some .io ∧ st[i]? = some d) ∨ (ms[i]? = some .hd ∧ O[i]? = some d)
  | [], O, st, i, d, h, _ => by cases O <;> cases st <;> simp [bMrg] at h
  | m :: ms, [], st, i, d, h, _ => by cases m <;> simp [bMrg] at h
  | m :: ms, _ :: _, [], i, d, h, _ => by cases m <;> simp [bMrg] at h
  | m :: ms, y :: O, x :: st, 0, d, h, hd => by
    cases m <;> simp [bMrg] at h
    · exact .inl ⟨rfl, by simp [h]⟩
    · exact .inr ⟨rfl, by simp [h]⟩
    · exact absurd h.symm hd
  | m :: ms, y :: O, x :: st, i + 1, d, h, hd => by
    have : (bMrg ms O st)[i]? = some d := by cases m <;> simpa [bMrg] using h
    rcases bMrg_get this hd with ⟨a, b⟩ | ⟨a, b⟩
    · exact .inl ⟨by simpa using a, by simpa using b⟩
    · exact .inr ⟨by simpa using a, by simpa using b⟩
theorem noBorL_app2 : ∀ (xs ys : List D), D.noBorL (xs ++ ys) = (D.noBorL xs && D.noBorL ys)
  | [], ys => by simp [D.noBorL]
  | x :: xs, ys => by simp [D.noBorL, noBorL_app2 xs ys, Bool.and_assoc]
theorem bNb : ∀ {ms : List BM} {st : List D}, D.noBorL st = true → D.noBorL (bIo ms st) = true ∧ D.noBorL (bLn ms st) = true
  | [], st, _ => by cases st <;> exact ⟨rfl, rfl⟩
  | m :: ms, [], _ => by cases m <;> exact ⟨rfl, rfl⟩
  | m :: ms, x :: st, h => by
    simp only [D.noBorL, Bool.and_eq_true] at h
    obtain ⟨a, b⟩ := bNb (ms := ms) h.2
    cases m <;> simp [bIo, bLn, D.noBorL, D.noBor, a, b, h.1]
section
variable {C : Cc} {st ds : List D} {σ : St} {vs : List V} {H : Hp}
theorem SX.blk {ms : List BM} {r : Nat} {p : Pth} {e : D} (s : SX C st ds σ vs H) (hl : ds.length = vs.length) (lm : ms.length = st.length) (hc : bCt ms = 1) (he : getS (bOut ms st) r p = some e) (hp : bHp H σ r p ms (σ.map gd)) (ha : ∀ i : Nat, ms[i]? = some BM.al → ∃ v, σ[i]? = some (some v)) :
    ∃ (osv : Ct) (B : Addr → Prop) (fx : Nat → Option V), (∀ i : Nat, ms[i]? = some BM.io → fx i = C.fx i) ∧ SX ⟨C.K, C.CA, H, osv, B, C.W, fx, C.n⟩ (bVis e ms st) [] σ [] H ∧
      ∀ st2 ds2 σ2 vs2 H2, SX ⟨C.K, C.CA, H, osv, B, C.W, fx, C.n⟩ st2 ds2 σ2 vs2 H2 → ds2.length = vs2.length → D.noBorL (st2 ++ ds2) = true → (D.noOwn (bTree ms st2) = true ∨ spS (bOut ms st) r p = true) → SX C (bMrg ms (setS (bOut ms st) r p (bTree ms st2)) st2) (ds ++ ds2) σ2 (vs ++ vs2) H2 ∧
        (∀ (i : Nat) (v : V), ms[i]? = some BM.al → σ[i]? = some (some v) → HPs H2 σ r p v) ∧ ∀ (i : Nat) (m : BM) (v : V), ms[i]? = some m → m ≠ .io → σ[i]? = some (some v) → σ2[i]? = some (some v) := by
  obtain ⟨Z, os, s⟩ := s
  obtain ⟨o1, o2, r1, r2, e0⟩ := s.cut
  obtain ⟨oa, ob, ra, rb, eab⟩ := bSplit (r := r) (p := p) lm r1
  have lσ : st.length = (σ.map gd).length := by rw [List.length_map]; exact s.ln
  have t : SX C (bOut ms st) (ds ++ (bAs r p ms st).map AD.d) σ (vs ++ σ.map gd) H :=
    (s.mk2 (o2 := fun b => o2 b + ob b) (os' := fun b => oa b + (o2 b + ob b)) ra (r2.app rb fun _ => rfl) (fun _ => rfl) (fun b => by have := eab b; rw [e0]; (try dsimp only); omega) (fun i d h hd => s.sl i d (bOut_get h hd).1 hd)).sx
  have hx : getS (setS (bOut ms st) r p .un) r p = some .un := getS_set he
  obtain ⟨osv, B, P, k⟩ := t.call0 hl (bLnd lm lσ hp) (bTake he lm hc) (bArgs (e := e) hx lm)
  obtain ⟨l1, l2, l3, l4, l5⟩ := bLen (r := r) (p := p) (e := e) lm
  refine ⟨osv, B, fun i => match ms[i]? with
    | some .io => C.fx i
    | some _ => (σ[i]?).join
    | none => C.fx i, fun i hi => by simp [hi], ⟨fun a => 0 < osv a, osv, ⟨by
    have h := P.rp
    show RpL ⟨C.K, C.CA, H, fun a => 0 < osv a, B⟩ (bVis e ms st ++ []) (σ.map gd ++ []) osv
    simpa using h, P.nd, by rw [l2, lm]; exact s.ln, fun i d h hd => ?_, fun a o q _ => q, fun a z => .inl z, P.al, P.bb, fun i v h => ?_, s.fx.2⟩⟩, fun st2 ds2 σ2 vs2 H2 s2 hl2 nb hq => ?_⟩
  · rcases bVis_get h hd with ⟨_, b⟩ | a
    · exact s.sl i d b hd
    · exact ha i a
  · have h : (match ms[i]? with
      | some .io => C.fx i
      | some _ => (σ[i]?).join
      | none => C.fx i) = some v := h
    split at h
    · exact s.fx.1 i v h
    · exact Option.join_eq_some_iff.mp h
    · exact s.fx.1 i v h
  · obtain ⟨Z2, os2, s2⟩ := s2
    have pin : ∀ (i : Nat) (m : BM) (v : V), ms[i]? = some m → m ≠ .io → σ[i]? = some (some v) → σ2[i]? = some (some v) := fun i m v h1 h2 h3 => s2.fx.1 i v (by
      show (match ms[i]? with
        | some .io => C.fx i
        | some _ => (σ[i]?).join
        | none => C.fx i) = some v
      rw [h1]
      cases m with
      | io => exact absurd rfl h2
      | hd => simp [h3]
      | al => simp [h3])
    obtain ⟨p1, p2, q1, q2, e2⟩ := s2.cut
    have ln2 : st2.length = σ2.length := s2.ln
    have n2 : σ2.length = σ.length := by have h1 := s2.fx.2; have h2 := s.fx.2; simp only at h1; omega
    have ln1 := s.ln
    have lm2 : ms.length = st2.length := by omega
    have hu : (σ.map gd).length = (σ2.map gd).length := by rw [List.length_map, List.length_map, n2]
    obtain ⟨p3, p4, q3, q4, e4⟩ := bFin (us1 := σ.map gd) lm2 hu (fun i v w h1 h2 h3 => by
      obtain ⟨x, hx⟩ := ha i h1
      have := pin i .al x h1 (by simp) hx
      rw [List.getElem?_map, hx] at h2
      rw [List.getElem?_map, this] at h3
      simp at h2 h3
      rw [← h2, ← h3]) q1
    obtain ⟨nb1, nb2⟩ : D.noBorL st2 = true ∧ D.noBorL ds2 = true := by rw [noBorL_app2, Bool.and_eq_true] at nb; exact nb
    obtain ⟨nb3, nb4⟩ := bNb (ms := ms) nb1
    obtain ⟨_, _, _, l6, l7⟩ := bLen (r := r) (p := p) (e := e) lm2
    have Po : Post C.K C.CA H osv B ((bIo ms st2 ++ ds2) ++ bLn ms st2) ((σ2.map gd ++ vs2) ++ σ.map gd) H2 Z2 (fun b => (p3 b + p2 b) + p4 b) :=
      ⟨(q3.app q2 fun _ => rfl).app q4 fun _ => rfl, fun b => by have := s2.nd b; have := e4 b; rw [e2] at *; (try dsimp only); omega, s2.kp, s2.fr, s2.al⟩
    have hq' : D.noOwn (bTree ms st2) = true ∨ spS (setS (bOut ms st) r p .un) r p = true := by rw [spS_set he]; exact hq
    have lx : (bIo ms st2 ++ ds2).length = (σ2.map gd ++ vs2).length := by simp [l6, lm2, ln2, hl2]
    obtain ⟨S', hL'⟩ := k (bIo ms st2 ++ ds2) (σ2.map gd ++ vs2) (bLn ms st2) H2 Z2 _ lx Po (by rw [noBorL_app2, noBorL_app2, nb3, nb2, nb4]; rfl)
    have S := SX.putA (ds := ds ++ (bIo ms st2 ++ ds2)) (vs := vs ++ (σ2.map gd ++ vs2)) (by simpa [List.append_assoc] using S') (by simp only [List.length_append] at lx ⊢; omega) hL' (bPut hx lm lm2 hc hq')
    refine ⟨?_, fun i v h1 h2 => bLndI lm lσ hL' i v h1 (by rw [List.getElem?_map, h2]; rfl), pin⟩
    rw [setS_set he] at S
    obtain ⟨Z3, os3, S⟩ := S
    obtain ⟨a1, a2, x1, x2, y1⟩ := S.cut
    obtain ⟨a3, a4, x3, x4, y2⟩ := RpL.cut hl x2
    obtain ⟨a5, a6, x5, x6, y3⟩ := RpL.cut (by rw [l6, lm2, ln2]; simp) x4
    obtain ⟨a7, x7, y4⟩ := bMerge lm2 (fun i d v w h1 h2 h3 h4 => by
      by_cases hd : d = .un
      · exact .inl hd
      · obtain ⟨x, hx⟩ := S.sl i d h2 hd
        have := pin i .hd x h1 (by simp) hx
        rw [List.getElem?_map, hx] at h3
        rw [List.getElem?_map, this] at h4
        simp at h3 h4
        exact .inr (by rw [← h3, ← h4])) x1 x5 hu
    refine ⟨Z3, fun b => a7 b + (a3 b + a6 b), ⟨x7.app (x3.app x6 fun _ => rfl) fun _ => rfl, fun b => by have := S.nd b; have := y4 b; rw [y1, y2, y3] at *; (try dsimp only); omega, ?_, fun i d h hd => ?_, S.kp, S.fr, S.al, S.bb, fun i v h => ?_, s2.fx.2⟩⟩
    · have := x7.len
      simpa using this
    · rcases bMrg_get h hd with ⟨_, b⟩ | ⟨a, b⟩
      · exact s2.sl i d b hd
      · obtain ⟨x, hx⟩ := S.sl i d b hd
        exact ⟨x, pin i .hd x a (by simp) hx⟩
    · have h3 := s.fx.1 i v h
      cases q : ms[i]? with
      | none =>
        exact s2.fx.1 i v (by
          show (match ms[i]? with
            | some .io => C.fx i
            | some _ => (σ[i]?).join
            | none => C.fx i) = some v
          rw [q]; exact h)
      | some m =>
        cases m with
        | io =>
          exact s2.fx.1 i v (by
            show (match ms[i]? with
              | some .io => C.fx i
              | some _ => (σ[i]?).join
              | none => C.fx i) = some v
            rw [q]; exact h)
        | hd => exact pin i .hd v q (by simp) h3
        | al => exact pin i .al v q (by simp) h3
end
end PV

namespace PV
open PySem L2
/-! ### statements behind y = a place's thing, y being changed: the place is hidden from them, y is lent what stands there -/
def bIs (ms : List BM) (i : Nat) : Bool := match ms[i]? with
  | some .io => true
  | _ => false
theorem bIs_of {ms : List BM} {i : Nat} (h : bIs ms i = true) : ms[i]? = some .io := by
  unfold bIs at h
  split at h
  · assumption
  · cases h
def bHdAt (ms : List BM) (i : Nat) : Bool := match ms[i]? with
  | some .hd => true
  | _ => false
theorem bHdAt_of {ms : List BM} {i : Nat} (h : bHdAt ms i = true) : ms[i]? = some .hd := by
  unfold bHdAt at h
  split at h
  · assumption
  · cases h
def bOk (ms : List BM) (r : Nat) (p : Pth) (st st2 xs : List D) : Bool := D.noBorL (st2 ++ xs) && (D.noOwn (bTree ms st2) || spS (bOut ms st) r p)
def bBack (ms : List BM) (r : Nat) (p : Pth) (st st2 : List D) : List D := bMrg ms (setS (bOut ms st) r p (bTree ms st2)) st2
def bEnd (ms : List BM) (r : Nat) (p : Pth) (st : List D) : RS → RS
  | .nx st2 => if bOk ms r p st st2 [] = true then .nx (bBack ms r p st st2) else .stuck
  | .bk st2 => if bOk ms r p st st2 [] = true then .bk (bBack ms r p st st2) else .stuck
  | .ct st2 => if bOk ms r p st st2 [] = true then .ct (bBack ms r p st st2) else .stuck
  | .rt d st2 => if bOk ms r p st st2 [d] = true then .rt d (bBack ms r p st st2) else .stuck
  | .ex x st2 => if bOk ms r p st st2 x.ds = true then .ex x (bBack ms r p st st2) else .stuck
  | .stuck => .stuck
def mBlk (ms : List BM) (r : Nat) (p : Pth) (m : MS) : MS := fun st => if bHdAt ms r = true then match getS (bOut ms st) r p with
    | some e => bEnd ms r p st (m (bVis e ms st))
    | none => .stuck
  else .stuck
structure Lnk (ms : List BM) (r : Nat) (p : Pth) (σ : St) (H : Hp) : Prop where
  hp : ∀ (i : Nat) (v : V), ms[i]? = some .al → σ[i]? = some (some v) → HPs H σ r p v
  ha : ∀ i : Nat, ms[i]? = some BM.al → ∃ v, σ[i]? = some (some v)
def trLk (C : Cc) (ms : List BM) (n : Nat → Pth → MS) : TS := fun Dn σ H => ∃ st ds vs r p, SX C st ds σ vs H ∧ ds.length = vs.length ∧ Lnk ms r p σ H ∧ rZ C ds vs Dn (n r p st)
def VBA (X : Cx) (C : Cc) (ms : List BM) (s : List Stmt) (n : Nat → Pth → MS) : Prop := PSs X s (trLk C ms n)
theorem bHp_of {H : Hp} {σ : St} {r : Nat} {p : Pth} : ∀ {ms : List BM} {vs : List V}, (∀ (i : Nat) (v : V), ms[i]? = some .al → vs[i]? = some v → HPs H σ r p v) → bHp H σ r p ms vs
  | [], _, _ => by simp [bHp]
  | m :: ms, [], _ => by cases m <;> simp [bHp]
  | .io :: ms, v :: vs, h => bHp_of (ms := ms) (vs := vs) fun i w h1 h2 => h (i + 1) w (by simpa using h1) (by simpa using h2)
  | .hd :: ms, v :: vs, h => bHp_of (ms := ms) (vs := vs) fun i w h1 h2 => h (i + 1) w (by simpa using h1) (by simpa using h2)
  | .al :: ms, v :: vs, h => ⟨h 0 v rfl rfl, bHp_of (ms := ms) (vs := vs) fun i w h1 h2 => h (i + 1) w (by simpa using h1) (by simpa using h2)⟩
section
variable {X : Cx} {C : Cc} {st ds : List D} {σ : L2.St} {vs : List V} {H H' : Hp} {a b e o : Expr} {pos spos py : Pos} {ma mb : List D → R D} {sa sb : Bool} {qa qb : List D → Option PL} {s1 : Stmt} {ss : List Stmt} {m : MS} {Dn : Ends}
theorem vba_end {ms : List BM} {n : MS} (h : VB X C ss n) : VBA X C ms ss (fun _ _ => n) :=
  h.impV (by rintro Dn σ H ⟨st, ds, vs, r, p, s, hl, _, h⟩; exact ⟨st, ds, vs, s, hl, h⟩)
theorem vba_cons {ms : List BM} {n : Nat → Pth → MS} (hc : bCt ms = 1) (hn : ms.length = C.n) (hs : ∀ (H0 : Hp) (os0 : Ct) (B : Addr → Prop) (fx : Nat → Option V), (∀ i : Nat, ms[i]? = some BM.io → fx i = C.fx i) → VS X ⟨C.K, C.CA, H0, os0, B, C.W, fx, C.n⟩ s1 m) (hr : VBA X C ms ss n) : VBA X C ms (s1 :: ss) (fun r p => mSeq (mBlk ms r p m) (n r p)) := by
  have h1 : PS X s1 (fun Dn σ H => ∃ (H0 : Hp) (os0 : Ct) (B : Addr → Prop) (fx : Nat → Option V), (∀ i : Nat, ms[i]? = some BM.io → fx i = C.fx i) ∧ trS ⟨C.K, C.CA, H0, os0, B, C.W, fx, C.n⟩ m Dn σ H) :=
    ⟨fun pins sh σ H D I ⟨H0, os0, B, fx, hf, h⟩ => (hs H0 os0 B fx hf).run pins sh σ H D I h⟩
  refine (pss_cons h1 hr).impV ?_
  rintro Dn σ H ⟨st, ds, vs, r, p, s, hl, lk, h⟩
  have h : rZ C ds vs Dn (mSeq (mBlk ms r p m) (n r p) st) := h
  unfold mSeq mBlk at h
  by_cases hd : bHdAt ms r = true
  · rw [if_pos hd] at h
    have hd' := bHdAt_of hd
    cases he : getS (bOut ms st) r p with
    | none => rw [he] at h; exact h.elim
    | some x =>
      rw [he] at h
      simp only at h
      have lm : ms.length = st.length := by
        obtain ⟨Z, os, t⟩ := s
        have h1 := t.ln
        have h2 := t.fx.2
        omega
      have hp : bHp H σ r p ms (σ.map gd) := bHp_of fun i v h1 h2 => by
        obtain ⟨w, hw⟩ := lk.ha i h1
        rw [List.getElem?_map, hw] at h2
        simp at h2
        subst h2
        exact lk.hp i w h1 hw
      obtain ⟨osv, B, fx, hf, sv, ex⟩ := s.blk hl lm hc he hp lk.ha
      refine ⟨H, osv, B, fx, hf, bVis x ms st, [], [], sv, rfl, ?_⟩
      have okk : ∀ {st2 xs : List D}, bOk ms r p st st2 xs = true → D.noBorL (st2 ++ xs) = true ∧ (D.noOwn (bTree ms st2) = true ∨ spS (bOut ms st) r p = true) := fun hq => by
        unfold bOk at hq
        rw [Bool.and_eq_true, Bool.or_eq_true] at hq
        exact hq
      cases q : m (bVis x ms st) with
      | nx st2 =>
        rw [q] at h
        simp only [bEnd] at h
        by_cases hq : bOk ms r p st st2 [] = true
        · rw [if_pos hq] at h
          intro σ' H' s'
          obtain ⟨nb, sp⟩ := okk hq
          obtain ⟨S, hps, pin⟩ := ex st2 [] σ' [] H' s' rfl nb sp
          refine ⟨_, ds, vs, r, p, by unfold bBack; simpa using S, hl, ⟨fun i v h1 h2 => ?_, fun i h1 => ?_⟩, h⟩
          · obtain ⟨w, hw⟩ := lk.ha i h1
            have h3 := pin i .al w h1 (by simp) hw
            rw [h3] at h2
            have h4 : w = v := by simpa using h2
            subst h4
            obtain ⟨y, hy, hz⟩ := hps i w h1 hw
            exact ⟨y, pin r .hd y hd' (by simp) hy, hz⟩
          · obtain ⟨w, hw⟩ := lk.ha i h1
            exact ⟨w, pin i .al w h1 (by simp) hw⟩
        · rw [if_neg hq] at h; exact h.elim
      | bk st2 =>
        rw [q] at h
        simp only [bEnd] at h
        by_cases hq : bOk ms r p st st2 [] = true
        · rw [if_pos hq] at h
          intro σ' H' s'
          obtain ⟨nb, sp⟩ := okk hq
          exact h σ' H' (by unfold bBack; simpa using (ex st2 [] σ' [] H' s' rfl nb sp).1)
        · rw [if_neg hq] at h; exact h.elim
      | ct st2 =>
        rw [q] at h
        simp only [bEnd] at h
        by_cases hq : bOk ms r p st st2 [] = true
        · rw [if_pos hq] at h
          intro σ' H' s'
          obtain ⟨nb, sp⟩ := okk hq
          exact h σ' H' (by unfold bBack; simpa using (ex st2 [] σ' [] H' s' rfl nb sp).1)
        · rw [if_neg hq] at h; exact h.elim
      | rt d st2 =>
        rw [q] at h
        simp only [bEnd] at h
        by_cases hq : bOk ms r p st st2 [d] = true
        · rw [if_pos hq] at h
          intro v σ' H' s'
          obtain ⟨nb, sp⟩ := okk hq
          exact h v σ' H' (ex st2 [d] σ' [v] H' s' rfl nb sp).1
        · rw [if_neg hq] at h; exact h.elim
      | ex y st2 =>
        rw [q] at h
        simp only [bEnd] at h
        by_cases hq : bOk ms r p st st2 y.ds = true
        · rw [if_pos hq] at h
          intro σ' cls dx us H' s' hy
          obtain ⟨nb, sp⟩ := okk hq
          have hu : y.ds.length = us.length := by
            obtain ⟨Z, os, t⟩ := s'
            have := t.dn
            simpa using this
          exact h σ' cls dx us H' (ex st2 y.ds σ' us H' (by simpa using s') hu nb sp).1 hy
        · rw [if_neg hq] at h; exact h.elim
      | stuck => rw [q] at h; exact h.elim
  · rw [if_neg hd] at h; exact h.elim
theorem COk.reb (O : COk X C) (H0 : Hp) (os0 : Ct) (B : Addr → Prop) (fx : Nat → Option V) : COk X ⟨C.K, C.CA, H0, os0, B, C.W, fx, C.n⟩ := ⟨O.k, O.tk⟩
theorem SX.pushUn {v : V} (s : SX C st ds σ vs H) : SX C st (ds ++ [.un]) σ (vs ++ [v]) H := by
  obtain ⟨Z, os, s⟩ := s
  obtain ⟨o1, o2, r1, r2, e⟩ := s.cut
  exact (s.mk2 r1 (r2.app (os := o2) (RpL.one (.un fun _ => rfl)) fun b => by simp) e (fun b => Nat.le_refl _) s.sl).sx
def bOnly (ms : List BM) (t : Nat) : Bool := (List.range ms.length).all fun i => decide (ms[i]? = some .al → i = t)
theorem bOnly_of {ms : List BM} {t i : Nat} (h : bOnly ms t = true) (hi : ms[i]? = some .al) : i = t := by
  unfold bOnly at h
  rw [List.all_eq_true] at h
  exact of_decide_eq_true (h i (List.mem_range.mpr (List.getElem?_eq_some_iff.mp hi).1)) hi
/-- y = a place: y is lent what stands there -/
def mAli (t : Nat) (q : List D → Option PL) (n : Nat → Pth → MS) : MS := fun st => match q st with
  | some (.pth r p) => if r ≠ t then n r p (st.set t .un) else .stuck
  | _ => .stuck
end
end PV

namespace PV
open PySem L2
/-! ### for x in xs, x being changed: the list's slot is hidden from the body, x is lent the item -/
def bNhd (ms : List BM) (i : Nat) : Bool := match ms[i]? with
  | some .hd => false
  | _ => true
theorem bNhd_of {ms : List BM} {i : Nat} (h : bIs ms i = true) : bNhd ms i = true := by
  unfold bIs at h
  unfold bNhd
  split at h
  · rename_i e; rw [e]
  · cases h
def seqN (l : Bool) : D → Option Nat
  | .nd (.lst _) xs => if l = true then some xs.length else none
  | .nd .tup xs => if l = true then none else some xs.length
  | _ => none
/-- a target lent an item -/
abbrev MGA := D → Nat → List D → Option (List D)
def trGA (C : Cc) (ms : List BM) (sub : Pth) (g : MGA) : TG := fun v σ H Q => ∃ st ds vs r p d, SX C st ds σ vs H ∧ ds.length = vs.length ∧ HPs H σ r p v ∧ getS st r p = some d ∧ match g d r st with
  | some st' => ∀ σ' H', SX C st' ds σ' vs H' → Lnk ms r (p ++ sub) σ' H' → Q σ' H'
  | none => False
def VGA (X : Cx) (C : Cc) (ms : List BM) (t : Expr) (sub : Pth) (g : MGA) : Prop := PG X t (trGA C ms sub g)
def gaNm (t : Nat) : MGA := fun _ r st => if r ≠ t ∧ t < st.length then some (st.set t .un) else none
/-- s, t = the item's two parts, the latter lent -/
def gaPr (s t : Nat) : MGA := fun d r st => match d with
  | .nd .tup [d0, _] => match vOf d0 with
    | some _ => if r ≠ t ∧ r ≠ s ∧ t < st.length ∧ s < st.length then some ((st.set s d0).set t .un) else none
    | none => none
  | _ => none
def okA (l : Bool) (r n : Nat) (st : List D) : Bool := decide ((st[r]?).bind (seqN l) = some n)
def forA (l : Bool) (r n : Nat) (sub : Pth) (g : MGA) (m : Nat → Pth → MS) : Nat → Nat → MS
  | 0, _, st => if okA l r n st = true then .nx st else .stuck
  | c + 1, j, st => if okA l r n st = true then match getS st r [j] with
    | some x => match g x r st with
      | some st1 => match m r (j :: sub) st1 with
        | .nx st2 => forA l r n sub g m c (j + 1) st2
        | .ct st2 => forA l r n sub g m c (j + 1) st2
        | .bk st2 => .nx st2
        | .rt d st2 => .rt d st2
        | .ex e st2 => .ex e st2
        | .stuck => .stuck
      | none => .stuck
    | none => .stuck
  else .stuck
def mForA (l : Bool) (ms : List BM) (q : List D → Option PL) (sub : Pth) (g : MGA) (m : Nat → Pth → MS) : MS := fun st => match q st with
  | some (.pth r []) => if bHdAt ms r = true then match (st[r]?).bind (seqN l) with
    | some n => forA l r n sub g m n 0 st
    | none => .stuck
  else .stuck
  | _ => .stuck
def trGAe (C : Cc) (ms : List BM) (sub : Pth) (g : MGA) : TG := fun v σ H Q => ∃ fx, (∀ i, bNhd ms i = true → fx i = C.fx i) ∧ trGA ⟨C.K, C.CA, C.H0, C.os0, C.B, C.W, fx, C.n⟩ ms sub g v σ H Q
def trLke (C : Cc) (ms : List BM) (n : Nat → Pth → MS) : TS := fun D σ H => ∃ fx, (∀ i, bNhd ms i = true → fx i = C.fx i) ∧ trLk ⟨C.K, C.CA, C.H0, C.os0, C.B, C.W, fx, C.n⟩ ms n D σ H
section
variable {X : Cx} {C : Cc} {st ds : List D} {σ : L2.St} {vs : List V} {H H' : Hp} {a b e o tg : Expr} {pos spos py : Pos} {qa qb : List D → Option PL} {s1 : Stmt} {ss : List Stmt} {m : MS} {Dn : Ends} {ms : List BM}
theorem vga_name {t : Nat} {x : Str} (hN : X.N.Nodup) (hfx : C.fx t = none) (ho : bOnly ms t = true) (hi : X.N[t]? = some x := by rfl) (hx : Loc X.env.scope x := by first | exact Or.inl rfl | exact Or.inr rfl)
    (hf : X.fn x = true ∨ X.env.scope.names.lookup x = some .local := by first | exact .inl rfl | exact .inr rfl | assumption) : VGA X C ms (.Name x pos) [] (gaNm t) := by
  refine (pg_name hN hi hx hf).impV ?_
  rintro v σ H Q ⟨st, ds, vs, r, p, d, s, hl, hp, hg, h⟩
  unfold gaNm at h
  by_cases q : r ≠ t ∧ t < st.length
  · rw [if_pos q] at h
    simp only at h
    obtain ⟨hrt, lt⟩ := q
    have s2 := (s.pushUn (v := v)).toSlot lt hfx
    have lt2 : t < σ.length := by
      obtain ⟨Z, os, z⟩ := s
      have h1 := z.ln
      omega
    refine h _ H s2 ⟨fun i w h1 h2 => ?_, fun i h1 => ?_⟩
    · obtain rfl := bOnly_of ho h1
      rw [List.getElem?_set_self lt2] at h2
      cases h2
      obtain ⟨y, hy, hz⟩ := hp
      exact ⟨y, by rw [List.getElem?_set_ne (Ne.symm hrt)]; exact hy, by simpa using hz⟩
    · obtain rfl := bOnly_of ho h1
      exact ⟨v, List.getElem?_set_self lt2⟩
  · rw [if_neg q] at h; exact h.elim
theorem HPt.snocA {H : Hp} : ∀ {p : Pth} {v u w : V} {a : Addr} {o : HO} {j : Nat}, HPt H v p u → u = .ref a → H a = some o → (hoVals o)[j]? = some w → HPt H v (p ++ [j]) w
  | [], v, u, w, a, o, j, h, hu, ho, hw => ⟨a, o, w, by have h : v = u := h; rw [h]; exact hu, ho, hw, rfl⟩
  | i :: p, v, u, w, a, o, j, ⟨a', o', w', e', ho', hw', h⟩, hu, ho, hw => ⟨a', o', w', e', ho', hw', HPt.snocA h hu ho hw⟩
theorem HPs.snocA {r : Nat} {p : Pth} {w : V} {a : Addr} {o : HO} {j : Nat} (h : HPs H σ r p (.ref a)) (ho : H a = some o) (hw : (hoVals o)[j]? = some w) : HPs H σ r (p ++ [j]) w := by
  obtain ⟨v, e, h⟩ := h
  exact ⟨v, e, HPt.snocA h rfl ho hw⟩
theorem getP_snocA {k : Kd} {xs : List D} {j : Nat} {x : D} : ∀ {p : Pth} {d : D}, getP d p = some (.nd k xs) → xs[j]? = some x → getP d (p ++ [j]) = some x
  | [], d, h, hx => by
    have h : d = .nd k xs := by simpa [getP] using h
    subst h
    simp [getP, hx]
  | i :: p, .nd k' ys, h, hx => by
    simp only [getP, List.cons_append] at h ⊢
    cases q : ys[i]? with
    | none => rw [q] at h; cases h
    | some y => rw [q] at h; exact getP_snocA h hx
  | i :: p, .un, h, _ => by simp [getP] at h
  | i :: p, .non, h, _ => by simp [getP] at h
  | i :: p, .bl _, h, _ => by simp [getP] at h
  | i :: p, .int _, h, _ => by simp [getP] at h
  | i :: p, .str _, h, _ => by simp [getP] at h
  | i :: p, .scr _, h, _ => by simp [getP] at h
theorem getS_snocA {r : Nat} {p : Pth} {k : Kd} {xs : List D} {j : Nat} {x : D} (h : getS st r p = some (.nd k xs)) (hx : xs[j]? = some x) : getS st r (p ++ [j]) = some x := by
  unfold getS at h ⊢
  cases q : st[r]? with
  | none => rw [q] at h; cases h
  | some d => rw [q] at h; exact getP_snocA h hx
theorem vga_pair {s t : Nat} {x y : Str} {j : Nat} {px py : Pos} (hc : X.calm = true) (hN : X.N.Nodup) (hfs : C.fx s = none) (hfx : C.fx t = none) (ho : bOnly ms t = true) (hst : s ≠ t) (hi : X.N[s]? = some x := by rfl) (hi2 : X.N[t]? = some y := by rfl)
    (hx : Loc X.env.scope x := by first | exact Or.inl rfl | exact Or.inr rfl) (hy : Loc X.env.scope y := by first | exact Or.inl rfl | exact Or.inr rfl)
    (hs2 : (assignEach [.Name x px, .Name y py] X.env).map (·.2) = assign (.Name x px) X.env :: (assignEach [.Name y py] X.env).map (·.2) := by rfl)
    (hs3 : (assignEach [.Name y py] X.env).map (·.2) = assign (.Name y py) X.env :: (assignEach [] X.env).map (·.2) := by rfl)
    (hn : (assignEach [.Name x px, .Name y py] X.env).length = 2 := by rfl) (hsn : (assignEach [.Name x px, .Name y py] X.env).findIdx? (·.1) = none := by rfl)
    (hf : X.fn x = true ∨ X.env.scope.names.lookup x = some .local := by first | exact .inl rfl | exact .inr rfl | assumption) (hf2 : X.fn y = true ∨ X.env.scope.names.lookup y = some .local := by first | exact .inl rfl | exact .inr rfl | assumption) :
    VGA X C ms (.Tuple [.Name x px, .Name y py] j pos) [1] (gaPr s t) := by
  refine (pg_tup hc (pgs_cons (pg_name hN hi hx hf) (pgs_cons (pg_name hN hi2 hy hf2) pgs_nil hs3) hs2) hn hsn).impV ?_
  rintro v σ H Q ⟨st, ds, vs, r, p, d, z, hl, hp, hg, h⟩
  unfold gaPr at h
  split at h
  · rename_i st' e
    split at e
    · rename_i d0 d1
      split at e
      · rename_i v0 hv0
        split at e
        · rename_i hq
          obtain ⟨hrt, hrs, lt, ls⟩ := hq
          cases e
          obtain ⟨A, ws, Z, os, rfl, hk, rl⟩ := z.node hg hp
          have hk1 : H A = some (.tup ws) := hk
          have l2 := rl.len
          match ws, l2, hk1 with
          | [w0, w1], _, hk1 =>
            have hp0 : HPs H σ r (p ++ [0]) w0 := hp.snocA hk1 rfl
            have hp1 : HPs H σ r (p ++ [1]) w1 := hp.snocA hk1 rfl
            have hg0 : getS st r (p ++ [0]) = some d0 := getS_snocA hg rfl
            obtain rfl := z.scal hg0 hv0 hp0
            have lσ : st.length = σ.length := z.sln
            have s1 := (z.pushc hv0).toSlot ls hfs
            have s2 := (s1.pushUn (v := w1)).toSlot (by simpa using lt) hfx
            refine ⟨A, [w0, w1], rfl, SqT.of hk1, rfl, w0, [w1], rfl, w1, [], rfl, rfl, ?_⟩
            refine h _ H s2 ⟨fun i w h1 h2 => ?_, fun i h1 => ?_⟩
            · obtain rfl := bOnly_of ho h1
              rw [List.getElem?_set_self (by simp; omega)] at h2
              cases h2
              obtain ⟨y, hy, hz⟩ := hp1
              exact ⟨y, by rw [List.getElem?_set_ne (Ne.symm hrt), List.getElem?_set_ne (Ne.symm hrs)]; exact hy, hz⟩
            · obtain rfl := bOnly_of ho h1
              exact ⟨w1, List.getElem?_set_self (by simp; omega)⟩
        · cases e
      · cases e
    · cases e
  · exact h.elim
theorem SX.pin {r : Nat} {v : V} (s : SX C st ds σ vs H) (h : σ[r]? = some (some v)) : SX ⟨C.K, C.CA, C.H0, C.os0, C.B, C.W, fun i => if i = r then some v else C.fx i, C.n⟩ st ds σ vs H := by
  obtain ⟨Z, os, s⟩ := s
  refine ⟨Z, os, s.rp, s.nd, s.ln, s.sl, s.kp, s.fr, s.al, s.bb, fun i w hi => ?_, s.fx.2⟩
  have hi : (if i = r then some v else C.fx i) = some w := hi
  by_cases q : i = r
  · subst q; rw [if_pos rfl] at hi; cases hi; exact h
  · rw [if_neg q] at hi; exact s.fx.1 i w hi
theorem SX.unpin {r : Nat} {v : V} (hr : C.fx r = none ∨ C.fx r = some v) (s : SX ⟨C.K, C.CA, C.H0, C.os0, C.B, C.W, fun i => if i = r then some v else C.fx i, C.n⟩ st ds σ vs H) : SX C st ds σ vs H ∧ σ[r]? = some (some v) := by
  obtain ⟨Z, os, s⟩ := s
  refine ⟨⟨Z, os, s.rp, s.nd, s.ln, s.sl, s.kp, s.fr, s.al, s.bb, fun i w hi => ?_, s.fx.2⟩, s.fx.1 r v (by simp)⟩
  by_cases q : i = r
  · subst q
    rcases hr with hr | hr
    · rw [hr] at hi; cases hi
    · rw [hr] at hi; cases hi; exact s.fx.1 i v (by simp)
  · exact s.fx.1 i w (by show (if i = r then some v else C.fx i) = some w; rw [if_neg q]; exact hi)
theorem rZ.pin {r : Nat} {v : V} (hr : C.fx r = none ∨ C.fx r = some v) : ∀ {rs : RS}, rZ C ds vs Dn rs → rZ ⟨C.K, C.CA, C.H0, C.os0, C.B, C.W, fun i => if i = r then some v else C.fx i, C.n⟩ ds vs Dn rs
  | .nx _, h => fun σ' H' s => h σ' H' (s.unpin hr).1
  | .bk _, h => fun σ' H' s => h σ' H' (s.unpin hr).1
  | .ct _, h => fun σ' H' s => h σ' H' (s.unpin hr).1
  | .rt _ _, h => fun v σ' H' s => h v σ' H' (s.unpin hr).1
  | .ex _ _, h => fun σ' cls dx us H' s k => h σ' cls dx us H' (s.unpin hr).1 k
  | .stuck, h => h
theorem seqN_at {l : Bool} {r n : Nat} {A : Addr} (s : SX C st ds σ vs H) (ok : okA l r n st = true) (hr : σ[r]? = some (some (.ref A))) : ∃ (k : Kd) (xs : List D) (ws : List V), st[r]? = some (.nd k xs) ∧ xs.length = n ∧ ws.length = n ∧ H A = some (if l = true then .lst ws else .tup ws) ∧ ∀ (j : Nat) (x : D), xs[j]? = some x → ∃ w : V, ws[j]? = some w := by
  have ok := of_decide_eq_true ok
  cases q : st[r]? with
  | none => rw [q] at ok; cases ok
  | some d =>
    rw [q] at ok
    have ok : seqN l d = some n := ok
    have hp : HPs H σ r [] (.ref A) := ⟨_, hr, rfl⟩
    have key : ∀ (k : Kd) (xs : List D), d = .nd k xs → ∃ ws : List V, HoK C.CA H A ws k ∧ xs.length = ws.length := fun k xs e => by
      subst e
      obtain ⟨A', ws, Z, os, e', hk, rl⟩ := s.node (r := r) (p := []) (by unfold getS; rw [q]; rfl) hp
      cases e'
      exact ⟨ws, hk, rl.len⟩
    have fin : ∀ {xs : List D} {ws : List V}, xs.length = ws.length → ∀ (j : Nat) (x : D), xs[j]? = some x → ∃ w : V, ws[j]? = some w := fun {xs ws} hl j x hx => by
      have : j < ws.length := by rw [← hl]; exact (List.getElem?_eq_some_iff.mp hx).1
      exact ⟨ws[j], by simp [this]⟩
    match d, ok, key, q with
    | .nd (.lst f) xs, ok, key, q =>
      obtain ⟨ws, hk, hl⟩ := key _ _ rfl
      cases l with
      | true =>
        have ok : some xs.length = some n := ok
        cases ok
        exact ⟨_, xs, ws, rfl, rfl, hl.symm, hk, fin hl⟩
      | false => exact absurd ok (by simp [seqN])
    | .nd .tup xs, ok, key, q =>
      obtain ⟨ws, hk, hl⟩ := key _ _ rfl
      cases l with
      | true => exact absurd ok (by simp [seqN])
      | false =>
        have ok : some xs.length = some n := ok
        cases ok
        exact ⟨_, xs, ws, rfl, rfl, hl.symm, hk, fin hl⟩
theorem okA_of {l : Bool} {r n : Nat} {sub : Pth} {g : MGA} {m : Nat → Pth → MS} {c j : Nat} (h : rZ C ds vs Dn (forA l r n sub g m c j st)) : okA l r n st = true := by
  cases c with
  | zero =>
    unfold forA at h
    by_cases q : okA l r n st = true
    · exact q
    · rw [if_neg q] at h; exact h.elim
  | succ c =>
    unfold forA at h
    by_cases q : okA l r n st = true
    · exact q
    · rw [if_neg q] at h; exact h.elim
/-- a turn -/
theorem forA_turn {l : Bool} {r n c j : Nat} {sub : Pth} {g : MGA} {m : Nat → Pth → MS} {A : Addr} {ws' : List V} {w : V} (hr : C.fx r = none ∨ C.fx r = some (.ref A)) (hl : ds.length = vs.length) (hσ : σ[r]? = some (some (.ref A))) (hw' : H A = some (if l = true then .lst ws' else .tup ws')) (hw : ws'[j]? = some w) (s : SX C st ds σ vs H) (h : rZ C ds vs Dn (forA l r n sub g m (c + 1) j st)) :
    trGA ⟨C.K, C.CA, C.H0, C.os0, C.B, C.W, fun i => if i = r then some (.ref A) else C.fx i, C.n⟩ ms sub g w σ H fun σ2 H2 => trLk ⟨C.K, C.CA, C.H0, C.os0, C.B, C.W, fun i => if i = r then some (.ref A) else C.fx i, C.n⟩ ms m { Dn with
      nx := fun σ' H' => ∃ st', SX C st' ds σ' vs H' ∧ σ'[r]? = some (some (.ref A)) ∧ rZ C ds vs Dn (forA l r n sub g m c (j + 1) st')
      ct := fun σ' H' => ∃ st', SX C st' ds σ' vs H' ∧ σ'[r]? = some (some (.ref A)) ∧ rZ C ds vs Dn (forA l r n sub g m c (j + 1) st')
      bk := Dn.nx } σ2 H2 := by
  have ok := okA_of h
  unfold forA at h
  rw [if_pos ok] at h
  cases q : getS st r [j] with
  | none => rw [q] at h; exact h.elim
  | some x =>
    rw [q] at h
    simp only at h
    refine ⟨st, ds, vs, r, [j], x, s.pin hσ, hl, ?_, q, ?_⟩
    · exact ⟨_, hσ, A, _, w, rfl, hw', by cases l <;> simpa [hoVals] using hw, rfl⟩
    · cases e : g x r st with
      | none => rw [e] at h; exact h.elim
      | some st1 =>
        rw [e] at h
        simp only at h ⊢
        intro σ2 H2 s2 lk
        refine ⟨st1, ds, vs, r, j :: sub, s2, hl, lk, ?_⟩
        cases em : m r (j :: sub) st1 with
        | nx st2 => rw [em] at h; exact fun σ' H' s' => ⟨st2, (s'.unpin hr).1, (s'.unpin hr).2, h⟩
        | ct st2 => rw [em] at h; exact fun σ' H' s' => ⟨st2, (s'.unpin hr).1, (s'.unpin hr).2, h⟩
        | bk st2 => rw [em] at h; exact fun σ' H' s' => h σ' H' (s'.unpin hr).1
        | rt d st2 => rw [em] at h; exact fun v σ' H' s' => h v σ' H' (s'.unpin hr).1
        | ex x st2 => rw [em] at h; exact fun σ' cls dx us H' s' k => h σ' cls dx us H' (s'.unpin hr).1 k
        | stuck => rw [em] at h; exact h.elim
theorem vs_forAL {g : MGA} {sub : Pth} {n : Nat → Pth → MS} (O : COk X C) (hp : PassesOwn (model X.prog X.w) X.A X.env X.xe) (hc : X.calm = true) (ha : VQ X C e qa) (hg : ∀ fx, (∀ i, bNhd ms i = true → fx i = C.fx i) → VGA X ⟨C.K, C.CA, C.H0, C.os0, C.B, C.W, fx, C.n⟩ ms tg sub g)
    (hb : ∀ fx, (∀ i, bNhd ms i = true → fx i = C.fx i) → VBA X ⟨C.K, C.CA, C.H0, C.os0, C.B, C.W, fx, C.n⟩ ms ss n) (hs : ∀ x, foldedSetIterable e X.env x = pure x := by intro _; rfl) : VS X C (.For tg e ss [] pos) (mForA true ms qa sub g n) := by
  have hg' : PG X tg (trGAe C ms sub g) := ⟨fun pins sh σ H v u Q I rv ⟨fx, hf, h⟩ => (hg fx hf).run pins sh σ H v u Q I rv h⟩
  have hb' : PSs X ss (trLke C ms n) := ⟨fun pins sh σ H D I ⟨fx, hf, h⟩ => (hb fx hf).run pins sh σ H D I h⟩
  refine (ps_for hp hc (pi_list ha.pe) hg' hb' hs).impV ?_
  rintro Dn σ H ⟨st, ds, vs, s, hl, h⟩
  refine ⟨st, ds, vs, s, ?_⟩
  unfold mForA at h
  split at h
  · rename_i r q
    rw [q]
    by_cases hd : bHdAt ms r = true
    · rw [if_pos hd] at h
      split at h
      · rename_i N hN
        intro u hu
        obtain ⟨v, hv, rfl⟩ := hu
        have ok : okA true r N st = true := by unfold okA; rw [hN]; simp
        obtain ⟨k, xs, hk⟩ := ha.ok st _ q
        obtain ⟨A, _, _, _, rfl, _, _⟩ := s.node hk ⟨_, hv, rfl⟩
        obtain ⟨k, xs, ws, e1, e2, e3, e4, _⟩ := seqN_at s ok hv
        rw [if_pos rfl] at e4
        have hr : C.fx r = none ∨ C.fx r = some (.ref A) := by
          cases hq : C.fx r with
          | none => exact .inl rfl
          | some y =>
            obtain ⟨Z, os, z⟩ := s
            have := z.fx.1 r y hq
            rw [hv] at this; cases this
            exact .inr rfl
        have hf : ∀ i, bNhd ms i = true → (if i = r then some (V.ref A) else C.fx i) = C.fx i := fun i hi => by
          rw [if_neg]
          rintro rfl
          have := bHdAt_of hd
          unfold bNhd at hi
          rw [this] at hi
          cases hi
        refine ⟨A, rfl, ⟨ws, SqL.of e4⟩, for_listV (K := X.K) (a := A) (n := N) (g := trGAe C ms sub g) (tb := trLke C ms n) (D := Dn) (fun j σ' H' => ∃ st', SX C st' ds σ' vs H' ∧ σ'[r]? = some (some (.ref A)) ∧ rZ C ds vs Dn (forA true r N sub g n (N - j) j st')) ⟨st, s, hv, h⟩ (fun j σ' H' _ ⟨st', s', hv', h'⟩ => ?_) ?_ ?_⟩
        · obtain ⟨_, _, ws', _, _, e3', e4', _⟩ := seqN_at s' (okA_of h') hv'
          exact ⟨ws', e3', by simpa using e4'⟩
        · rintro j w ws' σ' H' hq hw hj ⟨st', s', hv', h'⟩
          have ec : N - j = (N - (j + 1)) + 1 := by omega
          rw [ec] at h'
          obtain ⟨st2, ds2, vs2, r2, p2, d2, a1, a2, a3, a4, a5⟩ := forA_turn (ms := ms) hr hl hv' (l := true) (by simpa using hq) hw s' h'
          refine ⟨_, hf, st2, ds2, vs2, r2, p2, d2, a1, a2, a3, a4, ?_⟩
          split at a5
          · rename_i st3 e5
            intro σ3 H3 s3 l3
            exact ⟨_, hf, a5 σ3 H3 s3 l3⟩
          · exact a5.elim
        · rintro σ' H' ⟨st', s', hv', h'⟩
          have ok' := okA_of h'
          rw [Nat.sub_self] at h'
          unfold forA at h'
          rw [if_pos ok'] at h'
          exact h' σ' H' s'
      · exact h.elim
    · rw [if_neg hd] at h; exact h.elim
  · exact h.elim
end
end PV

namespace PV
open PySem L2 PySem.Spec
/-! ### xs.count(y), xs.index(y), lists of flat things -/
def rCntF (K : PySem.W.Frag) : V → List V → Hp → VK → Prop := fun x xs H Q => ∃ (a : Addr) (ys : List V) (y : V), x = V.ref a ∧ xs = [y] ∧ SqL K H a ys ∧ flatV y = true ∧ ys.all flatV = true ∧ Q (.int (ys.countP fun z => eqV z y : Nat)) H
def cntV (w : V) (us : List V) : Option Int := some ((us.countP fun z => eqV z w : Nat) : Int)
def fstV (w : V) (us : List V) : Option Int := (us.findIdx? fun z => eqV z w).map fun n => (n : Int)
section
variable {X : Cx} {C : Cc} {st ds : List D} {σ : L2.St} {vs : List V} {H H' : Hp} {a b e o f k v tg elt : Expr} {pos p p2 apos pos' cpos : Pos} {ma mb mc : List D → R D} {sa sb sc : Bool} {ss : List Stmt} {m : MS} {qa qb qo qi qv : List D → Option PL}
def l2K (f : V → List V → Option Int) (st : List D) (y x : D) : R D := match x with
  | .nd (.lst _) xs => match vOf y, vsOf xs with
    | some w, some us => R.of (f w us) fun i => .ok (.int i) st
    | _, _ => .stuck
  | _ => .stuck
@[simp] theorem l2K_lst (f : V → List V → Option Int) (st : List D) (y : D) (g : Fl) (xs : List D) : l2K f st y (.nd (.lst g) xs) = match vOf y, vsOf xs with
    | some w, some us => R.of (f w us) fun i => .ok (.int i) st
    | _, _ => .stuck := rfl
def mL2 (f : V → List V → Option Int) (ma mb : List D → R D) : List D → R D := fun st => (ma st).bind fun x st1 => lstK x ((mb st1).bind fun y st2 => l2K f st2 y x)
@[simp] theorem mL2_eq (f : V → List V → Option Int) (ma mb : List D → R D) (st : List D) : mL2 f ma mb st = (ma st).bind fun x st1 => lstK x ((mb st1).bind fun y st2 => l2K f st2 y x) := rfl
end
end PV

namespace PV
open PySem L2
section
variable {X : Cx} {C : Cc} {st ds : List D} {σ : L2.St} {vs : List V} {H H' : Hp} {a b e o : Expr} {pos : Pos} {ma mb : List D → R D} {sa sb : Bool}
/-! ### (a, ..) + a tuple, it may be empty -/
def addTK (x y : D) (st : List D) : R D := match x, y with
  | .nd .tup xs, .nd .tup ys => chk (xs.length + ys.length ≤ sizeLine ∧ xs ≠ []) (.ok (.nd .tup (xs ++ ys)) st)
  | _, _ => .stuck
@[simp] theorem addTK_tup (xs ys st : List D) : addTK (.nd .tup xs) (.nd .tup ys) st = chk (xs.length + ys.length ≤ sizeLine ∧ xs ≠ []) (.ok (.nd .tup (xs ++ ys)) st) := rfl
def mAddT (ma mb : List D → R D) : List D → R D := fun st => (ma st).bind fun x st1 => (mb st1).bind fun y st2 => addTK x y st2
@[simp] theorem mAddT_eq (ma mb : List D → R D) (st : List D) : mAddT ma mb st = (ma st).bind fun x st1 => (mb st1).bind fun y st2 => addTK x y st2 := rfl
end
end PV

namespace Law
open PySem L2 PV
def top (i : Nat) : Stmt := PySem.Challenge.pw_inkroot_k23_all_moments_kept.main.body.getD i (.Pass ⟨0, 0, 0, 0⟩)
/-- the class cells -/
def CAo (mg : Str → Option Value) : Str → Option Addr := fun c => match mg c with
  | some (.ref a) => some a
  | _ => none
structure DefX (K : PySem.W.Frag) (mg : Str → Option Value) (x nm : Str) (sd : Stmt) (ps : List Str) (f : Addr) (fd : FuncData) : Prop where
  F : L2.Fun K nm nm sd f fd
  mg : mg x = some (.ref f)
  kp : PySem.W.keepIn K (.ref f) = true
  b : Binds K fd ps []
structure DefM (K : PySem.W.Frag) (x qual : Str) (sd : Stmt) (ps : List Str) (f : Addr) (fd : FuncData) : Prop where
  F : L2.Fun K x qual sd f fd
  b : Binds K fd ps []
def hiT : List (Str × Str × Bool) := [("NoSheet", "NoSheet", true), ("NoSheet", "NoMoment", false), ("NoMoment", "NoSheet", false), ("NoMoment", "NoMoment", true)]
abbrev hiL : Str → Str → Option Bool := hiOf hiT
@[simp] theorem hi_NoMoment_NoMoment : hiOf hiT "NoMoment" "NoMoment" = some true := by decide +kernel
@[simp] theorem hi_NoMoment_NoSheet : hiOf hiT "NoMoment" "NoSheet" = some false := by decide +kernel
@[simp] theorem hi_NoSheet_NoMoment : hiOf hiT "NoSheet" "NoMoment" = some false := by decide +kernel
@[simp] theorem hi_NoSheet_NoSheet : hiOf hiT "NoSheet" "NoSheet" = some true := by decide +kernel
structure AX where
  f__law_src : Addr
  d__law_src : FuncData
  f_Shelf___init__ : Addr
  d_Shelf___init__ : FuncData
  f__law_next : Addr
  d__law_next : FuncData
  f__law_line_by : Addr
  d__law_line_by : FuncData
  f__law_items_of : Addr
  d__law_items_of : FuncData
  f_Shelf_step : Addr
  d_Shelf_step : FuncData
  f__law_step : Addr
  d__law_step : FuncData
  f_Shelf_look : Addr
  d_Shelf_look : FuncData
  f_Shelf_row : Addr
  d_Shelf_row : FuncData
  f__law_row_or : Addr
  d__law_row_or : FuncData
  f__law_whole : Addr
  d__law_whole : FuncData
  f__law_same : Addr
  d__law_same : FuncData
  f_Shelf_opened : Addr
  d_Shelf_opened : FuncData
  f__law_opened_or : Addr
  d__law_opened_or : FuncData
  f_Shelf_rows : Addr
  d_Shelf_rows : FuncData
  f_Shelf_many : Addr
  d_Shelf_many : FuncData
  f_Shelf_now : Addr
  d_Shelf_now : FuncData
  f__law_now_right : Addr
  d__law_now_right : FuncData
  f_Shelf_look_then : Addr
  d_Shelf_look_then : FuncData
  f_Shelf_row_then : Addr
  d_Shelf_row_then : FuncData
  f__law_row_then_or : Addr
  d__law_row_then_or : FuncData
  f__law_due : Addr
  d__law_due : FuncData
  f_Shelf_rows_then : Addr
  d_Shelf_rows_then : FuncData
  f__law_rows_then_or : Addr
  d__law_rows_then_or : FuncData
  f__law_moments_right : Addr
  d__law_moments_right : FuncData
  f_law : Addr
  d_law : FuncData
  c_Shelf : Addr
structure TX (K : PySem.W.Frag) (mg : Str → Option Value) (a : AX) : Prop where
  x__law_src : DefX K mg "_law_src" "_law_src" (top 7) ["_law_script"] a.f__law_src a.d__law_src
  x_Shelf___init__ : DefM K "__init__" "Shelf.__init__" (inClass (top 5) 0) ["self"] a.f_Shelf___init__ a.d_Shelf___init__
  x__law_next : DefX K mg "_law_next" "_law_next" (top 8) ["_law_src_here", "_law_base"] a.f__law_next a.d__law_next
  x__law_line_by : DefX K mg "_law_line_by" "_law_line_by" (top 12) ["_law_src_here", "_law_many"] a.f__law_line_by a.d__law_line_by
  x__law_items_of : DefX K mg "_law_items_of" "_law_items_of" (top 11) ["_law_entries"] a.f__law_items_of a.d__law_items_of
  x_Shelf_step : DefM K "step" "Shelf.step" (inClass (top 5) 1) ["self", "changes"] a.f_Shelf_step a.d_Shelf_step
  x__law_step : DefX K mg "_law_step" "_law_step" (top 13) ["_law_src_here", "_law_shelf", "_law_past"] a.f__law_step a.d__law_step
  x_Shelf_look : DefM K "look" "Shelf.look" (inClass (top 5) 4) ["self", "sheet"] a.f_Shelf_look a.d_Shelf_look
  x_Shelf_row : DefM K "row" "Shelf.row" (inClass (top 5) 7) ["self", "sheet"] a.f_Shelf_row a.d_Shelf_row
  x__law_row_or : DefX K mg "_law_row_or" "_law_row_or" (top 15) ["_law_shelf", "_law_sheet"] a.f__law_row_or a.d__law_row_or
  x__law_whole : DefX K mg "_law_whole" "_law_whole" (top 9) ["_law_found"] a.f__law_whole a.d__law_whole
  x__law_same : DefX K mg "_law_same" "_law_same" (top 10) ["_law_found", "_law_due_here"] a.f__law_same a.d__law_same
  x_Shelf_opened : DefM K "opened" "Shelf.opened" (inClass (top 5) 6) ["self", "sheet"] a.f_Shelf_opened a.d_Shelf_opened
  x__law_opened_or : DefX K mg "_law_opened_or" "_law_opened_or" (top 16) ["_law_shelf", "_law_sheet"] a.f__law_opened_or a.d__law_opened_or
  x_Shelf_rows : DefM K "rows" "Shelf.rows" (inClass (top 5) 9) ["self"] a.f_Shelf_rows a.d_Shelf_rows
  x_Shelf_many : DefM K "many" "Shelf.many" (inClass (top 5) 2) ["self"] a.f_Shelf_many a.d_Shelf_many
  x_Shelf_now : DefM K "now" "Shelf.now" (inClass (top 5) 3) ["self"] a.f_Shelf_now a.d_Shelf_now
  x__law_now_right : DefX K mg "_law_now_right" "_law_now_right" (top 20) ["_law_shelf", "_law_past"] a.f__law_now_right a.d__law_now_right
  x_Shelf_look_then : DefM K "look_then" "Shelf.look_then" (inClass (top 5) 5) ["self", "sheet", "moment"] a.f_Shelf_look_then a.d_Shelf_look_then
  x_Shelf_row_then : DefM K "row_then" "Shelf.row_then" (inClass (top 5) 8) ["self", "sheet", "moment"] a.f_Shelf_row_then a.d_Shelf_row_then
  x__law_row_then_or : DefX K mg "_law_row_then_or" "_law_row_then_or" (top 14) ["_law_shelf", "_law_sheet", "_law_moment"] a.f__law_row_then_or a.d__law_row_then_or
  x__law_due : DefX K mg "_law_due" "_law_due" (top 18) ["_law_past", "_law_sheet", "_law_moment"] a.f__law_due a.d__law_due
  x_Shelf_rows_then : DefM K "rows_then" "Shelf.rows_then" (inClass (top 5) 10) ["self", "moment"] a.f_Shelf_rows_then a.d_Shelf_rows_then
  x__law_rows_then_or : DefX K mg "_law_rows_then_or" "_law_rows_then_or" (top 17) ["_law_shelf", "_law_moment"] a.f__law_rows_then_or a.d__law_rows_then_or
  x__law_moments_right : DefX K mg "_law_moments_right" "_law_moments_right" (top 19) ["_law_shelf", "_law_past"] a.f__law_moments_right a.d__law_moments_right
  x_law : DefX K mg "law" "law" (top 21) ["_law_script"] a.f_law a.d_law
  b_bool : mg "bool" = none
  b_int : mg "int" = none
  b_isinstance : mg "isinstance" = none
  b_len : mg "len" = none
  b_list : mg "list" = none
  b_range : mg "range" = none
  b_str : mg "str" = none
  b_tuple : mg "tuple" = none
  b_zip : mg "zip" = none
  e_NoSheet : ∃ a, CAo mg "NoSheet" = some a ∧ mg "NoSheet" = some (.ref a) ∧ PySem.W.excIn K a [.type "ValueError", .type "Exception", .type "BaseException", .type "object"] "ValueError.__new__" = true ∧ PySem.W.keepIn K (.ref a) = true ∧ PySem.W.subIn K (.ref a) (.type "BaseException") = some true ∧ PySem.W.typeIn K (.ref a) = some (.type "type")
  e_NoMoment : ∃ a, CAo mg "NoMoment" = some a ∧ mg "NoMoment" = some (.ref a) ∧ PySem.W.excIn K a [.type "ValueError", .type "Exception", .type "BaseException", .type "object"] "ValueError.__new__" = true ∧ PySem.W.keepIn K (.ref a) = true ∧ PySem.W.subIn K (.ref a) (.type "BaseException") = some true ∧ PySem.W.typeIn K (.ref a) = some (.type "type")
  c_NoSheet : ∃ a, CAo mg "NoSheet" = some a ∧ mg "NoSheet" = some (.ref a)
  c_NoMoment : ∃ a, CAo mg "NoMoment" = some a ∧ mg "NoMoment" = some (.ref a)
  hier : Hier K (CAo mg) hiL
  ca_Shelf : CAo mg "Shelf" = some a.c_Shelf
  mg_Shelf : mg "Shelf" = some (.ref a.c_Shelf)
  cl_Shelf : Cls K a.c_Shelf
  na_Shelf_past : NoAttr K a.c_Shelf "past"
  na_Shelf_moment : NoAttr K a.c_Shelf "moment"
  me_Shelf_step : Meth K a.c_Shelf "step" a.f_Shelf_step
  me_Shelf_look : Meth K a.c_Shelf "look" a.f_Shelf_look
  me_Shelf_row : Meth K a.c_Shelf "row" a.f_Shelf_row
  me_Shelf_opened : Meth K a.c_Shelf "opened" a.f_Shelf_opened
  me_Shelf_rows : Meth K a.c_Shelf "rows" a.f_Shelf_rows
  me_Shelf_many : Meth K a.c_Shelf "many" a.f_Shelf_many
  me_Shelf_now : Meth K a.c_Shelf "now" a.f_Shelf_now
  me_Shelf_look_then : Meth K a.c_Shelf "look_then" a.f_Shelf_look_then
  me_Shelf_row_then : Meth K a.c_Shelf "row_then" a.f_Shelf_row_then
  me_Shelf_rows_then : Meth K a.c_Shelf "rows_then" a.f_Shelf_rows_then
  mk_Shelf : Mk K a.c_Shelf a.f_Shelf___init__
noncomputable section
variable {P : Program} {w : World} {K : PySem.W.Frag} {mg : Str → Option Value} {base : Heap} {a : AX}
/-! #### _law_src -/
abbrev s__law_src : Stmt := top 7
abbrev N__law_src : List Str := ["_law_script"]
theorem sc__law_src : FnScope N__law_src ["_law_script"] (defScope s__law_src) := ⟨rfl, rfl, rfl, by decide +kernel, rfl, by decide +kernel, by decide +kernel⟩
def m__law_src : MS := (mSeq (mRet (mLst (mCons (mListE (mSlScr (mScr 0) oNo (oQ (qC (.int 63))))) (mCons (mQ (qC (.int 0))) (mCons (mQ (qC (.int 0))) (mCons (mQ (qC (.int 1))) mNil)))))) mSkip)
def F__law_src : Fn := runF [.bo] 1 m__law_src
theorem ok__law_src (T : TX K mg a) : FnOk P w K mg base (L2.CX P w) 1 a.f__law_src a.d__law_src ["_law_script"] (spF K (CAo mg) 1 F__law_src) :=
  fn_ok (K := K) (mg := mg) (CA := CAo mg) (N := N__law_src) (ms := [.bo]) (m := m__law_src) T.x__law_src.F sc__law_src rfl fun cdv A outer s H E H0 os0 B fx hfx hr => (
    have O : COk (cxOf (L2.CX P w) P w K mg base _ _ (defScope s__law_src) a.f__law_src cdv A outer s H E) ⟨K, CAo mg, H0, os0, B, fun cls d _ H' => E cls d H', fx, 1⟩ := ⟨rfl, takes_of rfl rfl rfl rfl⟩
    have hu := hr.units
    ((vb_cons (vs_ret (ve_lst (vl_cons (ve_listE O (ve_slScr O (ve_scr 0) vo_no (vo_q vq_int)) (by rfl) T.b_list) (vl_cons (VQ.e vq_int) (vl_cons (VQ.e vq_int) (vl_cons (VQ.e vq_int) vl_nil)))))) vb_nil)))
/-! #### Shelf.__init__ -/
abbrev s_Shelf___init__ : Stmt := inClass (top 5) 0
abbrev N_Shelf___init__ : List Str := ["self"]
theorem sc_Shelf___init__ : FnScope N_Shelf___init__ ["self"] (defScope s_Shelf___init__) := ⟨rfl, rfl, rfl, by decide +kernel, rfl, by decide +kernel, by decide +kernel⟩
def m_Shelf___init__ : MS := (mSeq (mFldN (qV 0) "Shelf" [] "past" (mLst mNil)) (mSeq (mFldN (qV 0) "Shelf" ["past"] "moment" (mQ (qC (.int 0)))) mSkip))
def F_Shelf___init__ : Fn := runF [.io] 1 m_Shelf___init__
theorem ok_Shelf___init__ (T : TX K mg a) : FnOk P w K mg base (L2.CX P w) 1 a.f_Shelf___init__ a.d_Shelf___init__ ["self"] (spF K (CAo mg) 1 F_Shelf___init__) :=
  fn_ok (K := K) (mg := mg) (CA := CAo mg) (N := N_Shelf___init__) (ms := [.io]) (m := m_Shelf___init__) T.x_Shelf___init__.F sc_Shelf___init__ rfl fun cdv A outer s H E H0 os0 B fx hfx hr => (
    have O : COk (cxOf (L2.CX P w) P w K mg base _ _ (defScope s_Shelf___init__) a.f_Shelf___init__ cdv A outer s H E) ⟨K, CAo mg, H0, os0, B, fun cls d _ H' => E cls d H', fx, 1⟩ := ⟨rfl, takes_of rfl rfl rfl rfl⟩
    have hu := hr.units
    ((vb_cons (vs_fldN (c := "Shelf") (ns := []) (f := "past") O (vq_v 0) (clsOk_of T.ca_Shelf T.cl_Shelf T.na_Shelf_past) (ve_lst vl_nil)) (vb_cons (vs_fldN (c := "Shelf") (ns := ["past"]) (f := "moment") O (vq_v 0) (clsOk_of T.ca_Shelf T.cl_Shelf T.na_Shelf_moment) (VQ.e vq_int)) vb_nil))))
/-! #### _law_next -/
abbrev s__law_next : Stmt := top 8
abbrev N__law_next : List Str := ["_law_src_here", "_law_base", "_law_cell", "_law_digit"]
theorem sc__law_next : FnScope N__law_next ["_law_src_here", "_law_base"] (defScope s__law_next) := ⟨rfl, rfl, rfl, by decide +kernel, rfl, by decide +kernel, by decide +kernel⟩
def m__law_next : MS := (mSeq (mIf (mTQ (qOp gLe (qIx (qV 0) (qC (.int 2))) (qC (.int 1)))) (mSeq (mAsg (mQ (qC (.int 7))) (gNm 2)) (mSeq (mIf (mTQ (qOp gLt (qIx (qV 0) (qC (.int 1))) (qLen (qIx (qV 0) (qC (.int 0)))))) (mSeq (mAsg (mQ (qIx (qIx (qV 0) (qC (.int 0))) (qIx (qV 0) (qC (.int 1))))) (gNm 2)) (mSeq (mAsg (mQ (qOp gAdd (qIx (qV 0) (qC (.int 1))) (qC (.int 1)))) (gIx (qV 0) (qC (.int 1)))) mSkip)) mSkip) (mSeq (mAsg (mQ (qOp gMod (qOp gAdd (qOp gAdd (qOp gMul (qIx (qV 0) (qC (.int 3))) (qC (.int 48271))) (qOp gMod (qV 2) (qC (.int 998244353)))) (qC (.int 1))) (qC (.int 2147483647)))) (gIx (qV 0) (qC (.int 3)))) (mSeq (mIf (mTQ (qOp gGe (qV 2) (qOp gPow (qC (.int 10)) (qC (.int 18))))) (mSeq (mAsg (mQ (qV 2)) (gIx (qV 0) (qC (.int 2)))) mSkip) mSkip) mSkip)))) mSkip) (mSeq (mIf (mTQ (qOp gGt (qIx (qV 0) (qC (.int 2))) (qC (.int 1)))) (mSeq (mAsg (mQ (qOp gMod (qIx (qV 0) (qC (.int 2))) (qV 1))) (gNm 3)) (mSeq (mAsg (mQ (qOp gDiv (qIx (qV 0) (qC (.int 2))) (qV 1))) (gIx (qV 0) (qC (.int 2)))) (mSeq (mRet (mMove 3)) mSkip))) mSkip) (mSeq (mRet (mQ (qOp gMod (qOp gDiv (qOp gMod (qOp gMul (qIx (qV 0) (qC (.int 3))) (qC (.int 40692))) (qC (.int 2147483399))) (qC (.int 3))) (qV 1)))) mSkip)))
def F__law_next : Fn := runF [.io, .bo] 4 m__law_next
theorem ok__law_next (T : TX K mg a) : FnOk P w K mg base (L2.CX P w) 1 a.f__law_next a.d__law_next ["_law_src_here", "_law_base"] (spF K (CAo mg) 2 F__law_next) :=
  fn_ok (K := K) (mg := mg) (CA := CAo mg) (N := N__law_next) (ms := [.io, .bo]) (m := m__law_next) T.x__law_next.F sc__law_next rfl fun cdv A outer s H E H0 os0 B fx hfx hr => (
    have O : COk (cxOf (L2.CX P w) P w K mg base _ _ (defScope s__law_next) a.f__law_next cdv A outer s H E) ⟨K, CAo mg, H0, os0, B, fun cls d _ H' => E cls d H', fx, 4⟩ := ⟨rfl, takes_of rfl rfl rfl rfl⟩
    have hu := hr.units
    ((vb_cons (vs_if (VQ.tc (vq_le (vq_ix O (vq_v 0) vq_int) vq_int)) (vb_cons (vs_set (i := 2) sc__law_next.nd (VQ.e vq_int) (hfx 2 rfl)) (vb_cons (vs_if (VQ.tc (vq_lt (vq_ix O (vq_v 0) vq_int) (vq_len O (vq_ix O (vq_v 0) vq_int) (by rfl) T.b_len))) (vb_cons (vs_set (i := 2) sc__law_next.nd (VQ.e (vq_ix O (vq_ix O (vq_v 0) vq_int) (vq_ix O (vq_v 0) vq_int))) (hfx 2 rfl)) (vb_cons (vs_asg (VQ.e (vq_add (vq_ix O (vq_v 0) vq_int) vq_int)) (vg_ix (vq_v 0) vq_int)) vb_nil)) vb_nil) (vb_cons (vs_asg (VQ.e (vq_mod (vq_add (vq_add (vq_mul (vq_ix O (vq_v 0) vq_int) vq_int) (vq_mod (vq_v 2) vq_int)) vq_int) vq_int)) (vg_ix (vq_v 0) vq_int)) (vb_cons (vs_if (VQ.tc (vq_ge (vq_v 2) (vq_pow vq_int vq_int))) (vb_cons (vs_asg (VQ.e (vq_v 2)) (vg_ix (vq_v 0) vq_int)) vb_nil) vb_nil) vb_nil)))) vb_nil) (vb_cons (vs_if (VQ.tc (vq_gt (vq_ix O (vq_v 0) vq_int) vq_int)) (vb_cons (vs_set (i := 3) sc__law_next.nd (VQ.e (vq_mod (vq_ix O (vq_v 0) vq_int) (vq_v 1))) (hfx 3 rfl)) (vb_cons (vs_asg (VQ.e (vq_div (vq_ix O (vq_v 0) vq_int) (vq_v 1))) (vg_ix (vq_v 0) vq_int)) (vb_cons (vs_ret (ve_move 3)) vb_nil))) vb_nil) (vb_cons (vs_ret (VQ.e (vq_mod (vq_div (vq_mod (vq_mul (vq_ix O (vq_v 0) vq_int) vq_int) vq_int) vq_int) (vq_v 1)))) vb_nil)))))
/-! #### _law_line_by -/
abbrev s__law_line_by : Stmt := top 12
abbrev N__law_line_by : List Str := ["_law_src_here", "_law_many", "_law_line", "_law_k"]
theorem sc__law_line_by : FnScope N__law_line_by ["_law_src_here", "_law_many"] (defScope s__law_line_by) := ⟨rfl, rfl, rfl, by decide +kernel, rfl, by decide +kernel, by decide +kernel⟩
def lg__law_line_by_1 : MG := (gNm 3)
def lb__law_line_by_1 : MS := (mSeq (mIf (mAndT (mTQ (qOp gGt (qV 1) (qC (.int 0)))) (mTE (mEq false (mCall [.io, .bo] F__law_next (aPth (qV 0) (aVal (mQ (qC (.int 4))) aNil))) (mQ (qC (.int 0)))))) (mSeq (mExpr (mAppend (qV 2) (mOp gSub (mQ (qNeg (qC (.int 1)))) (mCall [.io, .bo] F__law_next (aPth (qV 0) (aPth (qV 1) aNil)))))) mSkip) (mSeq (mIf (mAndT (mTQ (qOp gGt (qLen (qV 2)) (qC (.int 0)))) (mAndT (mTQ (qOp gGe (qIx (qV 2) (qNeg (qC (.int 1)))) (qC (.int 0)))) (mTE (mEq false (mCall [.io, .bo] F__law_next (aPth (qV 0) (aVal (mQ (qC (.int 2))) aNil))) (mQ (qC (.int 0))))))) (mSeq (mExpr (mAppend (qV 2) (mQ (qOp gAdd (qIx (qV 2) (qNeg (qC (.int 1)))) (qC (.int 1)))))) mSkip) (mSeq (mExpr (mAppend (qV 2) (mCall [.io, .bo] F__law_next (aPth (qV 0) (aVal (mIxE (mLst (mCons (mQ (qC (.int 12))) (mCons (mQ (qOp gPow (qC (.int 10)) (qC (.int 30)))) mNil))) (mCall [.io, .bo] F__law_next (aPth (qV 0) (aVal (mQ (qC (.int 2))) aNil)))) aNil))))) mSkip)) mSkip)) mSkip)
def m__law_line_by : MS := (mSeq (mAsg (mLst mNil) (gNm 2)) (mSeq (mForR1 (mCall [.io, .bo] F__law_next (aPth (qV 0) (aVal (mQ (qC (.int 5))) aNil))) lg__law_line_by_1 lb__law_line_by_1) (mSeq (mRet (mMove 2)) mSkip)))
def F__law_line_by : Fn := runF [.io, .bo] 4 m__law_line_by
theorem ok__law_line_by (T : TX K mg a) : FnOk P w K mg base (L2.CX P w) 2 a.f__law_line_by a.d__law_line_by ["_law_src_here", "_law_many"] (spF K (CAo mg) 2 F__law_line_by) :=
  fn_ok (K := K) (mg := mg) (CA := CAo mg) (N := N__law_line_by) (ms := [.io, .bo]) (m := m__law_line_by) T.x__law_line_by.F sc__law_line_by rfl fun cdv A outer s H E H0 os0 B fx hfx hr => (
    have O : COk (cxOf (L2.CX P w) P w K mg base _ _ (defScope s__law_line_by) a.f__law_line_by cdv A outer s H E) ⟨K, CAo mg, H0, os0, B, fun cls d _ H' => E cls d H', fx, 4⟩ := ⟨rfl, takes_of rfl rfl rfl rfl⟩
    have hu := hr.units
    ((vb_cons (vs_set (i := 2) sc__law_line_by.nd (ve_lst vl_nil) (hfx 2 rfl)) (vb_cons (vs_forR1 (passes_of rfl) rfl (ve_call O (ok__law_next (P := P) (w := w) (base := base) T) rfl (hr.mono (by decide)) (by rfl) T.x__law_next.mg T.x__law_next.kp T.x__law_next.b (va_var 0 (va_val (VQ.e vq_int) va_nil))) (vg_name (i := 3) sc__law_line_by.nd (hfx 3 rfl)) (vb_cons (vs_if (VW.t (VT.and (VQ.tc (vq_gt (vq_v 1) vq_int)) (VT.and1 (VE.tc (ve_eq O hu (ve_call O (ok__law_next (P := P) (w := w) (base := base) T) rfl (hr.mono (by decide)) (by rfl) T.x__law_next.mg T.x__law_next.kp T.x__law_next.b (va_var 0 (va_val (VQ.e vq_int) va_nil))) (VQ.e vq_int)))))) (vb_cons (vs_expr (ve_append O (vq_v 2) (ve_sub (VQ.e (vq_neg vq_int)) (ve_call O (ok__law_next (P := P) (w := w) (base := base) T) rfl (hr.mono (by decide)) (by rfl) T.x__law_next.mg T.x__law_next.kp T.x__law_next.b (va_var 0 (va_var 1 va_nil)))) (.inr qV_pth))) vb_nil) (vb_cons (vs_if (VW.t (VT.and (VQ.tc (vq_gt (vq_len O (vq_v 2) (by rfl) T.b_len) vq_int)) (VT.and (VQ.tc (vq_ge (vq_ix O (vq_v 2) (vq_neg vq_int)) vq_int)) (VT.and1 (VE.tc (ve_eq O hu (ve_call O (ok__law_next (P := P) (w := w) (base := base) T) rfl (hr.mono (by decide)) (by rfl) T.x__law_next.mg T.x__law_next.kp T.x__law_next.b (va_var 0 (va_val (VQ.e vq_int) va_nil))) (VQ.e vq_int))))))) (vb_cons (vs_expr (ve_append O (vq_v 2) (VQ.e (vq_add (vq_ix O (vq_v 2) (vq_neg vq_int)) vq_int)) (.inl rfl))) vb_nil) (vb_cons (vs_expr (ve_append O (vq_v 2) (ve_call O (ok__law_next (P := P) (w := w) (base := base) T) rfl (hr.mono (by decide)) (by rfl) T.x__law_next.mg T.x__law_next.kp T.x__law_next.b (va_var 0 (va_val (ve_ixE O (ve_lst (vl_cons (VQ.e vq_int) (vl_cons (VQ.e (vq_pow vq_int vq_int)) vl_nil))) (ve_call O (ok__law_next (P := P) (w := w) (base := base) T) rfl (hr.mono (by decide)) (by rfl) T.x__law_next.mg T.x__law_next.kp T.x__law_next.b (va_var 0 (va_val (VQ.e vq_int) va_nil)))) va_nil))) (.inr qV_pth))) vb_nil)) vb_nil)) vb_nil) (by rfl) T.b_range) (vb_cons (vs_ret (ve_move 2)) vb_nil)))))
/-! #### _law_items_of -/
abbrev s__law_items_of : Stmt := top 11
abbrev N__law_items_of : List Str := ["_law_entries", "_law_items", "_law_entry"]
theorem sc__law_items_of : FnScope N__law_items_of ["_law_entries"] (defScope s__law_items_of) := ⟨rfl, rfl, rfl, by decide +kernel, rfl, by decide +kernel, by decide +kernel⟩
def lg__law_items_of_1 : MG := (gNm 2)
def lb__law_items_of_1 : MS := (mSeq (mIf (mTQ (qOp gLt (qV 2) (qC (.int 0)))) (mSeq (mExpr (mAppend (qV 1) (mTup (mCons (mQ (qC (.str "win"))) (mCons (mQ (qOp gSub (qNeg (qC (.int 1))) (qV 2))) mNil))))) mSkip) (mSeq (mIf (mAndT (mTQ (qOp gGt (qLen (qV 1)) (qC (.int 0)))) (mAndT (mTQ (qEq false (qIx (qIx (qV 1) (qNeg (qC (.int 1)))) (qC (.int 0))) (qC (.str "ink")))) (mTQ (qEq false (qIx (qIx (qV 1) (qNeg (qC (.int 1)))) (qC (.int 2))) (qV 2))))) (mSeq (mAsg (mTup (mCons (mQ (qC (.str "ink"))) (mCons (mQ (qIx (qIx (qV 1) (qNeg (qC (.int 1)))) (qC (.int 1)))) (mCons (mQ (qOp gAdd (qV 2) (qC (.int 1)))) mNil)))) (gIx (qV 1) (qNeg (qC (.int 1))))) mSkip) (mSeq (mExpr (mAppend (qV 1) (mTup (mCons (mQ (qC (.str "ink"))) (mCons (mQ (qV 2)) (mCons (mQ (qOp gAdd (qV 2) (qC (.int 1)))) mNil)))))) mSkip)) mSkip)) mSkip)
def m__law_items_of : MS := (mSeq (mAsg (mLst mNil) (gNm 1)) (mSeq (mForL (mQ (qV 0)) lg__law_items_of_1 lb__law_items_of_1) (mSeq (mRet (mMove 1)) mSkip)))
def F__law_items_of : Fn := runF [.bo] 3 m__law_items_of
theorem ok__law_items_of (T : TX K mg a) : FnOk P w K mg base (L2.CX P w) 1 a.f__law_items_of a.d__law_items_of ["_law_entries"] (spF K (CAo mg) 1 F__law_items_of) :=
  fn_ok (K := K) (mg := mg) (CA := CAo mg) (N := N__law_items_of) (ms := [.bo]) (m := m__law_items_of) T.x__law_items_of.F sc__law_items_of rfl fun cdv A outer s H E H0 os0 B fx hfx hr => (
    have O : COk (cxOf (L2.CX P w) P w K mg base _ _ (defScope s__law_items_of) a.f__law_items_of cdv A outer s H E) ⟨K, CAo mg, H0, os0, B, fun cls d _ H' => E cls d H', fx, 3⟩ := ⟨rfl, takes_of rfl rfl rfl rfl⟩
    have hu := hr.units
    ((vb_cons (vs_set (i := 1) sc__law_items_of.nd (ve_lst vl_nil) (hfx 1 rfl)) (vb_cons (vs_forL O (passes_of rfl) rfl (VQ.e (vq_v 0)) (vg_name (i := 2) sc__law_items_of.nd (hfx 2 rfl)) (vb_cons (vs_if (VQ.tc (vq_lt (vq_v 2) vq_int)) (vb_cons (vs_expr (ve_append O (vq_v 1) (ve_tup (vl_cons (VQ.e vq_str) (vl_cons (VQ.e (vq_sub (vq_neg vq_int) (vq_v 2))) vl_nil))) (.inl rfl))) vb_nil) (vb_cons (vs_if (VW.t (VT.and (VQ.tc (vq_gt (vq_len O (vq_v 1) (by rfl) T.b_len) vq_int)) (VT.and (VQ.tc (vq_eq O hu (vq_ix O (vq_ix O (vq_v 1) (vq_neg vq_int)) vq_int) vq_str)) (VT.and1 (VQ.tc (vq_eq O hu (vq_ix O (vq_ix O (vq_v 1) (vq_neg vq_int)) vq_int) (vq_v 2))))))) (vb_cons (vs_asg (ve_tup (vl_cons (VQ.e vq_str) (vl_cons (VQ.e (vq_ix O (vq_ix O (vq_v 1) (vq_neg vq_int)) vq_int)) (vl_cons (VQ.e (vq_add (vq_v 2) vq_int)) vl_nil)))) (vg_ix (vq_v 1) (vq_neg vq_int))) vb_nil) (vb_cons (vs_expr (ve_append O (vq_v 1) (ve_tup (vl_cons (VQ.e vq_str) (vl_cons (VQ.e (vq_v 2)) (vl_cons (VQ.e (vq_add (vq_v 2) vq_int)) vl_nil)))) (.inl rfl))) vb_nil)) vb_nil)) vb_nil)) (vb_cons (vs_ret (ve_move 1)) vb_nil)))))
/-! #### Shelf.step -/
abbrev s_Shelf_step : Stmt := inClass (top 5) 1
abbrev N_Shelf_step : List Str := ["self", "changes", "sheet", "items"]
theorem sc_Shelf_step : FnScope N_Shelf_step ["self", "changes"] (defScope s_Shelf_step) := ⟨rfl, rfl, rfl, by decide +kernel, rfl, by decide +kernel, by decide +kernel⟩
def lg_Shelf_step_1 : MG := (gTu 2 (gC1 (gNm 2) (gC1 (gNm 3) gN0)))
def lb_Shelf_step_1 : MS := (mSeq (mIf (mTQ (qEq false (qV 2) (qLen (qFs "Shelf" ["past", "moment"] 0 (qV 0))))) (mSeq (mExpr (mAppend (qFs "Shelf" ["past", "moment"] 0 (qV 0)) (mLst mNil))) mSkip) mSkip) (mSeq (mExpr (mAppend (qIx (qFs "Shelf" ["past", "moment"] 0 (qV 0)) (qV 2)) (mTup (mCons (mQ (qFs "Shelf" ["past", "moment"] 1 (qV 0))) (mCons (mListQ (qV 3)) mNil))))) mSkip))
def m_Shelf_step : MS := (mSeq (mFldS (qV 0) "Shelf" ["past", "moment"] 1 (mQ (qOp gAdd (qFs "Shelf" ["past", "moment"] 1 (qV 0)) (qC (.int 1))))) (mSeq (mForL (mQ (qV 1)) lg_Shelf_step_1 lb_Shelf_step_1) mSkip))
def F_Shelf_step : Fn := runF [.io, .bo] 4 m_Shelf_step
theorem ok_Shelf_step (T : TX K mg a) : FnOk P w K mg base (L2.CX P w) 1 a.f_Shelf_step a.d_Shelf_step ["self", "changes"] (spF K (CAo mg) 2 F_Shelf_step) :=
  fn_ok (K := K) (mg := mg) (CA := CAo mg) (N := N_Shelf_step) (ms := [.io, .bo]) (m := m_Shelf_step) T.x_Shelf_step.F sc_Shelf_step rfl fun cdv A outer s H E H0 os0 B fx hfx hr => (
    have O : COk (cxOf (L2.CX P w) P w K mg base _ _ (defScope s_Shelf_step) a.f_Shelf_step cdv A outer s H E) ⟨K, CAo mg, H0, os0, B, fun cls d _ H' => E cls d H', fx, 4⟩ := ⟨rfl, takes_of rfl rfl rfl rfl⟩
    have hu := hr.units
    ((vb_cons (vs_fldS (c := "Shelf") (ns := ["past", "moment"]) (j := 1) O (vq_v 0) (clsOk_of T.ca_Shelf T.cl_Shelf T.na_Shelf_moment) (VQ.e (vq_add (vq_fs (c := "Shelf") (ns := ["past", "moment"]) (j := 1) O (vq_v 0) (clsOk_of T.ca_Shelf T.cl_Shelf T.na_Shelf_moment)) vq_int))) (vb_cons (vs_forL O (passes_of rfl) rfl (VQ.e (vq_v 1)) (vg_tup O rfl (vgs_cons (vg_name (i := 2) sc_Shelf_step.nd (hfx 2 rfl)) (vgs_cons (vg_name (i := 3) sc_Shelf_step.nd (hfx 3 rfl)) vgs_nil))) (vb_cons (vs_if (VQ.tc (vq_eq O hu (vq_v 2) (vq_len O (vq_fs (c := "Shelf") (ns := ["past", "moment"]) (j := 0) O (vq_v 0) (clsOk_of T.ca_Shelf T.cl_Shelf T.na_Shelf_past)) (by rfl) T.b_len))) (vb_cons (vs_expr (ve_append O (vq_fs (c := "Shelf") (ns := ["past", "moment"]) (j := 0) O (vq_v 0) (clsOk_of T.ca_Shelf T.cl_Shelf T.na_Shelf_past)) (ve_lst vl_nil) (.inl rfl))) vb_nil) vb_nil) (vb_cons (vs_expr (ve_append O (vq_ix O (vq_fs (c := "Shelf") (ns := ["past", "moment"]) (j := 0) O (vq_v 0) (clsOk_of T.ca_Shelf T.cl_Shelf T.na_Shelf_past)) (vq_v 2)) (ve_tup (vl_cons (VQ.e (vq_fs (c := "Shelf") (ns := ["past", "moment"]) (j := 1) O (vq_v 0) (clsOk_of T.ca_Shelf T.cl_Shelf T.na_Shelf_moment))) (vl_cons (ve_listQ O (vq_v 3) (by rfl) T.b_list) vl_nil))) (.inl rfl))) vb_nil))) vb_nil))))
/-! #### _law_step -/
abbrev s__law_step : Stmt := top 13
abbrev N__law_step : List Str := ["_law_src_here", "_law_shelf", "_law_past", "_law_rows", "_law_changes", "_law_sheet", "_law_k", "_law_handed", "_law_told", "_law_items", "_law_row"]
theorem sc__law_step : FnScope N__law_step ["_law_src_here", "_law_shelf", "_law_past"] (defScope s__law_step) := ⟨rfl, rfl, rfl, by decide +kernel, rfl, by decide +kernel, by decide +kernel⟩
def lg__law_step_1 : MG := (gNm 10)
def lt__law_step_1 : List D → R Bool := mYes
def le__law_step_1 : List D → R D := (mListQ (qV 10))
def lg__law_step_4 : MG := (gTu 2 (gC1 (gNm 5) (gC1 (gNm 9) gN0)))
def lt__law_step_4 : List D → R Bool := mYes
def le__law_step_4 : List D → R D := (mTup (mCons (mQ (qV 5)) (mCons (mListQ (qV 9)) mNil)))
def lb__law_step_5 : Nat → Pth → MS := (fun r p => (mSeq (mBlk [.hd, .hd, .hd, .hd, .hd, .io, .hd, .hd, .hd, .al, .hd] r p (mExpr (mAppend (qV 9) (mTup (mCons (mQ (qC (.str "ink"))) (mCons (mQ (qC (.int 7))) (mCons (mQ (qC (.int 9))) mNil))))))) mSkip))
def lg__law_step_2 : MG := (gNm 5)
def lb__law_step_2 : MS := (mSeq (mIf (mTE (mEq false (mCall [.io, .bo] F__law_next (aPth (qV 0) (aVal (mQ (qC (.int 3))) aNil))) (mQ (qC (.int 0))))) (mSeq (mAsg (mCall [.io, .bo] F__law_line_by (aPth (qV 0) (aVal (mQ (qLen (qV 3))) aNil))) (gIx (qV 3) (qV 5))) (mSeq (mExpr (mAppend (qV 4) (mTup (mCons (mQ (qV 5)) (mCons (mCall [.bo] F__law_items_of (aPth (qIx (qV 3) (qV 5)) aNil)) mNil))))) mSkip)) mSkip) mSkip)
def lg__law_step_3 : MG := (gNm 6)
def lb__law_step_3 : MS := (mSeq (mExpr (mAppend (qV 3) (mCall [.io, .bo] F__law_line_by (aPth (qV 0) (aVal (mQ (qLen (qV 3))) aNil))))) (mSeq (mExpr (mAppend (qV 4) (mTup (mCons (mQ (qOp gSub (qLen (qV 3)) (qC (.int 1)))) (mCons (mCall [.bo] F__law_items_of (aPth (qIx (qV 3) (qNeg (qC (.int 1)))) aNil)) mNil))))) mSkip))
def m__law_step : MS := (mSeq (mAsg (mLcL (mQ (qIx (qV 2) (qNeg (qC (.int 1))))) [10] lg__law_step_1 lt__law_step_1 le__law_step_1) (gNm 3)) (mSeq (mAsg (mLst mNil) (gNm 4)) (mSeq (mForRC1 (mQ (qLen (qV 3))) lg__law_step_2 lb__law_step_2) (mSeq (mForR1 (mCall [.io, .bo] F__law_next (aPth (qV 0) (aVal (mQ (qC (.int 3))) aNil))) lg__law_step_3 lb__law_step_3) (mSeq (mIf (mAndT (mTE (mEq false (mCall [.io, .bo] F__law_next (aPth (qV 0) (aVal (mQ (qC (.int 2))) aNil))) (mQ (qC (.int 0))))) (mAndT (mTQ (qOp gGt (qLen (qV 4)) (qC (.int 1)))) (mTQ (qOp gLt (qIx (qIx (qV 4) (qC (.int 0))) (qC (.int 0))) (qLen (qIx (qV 2) (qNeg (qC (.int 1))))))))) (mSeq (mAsg (mAdd (mSlQ (qV 4) (oQ (qC (.int 1))) oNo) (mSlQ (qV 4) oNo (oQ (qC (.int 1))))) (gNm 4)) mSkip) mSkip) (mSeq (mAsg (mLcL (mQ (qV 4)) [5, 9] lg__law_step_4 lt__law_step_4 le__law_step_4) (gNm 7)) (mSeq (mAsg (mMethS "Shelf" ["past", "moment"] [.io, .bo] F_Shelf_step (qV 1) (aPth (qV 7) aNil)) (gNm 8)) (mSeq (mIf (mTQ (qEq true (qV 7) (qV 4))) (mSeq (mRet (mQ (qC (.bl false)))) mSkip) mSkip) (mSeq (mForA true [.hd, .hd, .hd, .hd, .hd, .io, .hd, .hd, .hd, .al, .hd] (qV 7) [1] (gaPr 5 9) lb__law_step_5) (mSeq (mExpr (mAppend (qV 7) (mTup (mCons (mQ (qC (.int 0))) (mCons (mLst mNil) mNil))))) (mSeq (mExpr (mAppend (qV 2) (mQ (qV 3)))) (mSeq (mRet (mQ (qIsN false (qV 8)))) mSkip))))))))))))
def F__law_step : Fn := runF [.io, .io, .io] 11 m__law_step
theorem ok__law_step (T : TX K mg a) : FnOk P w K mg base (L2.CX P w) 3 a.f__law_step a.d__law_step ["_law_src_here", "_law_shelf", "_law_past"] (spF K (CAo mg) 3 F__law_step) :=
  fn_ok (K := K) (mg := mg) (CA := CAo mg) (N := N__law_step) (ms := [.io, .io, .io]) (m := m__law_step) T.x__law_step.F sc__law_step rfl fun cdv A outer s H E H0 os0 B fx hfx hr => (
    have O : COk (cxOf (L2.CX P w) P w K mg base _ _ (defScope s__law_step) a.f__law_step cdv A outer s H E) ⟨K, CAo mg, H0, os0, B, fun cls d _ H' => E cls d H', fx, 11⟩ := ⟨rfl, takes_of rfl rfl rfl rfl⟩
    have hu := hr.units
    ((vb_cons (vs_setLcL (i := 3) (own := [("_law_row", 10)]) (g := lg__law_step_1) (mt := lt__law_step_1) (se := true) (me := le__law_step_1) O rfl sc__law_step.nd (fxs_cons (hfx 10 rfl) fxs_nil) (VQ.e (vq_ix O (vq_v 2) (vq_neg vq_int))) ⟨blkC_by (Nn := N__law_step) (scn := defScope s__law_step) rfl rfl (by decide +kernel), fun _ _ _ _ _ O => (vgo_name (i := 10) sc__law_step.nd (by decide) (hfx 10 rfl)), fun _ _ _ _ _ O => vts_nil, fun _ _ _ _ _ O => (ve_listQ O (vq_v 10) (by rfl) T.b_list)⟩ (hfx 3 rfl)) (vb_cons (vs_set (i := 4) sc__law_step.nd (ve_lst vl_nil) (hfx 4 rfl)) (vb_cons (vs_forRC1 (passes_of rfl) rfl (VQ.e (vq_len O (vq_v 3) (by rfl) T.b_len)) (vg_name (i := 5) sc__law_step.nd (hfx 5 rfl)) (vb_cons (vs_if (VE.tc (ve_eq O hu (ve_call O (ok__law_next (P := P) (w := w) (base := base) T) rfl (hr.mono (by decide)) (by rfl) T.x__law_next.mg T.x__law_next.kp T.x__law_next.b (va_var 0 (va_val (VQ.e vq_int) va_nil))) (VQ.e vq_int))) (vb_cons (vs_asg (ve_call O (ok__law_line_by (P := P) (w := w) (base := base) T) rfl (hr.mono (by decide)) (by rfl) T.x__law_line_by.mg T.x__law_line_by.kp T.x__law_line_by.b (va_var 0 (va_val (VQ.e (vq_len O (vq_v 3) (by rfl) T.b_len)) va_nil))) (vg_ix (vq_v 3) (vq_v 5))) (vb_cons (vs_expr (ve_append O (vq_v 4) (ve_tup (vl_cons (VQ.e (vq_v 5)) (vl_cons (ve_call O (ok__law_items_of (P := P) (w := w) (base := base) T) rfl (hr.mono (by decide)) (by rfl) T.x__law_items_of.mg T.x__law_items_of.kp T.x__law_items_of.b (va_plc (vq_ix O (vq_v 3) (vq_v 5)) va_nil (.inl rfl))) vl_nil))) (.inl rfl))) vb_nil)) vb_nil) vb_nil) (by rfl) T.b_range) (vb_cons (vs_forR1 (passes_of rfl) rfl (ve_call O (ok__law_next (P := P) (w := w) (base := base) T) rfl (hr.mono (by decide)) (by rfl) T.x__law_next.mg T.x__law_next.kp T.x__law_next.b (va_var 0 (va_val (VQ.e vq_int) va_nil))) (vg_name (i := 6) sc__law_step.nd (hfx 6 rfl)) (vb_cons (vs_expr (ve_append O (vq_v 3) (ve_call O (ok__law_line_by (P := P) (w := w) (base := base) T) rfl (hr.mono (by decide)) (by rfl) T.x__law_line_by.mg T.x__law_line_by.kp T.x__law_line_by.b (va_var 0 (va_val (VQ.e (vq_len O (vq_v 3) (by rfl) T.b_len)) va_nil))) (.inr qV_pth))) (vb_cons (vs_expr (ve_append O (vq_v 4) (ve_tup (vl_cons (VQ.e (vq_sub (vq_len O (vq_v 3) (by rfl) T.b_len) vq_int)) (vl_cons (ve_call O (ok__law_items_of (P := P) (w := w) (base := base) T) rfl (hr.mono (by decide)) (by rfl) T.x__law_items_of.mg T.x__law_items_of.kp T.x__law_items_of.b (va_plc (vq_ix O (vq_v 3) (vq_neg vq_int)) va_nil (.inl rfl))) vl_nil))) (.inl rfl))) vb_nil)) (by rfl) T.b_range) (vb_cons (vs_if (VW.t (VT.and (VE.tc (ve_eq O hu (ve_call O (ok__law_next (P := P) (w := w) (base := base) T) rfl (hr.mono (by decide)) (by rfl) T.x__law_next.mg T.x__law_next.kp T.x__law_next.b (va_var 0 (va_val (VQ.e vq_int) va_nil))) (VQ.e vq_int))) (VT.and (VQ.tc (vq_gt (vq_len O (vq_v 4) (by rfl) T.b_len) vq_int)) (VT.and1 (VQ.tc (vq_lt (vq_ix O (vq_ix O (vq_v 4) vq_int) vq_int) (vq_len O (vq_ix O (vq_v 2) (vq_neg vq_int)) (by rfl) T.b_len))))))) (vb_cons (vs_set (i := 4) sc__law_step.nd (ve_add O (ve_slQ O (vq_v 4) (vo_q vq_int) vo_no) (ve_slQ O (vq_v 4) vo_no (vo_q vq_int))) (hfx 4 rfl)) vb_nil) vb_nil) (vb_cons (vs_setLcL (i := 7) (own := [("_law_sheet", 5), ("_law_items", 9)]) (g := lg__law_step_4) (mt := lt__law_step_4) (se := true) (me := le__law_step_4) O rfl sc__law_step.nd (fxs_cons (hfx 5 rfl) (fxs_cons (hfx 9 rfl) fxs_nil)) (VQ.e (vq_v 4)) ⟨blkC_by (Nn := N__law_step) (scn := defScope s__law_step) rfl rfl (by decide +kernel), fun _ _ _ _ _ O => (vgo_tup O rfl (vgso_cons (vgo_name (i := 5) sc__law_step.nd (by decide) (hfx 5 rfl)) (vgso_cons (vgo_name (i := 9) sc__law_step.nd (by decide) (hfx 9 rfl)) vgso_nil))), fun _ _ _ _ _ O => vts_nil, fun _ _ _ _ _ O => (ve_tup (vl_cons (VQ.e (vq_v 5)) (vl_cons (ve_listQ O (vq_v 9) (by rfl) T.b_list) vl_nil)))⟩ (hfx 7 rfl)) (vb_cons (vs_set (i := 8) sc__law_step.nd (ve_methS (c := "Shelf") (ns := ["past", "moment"]) O (vq_v 1) ⟨T.ca_Shelf, T.cl_Shelf⟩ T.me_Shelf_step (by decide +kernel) (ok_Shelf_step (P := P) (w := w) (base := base) T) rfl (hr.mono (by decide)) T.x_Shelf_step.b (va_var 7 va_nil) (.inl rfl)) (hfx 8 rfl)) (vb_cons (vs_if (VQ.tc (vq_ne O hu (vq_v 7) (vq_v 4))) (vb_cons (vs_ret (VQ.e vq_bl)) vb_nil) vb_nil) (vb_cons (vs_forAL (ms := [.hd, .hd, .hd, .hd, .hd, .io, .hd, .hd, .hd, .al, .hd]) (sub := [1]) (g := (gaPr 5 9)) O (passes_of rfl) rfl (vq_v 7) (fun fx hf => (vga_pair (s := 5) (t := 9) (ms := [.hd, .hd, .hd, .hd, .hd, .io, .hd, .hd, .hd, .al, .hd]) rfl sc__law_step.nd ((hf 5 rfl).trans (hfx 5 rfl)) ((hf 9 rfl).trans (hfx 9 rfl)) (by rfl) (by decide))) (fun fx hf => have hfxA : ∀ i, (bIs [.hd, .hd, .hd, .hd, .hd, .io, .hd, .hd, .hd, .al, .hd] i && noFx [.io, .io, .io] i) = true → fx i = none := (fun i h => (hf i (bNhd_of (Bool.and_eq_true_iff.mp h).1)).trans (hfx i (Bool.and_eq_true_iff.mp h).2)); (vba_cons (ms := [.hd, .hd, .hd, .hd, .hd, .io, .hd, .hd, .hd, .al, .hd]) rfl rfl (fun H0 os0 B fx hf => have O := O.reb H0 os0 B fx; have hfx : ∀ i, (bIs [.hd, .hd, .hd, .hd, .hd, .io, .hd, .hd, .hd, .al, .hd] i && noFx [.io, .io, .io] i) = true → fx i = none := (fun i h => (hf i (bIs_of (Bool.and_eq_true_iff.mp h).1)).trans (hfxA i h)); (vs_expr (ve_append O (vq_v 9) (ve_tup (vl_cons (VQ.e vq_str) (vl_cons (VQ.e vq_int) (vl_cons (VQ.e vq_int) vl_nil)))) (.inl rfl)))) (vba_end vb_nil)))) (vb_cons (vs_expr (ve_append O (vq_v 7) (ve_tup (vl_cons (VQ.e vq_int) (vl_cons (ve_lst vl_nil) vl_nil))) (.inl rfl))) (vb_cons (vs_expr (ve_append O (vq_v 2) (VQ.e (vq_v 3)) (.inl rfl))) (vb_cons (vs_ret (VQ.e (vq_isN (vq_v 8)))) vb_nil))))))))))))))
/-! #### Shelf.look -/
abbrev s_Shelf_look : Stmt := inClass (top 5) 4
abbrev N_Shelf_look : List Str := ["self", "sheet"]
theorem sc_Shelf_look : FnScope N_Shelf_look ["self", "sheet"] (defScope s_Shelf_look) := ⟨rfl, rfl, rfl, by decide +kernel, rfl, by decide +kernel, by decide +kernel⟩
def m_Shelf_look : MS := (mSeq (mIf (mOrT (mTQ (qOp gLt (qV 1) (qC (.int 0)))) (mTQ (qOp gGe (qV 1) (qLen (qFs "Shelf" ["past", "moment"] 0 (qV 0)))))) (mSeq (mRaise "NoSheet") mSkip) mSkip) mSkip)
def F_Shelf_look : Fn := runF [.bo, .bo] 2 m_Shelf_look
theorem ok_Shelf_look (T : TX K mg a) : FnOk P w K mg base (L2.CX P w) 1 a.f_Shelf_look a.d_Shelf_look ["self", "sheet"] (spF K (CAo mg) 2 F_Shelf_look) :=
  fn_ok (K := K) (mg := mg) (CA := CAo mg) (N := N_Shelf_look) (ms := [.bo, .bo]) (m := m_Shelf_look) T.x_Shelf_look.F sc_Shelf_look rfl fun cdv A outer s H E H0 os0 B fx hfx hr => (
    have O : COk (cxOf (L2.CX P w) P w K mg base _ _ (defScope s_Shelf_look) a.f_Shelf_look cdv A outer s H E) ⟨K, CAo mg, H0, os0, B, fun cls d _ H' => E cls d H', fx, 2⟩ := ⟨rfl, takes_of rfl rfl rfl rfl⟩
    have hu := hr.units
    ((vb_cons (vs_if (VW.t (VT.or (VQ.tc (vq_lt (vq_v 1) vq_int)) (VT.or1 (VQ.tc (vq_ge (vq_v 1) (vq_len O (vq_fs (c := "Shelf") (ns := ["past", "moment"]) (j := 0) O (vq_v 0) (clsOk_of T.ca_Shelf T.cl_Shelf T.na_Shelf_past)) (by rfl) T.b_len)))))) (vb_cons (vs_raise O rfl ⟨T.e_NoSheet⟩ (by rfl)) vb_nil) vb_nil) vb_nil)))
/-! #### Shelf.row -/
abbrev s_Shelf_row : Stmt := inClass (top 5) 7
abbrev N_Shelf_row : List Str := ["self", "sheet"]
theorem sc_Shelf_row : FnScope N_Shelf_row ["self", "sheet"] (defScope s_Shelf_row) := ⟨rfl, rfl, rfl, by decide +kernel, rfl, by decide +kernel, by decide +kernel⟩
def m_Shelf_row : MS := (mSeq (mExpr (mMethS "Shelf" ["past", "moment"] [.bo, .bo] F_Shelf_look (qV 0) (aPth (qV 1) aNil))) (mSeq (mRet (mListQ (qIx (qIx (qIx (qFs "Shelf" ["past", "moment"] 0 (qV 0)) (qV 1)) (qNeg (qC (.int 1)))) (qC (.int 1))))) mSkip))
def F_Shelf_row : Fn := runF [.bo, .bo] 2 m_Shelf_row
theorem ok_Shelf_row (T : TX K mg a) : FnOk P w K mg base (L2.CX P w) 2 a.f_Shelf_row a.d_Shelf_row ["self", "sheet"] (spF K (CAo mg) 2 F_Shelf_row) :=
  fn_ok (K := K) (mg := mg) (CA := CAo mg) (N := N_Shelf_row) (ms := [.bo, .bo]) (m := m_Shelf_row) T.x_Shelf_row.F sc_Shelf_row rfl fun cdv A outer s H E H0 os0 B fx hfx hr => (
    have O : COk (cxOf (L2.CX P w) P w K mg base _ _ (defScope s_Shelf_row) a.f_Shelf_row cdv A outer s H E) ⟨K, CAo mg, H0, os0, B, fun cls d _ H' => E cls d H', fx, 2⟩ := ⟨rfl, takes_of rfl rfl rfl rfl⟩
    have hu := hr.units
    ((vb_cons (vs_expr (ve_methS (c := "Shelf") (ns := ["past", "moment"]) O (vq_v 0) ⟨T.ca_Shelf, T.cl_Shelf⟩ T.me_Shelf_look (by decide +kernel) (ok_Shelf_look (P := P) (w := w) (base := base) T) rfl (hr.mono (by decide)) T.x_Shelf_look.b (va_var 1 va_nil) (.inl rfl))) (vb_cons (vs_ret (ve_listQ O (vq_ix O (vq_ix O (vq_ix O (vq_fs (c := "Shelf") (ns := ["past", "moment"]) (j := 0) O (vq_v 0) (clsOk_of T.ca_Shelf T.cl_Shelf T.na_Shelf_past)) (vq_v 1)) (vq_neg vq_int)) vq_int) (by rfl) T.b_list)) vb_nil))))
/-! #### _law_row_or -/
abbrev s__law_row_or : Stmt := top 15
abbrev N__law_row_or : List Str := ["_law_shelf", "_law_sheet", "_law_told", "_law_name"]
theorem sc__law_row_or : FnScope N__law_row_or ["_law_shelf", "_law_sheet"] (defScope s__law_row_or) := ⟨rfl, rfl, rfl, by decide +kernel, rfl, by decide +kernel, by decide +kernel⟩
def m__law_row_or : MS := (mSeq (mAsg (mQ (qC .non)) (gNm 2)) (mSeq (mAsg (mQ (qC (.str ""))) (gNm 3)) (mSeq (mTry hiL (mSeq (mAsg (mMethS "Shelf" ["past", "moment"] [.bo, .bo] F_Shelf_row (qV 0) (aPth (qV 1) aNil)) (gNm 2)) mSkip) [("NoSheet", (mSeq (mAsg (mQ (qC (.str "sheet"))) (gNm 3)) mSkip))]) (mSeq (mRet (mTup (mCons (mMove 3) (mCons (mMove 2) mNil)))) mSkip))))
def F__law_row_or : Fn := runF [.bo, .bo] 4 m__law_row_or
theorem ok__law_row_or (T : TX K mg a) : FnOk P w K mg base (L2.CX P w) 3 a.f__law_row_or a.d__law_row_or ["_law_shelf", "_law_sheet"] (spF K (CAo mg) 2 F__law_row_or) :=
  fn_ok (K := K) (mg := mg) (CA := CAo mg) (N := N__law_row_or) (ms := [.bo, .bo]) (m := m__law_row_or) T.x__law_row_or.F sc__law_row_or rfl fun cdv A outer s H E H0 os0 B fx hfx hr => (
    have O : COk (cxOf (L2.CX P w) P w K mg base _ _ (defScope s__law_row_or) a.f__law_row_or cdv A outer s H E) ⟨K, CAo mg, H0, os0, B, fun cls d _ H' => E cls d H', fx, 4⟩ := ⟨rfl, takes_of rfl rfl rfl rfl⟩
    have hu := hr.units
    ((vb_cons (vs_set (i := 2) sc__law_row_or.nd (VQ.e vq_non) (hfx 2 rfl)) (vb_cons (vs_set (i := 3) sc__law_row_or.nd (VQ.e vq_str) (hfx 3 rfl)) (vb_cons (vs_try O T.hier rfl rfl (fun W pn xe O pa => (vb_cons (vs_set (i := 2) sc__law_row_or.nd (ve_methS (c := "Shelf") (ns := ["past", "moment"]) O (vq_v 0) ⟨T.ca_Shelf, T.cl_Shelf⟩ T.me_Shelf_row (by decide +kernel) (ok_Shelf_row (P := P) (w := w) (base := base) T) rfl (hr.mono (by decide)) T.x_Shelf_row.b (va_var 1 va_nil) (.inl rfl)) (hfx 2 rfl)) vb_nil)) (VHs.cons (by rfl) (by decide) T.c_NoSheet (fun _ _ _ => (vb_cons (vs_set (i := 3) sc__law_row_or.nd (VQ.e vq_str) (hfx 3 rfl)) vb_nil)) VHs.nil)) (vb_cons (vs_ret (ve_tup (vl_cons (ve_move 3) (vl_cons (ve_move 2) vl_nil)))) vb_nil))))))
/-! #### _law_whole -/
abbrev s__law_whole : Stmt := top 9
abbrev N__law_whole : List Str := ["_law_found"]
theorem sc__law_whole : FnScope N__law_whole ["_law_found"] (defScope s__law_whole) := ⟨rfl, rfl, rfl, by decide +kernel, rfl, by decide +kernel, by decide +kernel⟩
def m__law_whole : MS := (mSeq (mRet (mAndV (mQ (qIsi "int" (qV 0))) (mNotV (mQ (qIsi "bool" (qV 0)))))) mSkip)
def F__law_whole : Fn := runF [.bo] 1 m__law_whole
theorem ok__law_whole (T : TX K mg a) : FnOk P w K mg base (L2.CX P w) 1 a.f__law_whole a.d__law_whole ["_law_found"] (spF K (CAo mg) 1 F__law_whole) :=
  fn_ok (K := K) (mg := mg) (CA := CAo mg) (N := N__law_whole) (ms := [.bo]) (m := m__law_whole) T.x__law_whole.F sc__law_whole rfl fun cdv A outer s H E H0 os0 B fx hfx hr => (
    have O : COk (cxOf (L2.CX P w) P w K mg base _ _ (defScope s__law_whole) a.f__law_whole cdv A outer s H E) ⟨K, CAo mg, H0, os0, B, fun cls d _ H' => E cls d H', fx, 1⟩ := ⟨rfl, takes_of rfl rfl rfl rfl⟩
    have hu := hr.units
    ((vb_cons (vs_ret (ve_and (VQ.e (vq_isi O "int" (vq_v 0) rfl (by rfl) T.b_int (by rfl) T.b_isinstance)) (ve_one (ve_not (VQ.e (vq_isi O "bool" (vq_v 0) rfl (by rfl) T.b_bool (by rfl) T.b_isinstance)))))) vb_nil)))
/-! #### _law_same -/
abbrev s__law_same : Stmt := top 10
abbrev N__law_same : List Str := ["_law_found", "_law_due_here", "_law_one", "_law_other"]
theorem sc__law_same : FnScope N__law_same ["_law_found", "_law_due_here"] (defScope s__law_same) := ⟨rfl, rfl, rfl, by decide +kernel, rfl, by decide +kernel, by decide +kernel⟩
def lg__law_same_1 : MG := (gTu 2 (gC1 (gNm 2) (gC1 (gNm 3) gN0)))
def lb__law_same_1 (R__law_same : Fn) : MS := (mSeq (mIf (mNotT (mTE (mCall [.bo, .bo] R__law_same (aPth (qV 2) (aPth (qV 3) aNil))))) (mSeq (mRet (mQ (qC (.bl false)))) mSkip) mSkip) mSkip)
def m__law_same (R__law_same : Fn) : MS := (mSeq (mIf (mTQ (qIsN false (qV 1))) (mSeq (mRet (mQ (qIsN false (qV 0)))) mSkip) mSkip) (mSeq (mIf (mTQ (qIsi "bool" (qV 1))) (mSeq (mRet (mAndV (mQ (qIsi "bool" (qV 0))) (mQ (qEq false (qV 0) (qV 1))))) mSkip) mSkip) (mSeq (mIf (mTQ (qIsi "int" (qV 1))) (mSeq (mRet (mAndV (mCall [.bo] F__law_whole (aPth (qV 0) aNil)) (mQ (qEq false (qV 0) (qV 1))))) mSkip) mSkip) (mSeq (mIf (mTQ (qIsi "str" (qV 1))) (mSeq (mRet (mAndV (mQ (qIsi "str" (qV 0))) (mQ (qEq false (qV 0) (qV 1))))) mSkip) mSkip) (mSeq (mIf (mOrT (mTQ (qEq true (qIsi "list" (qV 1)) (qIsi "list" (qV 0)))) (mTQ (qEq true (qIsi "tuple" (qV 1)) (qIsi "tuple" (qV 0))))) (mSeq (mRet (mQ (qC (.bl false)))) mSkip) mSkip) (mSeq (mIf (mTQ (qEq true (qLen (qV 0)) (qLen (qV 1)))) (mSeq (mRet (mQ (qC (.bl false)))) mSkip) mSkip) (mSeq (mForZ (mQ (qV 0)) (mQ (qV 1)) lg__law_same_1 (lb__law_same_1 R__law_same)) (mSeq (mRet (mQ (qC (.bl true)))) mSkip))))))))
def F__law_same : Nat → Fn
  | 0 => fun _ => .stuck
  | n + 1 => runF [.bo, .bo] 4 (m__law_same (F__law_same n))
theorem okn__law_same (T : TX K mg a) : ∀ n : Nat, FnOk P w K mg base (L2.CX P w) (n + 1) a.f__law_same a.d__law_same ["_law_found", "_law_due_here"] (spF K (CAo mg) 2 (F__law_same n))
  | 0 => fn_stuck (ps := ["_law_found", "_law_due_here"])
  | n + 1 => fn_ok (K := K) (mg := mg) (CA := CAo mg) (N := N__law_same) (k := n + 1) (ms := [.bo, .bo]) (m := m__law_same (F__law_same n)) T.x__law_same.F sc__law_same rfl fun cdv A outer s H E H0 os0 B fx hfx hr => (
    have O : COk (cxOf (L2.CX P w) P w K mg base _ _ (defScope s__law_same) a.f__law_same cdv A outer s H E) ⟨K, CAo mg, H0, os0, B, fun cls d _ H' => E cls d H', fx, 4⟩ := ⟨rfl, takes_of rfl rfl rfl rfl⟩
    have hu := hr.units
    have G__law_same := okn__law_same T n
    ((vb_cons (vs_if (VQ.tc (vq_isN (vq_v 1))) (vb_cons (vs_ret (VQ.e (vq_isN (vq_v 0)))) vb_nil) vb_nil) (vb_cons (vs_if (VQ.t (vq_isi O "bool" (vq_v 1) rfl (by rfl) T.b_bool (by rfl) T.b_isinstance)) (vb_cons (vs_ret (ve_and (VQ.e (vq_isi O "bool" (vq_v 0) rfl (by rfl) T.b_bool (by rfl) T.b_isinstance)) (ve_one (VQ.e (vq_eq O hu (vq_v 0) (vq_v 1)))))) vb_nil) vb_nil) (vb_cons (vs_if (VQ.t (vq_isi O "int" (vq_v 1) rfl (by rfl) T.b_int (by rfl) T.b_isinstance)) (vb_cons (vs_ret (ve_and (ve_call O (ok__law_whole (P := P) (w := w) (base := base) T) rfl (hr.mono (by omega)) (by rfl) T.x__law_whole.mg T.x__law_whole.kp T.x__law_whole.b (va_var 0 va_nil)) (ve_one (VQ.e (vq_eq O hu (vq_v 0) (vq_v 1)))))) vb_nil) vb_nil) (vb_cons (vs_if (VQ.t (vq_isi O "str" (vq_v 1) rfl (by rfl) T.b_str (by rfl) T.b_isinstance)) (vb_cons (vs_ret (ve_and (VQ.e (vq_isi O "str" (vq_v 0) rfl (by rfl) T.b_str (by rfl) T.b_isinstance)) (ve_one (VQ.e (vq_eq O hu (vq_v 0) (vq_v 1)))))) vb_nil) vb_nil) (vb_cons (vs_if (VW.t (VT.or (VQ.tc (vq_ne O hu (vq_isi O "list" (vq_v 1) rfl (by rfl) T.b_list (by rfl) T.b_isinstance) (vq_isi O "list" (vq_v 0) rfl (by rfl) T.b_list (by rfl) T.b_isinstance))) (VT.or1 (VQ.tc (vq_ne O hu (vq_isi O "tuple" (vq_v 1) rfl (by rfl) T.b_tuple (by rfl) T.b_isinstance) (vq_isi O "tuple" (vq_v 0) rfl (by rfl) T.b_tuple (by rfl) T.b_isinstance)))))) (vb_cons (vs_ret (VQ.e vq_bl)) vb_nil) vb_nil) (vb_cons (vs_if (VQ.tc (vq_ne O hu (vq_len O (vq_v 0) (by rfl) T.b_len) (vq_len O (vq_v 1) (by rfl) T.b_len))) (vb_cons (vs_ret (VQ.e vq_bl)) vb_nil) vb_nil) (vb_cons (vs_forZ O (passes_of rfl) rfl (VQ.e (vq_v 0)) (VQ.e (vq_v 1)) (vg_tup O rfl (vgs_cons (vg_name (i := 2) sc__law_same.nd (hfx 2 rfl)) (vgs_cons (vg_name (i := 3) sc__law_same.nd (hfx 3 rfl)) vgs_nil))) (vb_cons (vs_if (VT.not (VE.t (ve_call O G__law_same rfl hr (by rfl) T.x__law_same.mg T.x__law_same.kp T.x__law_same.b (va_var 2 (va_var 3 va_nil))))) (vb_cons (vs_ret (VQ.e vq_bl)) vb_nil) vb_nil) vb_nil) (by rfl) T.b_zip) (vb_cons (vs_ret (VQ.e vq_bl)) vb_nil))))))))))
def F__law_same_top : Fn := F__law_same 6
theorem ok__law_same (T : TX K mg a) : FnOk P w K mg base (L2.CX P w) 7 a.f__law_same a.d__law_same ["_law_found", "_law_due_here"] (spF K (CAo mg) 2 F__law_same_top) := okn__law_same T 6
/-! #### Shelf.opened -/
abbrev s_Shelf_opened : Stmt := inClass (top 5) 6
abbrev N_Shelf_opened : List Str := ["self", "sheet"]
theorem sc_Shelf_opened : FnScope N_Shelf_opened ["self", "sheet"] (defScope s_Shelf_opened) := ⟨rfl, rfl, rfl, by decide +kernel, rfl, by decide +kernel, by decide +kernel⟩
def m_Shelf_opened : MS := (mSeq (mExpr (mMethS "Shelf" ["past", "moment"] [.bo, .bo] F_Shelf_look (qV 0) (aPth (qV 1) aNil))) (mSeq (mRet (mQ (qIx (qIx (qIx (qFs "Shelf" ["past", "moment"] 0 (qV 0)) (qV 1)) (qC (.int 0))) (qC (.int 0))))) mSkip))
def F_Shelf_opened : Fn := runF [.bo, .bo] 2 m_Shelf_opened
theorem ok_Shelf_opened (T : TX K mg a) : FnOk P w K mg base (L2.CX P w) 2 a.f_Shelf_opened a.d_Shelf_opened ["self", "sheet"] (spF K (CAo mg) 2 F_Shelf_opened) :=
  fn_ok (K := K) (mg := mg) (CA := CAo mg) (N := N_Shelf_opened) (ms := [.bo, .bo]) (m := m_Shelf_opened) T.x_Shelf_opened.F sc_Shelf_opened rfl fun cdv A outer s H E H0 os0 B fx hfx hr => (
    have O : COk (cxOf (L2.CX P w) P w K mg base _ _ (defScope s_Shelf_opened) a.f_Shelf_opened cdv A outer s H E) ⟨K, CAo mg, H0, os0, B, fun cls d _ H' => E cls d H', fx, 2⟩ := ⟨rfl, takes_of rfl rfl rfl rfl⟩
    have hu := hr.units
    ((vb_cons (vs_expr (ve_methS (c := "Shelf") (ns := ["past", "moment"]) O (vq_v 0) ⟨T.ca_Shelf, T.cl_Shelf⟩ T.me_Shelf_look (by decide +kernel) (ok_Shelf_look (P := P) (w := w) (base := base) T) rfl (hr.mono (by decide)) T.x_Shelf_look.b (va_var 1 va_nil) (.inl rfl))) (vb_cons (vs_ret (VQ.e (vq_ix O (vq_ix O (vq_ix O (vq_fs (c := "Shelf") (ns := ["past", "moment"]) (j := 0) O (vq_v 0) (clsOk_of T.ca_Shelf T.cl_Shelf T.na_Shelf_past)) (vq_v 1)) vq_int) vq_int))) vb_nil))))
/-! #### _law_opened_or -/
abbrev s__law_opened_or : Stmt := top 16
abbrev N__law_opened_or : List Str := ["_law_shelf", "_law_sheet", "_law_told", "_law_name"]
theorem sc__law_opened_or : FnScope N__law_opened_or ["_law_shelf", "_law_sheet"] (defScope s__law_opened_or) := ⟨rfl, rfl, rfl, by decide +kernel, rfl, by decide +kernel, by decide +kernel⟩
def m__law_opened_or : MS := (mSeq (mAsg (mQ (qC .non)) (gNm 2)) (mSeq (mAsg (mQ (qC (.str ""))) (gNm 3)) (mSeq (mTry hiL (mSeq (mAsg (mMethS "Shelf" ["past", "moment"] [.bo, .bo] F_Shelf_opened (qV 0) (aPth (qV 1) aNil)) (gNm 2)) mSkip) [("NoSheet", (mSeq (mAsg (mQ (qC (.str "sheet"))) (gNm 3)) mSkip))]) (mSeq (mRet (mTup (mCons (mMove 3) (mCons (mMove 2) mNil)))) mSkip))))
def F__law_opened_or : Fn := runF [.bo, .bo] 4 m__law_opened_or
theorem ok__law_opened_or (T : TX K mg a) : FnOk P w K mg base (L2.CX P w) 3 a.f__law_opened_or a.d__law_opened_or ["_law_shelf", "_law_sheet"] (spF K (CAo mg) 2 F__law_opened_or) :=
  fn_ok (K := K) (mg := mg) (CA := CAo mg) (N := N__law_opened_or) (ms := [.bo, .bo]) (m := m__law_opened_or) T.x__law_opened_or.F sc__law_opened_or rfl fun cdv A outer s H E H0 os0 B fx hfx hr => (
    have O : COk (cxOf (L2.CX P w) P w K mg base _ _ (defScope s__law_opened_or) a.f__law_opened_or cdv A outer s H E) ⟨K, CAo mg, H0, os0, B, fun cls d _ H' => E cls d H', fx, 4⟩ := ⟨rfl, takes_of rfl rfl rfl rfl⟩
    have hu := hr.units
    ((vb_cons (vs_set (i := 2) sc__law_opened_or.nd (VQ.e vq_non) (hfx 2 rfl)) (vb_cons (vs_set (i := 3) sc__law_opened_or.nd (VQ.e vq_str) (hfx 3 rfl)) (vb_cons (vs_try O T.hier rfl rfl (fun W pn xe O pa => (vb_cons (vs_set (i := 2) sc__law_opened_or.nd (ve_methS (c := "Shelf") (ns := ["past", "moment"]) O (vq_v 0) ⟨T.ca_Shelf, T.cl_Shelf⟩ T.me_Shelf_opened (by decide +kernel) (ok_Shelf_opened (P := P) (w := w) (base := base) T) rfl (hr.mono (by decide)) T.x_Shelf_opened.b (va_var 1 va_nil) (.inl rfl)) (hfx 2 rfl)) vb_nil)) (VHs.cons (by rfl) (by decide) T.c_NoSheet (fun _ _ _ => (vb_cons (vs_set (i := 3) sc__law_opened_or.nd (VQ.e vq_str) (hfx 3 rfl)) vb_nil)) VHs.nil)) (vb_cons (vs_ret (ve_tup (vl_cons (ve_move 3) (vl_cons (ve_move 2) vl_nil)))) vb_nil))))))
/-! #### Shelf.rows -/
abbrev s_Shelf_rows : Stmt := inClass (top 5) 9
abbrev N_Shelf_rows : List Str := ["self", "sheet"]
theorem sc_Shelf_rows : FnScope N_Shelf_rows ["self"] (defScope s_Shelf_rows) := ⟨rfl, rfl, rfl, by decide +kernel, rfl, by decide +kernel, by decide +kernel⟩
def lg_Shelf_rows_1 : MG := (gNm 1)
def lt_Shelf_rows_1 : List D → R Bool := mYes
def le_Shelf_rows_1 : List D → R D := (mMethS "Shelf" ["past", "moment"] [.bo, .bo] F_Shelf_row (qV 0) (aPth (qV 1) aNil))
def m_Shelf_rows : MS := (mSeq (mRet (mLcRC1 (mQ (qLen (qFs "Shelf" ["past", "moment"] 0 (qV 0)))) [1] lg_Shelf_rows_1 lt_Shelf_rows_1 le_Shelf_rows_1)) mSkip)
def F_Shelf_rows : Fn := runF [.bo] 2 m_Shelf_rows
theorem ok_Shelf_rows (T : TX K mg a) : FnOk P w K mg base (L2.CX P w) 3 a.f_Shelf_rows a.d_Shelf_rows ["self"] (spF K (CAo mg) 1 F_Shelf_rows) :=
  fn_ok (K := K) (mg := mg) (CA := CAo mg) (N := N_Shelf_rows) (ms := [.bo]) (m := m_Shelf_rows) T.x_Shelf_rows.F sc_Shelf_rows rfl fun cdv A outer s H E H0 os0 B fx hfx hr => (
    have O : COk (cxOf (L2.CX P w) P w K mg base _ _ (defScope s_Shelf_rows) a.f_Shelf_rows cdv A outer s H E) ⟨K, CAo mg, H0, os0, B, fun cls d _ H' => E cls d H', fx, 2⟩ := ⟨rfl, takes_of rfl rfl rfl rfl⟩
    have hu := hr.units
    ((vb_cons (vs_ret (ve_lcRC1 (own := [("sheet", 1)]) (g := lg_Shelf_rows_1) (mt := lt_Shelf_rows_1) (se := true) (me := le_Shelf_rows_1) O rfl sc_Shelf_rows.nd (fxs_cons (hfx 1 rfl) fxs_nil) (VQ.e (vq_len O (vq_fs (c := "Shelf") (ns := ["past", "moment"]) (j := 0) O (vq_v 0) (clsOk_of T.ca_Shelf T.cl_Shelf T.na_Shelf_past)) (by rfl) T.b_len)) ⟨blkC_by (Nn := N_Shelf_rows) (scn := defScope s_Shelf_rows) rfl rfl (by decide +kernel), fun _ _ _ _ _ O => (vgo_name (i := 1) sc_Shelf_rows.nd (by decide) (hfx 1 rfl)), fun _ _ _ _ _ O => vts_nil, fun _ _ _ _ _ O => (ve_methS (c := "Shelf") (ns := ["past", "moment"]) O (vq_v 0) ⟨T.ca_Shelf, T.cl_Shelf⟩ T.me_Shelf_row (by decide +kernel) (ok_Shelf_row (P := P) (w := w) (base := base) T) rfl (hr.mono (by decide)) T.x_Shelf_row.b (va_var 1 va_nil) (.inl rfl))⟩ (by rfl) T.b_range)) vb_nil)))
/-! #### Shelf.many -/
abbrev s_Shelf_many : Stmt := inClass (top 5) 2
abbrev N_Shelf_many : List Str := ["self"]
theorem sc_Shelf_many : FnScope N_Shelf_many ["self"] (defScope s_Shelf_many) := ⟨rfl, rfl, rfl, by decide +kernel, rfl, by decide +kernel, by decide +kernel⟩
def m_Shelf_many : MS := (mSeq (mRet (mQ (qLen (qFs "Shelf" ["past", "moment"] 0 (qV 0))))) mSkip)
def F_Shelf_many : Fn := runF [.bo] 1 m_Shelf_many
theorem ok_Shelf_many (T : TX K mg a) : FnOk P w K mg base (L2.CX P w) 1 a.f_Shelf_many a.d_Shelf_many ["self"] (spF K (CAo mg) 1 F_Shelf_many) :=
  fn_ok (K := K) (mg := mg) (CA := CAo mg) (N := N_Shelf_many) (ms := [.bo]) (m := m_Shelf_many) T.x_Shelf_many.F sc_Shelf_many rfl fun cdv A outer s H E H0 os0 B fx hfx hr => (
    have O : COk (cxOf (L2.CX P w) P w K mg base _ _ (defScope s_Shelf_many) a.f_Shelf_many cdv A outer s H E) ⟨K, CAo mg, H0, os0, B, fun cls d _ H' => E cls d H', fx, 1⟩ := ⟨rfl, takes_of rfl rfl rfl rfl⟩
    have hu := hr.units
    ((vb_cons (vs_ret (VQ.e (vq_len O (vq_fs (c := "Shelf") (ns := ["past", "moment"]) (j := 0) O (vq_v 0) (clsOk_of T.ca_Shelf T.cl_Shelf T.na_Shelf_past)) (by rfl) T.b_len))) vb_nil)))
/-! #### Shelf.now -/
abbrev s_Shelf_now : Stmt := inClass (top 5) 3
abbrev N_Shelf_now : List Str := ["self"]
theorem sc_Shelf_now : FnScope N_Shelf_now ["self"] (defScope s_Shelf_now) := ⟨rfl, rfl, rfl, by decide +kernel, rfl, by decide +kernel, by decide +kernel⟩
def m_Shelf_now : MS := (mSeq (mRet (mQ (qFs "Shelf" ["past", "moment"] 1 (qV 0)))) mSkip)
def F_Shelf_now : Fn := runF [.bo] 1 m_Shelf_now
theorem ok_Shelf_now (T : TX K mg a) : FnOk P w K mg base (L2.CX P w) 1 a.f_Shelf_now a.d_Shelf_now ["self"] (spF K (CAo mg) 1 F_Shelf_now) :=
  fn_ok (K := K) (mg := mg) (CA := CAo mg) (N := N_Shelf_now) (ms := [.bo]) (m := m_Shelf_now) T.x_Shelf_now.F sc_Shelf_now rfl fun cdv A outer s H E H0 os0 B fx hfx hr => (
    have O : COk (cxOf (L2.CX P w) P w K mg base _ _ (defScope s_Shelf_now) a.f_Shelf_now cdv A outer s H E) ⟨K, CAo mg, H0, os0, B, fun cls d _ H' => E cls d H', fx, 1⟩ := ⟨rfl, takes_of rfl rfl rfl rfl⟩
    have hu := hr.units
    ((vb_cons (vs_ret (VQ.e (vq_fs (c := "Shelf") (ns := ["past", "moment"]) (j := 1) O (vq_v 0) (clsOk_of T.ca_Shelf T.cl_Shelf T.na_Shelf_moment)))) vb_nil)))
/-! #### _law_now_right -/
abbrev s__law_now_right : Stmt := top 20
abbrev N__law_now_right : List Str := ["_law_shelf", "_law_past", "_law_sheet", "_law_there", "_law_due_here", "_law_came", "_law_told", "_law_rows", "_law_row", "_law_moment"]
theorem sc__law_now_right : FnScope N__law_now_right ["_law_shelf", "_law_past"] (defScope s__law_now_right) := ⟨rfl, rfl, rfl, by decide +kernel, rfl, by decide +kernel, by decide +kernel⟩
def lg__law_now_right_1 : MG := (gNm 9)
def lt__law_now_right_1 : List D → R Bool := (mAndT (mTQ (qOp gLe (qC (.int 0)) (qV 2))) (mTQ (qOp gLt (qV 2) (qLen (qIx (qV 1) (qV 9))))))
def le__law_now_right_1 : List D → R D := (mQ (qV 9))
def lg__law_now_right_3 : MG := (gNm 8)
def lt__law_now_right_3 : List D → R Bool := mYes
def le__law_now_right_3 : List D → R D := (mCall [.bo] F__law_items_of (aPth (qV 8) aNil))
def lb__law_now_right_4 : Nat → Pth → MS := (fun r p => (mSeq (mBlk [.hd, .hd, .hd, .hd, .hd, .hd, .hd, .hd, .al, .hd] r p (mExpr (mAppend (qV 8) (mTup (mCons (mQ (qC (.str "win"))) (mCons (mQ (qC (.int 0))) mNil)))))) mSkip))
def lg__law_now_right_2 : MG := (gNm 2)
def lb__law_now_right_2 : MS := (mSeq (mAsg (mLcRC1 (mQ (qLen (qV 1))) [9] lg__law_now_right_1 lt__law_now_right_1 le__law_now_right_1) (gNm 3)) (mSeq (mAsg (mTup (mCons (mQ (qC (.str "sheet"))) (mCons (mQ (qC .non)) mNil))) (gNm 4)) (mSeq (mAsg (mTup (mCons (mQ (qC (.str "sheet"))) (mCons (mQ (qC .non)) mNil))) (gNm 5)) (mSeq (mIf (mTQ (qOp gGt (qLen (qV 3)) (qC (.int 0)))) (mSeq (mAsg (mTup (mCons (mQ (qC (.str ""))) (mCons (mCall [.bo] F__law_items_of (aPth (qIx (qIx (qV 1) (qNeg (qC (.int 1)))) (qV 2)) aNil)) mNil))) (gNm 4)) (mSeq (mAsg (mTup (mCons (mQ (qC (.str ""))) (mCons (mQ (qIx (qV 3) (qC (.int 0)))) mNil))) (gNm 5)) mSkip)) mSkip) (mSeq (mAsg (mCall [.bo, .bo] F__law_row_or (aPth (qV 0) (aPth (qV 2) aNil))) (gNm 6)) (mSeq (mIf (mOrT (mNotT (mTE (mCall [.bo, .bo] F__law_same_top (aPth (qV 6) (aPth (qV 4) aNil))))) (mNotT (mTE (mCall [.bo, .bo] F__law_same_top (aVal (mCall [.bo, .bo] F__law_opened_or (aPth (qV 0) (aPth (qV 2) aNil))) (aPth (qV 5) aNil)))))) (mSeq (mRet (mQ (qC (.bl false)))) mSkip) mSkip) (mSeq (mIf (mTQ (qIsN true (qIx (qV 6) (qC (.int 1))))) (mSeq (mExpr (mAppend (qIx (qV 6) (qC (.int 1))) (mTup (mCons (mQ (qC (.str "win"))) (mCons (mQ (qC (.int 0))) mNil))))) mSkip) mSkip) mSkip)))))))
def m__law_now_right : MS := (mSeq (mForR (mQ (qNeg (qC (.int 1)))) (mQ (qOp gAdd (qLen (qIx (qV 1) (qNeg (qC (.int 1))))) (qC (.int 1)))) lg__law_now_right_2 lb__law_now_right_2) (mSeq (mAsg (mLcL (mQ (qIx (qV 1) (qNeg (qC (.int 1))))) [8] lg__law_now_right_3 lt__law_now_right_3 le__law_now_right_3) (gNm 7)) (mSeq (mAsg (mMethS "Shelf" ["past", "moment"] [.bo] F_Shelf_rows (qV 0) aNil) (gNm 6)) (mSeq (mIf (mOrT (mNotT (mTE (mCall [.bo, .bo] F__law_same_top (aPth (qV 6) (aPth (qV 7) aNil))))) (mNotT (mTE (mCall [.bo, .bo] F__law_same_top (aVal (mMethS "Shelf" ["past", "moment"] [.bo] F_Shelf_many (qV 0) aNil) (aVal (mQ (qLen (qV 7))) aNil)))))) (mSeq (mRet (mQ (qC (.bl false)))) mSkip) mSkip) (mSeq (mForA true [.hd, .hd, .hd, .hd, .hd, .hd, .hd, .hd, .al, .hd] (qV 6) [] (gaNm 8) lb__law_now_right_4) (mSeq (mExpr (mAppend (qV 6) (mLst mNil))) (mSeq (mIf (mNotT (mTE (mCall [.bo, .bo] F__law_same_top (aVal (mMethS "Shelf" ["past", "moment"] [.bo] F_Shelf_rows (qV 0) aNil) (aPth (qV 7) aNil))))) (mSeq (mRet (mQ (qC (.bl false)))) mSkip) mSkip) (mSeq (mRet (mCall [.bo, .bo] F__law_same_top (aVal (mMethS "Shelf" ["past", "moment"] [.bo] F_Shelf_now (qV 0) aNil) (aVal (mQ (qOp gSub (qLen (qV 1)) (qC (.int 1)))) aNil)))) mSkip))))))))
def F__law_now_right : Fn := runF [.bo, .bo] 10 m__law_now_right
theorem ok__law_now_right (T : TX K mg a) : FnOk P w K mg base (L2.CX P w) 8 a.f__law_now_right a.d__law_now_right ["_law_shelf", "_law_past"] (spF K (CAo mg) 2 F__law_now_right) :=
  fn_ok (K := K) (mg := mg) (CA := CAo mg) (N := N__law_now_right) (ms := [.bo, .bo]) (m := m__law_now_right) T.x__law_now_right.F sc__law_now_right rfl fun cdv A outer s H E H0 os0 B fx hfx hr => (
    have O : COk (cxOf (L2.CX P w) P w K mg base _ _ (defScope s__law_now_right) a.f__law_now_right cdv A outer s H E) ⟨K, CAo mg, H0, os0, B, fun cls d _ H' => E cls d H', fx, 10⟩ := ⟨rfl, takes_of rfl rfl rfl rfl⟩
    have hu := hr.units
    ((vb_cons (vs_forR2 (passes_of rfl) rfl (VQ.e (vq_neg vq_int)) (VQ.e (vq_add (vq_len O (vq_ix O (vq_v 1) (vq_neg vq_int)) (by rfl) T.b_len) vq_int)) (vg_name (i := 2) sc__law_now_right.nd (hfx 2 rfl)) (vb_cons (vs_setLcRC1 (i := 3) (own := [("_law_moment", 9)]) (g := lg__law_now_right_1) (mt := lt__law_now_right_1) (se := true) (me := le__law_now_right_1) O rfl sc__law_now_right.nd (fxs_cons (hfx 9 rfl) fxs_nil) (VQ.e (vq_len O (vq_v 1) (by rfl) T.b_len)) ⟨blkC_by (Nn := N__law_now_right) (scn := defScope s__law_now_right) rfl rfl (by decide +kernel), fun _ _ _ _ _ O => (vgo_name (i := 9) sc__law_now_right.nd (by decide) (hfx 9 rfl)), fun _ _ _ _ _ O => (vts_one (VW.t (VT.and (VQ.tc (vq_le vq_int (vq_v 2))) (VT.and1 (VQ.tc (vq_lt (vq_v 2) (vq_len O (vq_ix O (vq_v 1) (vq_v 9)) (by rfl) T.b_len))))))), fun _ _ _ _ _ O => (VQ.e (vq_v 9))⟩ (hfx 3 rfl) (by rfl) T.b_range) (vb_cons (vs_set (i := 4) sc__law_now_right.nd (ve_tup (vl_cons (VQ.e vq_str) (vl_cons (VQ.e vq_non) vl_nil))) (hfx 4 rfl)) (vb_cons (vs_set (i := 5) sc__law_now_right.nd (ve_tup (vl_cons (VQ.e vq_str) (vl_cons (VQ.e vq_non) vl_nil))) (hfx 5 rfl)) (vb_cons (vs_if (VQ.tc (vq_gt (vq_len O (vq_v 3) (by rfl) T.b_len) vq_int)) (vb_cons (vs_set (i := 4) sc__law_now_right.nd (ve_tup (vl_cons (VQ.e vq_str) (vl_cons (ve_call O (ok__law_items_of (P := P) (w := w) (base := base) T) rfl (hr.mono (by decide)) (by rfl) T.x__law_items_of.mg T.x__law_items_of.kp T.x__law_items_of.b (va_plc (vq_ix O (vq_ix O (vq_v 1) (vq_neg vq_int)) (vq_v 2)) va_nil (.inl rfl))) vl_nil))) (hfx 4 rfl)) (vb_cons (vs_set (i := 5) sc__law_now_right.nd (ve_tup (vl_cons (VQ.e vq_str) (vl_cons (VQ.e (vq_ix O (vq_v 3) vq_int)) vl_nil))) (hfx 5 rfl)) vb_nil)) vb_nil) (vb_cons (vs_set (i := 6) sc__law_now_right.nd (ve_call O (ok__law_row_or (P := P) (w := w) (base := base) T) rfl (hr.mono (by decide)) (by rfl) T.x__law_row_or.mg T.x__law_row_or.kp T.x__law_row_or.b (va_var 0 (va_var 2 va_nil))) (hfx 6 rfl)) (vb_cons (vs_if (VW.t (VT.or (VT.not (VE.t (ve_call O (ok__law_same (P := P) (w := w) (base := base) T) rfl (hr.mono (by decide)) (by rfl) T.x__law_same.mg T.x__law_same.kp T.x__law_same.b (va_var 6 (va_var 4 va_nil))))) (VT.or1 (VT.not (VE.t (ve_call O (ok__law_same (P := P) (w := w) (base := base) T) rfl (hr.mono (by decide)) (by rfl) T.x__law_same.mg T.x__law_same.kp T.x__law_same.b (va_val (ve_call O (ok__law_opened_or (P := P) (w := w) (base := base) T) rfl (hr.mono (by decide)) (by rfl) T.x__law_opened_or.mg T.x__law_opened_or.kp T.x__law_opened_or.b (va_var 0 (va_var 2 va_nil))) (va_var 5 va_nil)))))))) (vb_cons (vs_ret (VQ.e vq_bl)) vb_nil) vb_nil) (vb_cons (vs_if (VQ.tc (vq_notN (vq_ix O (vq_v 6) vq_int))) (vb_cons (vs_expr (ve_append O (vq_ix O (vq_v 6) vq_int) (ve_tup (vl_cons (VQ.e vq_str) (vl_cons (VQ.e vq_int) vl_nil))) (.inl rfl))) vb_nil) vb_nil) vb_nil))))))) (by rfl) T.b_range) (vb_cons (vs_setLcL (i := 7) (own := [("_law_row", 8)]) (g := lg__law_now_right_3) (mt := lt__law_now_right_3) (se := true) (me := le__law_now_right_3) O rfl sc__law_now_right.nd (fxs_cons (hfx 8 rfl) fxs_nil) (VQ.e (vq_ix O (vq_v 1) (vq_neg vq_int))) ⟨blkC_by (Nn := N__law_now_right) (scn := defScope s__law_now_right) rfl rfl (by decide +kernel), fun _ _ _ _ _ O => (vgo_name (i := 8) sc__law_now_right.nd (by decide) (hfx 8 rfl)), fun _ _ _ _ _ O => vts_nil, fun _ _ _ _ _ O => (ve_call O (ok__law_items_of (P := P) (w := w) (base := base) T) rfl (hr.mono (by decide)) (by rfl) T.x__law_items_of.mg T.x__law_items_of.kp T.x__law_items_of.b (va_var 8 va_nil))⟩ (hfx 7 rfl)) (vb_cons (vs_set (i := 6) sc__law_now_right.nd (ve_methS0 (c := "Shelf") (ns := ["past", "moment"]) O (vq_v 0) ⟨T.ca_Shelf, T.cl_Shelf⟩ T.me_Shelf_rows (by decide +kernel) (ok_Shelf_rows (P := P) (w := w) (base := base) T) rfl (hr.mono (by decide)) T.x_Shelf_rows.b) (hfx 6 rfl)) (vb_cons (vs_if (VW.t (VT.or (VT.not (VE.t (ve_call O (ok__law_same (P := P) (w := w) (base := base) T) rfl (hr.mono (by decide)) (by rfl) T.x__law_same.mg T.x__law_same.kp T.x__law_same.b (va_var 6 (va_var 7 va_nil))))) (VT.or1 (VT.not (VE.t (ve_call O (ok__law_same (P := P) (w := w) (base := base) T) rfl (hr.mono (by decide)) (by rfl) T.x__law_same.mg T.x__law_same.kp T.x__law_same.b (va_val (ve_methS0 (c := "Shelf") (ns := ["past", "moment"]) O (vq_v 0) ⟨T.ca_Shelf, T.cl_Shelf⟩ T.me_Shelf_many (by decide +kernel) (ok_Shelf_many (P := P) (w := w) (base := base) T) rfl (hr.mono (by decide)) T.x_Shelf_many.b) (va_val (VQ.e (vq_len O (vq_v 7) (by rfl) T.b_len)) va_nil)))))))) (vb_cons (vs_ret (VQ.e vq_bl)) vb_nil) vb_nil) (vb_cons (vs_forAL (ms := [.hd, .hd, .hd, .hd, .hd, .hd, .hd, .hd, .al, .hd]) (sub := []) (g := (gaNm 8)) O (passes_of rfl) rfl (vq_v 6) (fun fx hf => (vga_name (t := 8) (ms := [.hd, .hd, .hd, .hd, .hd, .hd, .hd, .hd, .al, .hd]) sc__law_now_right.nd ((hf 8 rfl).trans (hfx 8 rfl)) (by rfl))) (fun fx hf => have hfxA : ∀ i, (bIs [.hd, .hd, .hd, .hd, .hd, .hd, .hd, .hd, .al, .hd] i && noFx [.bo, .bo] i) = true → fx i = none := (fun i h => (hf i (bNhd_of (Bool.and_eq_true_iff.mp h).1)).trans (hfx i (Bool.and_eq_true_iff.mp h).2)); (vba_cons (ms := [.hd, .hd, .hd, .hd, .hd, .hd, .hd, .hd, .al, .hd]) rfl rfl (fun H0 os0 B fx hf => have O := O.reb H0 os0 B fx; have hfx : ∀ i, (bIs [.hd, .hd, .hd, .hd, .hd, .hd, .hd, .hd, .al, .hd] i && noFx [.bo, .bo] i) = true → fx i = none := (fun i h => (hf i (bIs_of (Bool.and_eq_true_iff.mp h).1)).trans (hfxA i h)); (vs_expr (ve_append O (vq_v 8) (ve_tup (vl_cons (VQ.e vq_str) (vl_cons (VQ.e vq_int) vl_nil))) (.inl rfl)))) (vba_end vb_nil)))) (vb_cons (vs_expr (ve_append O (vq_v 6) (ve_lst vl_nil) (.inl rfl))) (vb_cons (vs_if (VT.not (VE.t (ve_call O (ok__law_same (P := P) (w := w) (base := base) T) rfl (hr.mono (by decide)) (by rfl) T.x__law_same.mg T.x__law_same.kp T.x__law_same.b (va_val (ve_methS0 (c := "Shelf") (ns := ["past", "moment"]) O (vq_v 0) ⟨T.ca_Shelf, T.cl_Shelf⟩ T.me_Shelf_rows (by decide +kernel) (ok_Shelf_rows (P := P) (w := w) (base := base) T) rfl (hr.mono (by decide)) T.x_Shelf_rows.b) (va_var 7 va_nil))))) (vb_cons (vs_ret (VQ.e vq_bl)) vb_nil) vb_nil) (vb_cons (vs_ret (ve_call O (ok__law_same (P := P) (w := w) (base := base) T) rfl (hr.mono (by decide)) (by rfl) T.x__law_same.mg T.x__law_same.kp T.x__law_same.b (va_val (ve_methS0 (c := "Shelf") (ns := ["past", "moment"]) O (vq_v 0) ⟨T.ca_Shelf, T.cl_Shelf⟩ T.me_Shelf_now (by decide +kernel) (ok_Shelf_now (P := P) (w := w) (base := base) T) rfl (hr.mono (by decide)) T.x_Shelf_now.b) (va_val (VQ.e (vq_sub (vq_len O (vq_v 1) (by rfl) T.b_len) vq_int)) va_nil)))) vb_nil))))))))))
/-! #### Shelf.look_then -/
abbrev s_Shelf_look_then : Stmt := inClass (top 5) 5
abbrev N_Shelf_look_then : List Str := ["self", "sheet", "moment"]
theorem sc_Shelf_look_then : FnScope N_Shelf_look_then ["self", "sheet", "moment"] (defScope s_Shelf_look_then) := ⟨rfl, rfl, rfl, by decide +kernel, rfl, by decide +kernel, by decide +kernel⟩
def m_Shelf_look_then : MS := (mSeq (mExpr (mMethS "Shelf" ["past", "moment"] [.bo, .bo] F_Shelf_look (qV 0) (aPth (qV 1) aNil))) (mSeq (mIf (mOrT (mTQ (qOp gLt (qV 2) (qC (.int 0)))) (mTQ (qOp gGt (qV 2) (qFs "Shelf" ["past", "moment"] 1 (qV 0))))) (mSeq (mRaise "NoMoment") mSkip) mSkip) (mSeq (mIf (mTE (mOp gGt (mMethS "Shelf" ["past", "moment"] [.bo, .bo] F_Shelf_opened (qV 0) (aPth (qV 1) aNil)) (mQ (qV 2)))) (mSeq (mRaise "NoSheet") mSkip) mSkip) mSkip)))
def F_Shelf_look_then : Fn := runF [.bo, .bo, .bo] 3 m_Shelf_look_then
theorem ok_Shelf_look_then (T : TX K mg a) : FnOk P w K mg base (L2.CX P w) 3 a.f_Shelf_look_then a.d_Shelf_look_then ["self", "sheet", "moment"] (spF K (CAo mg) 3 F_Shelf_look_then) :=
  fn_ok (K := K) (mg := mg) (CA := CAo mg) (N := N_Shelf_look_then) (ms := [.bo, .bo, .bo]) (m := m_Shelf_look_then) T.x_Shelf_look_then.F sc_Shelf_look_then rfl fun cdv A outer s H E H0 os0 B fx hfx hr => (
    have O : COk (cxOf (L2.CX P w) P w K mg base _ _ (defScope s_Shelf_look_then) a.f_Shelf_look_then cdv A outer s H E) ⟨K, CAo mg, H0, os0, B, fun cls d _ H' => E cls d H', fx, 3⟩ := ⟨rfl, takes_of rfl rfl rfl rfl⟩
    have hu := hr.units
    ((vb_cons (vs_expr (ve_methS (c := "Shelf") (ns := ["past", "moment"]) O (vq_v 0) ⟨T.ca_Shelf, T.cl_Shelf⟩ T.me_Shelf_look (by decide +kernel) (ok_Shelf_look (P := P) (w := w) (base := base) T) rfl (hr.mono (by decide)) T.x_Shelf_look.b (va_var 1 va_nil) (.inl rfl))) (vb_cons (vs_if (VW.t (VT.or (VQ.tc (vq_lt (vq_v 2) vq_int)) (VT.or1 (VQ.tc (vq_gt (vq_v 2) (vq_fs (c := "Shelf") (ns := ["past", "moment"]) (j := 1) O (vq_v 0) (clsOk_of T.ca_Shelf T.cl_Shelf T.na_Shelf_moment))))))) (vb_cons (vs_raise O rfl ⟨T.e_NoMoment⟩ (by rfl)) vb_nil) vb_nil) (vb_cons (vs_if (VE.tc (ve_gt (ve_methS (c := "Shelf") (ns := ["past", "moment"]) O (vq_v 0) ⟨T.ca_Shelf, T.cl_Shelf⟩ T.me_Shelf_opened (by decide +kernel) (ok_Shelf_opened (P := P) (w := w) (base := base) T) rfl (hr.mono (by decide)) T.x_Shelf_opened.b (va_var 1 va_nil) (.inl rfl)) (VQ.e (vq_v 2)))) (vb_cons (vs_raise O rfl ⟨T.e_NoSheet⟩ (by rfl)) vb_nil) vb_nil) vb_nil)))))
/-! #### Shelf.row_then -/
abbrev s_Shelf_row_then : Stmt := inClass (top 5) 8
abbrev N_Shelf_row_then : List Str := ["self", "sheet", "moment", "found", "came", "items"]
theorem sc_Shelf_row_then : FnScope N_Shelf_row_then ["self", "sheet", "moment"] (defScope s_Shelf_row_then) := ⟨rfl, rfl, rfl, by decide +kernel, rfl, by decide +kernel, by decide +kernel⟩
def lg_Shelf_row_then_1 : MG := (gTu 2 (gC1 (gNm 4) (gC1 (gNm 5) gN0)))
def lb_Shelf_row_then_1 : MS := (mSeq (mIf (mTQ (qOp gLe (qV 4) (qV 2))) (mSeq (mAsg (mQ (qV 5)) (gNm 3)) mSkip) mSkip) mSkip)
def m_Shelf_row_then : MS := (mSeq (mExpr (mMethS "Shelf" ["past", "moment"] [.bo, .bo, .bo] F_Shelf_look_then (qV 0) (aPth (qV 1) (aPth (qV 2) aNil)))) (mSeq (mAsg (mLst mNil) (gNm 3)) (mSeq (mForL (mQ (qIx (qFs "Shelf" ["past", "moment"] 0 (qV 0)) (qV 1))) lg_Shelf_row_then_1 lb_Shelf_row_then_1) (mSeq (mRet (mListQ (qV 3))) mSkip))))
def F_Shelf_row_then : Fn := runF [.bo, .bo, .bo] 6 m_Shelf_row_then
theorem ok_Shelf_row_then (T : TX K mg a) : FnOk P w K mg base (L2.CX P w) 4 a.f_Shelf_row_then a.d_Shelf_row_then ["self", "sheet", "moment"] (spF K (CAo mg) 3 F_Shelf_row_then) :=
  fn_ok (K := K) (mg := mg) (CA := CAo mg) (N := N_Shelf_row_then) (ms := [.bo, .bo, .bo]) (m := m_Shelf_row_then) T.x_Shelf_row_then.F sc_Shelf_row_then rfl fun cdv A outer s H E H0 os0 B fx hfx hr => (
    have O : COk (cxOf (L2.CX P w) P w K mg base _ _ (defScope s_Shelf_row_then) a.f_Shelf_row_then cdv A outer s H E) ⟨K, CAo mg, H0, os0, B, fun cls d _ H' => E cls d H', fx, 6⟩ := ⟨rfl, takes_of rfl rfl rfl rfl⟩
    have hu := hr.units
    ((vb_cons (vs_expr (ve_methS (c := "Shelf") (ns := ["past", "moment"]) O (vq_v 0) ⟨T.ca_Shelf, T.cl_Shelf⟩ T.me_Shelf_look_then (by decide +kernel) (ok_Shelf_look_then (P := P) (w := w) (base := base) T) rfl (hr.mono (by decide)) T.x_Shelf_look_then.b (va_var 1 (va_var 2 va_nil)) (.inl rfl))) (vb_cons (vs_set (i := 3) sc_Shelf_row_then.nd (ve_lst vl_nil) (hfx 3 rfl)) (vb_cons (vs_forL O (passes_of rfl) rfl (VQ.e (vq_ix O (vq_fs (c := "Shelf") (ns := ["past", "moment"]) (j := 0) O (vq_v 0) (clsOk_of T.ca_Shelf T.cl_Shelf T.na_Shelf_past)) (vq_v 1))) (vg_tup O rfl (vgs_cons (vg_name (i := 4) sc_Shelf_row_then.nd (hfx 4 rfl)) (vgs_cons (vg_name (i := 5) sc_Shelf_row_then.nd (hfx 5 rfl)) vgs_nil))) (vb_cons (vs_if (VQ.tc (vq_le (vq_v 4) (vq_v 2))) (vb_cons (vs_set (i := 3) sc_Shelf_row_then.nd (VQ.e (vq_v 5)) (hfx 3 rfl)) vb_nil) vb_nil) vb_nil)) (vb_cons (vs_ret (ve_listQ O (vq_v 3) (by rfl) T.b_list)) vb_nil))))))
/-! #### _law_row_then_or -/
abbrev s__law_row_then_or : Stmt := top 14
abbrev N__law_row_then_or : List Str := ["_law_shelf", "_law_sheet", "_law_moment", "_law_told", "_law_name"]
theorem sc__law_row_then_or : FnScope N__law_row_then_or ["_law_shelf", "_law_sheet", "_law_moment"] (defScope s__law_row_then_or) := ⟨rfl, rfl, rfl, by decide +kernel, rfl, by decide +kernel, by decide +kernel⟩
def m__law_row_then_or : MS := (mSeq (mAsg (mQ (qC .non)) (gNm 3)) (mSeq (mAsg (mQ (qC (.str ""))) (gNm 4)) (mSeq (mTry hiL (mSeq (mAsg (mMethS "Shelf" ["past", "moment"] [.bo, .bo, .bo] F_Shelf_row_then (qV 0) (aPth (qV 1) (aPth (qV 2) aNil))) (gNm 3)) mSkip) [("NoSheet", (mSeq (mAsg (mQ (qC (.str "sheet"))) (gNm 4)) mSkip)), ("NoMoment", (mSeq (mAsg (mQ (qC (.str "moment"))) (gNm 4)) mSkip))]) (mSeq (mRet (mTup (mCons (mMove 4) (mCons (mMove 3) mNil)))) mSkip))))
def F__law_row_then_or : Fn := runF [.bo, .bo, .bo] 5 m__law_row_then_or
theorem ok__law_row_then_or (T : TX K mg a) : FnOk P w K mg base (L2.CX P w) 5 a.f__law_row_then_or a.d__law_row_then_or ["_law_shelf", "_law_sheet", "_law_moment"] (spF K (CAo mg) 3 F__law_row_then_or) :=
  fn_ok (K := K) (mg := mg) (CA := CAo mg) (N := N__law_row_then_or) (ms := [.bo, .bo, .bo]) (m := m__law_row_then_or) T.x__law_row_then_or.F sc__law_row_then_or rfl fun cdv A outer s H E H0 os0 B fx hfx hr => (
    have O : COk (cxOf (L2.CX P w) P w K mg base _ _ (defScope s__law_row_then_or) a.f__law_row_then_or cdv A outer s H E) ⟨K, CAo mg, H0, os0, B, fun cls d _ H' => E cls d H', fx, 5⟩ := ⟨rfl, takes_of rfl rfl rfl rfl⟩
    have hu := hr.units
    ((vb_cons (vs_set (i := 3) sc__law_row_then_or.nd (VQ.e vq_non) (hfx 3 rfl)) (vb_cons (vs_set (i := 4) sc__law_row_then_or.nd (VQ.e vq_str) (hfx 4 rfl)) (vb_cons (vs_try O T.hier rfl rfl (fun W pn xe O pa => (vb_cons (vs_set (i := 3) sc__law_row_then_or.nd (ve_methS (c := "Shelf") (ns := ["past", "moment"]) O (vq_v 0) ⟨T.ca_Shelf, T.cl_Shelf⟩ T.me_Shelf_row_then (by decide +kernel) (ok_Shelf_row_then (P := P) (w := w) (base := base) T) rfl (hr.mono (by decide)) T.x_Shelf_row_then.b (va_var 1 (va_var 2 va_nil)) (.inl rfl)) (hfx 3 rfl)) vb_nil)) (VHs.cons (by rfl) (by decide) T.c_NoSheet (fun _ _ _ => (vb_cons (vs_set (i := 4) sc__law_row_then_or.nd (VQ.e vq_str) (hfx 4 rfl)) vb_nil)) (VHs.cons (by rfl) (by decide) T.c_NoMoment (fun _ _ _ => (vb_cons (vs_set (i := 4) sc__law_row_then_or.nd (VQ.e vq_str) (hfx 4 rfl)) vb_nil)) VHs.nil))) (vb_cons (vs_ret (ve_tup (vl_cons (ve_move 4) (vl_cons (ve_move 3) vl_nil)))) vb_nil))))))
/-! #### _law_due -/
abbrev s__law_due : Stmt := top 18
abbrev N__law_due : List Str := ["_law_past", "_law_sheet", "_law_moment"]
theorem sc__law_due : FnScope N__law_due ["_law_past", "_law_sheet", "_law_moment"] (defScope s__law_due) := ⟨rfl, rfl, rfl, by decide +kernel, rfl, by decide +kernel, by decide +kernel⟩
def m__law_due : MS := (mSeq (mIf (mOrT (mTQ (qOp gLt (qV 1) (qC (.int 0)))) (mTQ (qOp gGe (qV 1) (qLen (qIx (qV 0) (qNeg (qC (.int 1)))))))) (mSeq (mRet (mTup (mCons (mQ (qC (.str "sheet"))) (mCons (mQ (qC .non)) mNil)))) mSkip) mSkip) (mSeq (mIf (mOrT (mTQ (qOp gLt (qV 2) (qC (.int 0)))) (mTQ (qOp gGe (qV 2) (qLen (qV 0))))) (mSeq (mRet (mTup (mCons (mQ (qC (.str "moment"))) (mCons (mQ (qC .non)) mNil)))) mSkip) mSkip) (mSeq (mIf (mTQ (qOp gGe (qV 1) (qLen (qIx (qV 0) (qV 2))))) (mSeq (mRet (mTup (mCons (mQ (qC (.str "sheet"))) (mCons (mQ (qC .non)) mNil)))) mSkip) mSkip) (mSeq (mRet (mTup (mCons (mQ (qC (.str ""))) (mCons (mCall [.bo] F__law_items_of (aPth (qIx (qIx (qV 0) (qV 2)) (qV 1)) aNil)) mNil)))) mSkip))))
def F__law_due : Fn := runF [.bo, .bo, .bo] 3 m__law_due
theorem ok__law_due (T : TX K mg a) : FnOk P w K mg base (L2.CX P w) 2 a.f__law_due a.d__law_due ["_law_past", "_law_sheet", "_law_moment"] (spF K (CAo mg) 3 F__law_due) :=
  fn_ok (K := K) (mg := mg) (CA := CAo mg) (N := N__law_due) (ms := [.bo, .bo, .bo]) (m := m__law_due) T.x__law_due.F sc__law_due rfl fun cdv A outer s H E H0 os0 B fx hfx hr => (
    have O : COk (cxOf (L2.CX P w) P w K mg base _ _ (defScope s__law_due) a.f__law_due cdv A outer s H E) ⟨K, CAo mg, H0, os0, B, fun cls d _ H' => E cls d H', fx, 3⟩ := ⟨rfl, takes_of rfl rfl rfl rfl⟩
    have hu := hr.units
    ((vb_cons (vs_if (VW.t (VT.or (VQ.tc (vq_lt (vq_v 1) vq_int)) (VT.or1 (VQ.tc (vq_ge (vq_v 1) (vq_len O (vq_ix O (vq_v 0) (vq_neg vq_int)) (by rfl) T.b_len)))))) (vb_cons (vs_ret (ve_tup (vl_cons (VQ.e vq_str) (vl_cons (VQ.e vq_non) vl_nil)))) vb_nil) vb_nil) (vb_cons (vs_if (VW.t (VT.or (VQ.tc (vq_lt (vq_v 2) vq_int)) (VT.or1 (VQ.tc (vq_ge (vq_v 2) (vq_len O (vq_v 0) (by rfl) T.b_len)))))) (vb_cons (vs_ret (ve_tup (vl_cons (VQ.e vq_str) (vl_cons (VQ.e vq_non) vl_nil)))) vb_nil) vb_nil) (vb_cons (vs_if (VQ.tc (vq_ge (vq_v 1) (vq_len O (vq_ix O (vq_v 0) (vq_v 2)) (by rfl) T.b_len))) (vb_cons (vs_ret (ve_tup (vl_cons (VQ.e vq_str) (vl_cons (VQ.e vq_non) vl_nil)))) vb_nil) vb_nil) (vb_cons (vs_ret (ve_tup (vl_cons (VQ.e vq_str) (vl_cons (ve_call O (ok__law_items_of (P := P) (w := w) (base := base) T) rfl (hr.mono (by decide)) (by rfl) T.x__law_items_of.mg T.x__law_items_of.kp T.x__law_items_of.b (va_plc (vq_ix O (vq_ix O (vq_v 0) (vq_v 2)) (vq_v 1)) va_nil (.inl rfl))) vl_nil)))) vb_nil))))))
/-! #### Shelf.rows_then -/
abbrev s_Shelf_rows_then : Stmt := inClass (top 5) 10
abbrev N_Shelf_rows_then : List Str := ["self", "moment", "found", "sheet"]
theorem sc_Shelf_rows_then : FnScope N_Shelf_rows_then ["self", "moment"] (defScope s_Shelf_rows_then) := ⟨rfl, rfl, rfl, by decide +kernel, rfl, by decide +kernel, by decide +kernel⟩
def lg_Shelf_rows_then_1 : MG := (gNm 3)
def lb_Shelf_rows_then_1 : MS := (mSeq (mIf (mTE (mOp gLe (mMethS "Shelf" ["past", "moment"] [.bo, .bo] F_Shelf_opened (qV 0) (aPth (qV 3) aNil)) (mQ (qV 1)))) (mSeq (mExpr (mAppend (qV 2) (mMethS "Shelf" ["past", "moment"] [.bo, .bo, .bo] F_Shelf_row_then (qV 0) (aPth (qV 3) (aPth (qV 1) aNil))))) mSkip) mSkip) mSkip)
def m_Shelf_rows_then : MS := (mSeq (mIf (mOrT (mTQ (qOp gLt (qV 1) (qC (.int 0)))) (mTQ (qOp gGt (qV 1) (qFs "Shelf" ["past", "moment"] 1 (qV 0))))) (mSeq (mRaise "NoMoment") mSkip) mSkip) (mSeq (mAsg (mLst mNil) (gNm 2)) (mSeq (mForRC1 (mQ (qLen (qFs "Shelf" ["past", "moment"] 0 (qV 0)))) lg_Shelf_rows_then_1 lb_Shelf_rows_then_1) (mSeq (mRet (mMove 2)) mSkip))))
def F_Shelf_rows_then : Fn := runF [.bo, .bo] 4 m_Shelf_rows_then
theorem ok_Shelf_rows_then (T : TX K mg a) : FnOk P w K mg base (L2.CX P w) 5 a.f_Shelf_rows_then a.d_Shelf_rows_then ["self", "moment"] (spF K (CAo mg) 2 F_Shelf_rows_then) :=
  fn_ok (K := K) (mg := mg) (CA := CAo mg) (N := N_Shelf_rows_then) (ms := [.bo, .bo]) (m := m_Shelf_rows_then) T.x_Shelf_rows_then.F sc_Shelf_rows_then rfl fun cdv A outer s H E H0 os0 B fx hfx hr => (
    have O : COk (cxOf (L2.CX P w) P w K mg base _ _ (defScope s_Shelf_rows_then) a.f_Shelf_rows_then cdv A outer s H E) ⟨K, CAo mg, H0, os0, B, fun cls d _ H' => E cls d H', fx, 4⟩ := ⟨rfl, takes_of rfl rfl rfl rfl⟩
    have hu := hr.units
    ((vb_cons (vs_if (VW.t (VT.or (VQ.tc (vq_lt (vq_v 1) vq_int)) (VT.or1 (VQ.tc (vq_gt (vq_v 1) (vq_fs (c := "Shelf") (ns := ["past", "moment"]) (j := 1) O (vq_v 0) (clsOk_of T.ca_Shelf T.cl_Shelf T.na_Shelf_moment))))))) (vb_cons (vs_raise O rfl ⟨T.e_NoMoment⟩ (by rfl)) vb_nil) vb_nil) (vb_cons (vs_set (i := 2) sc_Shelf_rows_then.nd (ve_lst vl_nil) (hfx 2 rfl)) (vb_cons (vs_forRC1 (passes_of rfl) rfl (VQ.e (vq_len O (vq_fs (c := "Shelf") (ns := ["past", "moment"]) (j := 0) O (vq_v 0) (clsOk_of T.ca_Shelf T.cl_Shelf T.na_Shelf_past)) (by rfl) T.b_len)) (vg_name (i := 3) sc_Shelf_rows_then.nd (hfx 3 rfl)) (vb_cons (vs_if (VE.tc (ve_le (ve_methS (c := "Shelf") (ns := ["past", "moment"]) O (vq_v 0) ⟨T.ca_Shelf, T.cl_Shelf⟩ T.me_Shelf_opened (by decide +kernel) (ok_Shelf_opened (P := P) (w := w) (base := base) T) rfl (hr.mono (by decide)) T.x_Shelf_opened.b (va_var 3 va_nil) (.inl rfl)) (VQ.e (vq_v 1)))) (vb_cons (vs_expr (ve_append O (vq_v 2) (ve_methS (c := "Shelf") (ns := ["past", "moment"]) O (vq_v 0) ⟨T.ca_Shelf, T.cl_Shelf⟩ T.me_Shelf_row_then (by decide +kernel) (ok_Shelf_row_then (P := P) (w := w) (base := base) T) rfl (hr.mono (by decide)) T.x_Shelf_row_then.b (va_var 3 (va_var 1 va_nil)) (.inl rfl)) (.inl rfl))) vb_nil) vb_nil) vb_nil) (by rfl) T.b_range) (vb_cons (vs_ret (ve_move 2)) vb_nil))))))
/-! #### _law_rows_then_or -/
abbrev s__law_rows_then_or : Stmt := top 17
abbrev N__law_rows_then_or : List Str := ["_law_shelf", "_law_moment", "_law_told", "_law_name"]
theorem sc__law_rows_then_or : FnScope N__law_rows_then_or ["_law_shelf", "_law_moment"] (defScope s__law_rows_then_or) := ⟨rfl, rfl, rfl, by decide +kernel, rfl, by decide +kernel, by decide +kernel⟩
def m__law_rows_then_or : MS := (mSeq (mAsg (mQ (qC .non)) (gNm 2)) (mSeq (mAsg (mQ (qC (.str ""))) (gNm 3)) (mSeq (mTry hiL (mSeq (mAsg (mMethS "Shelf" ["past", "moment"] [.bo, .bo] F_Shelf_rows_then (qV 0) (aPth (qV 1) aNil)) (gNm 2)) mSkip) [("NoMoment", (mSeq (mAsg (mQ (qC (.str "moment"))) (gNm 3)) mSkip))]) (mSeq (mRet (mTup (mCons (mMove 3) (mCons (mMove 2) mNil)))) mSkip))))
def F__law_rows_then_or : Fn := runF [.bo, .bo] 4 m__law_rows_then_or
theorem ok__law_rows_then_or (T : TX K mg a) : FnOk P w K mg base (L2.CX P w) 6 a.f__law_rows_then_or a.d__law_rows_then_or ["_law_shelf", "_law_moment"] (spF K (CAo mg) 2 F__law_rows_then_or) :=
  fn_ok (K := K) (mg := mg) (CA := CAo mg) (N := N__law_rows_then_or) (ms := [.bo, .bo]) (m := m__law_rows_then_or) T.x__law_rows_then_or.F sc__law_rows_then_or rfl fun cdv A outer s H E H0 os0 B fx hfx hr => (
    have O : COk (cxOf (L2.CX P w) P w K mg base _ _ (defScope s__law_rows_then_or) a.f__law_rows_then_or cdv A outer s H E) ⟨K, CAo mg, H0, os0, B, fun cls d _ H' => E cls d H', fx, 4⟩ := ⟨rfl, takes_of rfl rfl rfl rfl⟩
    have hu := hr.units
    ((vb_cons (vs_set (i := 2) sc__law_rows_then_or.nd (VQ.e vq_non) (hfx 2 rfl)) (vb_cons (vs_set (i := 3) sc__law_rows_then_or.nd (VQ.e vq_str) (hfx 3 rfl)) (vb_cons (vs_try O T.hier rfl rfl (fun W pn xe O pa => (vb_cons (vs_set (i := 2) sc__law_rows_then_or.nd (ve_methS (c := "Shelf") (ns := ["past", "moment"]) O (vq_v 0) ⟨T.ca_Shelf, T.cl_Shelf⟩ T.me_Shelf_rows_then (by decide +kernel) (ok_Shelf_rows_then (P := P) (w := w) (base := base) T) rfl (hr.mono (by decide)) T.x_Shelf_rows_then.b (va_var 1 va_nil) (.inl rfl)) (hfx 2 rfl)) vb_nil)) (VHs.cons (by rfl) (by decide) T.c_NoMoment (fun _ _ _ => (vb_cons (vs_set (i := 3) sc__law_rows_then_or.nd (VQ.e vq_str) (hfx 3 rfl)) vb_nil)) VHs.nil)) (vb_cons (vs_ret (ve_tup (vl_cons (ve_move 3) (vl_cons (ve_move 2) vl_nil)))) vb_nil))))))
/-! #### _law_moments_right -/
abbrev s__law_moments_right : Stmt := top 19
abbrev N__law_moments_right : List Str := ["_law_shelf", "_law_past", "_law_moment", "_law_sheet", "_law_told", "_law_due_here", "_law_row"]
theorem sc__law_moments_right : FnScope N__law_moments_right ["_law_shelf", "_law_past"] (defScope s__law_moments_right) := ⟨rfl, rfl, rfl, by decide +kernel, rfl, by decide +kernel, by decide +kernel⟩
def lg__law_moments_right_2 : MG := (gNm 6)
def lt__law_moments_right_2 : List D → R Bool := mYes
def le__law_moments_right_2 : List D → R D := (mCall [.bo] F__law_items_of (aPth (qV 6) aNil))
def lg__law_moments_right_1 : MG := (gNm 3)
def lb__law_moments_right_1 : MS := (mSeq (mAsg (mCall [.bo, .bo, .bo] F__law_row_then_or (aPth (qV 0) (aPth (qV 3) (aPth (qV 2) aNil)))) (gNm 4)) (mSeq (mIf (mNotT (mTE (mCall [.bo, .bo] F__law_same_top (aPth (qV 4) (aVal (mCall [.bo, .bo, .bo] F__law_due (aPth (qV 1) (aPth (qV 3) (aPth (qV 2) aNil)))) aNil))))) (mSeq (mRet (mQ (qC (.bl false)))) mSkip) mSkip) (mSeq (mIf (mTQ (qIsN true (qIx (qV 4) (qC (.int 1))))) (mSeq (mExpr (mAppend (qIx (qV 4) (qC (.int 1))) (mTup (mCons (mQ (qC (.str "win"))) (mCons (mQ (qC (.int 0))) mNil))))) mSkip) mSkip) mSkip)))
def lg__law_moments_right_3 : MG := (gNm 2)
def lb__law_moments_right_3 : MS := (mSeq (mForR (mQ (qNeg (qC (.int 1)))) (mQ (qOp gAdd (qLen (qIx (qV 1) (qNeg (qC (.int 1))))) (qC (.int 1)))) lg__law_moments_right_1 lb__law_moments_right_1) (mSeq (mAsg (mTup (mCons (mQ (qC (.str "moment"))) (mCons (mQ (qC .non)) mNil))) (gNm 5)) (mSeq (mIf (mAndT (mTQ (qOp gLe (qC (.int 0)) (qV 2))) (mTQ (qOp gLt (qV 2) (qLen (qV 1))))) (mSeq (mAsg (mTup (mCons (mQ (qC (.str ""))) (mCons (mLcL (mQ (qIx (qV 1) (qV 2))) [6] lg__law_moments_right_2 lt__law_moments_right_2 le__law_moments_right_2) mNil))) (gNm 5)) mSkip) mSkip) (mSeq (mAsg (mCall [.bo, .bo] F__law_rows_then_or (aPth (qV 0) (aPth (qV 2) aNil))) (gNm 4)) (mSeq (mIf (mNotT (mTE (mCall [.bo, .bo] F__law_same_top (aPth (qV 4) (aPth (qV 5) aNil))))) (mSeq (mRet (mQ (qC (.bl false)))) mSkip) mSkip) (mSeq (mIf (mAndT (mTQ (qIsN true (qIx (qV 4) (qC (.int 1))))) (mTQ (qOp gGt (qLen (qIx (qV 4) (qC (.int 1)))) (qC (.int 0))))) (mSeq (mExpr (mAppend (qIx (qIx (qV 4) (qC (.int 1))) (qC (.int 0))) (mTup (mCons (mQ (qC (.str "win"))) (mCons (mQ (qC (.int 0))) mNil))))) mSkip) mSkip) mSkip))))))
def m__law_moments_right : MS := (mSeq (mForR (mQ (qNeg (qC (.int 1)))) (mQ (qOp gAdd (qLen (qV 1)) (qC (.int 1)))) lg__law_moments_right_3 lb__law_moments_right_3) (mSeq (mRet (mQ (qC (.bl true)))) mSkip))
def F__law_moments_right : Fn := runF [.bo, .bo] 7 m__law_moments_right
theorem ok__law_moments_right (T : TX K mg a) : FnOk P w K mg base (L2.CX P w) 8 a.f__law_moments_right a.d__law_moments_right ["_law_shelf", "_law_past"] (spF K (CAo mg) 2 F__law_moments_right) :=
  fn_ok (K := K) (mg := mg) (CA := CAo mg) (N := N__law_moments_right) (ms := [.bo, .bo]) (m := m__law_moments_right) T.x__law_moments_right.F sc__law_moments_right rfl fun cdv A outer s H E H0 os0 B fx hfx hr => (
    have O : COk (cxOf (L2.CX P w) P w K mg base _ _ (defScope s__law_moments_right) a.f__law_moments_right cdv A outer s H E) ⟨K, CAo mg, H0, os0, B, fun cls d _ H' => E cls d H', fx, 7⟩ := ⟨rfl, takes_of rfl rfl rfl rfl⟩
    have hu := hr.units
    ((vb_cons (vs_forR2 (passes_of rfl) rfl (VQ.e (vq_neg vq_int)) (VQ.e (vq_add (vq_len O (vq_v 1) (by rfl) T.b_len) vq_int)) (vg_name (i := 2) sc__law_moments_right.nd (hfx 2 rfl)) (vb_cons (vs_forR2 (passes_of rfl) rfl (VQ.e (vq_neg vq_int)) (VQ.e (vq_add (vq_len O (vq_ix O (vq_v 1) (vq_neg vq_int)) (by rfl) T.b_len) vq_int)) (vg_name (i := 3) sc__law_moments_right.nd (hfx 3 rfl)) (vb_cons (vs_set (i := 4) sc__law_moments_right.nd (ve_call O (ok__law_row_then_or (P := P) (w := w) (base := base) T) rfl (hr.mono (by decide)) (by rfl) T.x__law_row_then_or.mg T.x__law_row_then_or.kp T.x__law_row_then_or.b (va_var 0 (va_var 3 (va_var 2 va_nil)))) (hfx 4 rfl)) (vb_cons (vs_if (VT.not (VE.t (ve_call O (ok__law_same (P := P) (w := w) (base := base) T) rfl (hr.mono (by decide)) (by rfl) T.x__law_same.mg T.x__law_same.kp T.x__law_same.b (va_var 4 (va_val (ve_call O (ok__law_due (P := P) (w := w) (base := base) T) rfl (hr.mono (by decide)) (by rfl) T.x__law_due.mg T.x__law_due.kp T.x__law_due.b (va_var 1 (va_var 3 (va_var 2 va_nil)))) va_nil))))) (vb_cons (vs_ret (VQ.e vq_bl)) vb_nil) vb_nil) (vb_cons (vs_if (VQ.tc (vq_notN (vq_ix O (vq_v 4) vq_int))) (vb_cons (vs_expr (ve_append O (vq_ix O (vq_v 4) vq_int) (ve_tup (vl_cons (VQ.e vq_str) (vl_cons (VQ.e vq_int) vl_nil))) (.inl rfl))) vb_nil) vb_nil) vb_nil))) (by rfl) T.b_range) (vb_cons (vs_set (i := 5) sc__law_moments_right.nd (ve_tup (vl_cons (VQ.e vq_str) (vl_cons (VQ.e vq_non) vl_nil))) (hfx 5 rfl)) (vb_cons (vs_if (VW.t (VT.and (VQ.tc (vq_le vq_int (vq_v 2))) (VT.and1 (VQ.tc (vq_lt (vq_v 2) (vq_len O (vq_v 1) (by rfl) T.b_len)))))) (vb_cons (vs_set (i := 5) sc__law_moments_right.nd (ve_tup (vl_cons (VQ.e vq_str) (vl_cons (ve_lcL (own := [("_law_row", 6)]) (g := lg__law_moments_right_2) (mt := lt__law_moments_right_2) (se := true) (me := le__law_moments_right_2) O rfl sc__law_moments_right.nd (fxs_cons (hfx 6 rfl) fxs_nil) (VQ.e (vq_ix O (vq_v 1) (vq_v 2))) ⟨blkC_by (Nn := N__law_moments_right) (scn := defScope s__law_moments_right) rfl rfl (by decide +kernel), fun _ _ _ _ _ O => (vgo_name (i := 6) sc__law_moments_right.nd (by decide) (hfx 6 rfl)), fun _ _ _ _ _ O => vts_nil, fun _ _ _ _ _ O => (ve_call O (ok__law_items_of (P := P) (w := w) (base := base) T) rfl (hr.mono (by decide)) (by rfl) T.x__law_items_of.mg T.x__law_items_of.kp T.x__law_items_of.b (va_var 6 va_nil))⟩) vl_nil))) (hfx 5 rfl)) vb_nil) vb_nil) (vb_cons (vs_set (i := 4) sc__law_moments_right.nd (ve_call O (ok__law_rows_then_or (P := P) (w := w) (base := base) T) rfl (hr.mono (by decide)) (by rfl) T.x__law_rows_then_or.mg T.x__law_rows_then_or.kp T.x__law_rows_then_or.b (va_var 0 (va_var 2 va_nil))) (hfx 4 rfl)) (vb_cons (vs_if (VT.not (VE.t (ve_call O (ok__law_same (P := P) (w := w) (base := base) T) rfl (hr.mono (by decide)) (by rfl) T.x__law_same.mg T.x__law_same.kp T.x__law_same.b (va_var 4 (va_var 5 va_nil))))) (vb_cons (vs_ret (VQ.e vq_bl)) vb_nil) vb_nil) (vb_cons (vs_if (VW.t (VT.and (VQ.tc (vq_notN (vq_ix O (vq_v 4) vq_int))) (VT.and1 (VQ.tc (vq_gt (vq_len O (vq_ix O (vq_v 4) vq_int) (by rfl) T.b_len) vq_int))))) (vb_cons (vs_expr (ve_append O (vq_ix O (vq_ix O (vq_v 4) vq_int) vq_int) (ve_tup (vl_cons (VQ.e vq_str) (vl_cons (VQ.e vq_int) vl_nil))) (.inl rfl))) vb_nil) vb_nil) vb_nil)))))) (by rfl) T.b_range) (vb_cons (vs_ret (VQ.e vq_bl)) vb_nil))))
/-! #### law -/
abbrev s_law : Stmt := top 21
abbrev N_law : List Str := ["_law_script", "_law_src_here", "_law_shelf", "_law_past", "_law_other", "_law_seen", "_law_k"]
theorem sc_law : FnScope N_law ["_law_script"] (defScope s_law) := ⟨rfl, rfl, rfl, by decide +kernel, rfl, by decide +kernel, by decide +kernel⟩
def lg_law_1 : MG := (gNm 6)
def lb_law_1 : MS := (mSeq (mIf (mNotT (mTE (mCall [.io, .io, .io] F__law_step (aPth (qV 1) (aPth (qV 2) (aPth (qV 3) aNil)))))) (mSeq (mRet (mQ (qC (.bl false)))) mSkip) mSkip) (mSeq (mIf (mAndT (mTE (mEq false (mCall [.io, .bo] F__law_next (aPth (qV 1) (aVal (mQ (qC (.int 6))) aNil))) (mQ (qC (.int 0))))) (mNotT (mTE (mCall [.io, .io, .io] F__law_step (aPth (qV 1) (aPth (qV 4) (aPth (qV 5) aNil))))))) (mSeq (mRet (mQ (qC (.bl false)))) mSkip) mSkip) (mSeq (mIf (mNotT (mTE (mCall [.bo, .bo] F__law_now_right (aPth (qV 2) (aPth (qV 3) aNil))))) (mSeq (mRet (mQ (qC (.bl false)))) mSkip) mSkip) mSkip)))
def m_law : MS := (mSeq (mAsg (mCall [.bo] F__law_src (aVal (mScr 0) aNil)) (gNm 1)) (mSeq (mAsg (mMake "Shelf" [] F_Shelf___init__ aNil) (gNm 2)) (mSeq (mAsg (mLst (mCons (mLst mNil) mNil)) (gNm 3)) (mSeq (mAsg (mMake "Shelf" [] F_Shelf___init__ aNil) (gNm 4)) (mSeq (mAsg (mLst (mCons (mLst mNil) mNil)) (gNm 5)) (mSeq (mForR1 (mCall [.io, .bo] F__law_next (aPth (qV 1) (aVal (mQ (qC (.int 9))) aNil))) lg_law_1 lb_law_1) (mSeq (mRet (mAndV (mCall [.bo, .bo] F__law_moments_right (aPth (qV 2) (aPth (qV 3) aNil))) (mAndV (mCall [.bo, .bo] F__law_now_right (aPth (qV 4) (aPth (qV 5) aNil))) (mCall [.bo, .bo] F__law_now_right (aPth (qV 2) (aPth (qV 3) aNil)))))) mSkip)))))))
def F_law : Fn := runF [.bo] 7 m_law
theorem ok_law (T : TX K mg a) : FnOk P w K mg base (L2.CX P w) 9 a.f_law a.d_law ["_law_script"] (spF K (CAo mg) 1 F_law) :=
  fn_ok (K := K) (mg := mg) (CA := CAo mg) (N := N_law) (ms := [.bo]) (m := m_law) T.x_law.F sc_law rfl fun cdv A outer s H E H0 os0 B fx hfx hr => (
    have O : COk (cxOf (L2.CX P w) P w K mg base _ _ (defScope s_law) a.f_law cdv A outer s H E) ⟨K, CAo mg, H0, os0, B, fun cls d _ H' => E cls d H', fx, 7⟩ := ⟨rfl, takes_of rfl rfl rfl rfl⟩
    have hu := hr.units
    ((vb_cons (vs_set (i := 1) sc_law.nd (ve_call O (ok__law_src (P := P) (w := w) (base := base) T) rfl (hr.mono (by decide)) (by rfl) T.x__law_src.mg T.x__law_src.kp T.x__law_src.b (va_val (ve_scr 0) va_nil)) (hfx 1 rfl)) (vb_cons (vs_set (i := 2) sc_law.nd (ve_make0 (c := "Shelf") O ⟨T.ca_Shelf, T.cl_Shelf⟩ T.mk_Shelf (ok_Shelf___init__ (P := P) (w := w) (base := base) T) rfl (hr.mono (by decide)) (by rfl) T.mg_Shelf T.x_Shelf___init__.b) (hfx 2 rfl)) (vb_cons (vs_set (i := 3) sc_law.nd (ve_lst (vl_cons (ve_lst vl_nil) vl_nil)) (hfx 3 rfl)) (vb_cons (vs_set (i := 4) sc_law.nd (ve_make0 (c := "Shelf") O ⟨T.ca_Shelf, T.cl_Shelf⟩ T.mk_Shelf (ok_Shelf___init__ (P := P) (w := w) (base := base) T) rfl (hr.mono (by decide)) (by rfl) T.mg_Shelf T.x_Shelf___init__.b) (hfx 4 rfl)) (vb_cons (vs_set (i := 5) sc_law.nd (ve_lst (vl_cons (ve_lst vl_nil) vl_nil)) (hfx 5 rfl)) (vb_cons (vs_forR1 (passes_of rfl) rfl (ve_call O (ok__law_next (P := P) (w := w) (base := base) T) rfl (hr.mono (by decide)) (by rfl) T.x__law_next.mg T.x__law_next.kp T.x__law_next.b (va_var 1 (va_val (VQ.e vq_int) va_nil))) (vg_name (i := 6) sc_law.nd (hfx 6 rfl)) (vb_cons (vs_if (VT.not (VE.t (ve_call O (ok__law_step (P := P) (w := w) (base := base) T) rfl (hr.mono (by decide)) (by rfl) T.x__law_step.mg T.x__law_step.kp T.x__law_step.b (va_var 1 (va_var 2 (va_var 3 va_nil)))))) (vb_cons (vs_ret (VQ.e vq_bl)) vb_nil) vb_nil) (vb_cons (vs_if (VW.t (VT.and (VE.tc (ve_eq O hu (ve_call O (ok__law_next (P := P) (w := w) (base := base) T) rfl (hr.mono (by decide)) (by rfl) T.x__law_next.mg T.x__law_next.kp T.x__law_next.b (va_var 1 (va_val (VQ.e vq_int) va_nil))) (VQ.e vq_int))) (VT.and1 (VT.not (VE.t (ve_call O (ok__law_step (P := P) (w := w) (base := base) T) rfl (hr.mono (by decide)) (by rfl) T.x__law_step.mg T.x__law_step.kp T.x__law_step.b (va_var 1 (va_var 4 (va_var 5 va_nil))))))))) (vb_cons (vs_ret (VQ.e vq_bl)) vb_nil) vb_nil) (vb_cons (vs_if (VT.not (VE.t (ve_call O (ok__law_now_right (P := P) (w := w) (base := base) T) rfl (hr.mono (by decide)) (by rfl) T.x__law_now_right.mg T.x__law_now_right.kp T.x__law_now_right.b (va_var 2 (va_var 3 va_nil))))) (vb_cons (vs_ret (VQ.e vq_bl)) vb_nil) vb_nil) vb_nil))) (by rfl) T.b_range) (vb_cons (vs_ret (ve_and (ve_call O (ok__law_moments_right (P := P) (w := w) (base := base) T) rfl (hr.mono (by decide)) (by rfl) T.x__law_moments_right.mg T.x__law_moments_right.kp T.x__law_moments_right.b (va_var 2 (va_var 3 va_nil))) (ve_and (ve_call O (ok__law_now_right (P := P) (w := w) (base := base) T) rfl (hr.mono (by decide)) (by rfl) T.x__law_now_right.mg T.x__law_now_right.kp T.x__law_now_right.b (va_var 4 (va_var 5 va_nil))) (ve_one (ve_call O (ok__law_now_right (P := P) (w := w) (base := base) T) rfl (hr.mono (by decide)) (by rfl) T.x__law_now_right.mg T.x__law_now_right.kp T.x__law_now_right.b (va_var 2 (va_var 3 va_nil))))))) vb_nil)))))))))
end
end Law
namespace Law
open PySem L2 PV
noncomputable section
def tb_ROWED : List (Str × Int) := [("put", 2), ("strike", 0), ("blot", 1), ("lift", 1)]
def m_Well___init__ : MS := (mSeq (mFldN (qV 0) "Well" [] "poured_signs" (mQ (qC (.str "")))) (mSeq (mFldN (qV 0) "Well" ["poured_signs"] "pours" (mLst mNil)) mSkip))
def F_Well___init__ : Fn := runF [.io] 1 m_Well___init__
def m_Blots___init__ : MS := (mSeq (mFldN (qV 0) "Blots" [] "veiled" (mLst mNil)) mSkip)
def F_Blots___init__ : Fn := runF [.io] 1 m_Blots___init__
def m_Ties___init__ : MS := (mSeq (mFldN (qV 0) "Ties" [] "pairs" (mLst mNil)) mSkip)
def F_Ties___init__ : Fn := runF [.io] 1 m_Ties___init__
def m_Dues___init__ : MS := (mSeq (mFldN (qV 0) "Dues" [] "grains" mDNew) mSkip)
def F_Dues___init__ : Fn := runF [.io] 1 m_Dues___init__
def m_Library___init__ : MS := (mSeq (mFldN (qV 0) "Library" [] "well" (mMake "Well" [] F_Well___init__ aNil)) (mSeq (mFldN (qV 0) "Library" ["well"] "blots" (mMake "Blots" [] F_Blots___init__ aNil)) (mSeq (mFldN (qV 0) "Library" ["well", "blots"] "shelf" (mMake "Shelf" [] F_Shelf___init__ aNil)) (mSeq (mFldN (qV 0) "Library" ["well", "blots", "shelf"] "knots" (mMake "Ties" [] F_Ties___init__ aNil)) (mSeq (mFldN (qV 0) "Library" ["well", "blots", "shelf", "knots"] "purse" (mMake "Dues" [] F_Dues___init__ aNil)) (mSeq (mFldN (qV 0) "Library" ["well", "blots", "shelf", "knots", "purse"] "book" (mLst mNil)) mSkip))))))
def F_Library___init__ : Fn := runF [.io] 1 m_Library___init__
def m__law_world : MS := (mSeq (mRet (mDisp [.inr "ink", .inr "rows", .inr "past", .inr "veil"] (mCons (mLst mNil) (mCons (mLst mNil) (mCons (mLst (mCons (mLst mNil) mNil)) (mCons (mLst mNil) mNil)))))) mSkip)
def F__law_world : Fn := runF [] 0 m__law_world
def m__law_keep : MS := (mSeq (mDPut (qV 0) (qC (.str "rows")) (mQ (qV 1))) (mSeq (mExpr (mAppend (qDg (qV 0) (qC (.str "past"))) (mQ (qV 1)))) mSkip))
def F__law_keep : Fn := runF [.io, .fz] 2 m__law_keep
def m_Well_pour : MS := (mSeq (mAsg (mQ (qLen (qFs "Well" ["poured_signs", "pours"] 0 (qV 0)))) (gNm 3)) (mSeq (mFldS (qV 0) "Well" ["poured_signs", "pours"] 0 (mQ (qOp gAdd (qFs "Well" ["poured_signs", "pours"] 0 (qV 0)) (qV 2)))) (mSeq (mAsg (mQ (qLen (qFs "Well" ["poured_signs", "pours"] 0 (qV 0)))) (gNm 4)) (mSeq (mExpr (mAppend (qFs "Well" ["poured_signs", "pours"] 1 (qV 0)) (mTup (mCons (mQ (qV 1)) (mCons (mQ (qV 3)) (mCons (mQ (qV 4)) mNil)))))) (mSeq (mRet (mTup (mCons (mMove 3) (mCons (mMove 4) mNil)))) mSkip)))))
def F_Well_pour : Fn := runF [.io, .bo, .bo] 5 m_Well_pour
def m_shown_stretch : MS := (mSeq (mRet (mAdd (mAdd (mStrI (mQ (qIx (qV 0) (qC (.int 0))))) (mQ (qC (.str "-")))) (mStrI (mQ (qIx (qV 0) (qC (.int 1))))))) mSkip)
def F_shown_stretch : Fn := runF [.bo] 1 m_shown_stretch
def lg_shown_deed_1 : MG := (gNm 3)
def lt_shown_deed_1 : List D → R Bool := mYes
def le_shown_deed_1 : List D → R D := (mCall [.bo] F_shown_stretch (aPth (qV 3) aNil))
def lg_shown_deed_2 : MG := (gNm 3)
def lt_shown_deed_2 : List D → R Bool := mYes
def le_shown_deed_2 : List D → R D := (mCall [.bo] F_shown_stretch (aPth (qV 3) aNil))
def lg_shown_deed_3 : MG := (gNm 4)
def lt_shown_deed_3 : List D → R Bool := mYes
def le_shown_deed_3 : List D → R D := (mStrI (mQ (qV 4)))
def lg_shown_deed_4 : MG := (gNm 3)
def lt_shown_deed_4 : List D → R Bool := mYes
def le_shown_deed_4 : List D → R D := (mCall [.bo] F_shown_stretch (aPth (qV 3) aNil))
def lg_shown_deed_5 : MG := (gNm 4)
def lt_shown_deed_5 : List D → R Bool := mYes
def le_shown_deed_5 : List D → R D := (mStrI (mQ (qV 4)))
def m_shown_deed : MS := (mSeq (mAsg (mQ (qIx (qV 0) (qC (.int 0)))) (gNm 1)) (mSeq (mIf (mTQ (qEq false (qV 1) (qC (.str "pour")))) (mSeq (mRet (mAdd (mAdd (mAdd (mQ (qC (.str "pour "))) (mStrI (mQ (qIx (qV 0) (qC (.int 1)))))) (mQ (qC (.str " ")))) (mQ (qIx (qV 0) (qC (.int 2)))))) mSkip) mSkip) (mSeq (mAsg (mLst (mCons (mQ (qV 1)) mNil)) (gNm 2)) (mSeq (mIf (mTQ (qEq false (qV 1) (qC (.str "tie")))) (mSeq (mExpr (mExtend (qV 2) (mLcL (mQ (qIx (qV 0) (qC (.int 1)))) [3] lg_shown_deed_1 lt_shown_deed_1 le_shown_deed_1))) (mSeq (mExpr (mAppend (qV 2) (mQ (qC (.str "/"))))) (mSeq (mExpr (mExtend (qV 2) (mLcL (mQ (qIx (qV 0) (qC (.int 2)))) [3] lg_shown_deed_2 lt_shown_deed_2 le_shown_deed_2))) mSkip))) (mSeq (mIf (mTQ (qKIn false tb_ROWED (qV 1))) (mSeq (mExpr (mExtend (qV 2) (mLcP (mSlQ (qV 0) (oQ (qC (.int 1))) (oQ (qNeg (qC (.int 1))))) [4] lg_shown_deed_3 lt_shown_deed_3 le_shown_deed_3))) (mSeq (mExpr (mExtend (qV 2) (mLcL (mQ (qIx (qV 0) (qNeg (qC (.int 1))))) [3] lg_shown_deed_4 lt_shown_deed_4 le_shown_deed_4))) mSkip)) (mSeq (mExpr (mExtend (qV 2) (mLcP (mSlQ (qV 0) (oQ (qC (.int 1))) oNo) [4] lg_shown_deed_5 lt_shown_deed_5 le_shown_deed_5))) mSkip)) mSkip)) (mSeq (mRet (mJoin (mQ (qC (.str " "))) (mQ (qV 2)))) mSkip)))))
def F_shown_deed : Fn := runF [.bo] 5 m_shown_deed
def m_Library_note : MS := (mSeq (mExpr (mMethS "Shelf" ["past", "moment"] [.io, .bo] F_Shelf_step (qFs "Library" ["well", "blots", "shelf", "knots", "purse", "book"] 2 (qV 0)) (aPth (qV 2) aNil))) (mSeq (mExpr (mAppend (qFs "Library" ["well", "blots", "shelf", "knots", "purse", "book"] 5 (qV 0)) (mCall [.bo] F_shown_deed (aPth (qV 1) aNil)))) mSkip))
def F_Library_note : Fn := runF [.io, .bo, .bo] 3 m_Library_note
def m_Library_pour : MS := (mSeq (mAsg (mMethS "Well" ["poured_signs", "pours"] [.io, .bo, .bo] F_Well_pour (qFs "Library" ["well", "blots", "shelf", "knots", "purse", "book"] 0 (qV 0)) (aPth (qV 1) (aPth (qV 2) aNil))) (gNm 3)) (mSeq (mExpr (mMethS "Library" ["well", "blots", "shelf", "knots", "purse", "book"] [.io, .bo, .bo] F_Library_note (qV 0) (aVal (mTup (mCons (mQ (qC (.str "pour"))) (mCons (mQ (qV 1)) (mCons (mQ (qV 2)) mNil)))) (aVal (mLst mNil) aNil)))) (mSeq (mRet (mMove 3)) mSkip)))
def F_Library_pour : Fn := runF [.io, .bo, .bo] 4 m_Library_pour
def m_Library_fresh : MS := (mSeq (mAsg (mMethS "Shelf" ["past", "moment"] [.bo] F_Shelf_many (qFs "Library" ["well", "blots", "shelf", "knots", "purse", "book"] 2 (qV 0)) aNil) (gNm 1)) (mSeq (mIf (mTQ (qOp gGe (qV 1) (qC (.int 40)))) (mSeq (mRaise "TooMany") mSkip) mSkip) (mSeq (mExpr (mMethS "Library" ["well", "blots", "shelf", "knots", "purse", "book"] [.io, .bo, .bo] F_Library_note (qV 0) (aVal (mTup (mCons (mQ (qC (.str "fresh"))) mNil)) (aVal (mLst (mCons (mTup (mCons (mQ (qV 1)) (mCons (mLst mNil) mNil))) mNil)) aNil)))) (mSeq (mRet (mMove 1)) mSkip))))
def F_Library_fresh : Fn := runF [.io] 2 m_Library_fresh
def lg__law_show_1 : MG := (gNm 3)
def lb__law_show_1 (R__law_show : Fn) : MS := (mSeq (mIf (mTQ (qOp gLt (qV 3) (qC (.int 0)))) (mSeq (mExpr (mExtend (qV 2) (mCall [.bo, .bo] R__law_show (aPth (qV 0) (aVal (mQ (qOp gSub (qNeg (qC (.int 1))) (qV 3))) aNil))))) mSkip) (mSeq (mExpr (mAppend (qV 2) (mQ (qV 3)))) mSkip)) mSkip)
def m__law_show (R__law_show : Fn) : MS := (mSeq (mAsg (mLst mNil) (gNm 2)) (mSeq (mForL (mQ (qIx (qV 0) (qV 1))) lg__law_show_1 (lb__law_show_1 R__law_show)) (mSeq (mRet (mMove 2)) mSkip)))
def F__law_show : Nat → Fn
  | 0 => fun _ => .stuck
  | n + 1 => runF [.bo, .bo] 4 (m__law_show (F__law_show n))
def F__law_show_top : Fn := F__law_show 45
def lg__law_ink_row_1 : MG := (gNm 4)
def lb__law_ink_row_1 : MS := (mSeq (mAsg (mCall [.io, .bo] F__law_next (aPth (qV 0) (aVal (mQ (qOp gMax (qC (.int 1)) (qV 2))) aNil))) (gNm 5)) (mSeq (mAsg (mAdd (mQ (qC (.int 1))) (mCall [.io, .bo] F__law_next (aPth (qV 0) (aVal (mOp gMax (mQ (qC (.int 1))) (mOp gMin (mIxE (mLst (mCons (mQ (qC (.int 4))) (mCons (mQ (qC (.int 4))) (mCons (mQ (qC (.int 4))) (mCons (mQ (qC (.int 40))) mNil))))) (mCall [.io, .bo] F__law_next (aPth (qV 0) (aVal (mQ (qC (.int 4))) aNil)))) (mQ (qOp gSub (qV 2) (qV 5))))) aNil)))) (gNm 6)) (mSeq (mExpr (mAppend (qV 3) (mTup (mCons (mQ (qV 5)) (mCons (mQ (qOp gAdd (qV 5) (qV 6))) mNil))))) mSkip)))
def m__law_ink_row : MS := (mSeq (mAsg (mQ (qLen (qDg (qV 1) (qC (.str "ink"))))) (gNm 2)) (mSeq (mAsg (mLst mNil) (gNm 3)) (mSeq (mForR1 (mOp gMul (mCall [.io, .bo] F__law_next (aPth (qV 0) (aVal (mQ (qC (.int 3))) aNil))) (mQ (qOp gMin (qC (.int 1)) (qV 2)))) lg__law_ink_row_1 lb__law_ink_row_1) (mSeq (mRet (mMove 3)) mSkip))))
def F__law_ink_row : Fn := runF [.io, .bo] 7 m__law_ink_row
def m__law_move_by : MS := (mSeq (mAsg (mCall [.io, .bo] F__law_next (aPth (qV 0) (aVal (mQ (qOp gAdd (qV 2) (qC (.int 1)))) aNil))) (gNm 3)) (mSeq (mAsg (mAdd (mQ (qV 3)) (mCall [.io, .bo] F__law_next (aPth (qV 0) (aVal (mQ (qOp gAdd (qOp gSub (qV 2) (qV 3)) (qC (.int 1)))) aNil)))) (gNm 4)) (mSeq (mIf (mTE (mEq false (mCall [.io, .bo] F__law_next (aPth (qV 0) (aVal (mQ (qC (.int 2))) aNil))) (mQ (qC (.int 0))))) (mSeq (mRet (mTup (mCons (mQ (qC (.str "cut"))) (mCons (mQ (qV 1)) (mCons (mMove 3) (mCons (mMove 4) mNil)))))) mSkip) mSkip) (mSeq (mRet (mTup (mCons (mQ (qC (.str "move"))) (mCons (mQ (qV 1)) (mCons (mQ (qV 3)) (mCons (mQ (qV 4)) (mCons (mCall [.io, .bo] F__law_next (aPth (qV 0) (aVal (mQ (qOp gAdd (qOp gAdd (qOp gSub (qV 2) (qV 4)) (qV 3)) (qC (.int 1)))) aNil))) mNil))))))) mSkip))))
def F__law_move_by : Fn := runF [.io, .bo, .bo] 5 m__law_move_by
def m__law_draw : MS := (mSeq (mAsg (mQ (qDg (qV 1) (qC (.str "rows")))) (gNm 2)) (mSeq (mAsg (mCall [.io, .bo] F__law_next (aPth (qV 0) (aVal (mQ (qC (.int 13))) aNil))) (gNm 3)) (mSeq (mAsg (mCall [.io, .bo] F__law_next (aPth (qV 0) (aVal (mQ (qLen (qV 2))) aNil))) (gNm 4)) (mSeq (mAsg (mCall [.io, .bo] F__law_next (aPth (qV 0) (aVal (mQ (qLen (qV 2))) aNil))) (gNm 5)) (mSeq (mAsg (mLen (mCall [.bo, .bo] F__law_show_top (aPth (qV 2) (aPth (qV 4) aNil)))) (gNm 6)) (mSeq (mAsg (mCall [.io, .bo] F__law_next (aPth (qV 0) (aVal (mQ (qOp gAdd (qV 6) (qC (.int 1)))) aNil))) (gNm 7)) (mSeq (mIf (mTQ (qOp gLt (qV 3) (qC (.int 4)))) (mSeq (mRet (mTup (mCons (mQ (qC (.str "put"))) (mCons (mMove 4) (mCons (mMove 7) (mCons (mCall [.io, .bo] F__law_ink_row (aPth (qV 0) (aPth (qV 1) aNil))) mNil)))))) mSkip) mSkip) (mSeq (mIf (mTQ (qOp gLt (qV 3) (qC (.int 7)))) (mSeq (mRet (mCall [.io, .bo, .bo] F__law_move_by (aPth (qV 0) (aPth (qV 4) (aPth (qV 6) aNil))))) mSkip) mSkip) (mSeq (mIf (mTQ (qOp gLt (qV 3) (qC (.int 9)))) (mSeq (mAsg (mLen (mCall [.bo, .bo] F__law_show_top (aPth (qV 2) (aPth (qV 5) aNil)))) (gNm 6)) (mSeq (mAsg (mCall [.io, .bo] F__law_next (aPth (qV 0) (aVal (mQ (qOp gAdd (qV 6) (qC (.int 1)))) aNil))) (gNm 8)) (mSeq (mRet (mTup (mCons (mQ (qC (.str "quote"))) (mCons (mMove 4) (mCons (mMove 7) (mCons (mMove 5) (mCons (mQ (qV 8)) (mCons (mAdd (mQ (qV 8)) (mCall [.io, .bo] F__law_next (aPth (qV 0) (aVal (mQ (qOp gAdd (qOp gSub (qV 6) (qV 8)) (qC (.int 1)))) aNil)))) mNil)))))))) mSkip))) mSkip) (mSeq (mIf (mTQ (qOp gLt (qV 3) (qC (.int 12)))) (mSeq (mRet (mTup (mCons (mQ (qC (.str "window"))) (mCons (mMove 4) (mCons (mMove 7) (mCons (mMove 5) mNil)))))) mSkip) mSkip) (mSeq (mRet (mTup (mCons (mQ (qC (.str "fix"))) (mCons (mMove 4) mNil)))) mSkip)))))))))))
def F__law_draw : Fn := runF [.io, .bo] 9 m__law_draw
def m__law_swap : MS := (mSeq (mAsg (mListQ (qV 0)) (gNm 3)) (mSeq (mAsg (mQ (qV 2)) (gIx (qV 3) (qV 1))) (mSeq (mRet (mMove 3)) mSkip)))
def F__law_swap : Fn := runF [.bo, .bo, .fz] 4 m__law_swap
def m__law_pieces : MS := (mSeq (mIf (mTQ (qOp gLt (qV 1) (qC (.int 0)))) (mSeq (mRet (mCall [.bo, .bo] F__law_show_top (aPth (qV 0) (aVal (mQ (qOp gSub (qNeg (qC (.int 1))) (qV 1))) aNil)))) mSkip) mSkip) (mSeq (mRet (mLst (mCons (mQ (qV 1)) mNil))) mSkip))
def F__law_pieces : Fn := runF [.bo, .bo] 2 m__law_pieces
def lg__law_put_1 : MG := (gNm 7)
def lb__law_put_1 : MS := (mSeq (mAsg (mCall [.bo, .bo] F__law_pieces (aPth (qV 0) (aPth (qV 7) aNil))) (gNm 8)) (mSeq (mAsg (mQ (qOp gAdd (qV 6) (qLen (qV 8)))) (gNm 9)) (mSeq (mIf (mTQ (qOp gLe (qV 9) (qV 2))) (mSeq (mExpr (mAppend (qV 4) (mQ (qV 7)))) mSkip) (mSeq (mIf (mTQ (qOp gLe (qV 2) (qV 6))) (mSeq (mExpr (mAppend (qV 5) (mQ (qV 7)))) mSkip) (mSeq (mExpr (mExtend (qV 4) (mSlQ (qV 8) oNo (oQ (qOp gSub (qV 2) (qV 6)))))) (mSeq (mExpr (mExtend (qV 5) (mSlQ (qV 8) (oQ (qOp gSub (qV 2) (qV 6))) oNo))) mSkip))) mSkip)) (mSeq (mAsg (mQ (qV 9)) (gNm 6)) mSkip))))
def m__law_put : MS := (mSeq (mIf (mTQ (qEq false (qLen (qV 3)) (qC (.int 0)))) (mSeq (mRet (mListQ (qIx (qV 0) (qV 1)))) mSkip) mSkip) (mSeq (mAsg (mLst mNil) (gNm 4)) (mSeq (mAsg (mLst mNil) (gNm 5)) (mSeq (mAsg (mQ (qC (.int 0))) (gNm 6)) (mSeq (mForL (mQ (qIx (qV 0) (qV 1))) lg__law_put_1 lb__law_put_1) (mSeq (mRet (mAdd (mAdd (mQ (qV 4)) (mQ (qV 3))) (mQ (qV 5)))) mSkip))))))
def F__law_put : Fn := runF [.bo, .bo, .bo, .bo] 10 m__law_put
def lg__law_spell_1 : MG := (gTu 2 (gC1 (gNm 2) (gC1 (gNm 3) gN0)))
def lb__law_spell_1 : MS := (mSeq (mExpr (mExtend (qV 1) (mListR (mQ (qV 2)) (mQ (qV 3))))) mSkip)
def m__law_spell : MS := (mSeq (mAsg (mLst mNil) (gNm 1)) (mSeq (mForL (mQ (qV 0)) lg__law_spell_1 lb__law_spell_1) (mSeq (mRet (mMove 1)) mSkip)))
def F__law_spell : Fn := runF [.bo] 4 m__law_spell
def lg__law_cut_1 : MG := (gNm 7)
def lb__law_cut_1 : MS := (mSeq (mAsg (mCall [.bo, .bo] F__law_pieces (aPth (qV 0) (aPth (qV 7) aNil))) (gNm 8)) (mSeq (mAsg (mQ (qOp gAdd (qV 6) (qLen (qV 8)))) (gNm 9)) (mSeq (mAsg (mQ (qOp gMax (qC (.int 0)) (qOp gSub (qV 2) (qV 6)))) (gNm 10)) (mSeq (mAsg (mQ (qOp gSub (qOp gMin (qV 9) (qV 3)) (qV 6))) (gNm 11)) (mSeq (mIf (mOrT (mTQ (qEq false (qV 2) (qV 3))) (mOrT (mTQ (qOp gLe (qV 9) (qV 2))) (mTQ (qOp gLe (qV 3) (qV 6))))) (mSeq (mExpr (mAppend (qV 4) (mQ (qV 7)))) mSkip) (mSeq (mIf (mAndT (mTQ (qOp gLe (qV 2) (qV 6))) (mTQ (qOp gLe (qV 9) (qV 3)))) (mSeq (mExpr (mAppend (qV 5) (mQ (qV 7)))) mSkip) (mSeq (mExpr (mExtend (qV 4) (mAdd (mSlQ (qV 8) oNo (oQ (qV 10))) (mSlQ (qV 8) (oQ (qV 11)) oNo)))) (mSeq (mExpr (mExtend (qV 5) (mSlQ (qV 8) (oQ (qV 10)) (oQ (qV 11))))) mSkip))) mSkip)) (mSeq (mAsg (mQ (qV 9)) (gNm 6)) mSkip))))))
def m__law_cut : MS := (mSeq (mAsg (mLst mNil) (gNm 4)) (mSeq (mAsg (mLst mNil) (gNm 5)) (mSeq (mAsg (mQ (qC (.int 0))) (gNm 6)) (mSeq (mForL (mQ (qIx (qV 0) (qV 1))) lg__law_cut_1 lb__law_cut_1) (mSeq (mRet (mTup (mCons (mMove 4) (mCons (mMove 5) mNil)))) mSkip)))))
def F__law_cut : Fn := runF [.bo, .bo, .bo, .bo] 12 m__law_cut
def m__law_after : MS := (mSeq (mAsg (mQ (qDg (qV 0) (qC (.str "rows")))) (gNm 2)) (mSeq (mAsg (mQ (qIx (qV 1) (qC (.int 0)))) (gNm 3)) (mSeq (mIf (mTQ (qEq false (qV 3) (qC (.str "put")))) (mSeq (mRet (mCall [.bo, .bo, .bo, .bo] F__law_put (aPth (qV 2) (aPth (qIx (qV 1) (qC (.int 1))) (aPth (qIx (qV 1) (qC (.int 2))) (aVal (mCall [.bo] F__law_spell (aPth (qIx (qV 1) (qC (.int 3))) aNil)) aNil)))))) mSkip) mSkip) (mSeq (mIf (mTQ (qEq false (qV 3) (qC (.str "cut")))) (mSeq (mRet (mIxE (mCall [.bo, .bo, .bo, .bo] F__law_cut (aPth (qV 2) (aPth (qIx (qV 1) (qC (.int 1))) (aPth (qIx (qV 1) (qC (.int 2))) (aPth (qIx (qV 1) (qC (.int 3))) aNil))))) (mQ (qC (.int 0))))) mSkip) mSkip) (mSeq (mIf (mTQ (qEq false (qV 3) (qC (.str "move")))) (mSeq (mAsg (mCall [.bo, .bo, .bo, .bo] F__law_cut (aPth (qV 2) (aPth (qIx (qV 1) (qC (.int 1))) (aPth (qIx (qV 1) (qC (.int 2))) (aPth (qIx (qV 1) (qC (.int 3))) aNil))))) (gTu 2 (gC1 (gNm 4) (gC1 (gNm 5) gN0)))) (mSeq (mRet (mCall [.bo, .bo, .bo, .bo] F__law_put (aVal (mCall [.bo, .bo, .fz] F__law_swap (aPth (qV 2) (aPth (qIx (qV 1) (qC (.int 1))) (aPth (qV 4) aNil)))) (aPth (qIx (qV 1) (qC (.int 1))) (aPth (qIx (qV 1) (qC (.int 4))) (aPth (qV 5) aNil)))))) mSkip)) mSkip) (mSeq (mIf (mTQ (qEq false (qV 3) (qC (.str "quote")))) (mSeq (mRet (mCall [.bo, .bo, .bo, .bo] F__law_put (aPth (qV 2) (aPth (qIx (qV 1) (qC (.int 1))) (aPth (qIx (qV 1) (qC (.int 2))) (aVal (mSlV (mCall [.bo, .bo] F__law_show_top (aPth (qV 2) (aPth (qIx (qV 1) (qC (.int 3))) aNil))) (oQ (qIx (qV 1) (qC (.int 4)))) (oQ (qIx (qV 1) (qC (.int 5))))) aNil)))))) mSkip) mSkip) (mSeq (mIf (mTQ (qEq false (qV 3) (qC (.str "window")))) (mSeq (mRet (mCall [.bo, .bo, .bo, .bo] F__law_put (aPth (qV 2) (aPth (qIx (qV 1) (qC (.int 1))) (aPth (qIx (qV 1) (qC (.int 2))) (aVal (mLst (mCons (mQ (qOp gSub (qNeg (qC (.int 1))) (qIx (qV 1) (qC (.int 3))))) mNil)) aNil)))))) mSkip) mSkip) (mSeq (mIf (mTQ (qEq false (qV 3) (qC (.str "fix")))) (mSeq (mRet (mCall [.bo, .bo] F__law_show_top (aPth (qV 2) (aPth (qIx (qV 1) (qC (.int 1))) aNil)))) mSkip) mSkip) (mSeq (mRet (mQ (qIx (qIx (qDg (qV 0) (qC (.str "past"))) (qIx (qV 1) (qC (.int 2)))) (qIx (qV 1) (qC (.int 1)))))) mSkip)))))))))
def F__law_after : Fn := runF [.bo, .bo] 6 m__law_after
def lg__law_reached_1 : MG := (gNm 5)
def lb__law_reached_1 : MS := (mSeq (mIf (mAndT (mTQ (qOp gLt (qV 5) (qC (.int 0)))) (mTQ (qIn true (qOp gSub (qNeg (qC (.int 1))) (qV 5)) (qV 2)))) (mSeq (mExpr (mAppend (qV 2) (mQ (qOp gSub (qNeg (qC (.int 1))) (qV 5))))) (mSeq (mExpr (mAppend (qV 3) (mQ (qOp gSub (qNeg (qC (.int 1))) (qV 5))))) mSkip)) mSkip) mSkip)
def lw__law_reached_2 : List D → R Bool := (mTQ (qOp gGt (qLen (qV 3)) (qC (.int 0))))
def lb__law_reached_2 : MS := (mSeq (mAsg (mMeth0 popF (qV 3)) (gNm 4)) (mSeq (mForL (mQ (qIx (qV 0) (qV 4))) lg__law_reached_1 lb__law_reached_1) mSkip))
def m__law_reached : MS := (mSeq (mAsg (mLst mNil) (gNm 2)) (mSeq (mAsg (mLst (mCons (mQ (qV 1)) mNil)) (gNm 3)) (mSeq (whL lw__law_reached_2 lb__law_reached_2 1000) (mSeq (mRet (mMove 2)) mSkip))))
def F__law_reached : Fn := runF [.bo, .bo] 6 m__law_reached
def lg__law_weighed_1 : MG := (gNm 3)
def lb__law_weighed_1 (R__law_weighed : Fn) : MS := (mSeq (mAsg (mQ (qOp gAdd (qV 2) (qC (.int 1)))) (gNm 2)) (mSeq (mIf (mTQ (qOp gLt (qV 3) (qC (.int 0)))) (mSeq (mAsg (mAdd (mQ (qV 2)) (mCall [.bo, .bo] R__law_weighed (aPth (qV 0) (aVal (mQ (qOp gSub (qNeg (qC (.int 1))) (qV 3))) aNil)))) (gNm 2)) mSkip) mSkip) mSkip))
def m__law_weighed (R__law_weighed : Fn) : MS := (mSeq (mAsg (mQ (qC (.int 0))) (gNm 2)) (mSeq (mForL (mQ (qIx (qV 0) (qV 1))) lg__law_weighed_1 (lb__law_weighed_1 R__law_weighed)) (mSeq (mRet (mMove 2)) mSkip)))
def F__law_weighed : Nat → Fn
  | 0 => fun _ => .stuck
  | n + 1 => runF [.bo, .bo] 4 (m__law_weighed (F__law_weighed n))
def F__law_weighed_top : Fn := F__law_weighed 45
def lg__law_fits_1 : MG := (gNm 2)
def lt__law_fits_1 : List D → R Bool := mYes
def le__law_fits_1 : List D → R D := (mCall [.bo, .bo] F__law_weighed_top (aPth (qV 0) (aPth (qV 2) aNil)))
def m__law_fits : MS := (mSeq (mIf (mTE (mIn false (mQ (qV 1)) (mCall [.bo, .bo] F__law_reached (aPth (qV 0) (aPth (qV 1) aNil))))) (mSeq (mRet (mQ (qC (.bl false)))) mSkip) mSkip) (mSeq (mRet (mOp gLe (mMaxL (mLcRC1 (mQ (qLen (qV 0))) [2] lg__law_fits_1 lt__law_fits_1 le__law_fits_1)) (mQ (qC (.int 200))))) mSkip))
def F__law_fits : Fn := runF [.bo, .bo] 3 m__law_fits
def lg_size_1 : MG := (gTu 2 (gC1 (gNm 2) (gC1 (gNm 3) gN0)))
def lb_size_1 : MS := (mSeq (mAsg (mQ (qOp gSub (qOp gAdd (qV 1) (qV 3)) (qV 2))) (gNm 1)) mSkip)
def m_size : MS := (mSeq (mAsg (mQ (qC (.int 0))) (gNm 1)) (mSeq (mForL (mQ (qV 0)) lg_size_1 lb_size_1) (mSeq (mRet (mMove 1)) mSkip)))
def F_size : Fn := runF [.bo] 4 m_size
def lg_plain_1 : MG := (gTu 2 (gC1 (gNm 2) (gC1 (gNm 3) gN0)))
def lb_plain_1 : MS := (mSeq (mIf (mTQ (qEq false (qV 2) (qV 3))) (mSeq mCont mSkip) mSkip) (mSeq (mIf (mAndT (mTQ (qOp gGt (qLen (qV 1)) (qC (.int 0)))) (mTQ (qEq false (qIx (qIx (qV 1) (qNeg (qC (.int 1)))) (qC (.int 1))) (qV 2)))) (mSeq (mAsg (mTup (mCons (mQ (qIx (qIx (qV 1) (qNeg (qC (.int 1)))) (qC (.int 0)))) (mCons (mQ (qV 3)) mNil))) (gIx (qV 1) (qNeg (qC (.int 1))))) mSkip) (mSeq (mExpr (mAppend (qV 1) (mTup (mCons (mQ (qV 2)) (mCons (mQ (qV 3)) mNil))))) mSkip)) mSkip))
def m_plain : MS := (mSeq (mAsg (mLst mNil) (gNm 1)) (mSeq (mForL (mQ (qV 0)) lg_plain_1 lb_plain_1) (mSeq (mRet (mMove 1)) mSkip)))
def F_plain : Fn := runF [.bo] 4 m_plain
def lg_gathered_1 : MG := (gNm 4)
def lb_gathered_1 (R_gathered : Fn) : MS := (mSeq (mIf (mTQ (qEq false (qIx (qV 4) (qC (.int 0))) (qC (.str "ink")))) (mSeq (mExpr (mAppend (qV 3) (mTup (mCons (mQ (qIx (qV 4) (qC (.int 1)))) (mCons (mQ (qIx (qV 4) (qC (.int 2)))) mNil))))) mSkip) (mSeq (mExpr (mExtend (qV 3) (mCall [.bo, .bo, .io] R_gathered (aPth (qV 0) (aPth (qIx (qV 4) (qC (.int 1))) (aPth (qV 2) aNil)))))) mSkip)) mSkip)
def m_gathered (R_gathered : Fn) : MS := (mSeq (mIf (mTQ (qDin false (qV 1) (qV 2))) (mSeq (mRet (mQ (qDg (qV 2) (qV 1)))) mSkip) mSkip) (mSeq (mAsg (mLst mNil) (gNm 3)) (mSeq (mForL (mQ (qIx (qV 0) (qV 1))) lg_gathered_1 (lb_gathered_1 R_gathered)) (mSeq (mDPut (qV 2) (qV 1) (mCall [.bo] F_plain (aPth (qV 3) aNil))) (mSeq (mRet (mQ (qDg (qV 2) (qV 1)))) mSkip)))))
def F_gathered : Nat → Fn
  | 0 => fun _ => .stuck
  | n + 1 => runF [.bo, .bo, .io] 5 (m_gathered (F_gathered n))
def F_gathered_top : Fn := F_gathered 45
def m_shown : MS := (mSeq (mRet (mListE (mCall [.bo, .bo, .io] F_gathered_top (aPth (qV 0) (aPth (qV 1) (aVal mDNew aNil)))))) mSkip)
def F_shown : Fn := runF [.bo, .bo] 2 m_shown
def m_Library_shown : MS := (mSeq (mExpr (mMethS "Shelf" ["past", "moment"] [.bo, .bo] F_Shelf_look (qFs "Library" ["well", "blots", "shelf", "knots", "purse", "book"] 2 (qV 0)) (aPth (qV 1) aNil))) (mSeq (mRet (mCall [.bo, .bo] F_shown (aVal (mMethS "Shelf" ["past", "moment"] [.bo] F_Shelf_rows (qFs "Library" ["well", "blots", "shelf", "knots", "purse", "book"] 2 (qV 0)) aNil) (aPth (qV 1) aNil)))) mSkip))
def F_Library_shown : Fn := runF [.bo, .bo] 2 m_Library_shown
def m_Library_size : MS := (mSeq (mRet (mCall [.bo] F_size (aVal (mMethS "Library" ["well", "blots", "shelf", "knots", "purse", "book"] [.bo, .bo] F_Library_shown (qV 0) (aPth (qV 1) aNil)) aNil))) mSkip)
def F_Library_size : Fn := runF [.bo, .bo] 2 m_Library_size
def m_Library_look_place : MS := (mSeq (mExpr (mMethS "Shelf" ["past", "moment"] [.bo, .bo] F_Shelf_look (qFs "Library" ["well", "blots", "shelf", "knots", "purse", "book"] 2 (qV 0)) (aPth (qV 1) aNil))) (mSeq (mIf (mNotT (mAndT (mTQ (qOp gLe (qC (.int 0)) (qV 2))) (mAndT (mTQ (qOp gLe (qV 2) (qV 3))) (mTE (mOp gLe (mQ (qV 3)) (mMethS "Library" ["well", "blots", "shelf", "knots", "purse", "book"] [.bo, .bo] F_Library_size (qV 0) (aPth (qV 1) aNil))))))) (mSeq (mRaise "OutOfPlace") mSkip) mSkip) mSkip))
def F_Library_look_place : Fn := runF [.bo, .bo, .bo, .bo] 4 m_Library_look_place
def lg_Well_holds_1 : MG := (gTu 2 (gC1 (gNm 2) (gC1 (gNm 3) gN0)))
def lb_Well_holds_1 : MS := (mSeq (mIf (mNotT (mAndT (mTQ (qOp gLe (qC (.int 0)) (qV 2))) (mAndT (mTQ (qOp gLt (qV 2) (qV 3))) (mTQ (qOp gLe (qV 3) (qLen (qFs "Well" ["poured_signs", "pours"] 0 (qV 0)))))))) (mSeq (mRet (mQ (qC (.bl false)))) mSkip) mSkip) mSkip)
def m_Well_holds : MS := (mSeq (mForL (mQ (qV 1)) lg_Well_holds_1 lb_Well_holds_1) (mSeq (mRet (mQ (qC (.bl true)))) mSkip))
def F_Well_holds : Fn := runF [.bo, .bo] 4 m_Well_holds
def m_Library_look_ink : MS := (mSeq (mIf (mNotT (mTE (mMethS "Well" ["poured_signs", "pours"] [.bo, .bo] F_Well_holds (qFs "Library" ["well", "blots", "shelf", "knots", "purse", "book"] 0 (qV 0)) (aPth (qV 1) aNil)))) (mSeq (mRaise "OutOfInk") mSkip) mSkip) mSkip)
def F_Library_look_ink : Fn := runF [.bo, .bo] 2 m_Library_look_ink
def m_look : MS := (mSeq (mIf (mNotT (mAndT (mTQ (qOp gLe (qC (.int 0)) (qV 2))) (mAndT (mTQ (qOp gLe (qV 2) (qV 3))) (mTE (mOp gLe (mQ (qV 3)) (mCall [.bo] F_size (aVal (mCall [.bo, .bo] F_shown (aPth (qV 0) (aPth (qV 1) aNil))) aNil))))))) (mSeq (mRaise "OutOfPlace") mSkip) mSkip) mSkip)
def F_look : Fn := runF [.bo, .bo, .bo, .bo] 4 m_look
def lg_plain_items_1 : MG := (gNm 2)
def lb_plain_items_1 : MS := (mSeq (mAsg (mQ (qC (.bl false))) (gNm 3)) (mSeq (mIf (mAndT (mTQ (qEq false (qIx (qV 2) (qC (.int 0))) (qC (.str "ink")))) (mAndT (mTQ (qOp gGt (qLen (qV 1)) (qC (.int 0)))) (mTQ (qEq false (qIx (qIx (qV 1) (qNeg (qC (.int 1)))) (qC (.int 0))) (qC (.str "ink")))))) (mSeq (mAsg (mQ (qEq false (qIx (qIx (qV 1) (qNeg (qC (.int 1)))) (qC (.int 2))) (qIx (qV 2) (qC (.int 1))))) (gNm 3)) mSkip) mSkip) (mSeq (mIf (mTQ (qV 3)) (mSeq (mAsg (mTup (mCons (mQ (qC (.str "ink"))) (mCons (mQ (qIx (qIx (qV 1) (qNeg (qC (.int 1)))) (qC (.int 1)))) (mCons (mQ (qIx (qV 2) (qC (.int 2)))) mNil)))) (gIx (qV 1) (qNeg (qC (.int 1))))) mSkip) (mSeq (mExpr (mAppend (qV 1) (mQ (qV 2)))) mSkip)) mSkip)))
def m_plain_items : MS := (mSeq (mAsg (mLst mNil) (gNm 1)) (mSeq (mForL (mQ (qV 0)) lg_plain_items_1 lb_plain_items_1) (mSeq (mRet (mMove 1)) mSkip)))
def F_plain_items : Fn := runF [.bo] 4 m_plain_items
def lg_inked_1 : MG := (gTu 2 (gC1 (gNm 1) (gC1 (gNm 2) gN0)))
def lt_inked_1 : List D → R Bool := (mTQ (qOp gLt (qV 1) (qV 2)))
def le_inked_1 : List D → R D := (mTup (mCons (mQ (qC (.str "ink"))) (mCons (mQ (qV 1)) (mCons (mQ (qV 2)) mNil))))
def m_inked : MS := (mSeq (mRet (mCall [.bo] F_plain_items (aVal (mLcL (mQ (qV 0)) [1, 2] lg_inked_1 lt_inked_1 le_inked_1) aNil))) mSkip)
def F_inked : Fn := runF [.bo] 3 m_inked
def lg_part_1 : MG := (gTu 2 (gC1 (gNm 5) (gC1 (gNm 6) gN0)))
def lb_part_1 : MS := (mSeq (mAsg (mQ (qOp gMax (qV 5) (qOp gSub (qOp gAdd (qV 5) (qV 1)) (qV 4)))) (gNm 7)) (mSeq (mAsg (mQ (qOp gMin (qV 6) (qOp gSub (qOp gAdd (qV 5) (qV 2)) (qV 4)))) (gNm 8)) (mSeq (mIf (mTQ (qOp gLt (qV 7) (qV 8))) (mSeq (mExpr (mAppend (qV 3) (mTup (mCons (mQ (qV 7)) (mCons (mQ (qV 8)) mNil))))) mSkip) mSkip) (mSeq (mAsg (mQ (qOp gSub (qOp gAdd (qV 4) (qV 6)) (qV 5))) (gNm 4)) mSkip))))
def m_part : MS := (mSeq (mIf (mNotT (mAndT (mTQ (qOp gLe (qC (.int 0)) (qV 1))) (mAndT (mTQ (qOp gLe (qV 1) (qV 2))) (mTE (mOp gLe (mQ (qV 2)) (mCall [.bo] F_size (aPth (qV 0) aNil))))))) (mSeq (mRaise "OutOfPlace") mSkip) mSkip) (mSeq (mAsg (mLst mNil) (gNm 3)) (mSeq (mAsg (mQ (qC (.int 0))) (gNm 4)) (mSeq (mForL (mQ (qV 0)) lg_part_1 lb_part_1) (mSeq (mRet (mCall [.bo] F_plain (aPth (qV 3) aNil))) mSkip)))))
def F_part : Fn := runF [.bo, .bo, .bo] 9 m_part
def m_item_row : MS := (mSeq (mIf (mTQ (qEq false (qIx (qV 1) (qC (.int 0))) (qC (.str "ink")))) (mSeq (mRet (mLst (mCons (mTup (mCons (mQ (qIx (qV 1) (qC (.int 1)))) (mCons (mQ (qIx (qV 1) (qC (.int 2)))) mNil))) mNil))) mSkip) mSkip) (mSeq (mRet (mCall [.bo, .bo] F_shown (aPth (qV 0) (aPth (qIx (qV 1) (qC (.int 1))) aNil)))) mSkip))
def F_item_row : Fn := runF [.bo, .bo] 2 m_item_row
def lg_laid_1 : MG := (gNm 4)
def lb_laid_1 : MS := (mSeq (mAsg (mCall [.bo, .bo] F_item_row (aPth (qV 0) (aPth (qV 4) aNil))) (gNm 5)) (mSeq (mAsg (mAdd (mQ (qV 3)) (mCall [.bo] F_size (aPth (qV 5) aNil))) (gNm 6)) (mSeq (mExpr (mAppend (qV 2) (mTup (mCons (mQ (qV 4)) (mCons (mQ (qV 3)) (mCons (mQ (qV 6)) (mCons (mQ (qV 5)) mNil))))))) (mSeq (mAsg (mQ (qV 6)) (gNm 3)) mSkip))))
def m_laid : MS := (mSeq (mAsg (mLst mNil) (gNm 2)) (mSeq (mAsg (mQ (qC (.int 0))) (gNm 3)) (mSeq (mForL (mQ (qIx (qV 0) (qV 1))) lg_laid_1 lb_laid_1) (mSeq (mRet (mMove 2)) mSkip))))
def F_laid : Fn := runF [.bo, .bo] 7 m_laid
def lg_put_items_1 : MG := (gTu 4 (gC1 (gNm 6) (gC1 (gNm 7) (gC1 (gNm 8) (gC1 (gNm 9) gN0)))))
def lb_put_items_1 : MS := (mSeq (mIf (mTQ (qOp gLe (qV 8) (qV 2))) (mSeq (mExpr (mAppend (qV 4) (mQ (qV 6)))) mSkip) (mSeq (mIf (mTQ (qOp gLe (qV 2) (qV 7))) (mSeq (mExpr (mAppend (qV 5) (mQ (qV 6)))) mSkip) (mSeq (mExpr (mExtend (qV 4) (mCall [.bo] F_inked (aVal (mCall [.bo, .bo, .bo] F_part (aPth (qV 9) (aVal (mQ (qC (.int 0))) (aVal (mQ (qOp gSub (qV 2) (qV 7))) aNil)))) aNil)))) (mSeq (mExpr (mExtend (qV 5) (mCall [.bo] F_inked (aVal (mCall [.bo, .bo, .bo] F_part (aPth (qV 9) (aVal (mQ (qOp gSub (qV 2) (qV 7))) (aVal (mQ (qOp gSub (qV 8) (qV 7))) aNil)))) aNil)))) mSkip))) mSkip)) mSkip)
def m_put_items : MS := (mSeq (mExpr (mCall [.bo, .bo, .bo, .bo] F_look (aPth (qV 0) (aPth (qV 1) (aPth (qV 2) (aPth (qV 2) aNil)))))) (mSeq (mIf (mTQ (qEq false (qLen (qV 3)) (qC (.int 0)))) (mSeq (mRet (mCall [.bo] F_plain_items (aPth (qIx (qV 0) (qV 1)) aNil))) mSkip) mSkip) (mSeq (mAsg (mLst mNil) (gNm 4)) (mSeq (mAsg (mLst mNil) (gNm 5)) (mSeq (mForL (mCall [.bo, .bo] F_laid (aPth (qV 0) (aPth (qV 1) aNil))) lg_put_items_1 lb_put_items_1) (mSeq (mRet (mCall [.bo] F_plain_items (aVal (mAdd (mAdd (mQ (qV 4)) (mListQ (qV 3))) (mQ (qV 5))) aNil))) mSkip))))))
def F_put_items : Fn := runF [.bo, .bo, .bo, .bo] 10 m_put_items
def lw_way_round_1 : List D → R Bool := (mTQ (qEq true (qV 2) (qV 1)))
def lb_way_round_1 : MS := (mSeq (mExpr (mInsert (qV 3) (mQ (qC (.int 0))) (mQ (qV 2)))) (mSeq (mAsg (mQ (qDg (qV 0) (qV 2))) (gNm 2)) mSkip))
def m_way_round : MS := (mSeq (mAsg (mLst (mCons (mQ (qV 1)) mNil)) (gNm 3)) (mSeq (whL lw_way_round_1 lb_way_round_1 1000) (mSeq (mRet (mAdd (mLst (mCons (mQ (qV 1)) mNil)) (mQ (qV 3)))) mSkip)))
def F_way_round : Fn := runF [.bo, .bo, .bo] 4 m_way_round
def lg_windows_1 : MG := (gNm 1)
def lt_windows_1 : List D → R Bool := (mTQ (qEq false (qIx (qV 1) (qC (.int 0))) (qC (.str "win"))))
def le_windows_1 : List D → R D := (mQ (qIx (qV 1) (qC (.int 1))))
def m_windows : MS := (mSeq (mRet (mLcL (mQ (qV 0)) [1] lg_windows_1 lt_windows_1 le_windows_1)) mSkip)
def F_windows : Fn := runF [.bo] 2 m_windows
def lg_ring_1 : MG := (gNm 5)
def lb_ring_1 : MS := (mSeq (mIf (mTQ (qEq false (qV 5) (qV 1))) (mSeq (mRet (mCall [.bo, .bo, .bo] F_way_round (aPth (qV 2) (aPth (qV 1) (aPth (qV 4) aNil))))) mSkip) mSkip) (mSeq (mIf (mTQ (qDin true (qV 5) (qV 2))) (mSeq (mDPut (qV 2) (qV 5) (mQ (qV 4))) (mSeq (mExpr (mAppend (qV 3) (mQ (qV 5)))) mSkip)) mSkip) mSkip))
def lw_ring_2 : List D → R Bool := (mTQ (qOp gGt (qLen (qV 3)) (qC (.int 0))))
def lb_ring_2 : MS := (mSeq (mAsg (mMeth1 popAtF (qV 3) (mQ (qC (.int 0)))) (gNm 4)) (mSeq (mForL (mCall [.bo] F_windows (aPth (qIx (qV 0) (qV 4)) aNil)) lg_ring_1 lb_ring_1) mSkip))
def m_ring : MS := (mSeq (mAsg mDNew (gNm 2)) (mSeq (mAsg (mLst (mCons (mQ (qV 1)) mNil)) (gNm 3)) (mSeq (whL lw_ring_2 lb_ring_2 1000) (mSeq (mRet (mQ (qC .non))) mSkip))))
def F_ring : Fn := runF [.fz, .bo] 6 m_ring
def lg_weighed_1 : MG := (gNm 4)
def lb_weighed_1 (R_weighed : Fn) : MS := (mSeq (mIf (mTQ (qEq false (qIx (qV 4) (qC (.int 0))) (qC (.str "ink")))) (mSeq (mAsg (mQ (qOp gSub (qOp gAdd (qV 3) (qIx (qV 4) (qC (.int 2)))) (qIx (qV 4) (qC (.int 1))))) (gNm 3)) mSkip) (mSeq (mAsg (mAdd (mQ (qOp gAdd (qV 3) (qC (.int 1)))) (mCall [.bo, .bo, .io] R_weighed (aPth (qV 0) (aPth (qIx (qV 4) (qC (.int 1))) (aPth (qV 2) aNil))))) (gNm 3)) mSkip)) mSkip)
def m_weighed (R_weighed : Fn) : MS := (mSeq (mIf (mTQ (qDin false (qV 1) (qV 2))) (mSeq (mRet (mQ (qDg (qV 2) (qV 1)))) mSkip) mSkip) (mSeq (mAsg (mQ (qC (.int 0))) (gNm 3)) (mSeq (mForL (mQ (qIx (qV 0) (qV 1))) lg_weighed_1 (lb_weighed_1 R_weighed)) (mSeq (mDPut (qV 2) (qV 1) (mQ (qV 3))) (mSeq (mRet (mMove 3)) mSkip)))))
def F_weighed : Nat → Fn
  | 0 => fun _ => .stuck
  | n + 1 => runF [.bo, .bo, .io] 5 (m_weighed (F_weighed n))
def F_weighed_top : Fn := F_weighed 45
def m_weight : MS := (mSeq (mRet (mCall [.bo, .bo, .io] F_weighed_top (aPth (qV 0) (aPth (qV 1) (aVal mDNew aNil))))) mSkip)
def F_weight : Fn := runF [.fz, .bo] 2 m_weight
def lg_Library_change_1 : MG := (gNm 6)
def lb_Library_change_1 : MS := (mSeq (mIf (mTE (mOp gGt (mCall [.fz, .bo] F_weight (aPth (qV 4) (aPth (qV 6) aNil))) (mQ (qC (.int 200))))) (mSeq (mRaise "TooHeavy") mSkip) mSkip) mSkip)
def m_Library_change : MS := (mSeq (mAsg (mMethS "Shelf" ["past", "moment"] [.bo] F_Shelf_rows (qFs "Library" ["well", "blots", "shelf", "knots", "purse", "book"] 2 (qV 0)) aNil) (gNm 4)) (mSeq (mIf (mTQ (qEq false (qV 2) (qLen (qV 4)))) (mSeq (mExpr (mAppend (qV 4) (mLst mNil))) mSkip) mSkip) (mSeq (mAsg (mQ (qV 3)) (gIx (qV 4) (qV 2))) (mSeq (mAsg (mCall [.fz, .bo] F_ring (aPth (qV 4) (aPth (qV 2) aNil))) (gNm 5)) (mSeq (mIf (mTQ (qIsN true (qV 5))) (mSeq (mRaiseI "Ring" "way" (mQ (qV 5))) mSkip) mSkip) (mSeq (mForRC1 (mQ (qLen (qV 4))) lg_Library_change_1 lb_Library_change_1) (mSeq (mExpr (mMethS "Library" ["well", "blots", "shelf", "knots", "purse", "book"] [.io, .bo, .bo] F_Library_note (qV 0) (aPth (qV 1) (aVal (mLst (mCons (mTup (mCons (mQ (qV 2)) (mCons (mQ (qV 3)) mNil))) mNil)) aNil)))) mSkip)))))))
def F_Library_change : Fn := runF [.io, .bo, .bo, .fz] 7 m_Library_change
def m_Library_put : MS := (mSeq (mExpr (mMethS "Library" ["well", "blots", "shelf", "knots", "purse", "book"] [.bo, .bo, .bo, .bo] F_Library_look_place (qV 0) (aPth (qV 1) (aPth (qV 2) (aPth (qV 2) aNil))))) (mSeq (mExpr (mMethS "Library" ["well", "blots", "shelf", "knots", "purse", "book"] [.bo, .bo] F_Library_look_ink (qV 0) (aPth (qV 3) aNil))) (mSeq (mAsg (mCall [.bo, .bo, .bo, .bo] F_put_items (aVal (mMethS "Shelf" ["past", "moment"] [.bo] F_Shelf_rows (qFs "Library" ["well", "blots", "shelf", "knots", "purse", "book"] 2 (qV 0)) aNil) (aPth (qV 1) (aPth (qV 2) (aVal (mCall [.bo] F_inked (aPth (qV 3) aNil)) aNil))))) (gNm 4)) (mSeq (mExpr (mMethS "Library" ["well", "blots", "shelf", "knots", "purse", "book"] [.io, .bo, .bo, .fz] F_Library_change (qV 0) (aVal (mTup (mCons (mQ (qC (.str "put"))) (mCons (mQ (qV 1)) (mCons (mQ (qV 2)) (mCons (mQ (qV 3)) mNil))))) (aPth (qV 1) (aPth (qV 4) aNil))))) mSkip))))
def F_Library_put : Fn := runF [.io, .bo, .bo, .bo] 5 m_Library_put
def lg_kept_items_1 : MG := (gTu 4 (gC1 (gNm 5) (gC1 (gNm 6) (gC1 (gNm 7) (gC1 (gNm 8) gN0)))))
def lb_kept_items_1 : MS := (mSeq (mIf (mOrT (mTQ (qOp gLe (qV 7) (qV 2))) (mTQ (qOp gLe (qV 3) (qV 6)))) (mSeq (mExpr (mAppend (qV 4) (mQ (qV 5)))) mSkip) (mSeq (mExpr (mExtend (qV 4) (mCall [.bo] F_inked (aVal (mCall [.bo, .bo, .bo] F_part (aPth (qV 8) (aVal (mQ (qC (.int 0))) (aVal (mQ (qOp gMax (qC (.int 0)) (qOp gSub (qV 2) (qV 6)))) aNil)))) aNil)))) (mSeq (mExpr (mExtend (qV 4) (mCall [.bo] F_inked (aVal (mCall [.bo, .bo, .bo] F_part (aPth (qV 8) (aVal (mQ (qOp gSub (qOp gMin (qV 7) (qV 3)) (qV 6))) (aVal (mQ (qOp gSub (qV 7) (qV 6))) aNil)))) aNil)))) mSkip))) mSkip)
def m_kept_items : MS := (mSeq (mAsg (mLst mNil) (gNm 4)) (mSeq (mForL (mCall [.bo, .bo] F_laid (aPth (qV 0) (aPth (qV 1) aNil))) lg_kept_items_1 lb_kept_items_1) (mSeq (mRet (mCall [.bo] F_plain_items (aPth (qV 4) aNil))) mSkip)))
def F_kept_items : Fn := runF [.bo, .bo, .bo, .bo] 9 m_kept_items
def m_cut_items : MS := (mSeq (mExpr (mCall [.bo, .bo, .bo, .bo] F_look (aPth (qV 0) (aPth (qV 1) (aPth (qV 2) (aPth (qV 3) aNil)))))) (mSeq (mIf (mTQ (qEq false (qV 2) (qV 3))) (mSeq (mRet (mCall [.bo] F_plain_items (aPth (qIx (qV 0) (qV 1)) aNil))) mSkip) mSkip) (mSeq (mRet (mCall [.bo, .bo, .bo, .bo] F_kept_items (aPth (qV 0) (aPth (qV 1) (aPth (qV 2) (aPth (qV 3) aNil)))))) mSkip)))
def F_cut_items : Fn := runF [.bo, .bo, .bo, .bo] 4 m_cut_items
def m_Library_cut : MS := (mSeq (mExpr (mMethS "Library" ["well", "blots", "shelf", "knots", "purse", "book"] [.bo, .bo, .bo, .bo] F_Library_look_place (qV 0) (aPth (qV 1) (aPth (qV 2) (aPth (qV 3) aNil))))) (mSeq (mExpr (mMethS "Library" ["well", "blots", "shelf", "knots", "purse", "book"] [.io, .bo, .bo, .fz] F_Library_change (qV 0) (aVal (mTup (mCons (mQ (qC (.str "cut"))) (mCons (mQ (qV 1)) (mCons (mQ (qV 2)) (mCons (mQ (qV 3)) mNil))))) (aPth (qV 1) (aVal (mCall [.bo, .bo, .bo, .bo] F_cut_items (aVal (mMethS "Shelf" ["past", "moment"] [.bo] F_Shelf_rows (qFs "Library" ["well", "blots", "shelf", "knots", "purse", "book"] 2 (qV 0)) aNil) (aPth (qV 1) (aPth (qV 2) (aPth (qV 3) aNil))))) aNil))))) mSkip))
def F_Library_cut : Fn := runF [.io, .bo, .bo, .bo] 4 m_Library_cut
def lg_swapped_1 : MG := (gNm 4)
def lt_swapped_1 : List D → R Bool := mYes
def le_swapped_1 : List D → R D := (mListQ (qV 4))
def m_swapped : MS := (mSeq (mAsg (mLcL (mQ (qV 0)) [4] lg_swapped_1 lt_swapped_1 le_swapped_1) (gNm 3)) (mSeq (mAsg (mListQ (qV 2)) (gIx (qV 3) (qV 1))) (mSeq (mRet (mMove 3)) mSkip)))
def F_swapped : Fn := runF [.bo, .bo, .bo] 5 m_swapped
def lg_taken_items_1 : MG := (gTu 4 (gC1 (gNm 5) (gC1 (gNm 6) (gC1 (gNm 7) (gC1 (gNm 8) gN0)))))
def lb_taken_items_1 : MS := (mSeq (mIf (mOrT (mTQ (qOp gLe (qV 7) (qV 2))) (mTQ (qOp gLe (qV 3) (qV 6)))) (mSeq mCont mSkip) mSkip) (mSeq (mIf (mAndT (mTQ (qOp gLe (qV 2) (qV 6))) (mTQ (qOp gLe (qV 7) (qV 3)))) (mSeq (mExpr (mAppend (qV 4) (mQ (qV 5)))) mSkip) (mSeq (mExpr (mExtend (qV 4) (mCall [.bo] F_inked (aVal (mCall [.bo, .bo, .bo] F_part (aPth (qV 8) (aVal (mQ (qOp gMax (qC (.int 0)) (qOp gSub (qV 2) (qV 6)))) (aVal (mQ (qOp gSub (qOp gMin (qV 7) (qV 3)) (qV 6))) aNil)))) aNil)))) mSkip)) mSkip))
def m_taken_items : MS := (mSeq (mAsg (mLst mNil) (gNm 4)) (mSeq (mForL (mCall [.bo, .bo] F_laid (aPth (qV 0) (aPth (qV 1) aNil))) lg_taken_items_1 lb_taken_items_1) (mSeq (mRet (mCall [.bo] F_plain_items (aPth (qV 4) aNil))) mSkip)))
def F_taken_items : Fn := runF [.bo, .bo, .bo, .bo] 9 m_taken_items
def m_moved_items : MS := (mSeq (mExpr (mCall [.bo, .bo, .bo, .bo] F_look (aPth (qV 0) (aPth (qV 1) (aPth (qV 2) (aPth (qV 3) aNil)))))) (mSeq (mIf (mOrT (mTQ (qOp gLt (qV 4) (qC (.int 0)))) (mTE (mOp gGt (mQ (qV 4)) (mOp gSub (mCall [.bo] F_size (aVal (mCall [.bo, .bo] F_shown (aPth (qV 0) (aPth (qV 1) aNil))) aNil)) (mQ (qOp gSub (qV 3) (qV 2))))))) (mSeq (mRaise "OutOfPlace") mSkip) mSkip) (mSeq (mIf (mTQ (qEq false (qV 2) (qV 3))) (mSeq (mRet (mCall [.bo] F_plain_items (aPth (qIx (qV 0) (qV 1)) aNil))) mSkip) mSkip) (mSeq (mAsg (mCall [.bo, .bo, .bo] F_swapped (aPth (qV 0) (aPth (qV 1) (aVal (mCall [.bo, .bo, .bo, .bo] F_kept_items (aPth (qV 0) (aPth (qV 1) (aPth (qV 2) (aPth (qV 3) aNil))))) aNil)))) (gNm 5)) (mSeq (mRet (mCall [.bo, .bo, .bo, .bo] F_put_items (aPth (qV 5) (aPth (qV 1) (aPth (qV 4) (aVal (mCall [.bo, .bo, .bo, .bo] F_taken_items (aPth (qV 0) (aPth (qV 1) (aPth (qV 2) (aPth (qV 3) aNil))))) aNil)))))) mSkip)))))
def F_moved_items : Fn := runF [.bo, .bo, .bo, .bo, .bo] 6 m_moved_items
def m_Library_move : MS := (mSeq (mExpr (mMethS "Library" ["well", "blots", "shelf", "knots", "purse", "book"] [.bo, .bo, .bo, .bo] F_Library_look_place (qV 0) (aPth (qV 1) (aPth (qV 2) (aPth (qV 3) aNil))))) (mSeq (mAsg (mCall [.bo, .bo, .bo, .bo, .bo] F_moved_items (aVal (mMethS "Shelf" ["past", "moment"] [.bo] F_Shelf_rows (qFs "Library" ["well", "blots", "shelf", "knots", "purse", "book"] 2 (qV 0)) aNil) (aPth (qV 1) (aPth (qV 2) (aPth (qV 3) (aPth (qV 4) aNil)))))) (gNm 5)) (mSeq (mExpr (mMethS "Library" ["well", "blots", "shelf", "knots", "purse", "book"] [.io, .bo, .bo, .fz] F_Library_change (qV 0) (aVal (mTup (mCons (mQ (qC (.str "move"))) (mCons (mQ (qV 1)) (mCons (mQ (qV 2)) (mCons (mQ (qV 3)) (mCons (mQ (qV 4)) mNil)))))) (aPth (qV 1) (aPth (qV 5) aNil))))) mSkip)))
def F_Library_move : Fn := runF [.io, .bo, .bo, .bo, .bo] 6 m_Library_move
def m_Library_quote : MS := (mSeq (mExpr (mMethS "Shelf" ["past", "moment"] [.bo, .bo] F_Shelf_look (qFs "Library" ["well", "blots", "shelf", "knots", "purse", "book"] 2 (qV 0)) (aPth (qV 1) aNil))) (mSeq (mExpr (mMethS "Shelf" ["past", "moment"] [.bo, .bo] F_Shelf_look (qFs "Library" ["well", "blots", "shelf", "knots", "purse", "book"] 2 (qV 0)) (aPth (qV 3) aNil))) (mSeq (mExpr (mMethS "Library" ["well", "blots", "shelf", "knots", "purse", "book"] [.bo, .bo, .bo, .bo] F_Library_look_place (qV 0) (aPth (qV 1) (aPth (qV 2) (aPth (qV 2) aNil))))) (mSeq (mExpr (mMethS "Library" ["well", "blots", "shelf", "knots", "purse", "book"] [.bo, .bo, .bo, .bo] F_Library_look_place (qV 0) (aPth (qV 3) (aPth (qV 4) (aPth (qV 5) aNil))))) (mSeq (mAsg (mCall [.bo, .bo, .bo] F_part (aVal (mMethS "Library" ["well", "blots", "shelf", "knots", "purse", "book"] [.bo, .bo] F_Library_shown (qV 0) (aPth (qV 3) aNil)) (aPth (qV 4) (aPth (qV 5) aNil)))) (gNm 6)) (mSeq (mAsg (mCall [.bo, .bo, .bo, .bo] F_put_items (aVal (mMethS "Shelf" ["past", "moment"] [.bo] F_Shelf_rows (qFs "Library" ["well", "blots", "shelf", "knots", "purse", "book"] 2 (qV 0)) aNil) (aPth (qV 1) (aPth (qV 2) (aVal (mCall [.bo] F_inked (aPth (qV 6) aNil)) aNil))))) (gNm 7)) (mSeq (mExpr (mMethS "Library" ["well", "blots", "shelf", "knots", "purse", "book"] [.io, .bo, .bo, .fz] F_Library_change (qV 0) (aVal (mTup (mCons (mQ (qC (.str "quote"))) (mCons (mQ (qV 1)) (mCons (mQ (qV 2)) (mCons (mQ (qV 3)) (mCons (mQ (qV 4)) (mCons (mQ (qV 5)) mNil))))))) (aPth (qV 1) (aPth (qV 7) aNil))))) mSkip)))))))
def F_Library_quote : Fn := runF [.io, .bo, .bo, .bo, .bo, .bo] 8 m_Library_quote
def m_Library_window : MS := (mSeq (mExpr (mMethS "Shelf" ["past", "moment"] [.bo, .bo] F_Shelf_look (qFs "Library" ["well", "blots", "shelf", "knots", "purse", "book"] 2 (qV 0)) (aPth (qV 1) aNil))) (mSeq (mExpr (mMethS "Shelf" ["past", "moment"] [.bo, .bo] F_Shelf_look (qFs "Library" ["well", "blots", "shelf", "knots", "purse", "book"] 2 (qV 0)) (aPth (qV 3) aNil))) (mSeq (mExpr (mMethS "Library" ["well", "blots", "shelf", "knots", "purse", "book"] [.bo, .bo, .bo, .bo] F_Library_look_place (qV 0) (aPth (qV 1) (aPth (qV 2) (aPth (qV 2) aNil))))) (mSeq (mAsg (mCall [.bo, .bo, .bo, .bo] F_put_items (aVal (mMethS "Shelf" ["past", "moment"] [.bo] F_Shelf_rows (qFs "Library" ["well", "blots", "shelf", "knots", "purse", "book"] 2 (qV 0)) aNil) (aPth (qV 1) (aPth (qV 2) (aVal (mLst (mCons (mTup (mCons (mQ (qC (.str "win"))) (mCons (mQ (qV 3)) mNil))) mNil)) aNil))))) (gNm 4)) (mSeq (mExpr (mMethS "Library" ["well", "blots", "shelf", "knots", "purse", "book"] [.io, .bo, .bo, .fz] F_Library_change (qV 0) (aVal (mTup (mCons (mQ (qC (.str "window"))) (mCons (mQ (qV 1)) (mCons (mQ (qV 2)) (mCons (mQ (qV 3)) mNil))))) (aPth (qV 1) (aPth (qV 4) aNil))))) mSkip)))))
def F_Library_window : Fn := runF [.io, .bo, .bo, .bo] 5 m_Library_window
def m_fixed_items : MS := (mSeq (mRet (mCall [.bo] F_inked (aVal (mCall [.bo, .bo] F_shown (aPth (qV 0) (aPth (qV 1) aNil))) aNil))) mSkip)
def F_fixed_items : Fn := runF [.bo, .bo] 2 m_fixed_items
def m_Library_fix : MS := (mSeq (mExpr (mMethS "Shelf" ["past", "moment"] [.bo, .bo] F_Shelf_look (qFs "Library" ["well", "blots", "shelf", "knots", "purse", "book"] 2 (qV 0)) (aPth (qV 1) aNil))) (mSeq (mExpr (mMethS "Library" ["well", "blots", "shelf", "knots", "purse", "book"] [.io, .bo, .bo, .fz] F_Library_change (qV 0) (aVal (mTup (mCons (mQ (qC (.str "fix"))) (mCons (mQ (qV 1)) mNil))) (aPth (qV 1) (aVal (mCall [.bo, .bo] F_fixed_items (aVal (mMethS "Shelf" ["past", "moment"] [.bo] F_Shelf_rows (qFs "Library" ["well", "blots", "shelf", "knots", "purse", "book"] 2 (qV 0)) aNil) (aPth (qV 1) aNil))) aNil))))) mSkip))
def F_Library_fix : Fn := runF [.io, .bo] 2 m_Library_fix
def m_Library_row_then : MS := (mSeq (mRet (mMethS "Shelf" ["past", "moment"] [.bo, .bo, .bo] F_Shelf_row_then (qFs "Library" ["well", "blots", "shelf", "knots", "purse", "book"] 2 (qV 0)) (aPth (qV 1) (aPth (qV 2) aNil)))) mSkip)
def F_Library_row_then : Fn := runF [.bo, .bo, .bo] 3 m_Library_row_then
def m_Library_back : MS := (mSeq (mExpr (mMethS "Library" ["well", "blots", "shelf", "knots", "purse", "book"] [.io, .bo, .bo, .fz] F_Library_change (qV 0) (aVal (mTup (mCons (mQ (qC (.str "back"))) (mCons (mQ (qV 1)) (mCons (mQ (qV 2)) mNil)))) (aPth (qV 1) (aVal (mMethS "Library" ["well", "blots", "shelf", "knots", "purse", "book"] [.bo, .bo, .bo] F_Library_row_then (qV 0) (aPth (qV 1) (aPth (qV 2) aNil))) aNil))))) mSkip)
def F_Library_back : Fn := runF [.io, .bo, .bo] 3 m_Library_back
def m__law_done : MS := (mSeq (mAsg (mQ (qIx (qV 1) (qC (.int 0)))) (gNm 2)) (mSeq (mIf (mTQ (qEq false (qV 2) (qC (.str "pour")))) (mSeq (mRet (mMethS "Library" ["well", "blots", "shelf", "knots", "purse", "book"] [.io, .bo, .bo] F_Library_pour (qV 0) (aPth (qIx (qV 1) (qC (.int 1))) (aPth (qIx (qV 1) (qC (.int 2))) aNil)))) mSkip) mSkip) (mSeq (mIf (mTQ (qEq false (qV 2) (qC (.str "fresh")))) (mSeq (mRet (mMethS "Library" ["well", "blots", "shelf", "knots", "purse", "book"] [.io] F_Library_fresh (qV 0) aNil)) mSkip) mSkip) (mSeq (mIf (mTQ (qEq false (qV 2) (qC (.str "put")))) (mSeq (mRet (mMethS "Library" ["well", "blots", "shelf", "knots", "purse", "book"] [.io, .bo, .bo, .bo] F_Library_put (qV 0) (aPth (qIx (qV 1) (qC (.int 1))) (aPth (qIx (qV 1) (qC (.int 2))) (aVal (mListQ (qIx (qV 1) (qC (.int 3)))) aNil))))) mSkip) mSkip) (mSeq (mIf (mTQ (qEq false (qV 2) (qC (.str "cut")))) (mSeq (mRet (mMethS "Library" ["well", "blots", "shelf", "knots", "purse", "book"] [.io, .bo, .bo, .bo] F_Library_cut (qV 0) (aPth (qIx (qV 1) (qC (.int 1))) (aPth (qIx (qV 1) (qC (.int 2))) (aPth (qIx (qV 1) (qC (.int 3))) aNil))))) mSkip) mSkip) (mSeq (mIf (mTQ (qEq false (qV 2) (qC (.str "move")))) (mSeq (mRet (mMethS "Library" ["well", "blots", "shelf", "knots", "purse", "book"] [.io, .bo, .bo, .bo, .bo] F_Library_move (qV 0) (aPth (qIx (qV 1) (qC (.int 1))) (aPth (qIx (qV 1) (qC (.int 2))) (aPth (qIx (qV 1) (qC (.int 3))) (aPth (qIx (qV 1) (qC (.int 4))) aNil)))))) mSkip) mSkip) (mSeq (mIf (mTQ (qEq false (qV 2) (qC (.str "quote")))) (mSeq (mRet (mMethS "Library" ["well", "blots", "shelf", "knots", "purse", "book"] [.io, .bo, .bo, .bo, .bo, .bo] F_Library_quote (qV 0) (aPth (qIx (qV 1) (qC (.int 1))) (aPth (qIx (qV 1) (qC (.int 2))) (aPth (qIx (qV 1) (qC (.int 3))) (aPth (qIx (qV 1) (qC (.int 4))) (aPth (qIx (qV 1) (qC (.int 5))) aNil))))))) mSkip) mSkip) (mSeq (mIf (mTQ (qEq false (qV 2) (qC (.str "window")))) (mSeq (mRet (mMethS "Library" ["well", "blots", "shelf", "knots", "purse", "book"] [.io, .bo, .bo, .bo] F_Library_window (qV 0) (aPth (qIx (qV 1) (qC (.int 1))) (aPth (qIx (qV 1) (qC (.int 2))) (aPth (qIx (qV 1) (qC (.int 3))) aNil))))) mSkip) mSkip) (mSeq (mIf (mTQ (qEq false (qV 2) (qC (.str "fix")))) (mSeq (mRet (mMethS "Library" ["well", "blots", "shelf", "knots", "purse", "book"] [.io, .bo] F_Library_fix (qV 0) (aPth (qIx (qV 1) (qC (.int 1))) aNil))) mSkip) mSkip) (mSeq (mRet (mMethS "Library" ["well", "blots", "shelf", "knots", "purse", "book"] [.io, .bo, .bo] F_Library_back (qV 0) (aPth (qIx (qV 1) (qC (.int 1))) (aPth (qIx (qV 1) (qC (.int 2))) aNil)))) mSkip))))))))))
def F__law_done : Fn := runF [.io, .bo] 3 m__law_done
def m_Library_row : MS := (mSeq (mRet (mMethS "Shelf" ["past", "moment"] [.bo, .bo] F_Shelf_row (qFs "Library" ["well", "blots", "shelf", "knots", "purse", "book"] 2 (qV 0)) (aPth (qV 1) aNil))) mSkip)
def F_Library_row : Fn := runF [.bo, .bo] 2 m_Library_row
def m_Library_shown_then : MS := (mSeq (mExpr (mMethS "Shelf" ["past", "moment"] [.bo, .bo, .bo] F_Shelf_look_then (qFs "Library" ["well", "blots", "shelf", "knots", "purse", "book"] 2 (qV 0)) (aPth (qV 1) (aPth (qV 2) aNil)))) (mSeq (mRet (mCall [.bo, .bo] F_shown (aVal (mMethS "Shelf" ["past", "moment"] [.bo, .bo] F_Shelf_rows_then (qFs "Library" ["well", "blots", "shelf", "knots", "purse", "book"] 2 (qV 0)) (aPth (qV 2) aNil)) (aPth (qV 1) aNil)))) mSkip))
def F_Library_shown_then : Fn := runF [.bo, .bo, .bo] 3 m_Library_shown_then
end
end Law
namespace Law
open PySem L2 PV
/-- the source of numbers -/
structure Sr where
  cs : List Int
  p : Int
  n : Int
  r : Int
  hp : 0 ≤ p
  hr : 0 ≤ r
  hr2 : r < 2147483647
def srcD (s : Sr) : D := .nd (.lst .own) [.nd (.lst .own) (s.cs.map D.int), .int s.p, .int s.n, .int s.r]
@[simp] theorem noBor_srcD (s : Sr) : D.noBor (srcD s) = true := by simp [srcD]
@[simp] theorem plD0_srcD (r : Nat) (p : Pth) (s : Sr) : plD0 r p (srcD s) = some (.pth r p) := rfl
theorem src_ok (cs : List Int) : ∃ s : Sr, F__law_src [.scr cs] = .ok (srcD s) [.un] := ⟨⟨cutL cs none (some 63), 0, 0, 1, by decide, by decide, by decide⟩, by
  simp [F__law_src, runF_eq, m__law_src, chk_of, PySem.sizeLine_eq, srcD]⟩
theorem next_sat (s : Sr) (b : Int) (hb : 0 < b) (hb1 : b < 10000000000000000000000000000000000000000000000000000000000000000000000) : (F__law_next [srcD s, .int b]).sat fun d o => ∃ (v : Int) (s' : Sr), 0 ≤ v ∧ v < b ∧ d = .int v ∧ o = [srcD s', .un] := by
  have hb2 : b.natAbs.log2 < 9000 := log2_ok (by omega)
  obtain ⟨cs, p, n, r, hp, hr, hr2⟩ := s
  rw [F__law_next, runF_eq]
  unfold m__law_next
  refine seq_cut (fun st => ∃ (s : Sr) (d2 : D), st = [srcD s, .int b, d2, .un]) ?_ ?_
  · have e1 : ∀ c : Int, 0 ≤ (r * 48271 + c % 998244353 + 1) % 2147483647 := fun c => Int.emod_nonneg _ (by decide)
    have e2 : ∀ c : Int, (r * 48271 + c % 998244353 + 1) % 2147483647 < 2147483647 := fun c => Int.emod_lt_of_pos _ (by decide)
    by_cases h1 : n ≤ 1
    · by_cases h2 : p < cs.length
      · obtain ⟨c, hc⟩ : ∃ c, cs[p.toNat]? = some c := ⟨cs[p.toNat]'(by omega), by simp⟩
        have hc' : cs[p.toNat]'(by omega) = c := by simpa using (List.getElem?_eq_some_iff.mp hc).2
        by_cases h3 : (1000000000000000000 : Int) ≤ c
        · exact ⟨_, by simp [srcD, h1, h2, h3, hc', chkO_of, ixN, hp, hc], ⟨cs, p + 1, c, _, by omega, e1 c, e2 c⟩, .int c, rfl⟩
        · exact ⟨_, by simp [srcD, h1, h2, h3, hc', chkO_of, ixN, hp, hc], ⟨cs, p + 1, n, _, by omega, e1 c, e2 c⟩, .int c, rfl⟩
      · exact ⟨_, by simp [srcD, h1, h2, chkO_of, ixN, hp], ⟨cs, p, n, _, hp, e1 7, e2 7⟩, .int 7, rfl⟩
    · exact ⟨_, by simp [srcD, h1, chkO_of, ixN]; rfl, ⟨cs, p, n, r, hp, hr, hr2⟩, _, rfl⟩
  · rintro st1 ⟨⟨cs, p, n, r, hp, hr, hr2⟩, d2, rfl⟩
    by_cases h1 : 1 < n
    · exact ⟨_, _, by simp [srcD, h1, chkO_of, ixN, hb, hb2], n % b, ⟨cs, p, n / b, r, hp, hr, hr2⟩, Int.emod_nonneg _ (by omega), Int.emod_lt_of_pos _ hb, rfl, rfl⟩
    · exact ⟨_, _, by simp [srcD, h1, chkO_of, ixN, hb, hb2], _, ⟨cs, p, n, r, hp, hr, hr2⟩, Int.emod_nonneg (r * 40692 % 2147483399 / 3) (by omega), Int.emod_lt_of_pos _ hb, rfl, rfl⟩
theorem next_ok (s : Sr) (b : Int) (hb : 0 < b) (hb1 : b < 10000000000000000000000000000000000000000000000000000000000000000000000) : ∃ (v : Int) (s' : Sr), 0 ≤ v ∧ v < b ∧ F__law_next [srcD s, .int b] = .ok (.int v) [srcD s', .un] := by
  obtain ⟨d, o, e, v, s', h0, h1, rfl, rfl⟩ := next_sat s b hb hb1
  exact ⟨v, s', h0, h1, e⟩

theorem rangeD_eq (a b : Int) : rangeD a b = ((List.range (b - a).toNat).map fun i => a + (i : Nat)).map D.int := by
  simp [rangeD]

@[simp] theorem atI3_0 {α : Type} (x y z : α) : atI [x, y, z] 0 = some x := rfl
@[simp] theorem atI3_1 {α : Type} (x y z : α) : atI [x, y, z] 1 = some y := rfl
@[simp] theorem atI3_2 {α : Type} (x y z : α) : atI [x, y, z] 2 = some z := rfl
theorem rng_x {n : Nat} {pre post : List Int} {x : Int} (h : pre ++ x :: post = (List.range n).map fun i => (0 : Int) + (i : Nat)) : x = pre.length ∧ pre.length < n := by
  have hl := congrArg List.length h
  simp at hl
  have h2 := congrArg (fun l => l[pre.length]?) h
  simp only [List.getElem?_append_right (Nat.le_refl _), Nat.sub_self, List.getElem?_cons_zero, List.getElem?_map] at h2
  rw [List.getElem?_range (by omega)] at h2
  simp at h2
  exact ⟨h2, by omega⟩
@[simp] theorem whole_non : F__law_whole [.non] = .ok (.bl false) [.un] := by simp [F__law_whole, runF_eq, m__law_whole]
@[simp] theorem whole_bl (b : Bool) : F__law_whole [.bl b] = .ok (.bl false) [.un] := by simp [F__law_whole, runF_eq, m__law_whole]
@[simp] theorem whole_int (b : Int) : F__law_whole [.int b] = .ok (.bl true) [.un] := by simp [F__law_whole, runF_eq, m__law_whole]
@[simp] theorem whole_str (b : Str) : F__law_whole [.str b] = .ok (.bl false) [.un] := by simp [F__law_whole, runF_eq, m__law_whole]
@[simp] theorem whole_lst (f : Fl) (xs : List D) : F__law_whole [.nd (.lst f) xs] = .ok (.bl false) [.un] := by simp [F__law_whole, runF_eq, m__law_whole]
@[simp] theorem whole_tup (xs : List D) : F__law_whole [.nd .tup xs] = .ok (.bl false) [.un] := by simp [F__law_whole, runF_eq, m__law_whole]
/-- the loop over both -/
theorem same_loop (R : Fn) (n : Nat) (hR : ∀ x y, D.ok x n = true → D.ok y n = true → R [x, y] = .ok (.bl (D.same x y)) [.un, .un]) (x0 y0 : D) : ∀ (xs ys : List D) (x y : D), xs.length = ys.length → D.okL xs n = true → D.okL ys n = true →
    ∃ x' y', forL lg__law_same_1 (lb__law_same_1 R) (zipD xs ys) [x0, y0, x, y] = if D.sameL xs ys = true then .nx [x0, y0, x', y'] else .rt (.bl false) [x0, y0, x', y']
  | [], [], x, y, _, _, _ => ⟨x, y, by simp [zipD]⟩
  | [], b :: ys, x, y, h, _, _ => by simp at h
  | a :: xs, [], x, y, h, _, _ => by simp at h
  | a :: xs, b :: ys, x, y, h, h1, h2 => by
    simp at h h1 h2
    obtain ⟨x', y', e⟩ := same_loop R n hR x0 y0 xs ys a b h h1.2 h2.2
    have e2 := hR a.len b.len (by rw [ok_set]; exact h1.1) (by rw [ok_set]; exact h2.1)
    rw [same_set] at e2
    have turn : tgR (lg__law_same_1 (.nd .tup [a, b]) [x0, y0, x, y]) (lb__law_same_1 R) = if D.same a b = true then .nx [x0, y0, a, b] else .rt (.bl false) [x0, y0, a, b] := by
      rcases plD0_ok h1.1 2 [] with p1 | p1 <;> rcases plD0_ok h2.1 3 [] with p2 | p2 <;> cases hs : D.same a b <;> rw [hs] at e2 <;> simp [lg__law_same_1, lb__law_same_1, chkO_of, chk_of, p1, p2, e2]
    cases hs : D.same a b with
    | true => exact ⟨x', y', by simp [zipD, forL_cons, turn, hs, e]⟩
    | false => exact ⟨a, b, by simp [zipD, forL_cons, turn, hs]⟩
theorem same_step (R : Fn) (n : Nat) (hR : ∀ m x y, n = m + 1 → D.ok x m = true → D.ok y m = true → R [x, y] = .ok (.bl (D.same x y)) [.un, .un]) (x y : D) (hx : D.ok x n = true) (hy : D.ok y n = true) : runF [.bo, .bo] 4 (m__law_same R) [x, y] = .ok (.bl (D.same x y)) [.un, .un] := by
  rcases ok_cases hx with rfl | ⟨b, rfl⟩ | ⟨b, rfl⟩ | ⟨b, rfl, hb⟩ | ⟨f, xs, m, rfl, rfl, hb⟩ | ⟨xs, m, rfl, rfl, hb⟩ <;> rcases ok_cases hy with rfl | ⟨c, rfl⟩ | ⟨c, rfl⟩ | ⟨c, rfl, hc⟩ | ⟨g, ys, m', rfl, hm, hc⟩ | ⟨ys, m', rfl, hm, hc⟩
  all_goals try (simp [runF_eq, m__law_same, chkO_of, chk_of, D.same]; done)
  · simp [runF_eq, m__law_same, chkO_of, chk_of]
  · have e : eqD (.str b) (.str c) = some (b == c) := by rw [eqD_ok (by simpa using hb) (by simpa using hc)]; simp
    simp [runF_eq, m__law_same, chkO_of, chk_of, e]
  · cases f <;> simp [runF_eq, m__law_same, chkO_of, chk_of, D.same]
  · obtain rfl : m = m' := by omega
    by_cases hl : xs.length = ys.length
    · obtain ⟨x', y', e⟩ := same_loop R m (fun x y h1 h2 => hR m x y rfl h1 h2) (.nd (.lst (if f = .own then .fz else f)) (D.setL .fz xs)) (.nd (.lst (if g = .own then .fz else g)) (D.setL .fz ys)) (D.setL .fz xs) (D.setL .fz ys) .un .un (by simpa using hl) (by rw [ok_setL]; exact hb) (by rw [ok_setL]; exact hc)
      rw [same_setL] at e
      cases hs : D.sameL xs ys <;> rw [hs] at e <;> cases f <;> cases g <;> simp at e <;> simp [runF_eq, m__law_same, chkO_of, chk_of, chkS_of, hl, e, hs]
    · have hs : D.sameL xs ys = false := by
        cases h : D.sameL xs ys with
        | true => exact absurd (sameL_len h) hl
        | false => rfl
      have hl' : ¬ ((xs.length : Int) = (ys.length : Int)) := by omega
      cases f <;> cases g <;> simp [runF_eq, m__law_same, chkO_of, chk_of, chkS_of, hl, hl', hs]
  · obtain rfl : m = m' := by omega
    by_cases hl : xs.length = ys.length
    · obtain ⟨x', y', e⟩ := same_loop R m (fun x y h1 h2 => hR m x y rfl h1 h2) (.nd .tup (D.setL .fz xs)) (.nd .tup (D.setL .fz ys)) (D.setL .fz xs) (D.setL .fz ys) .un .un (by simpa using hl) (by rw [ok_setL]; exact hb) (by rw [ok_setL]; exact hc)
      rw [same_setL] at e
      cases hs : D.sameL xs ys <;> rw [hs] at e <;> simp at e <;> simp [runF_eq, m__law_same, chkO_of, chk_of, chkS_of, hl, e, hs]
    · have hs : D.sameL xs ys = false := by
        cases h : D.sameL xs ys with
        | true => exact absurd (sameL_len h) hl
        | false => rfl
      have hl' : ¬ ((xs.length : Int) = (ys.length : Int)) := by omega
      simp [runF_eq, m__law_same, chkO_of, chk_of, chkS_of, hl, hl', hs]
theorem same_eqn : ∀ (n : Nat) (x y : D), D.ok x n = true → D.ok y n = true → F__law_same (n + 1) [x, y] = .ok (.bl (D.same x y)) [.un, .un]
  | 0, x, y, hx, hy => same_step _ 0 (fun m x y h => by omega) x y hx hy
  | n + 1, x, y, hx, hy => same_step _ (n + 1) (fun m x y h h1 h2 => by
      obtain rfl : n = m := by omega
      exact same_eqn n x y h1 h2) x y hx hy
theorem same_eq (x y : D) (hx : D.ok x 5 = true) (hy : D.ok y 5 = true) : F__law_same_top [x, y] = .ok (.bl (D.same x y)) [.un, .un] := same_eqn 5 x y hx hy

/-! plain -/
def plainStep (acc : List (Int × Int)) (p : Int × Int) : List (Int × Int) := if p.1 = p.2 then acc else match acc.getLast? with
  | some q => if q.2 = p.1 then acc.dropLast ++ [(q.1, p.2)] else acc ++ [p]
  | none => acc ++ [p]
def plainF (xs : List (Int × Int)) : List (Int × Int) := xs.foldl plainStep []
def stretch (p : Int × Int) : List Int := (List.range (p.2 - p.1).toNat).map fun i => p.1 + (i : Nat)
def spellF (xs : List (Int × Int)) : List Int := xs.flatMap stretch
@[simp] theorem stretch_len (p : Int × Int) : (stretch p).length = (p.2 - p.1).toNat := by simp [stretch]
def rowStep (acc : List (Int × Int)) (n : Int) : List (Int × Int) := match acc.getLast? with
  | some q => if q.2 = n then acc.dropLast ++ [(q.1, n + 1)] else acc ++ [(n, n + 1)]
  | none => acc ++ [(n, n + 1)]
def rowF (ns : List Int) : List (Int × Int) := ns.foldl rowStep []
def OrdR (xs : List (Int × Int)) : Prop := ∀ p ∈ xs, p.1 ≤ p.2
theorem OrdR.app {xs ys : List (Int × Int)} (h : OrdR xs) (k : OrdR ys) : OrdR (xs ++ ys) := fun p hp => by
  simp at hp
  rcases hp with hp | hp
  · exact h p hp
  · exact k p hp
theorem stretch_snoc {a n : Int} (h : a ≤ n) : stretch (a, n + 1) = stretch (a, n) ++ [n] := by
  have e2 : (n + 1 - a).toNat = (n - a).toNat + 1 := by omega
  simp only [stretch, e2, List.range_succ, List.map_append, List.map_cons, List.map_nil]
  have : a + (((n - a).toNat : Nat) : Int) = n := by omega
  rw [this]

/-! size, at -/
def sizeF (xs : List (Int × Int)) : Int := xs.foldl (fun z p => z + p.2 - p.1) 0
/-! part -/
def partStep (start stop : Int) (z : List (Int × Int) × Int) (p : Int × Int) : List (Int × Int) × Int :=
  (if max p.1 (p.1 + start - z.2) < min p.2 (p.1 + stop - z.2) then z.1 ++ [(max p.1 (p.1 + start - z.2), min p.2 (p.1 + stop - z.2))] else z.1, z.2 + p.2 - p.1)
def partL (xs : List (Int × Int)) (start stop : Int) : List (Int × Int) := (xs.foldl (partStep start stop) ([], 0)).1
def partR (xs : List (Int × Int)) (start stop : Int) : FR := if 0 ≤ start ∧ start ≤ stop ∧ stop ≤ sizeF xs then .ok (.nd (.lst .own) ((plainF (partL xs start stop)).map pD)) [.un, .un, .un] else .ex ⟨"OutOfPlace", "", none⟩ [.un, .un, .un]
/-! the places of a row: what is between two of them -/
theorem cutL_to {α : Type} {xs : List α} {y : Int} (h2 : 0 ≤ y) (h3 : y ≤ xs.length) : cutL xs none (some y) = xs.take y.toNat := by
  have e1 : HT.sIx xs.length 0 none = 0 := by simp [HT.sIx]
  have e2 : HT.sIx xs.length xs.length (some y) = y.toNat := by unfold HT.sIx; simp only; rw [if_neg (by omega)]; omega
  rw [cutL, e1, e2]; simp
theorem cutL_from {α : Type} {xs : List α} {y : Int} (h2 : 0 ≤ y) (h3 : y ≤ xs.length) : cutL xs (some y) none = xs.drop y.toNat := by
  have e1 : HT.sIx xs.length 0 (some y) = y.toNat := by unfold HT.sIx; simp only; rw [if_neg (by omega)]; omega
  have e2 : HT.sIx xs.length xs.length none = xs.length := by simp [HT.sIx]
  rw [cutL, e1, e2, List.take_of_length_le (by simp)]

/-! symbolic flags -/
def sF (g f : Fl) : Fl := if f = .own then g else f
@[simp] theorem sF_own (g : Fl) : sF g .own = g := rfl
@[simp] theorem sF_bor (g : Fl) : sF g .bor = .bor := rfl
@[simp] theorem sF_fz (g : Fl) : sF g .fz = .fz := rfl
@[simp] theorem set_lstF (g f : Fl) (xs : List D) : D.set g (.nd (.lst f) xs) = .nd (.lst (sF g f)) (D.setL g xs) := by cases f <;> simp
@[simp] theorem set_insF (g f : Fl) (c : Str) (ns : List Str) (xs : List D) : D.set g (.nd (.ins f c ns) xs) = .nd (.ins (sF g f) c ns) (D.setL g xs) := by
  cases f <;> simp [D.set, Kd.fl, Kd.with, sF]

/-! items of sheets, and the rows of entries that tell them -/
inductive It | ink (a b : Int) | win (s : Int)
  deriving DecidableEq
def itD : It → D
  | .ink a b => .nd .tup [.str "ink", .int a, .int b]
  | .win s => .nd .tup [.str "win", .int s]
def itStep (acc : List It) (e : Int) : List It := if e < 0 then acc ++ [.win (-1 - e)] else match acc.getLast? with
  | some (.ink a b) => if b = e then acc.dropLast ++ [.ink a (e + 1)] else acc ++ [.ink e (e + 1)]
  | _ => acc ++ [.ink e (e + 1)]
def itemsF (es : List Int) : List It := es.foldl itStep []
theorem itStep_len (acc : List It) (e : Int) : (itStep acc e).length ≤ acc.length + 1 := by
  unfold itStep
  split
  · simp
  · split
    · split
      · simp; try omega
      · simp
    · simp
theorem ok_ink : D.ok (.str "ink") 60 = true := by simp [D.ok]; decide +kernel
theorem ok_win : D.ok (.str "win") 60 = true := by simp [D.ok]; decide +kernel
theorem eq_ink_ink : eqD (.str "ink") (.str "ink") = some true := by rw [eqD_ok ok_ink ok_ink]; simp
theorem eq_win_ink : eqD (.str "win") (.str "ink") = some false := by rw [eqD_ok ok_win ok_ink]; simp; decide +kernel
@[simp] theorem set_itD (g : Fl) (i : It) : D.set g (itD i) = itD i := by cases i <;> simp [itD]
@[simp] theorem setL_itD (g : Fl) : ∀ is : List It, D.setL g (is.map itD) = is.map itD
  | [] => by simp
  | i :: is => by simp [setL_itD g is]
@[simp] theorem noBor_itD (i : It) : D.noBor (itD i) = true := by cases i <;> simp [itD]
@[simp] theorem noBorL_itD : ∀ is : List It, D.noBorL (is.map itD) = true
  | [] => by simp
  | i :: is => by simp [noBorL_itD is]
def esD (f : Fl) (es : List Int) : D := .nd (.lst f) (es.map D.int)
def itsD (f : Fl) (is : List It) : D := .nd (.lst f) (is.map itD)
@[simp] theorem set_esD (g : Fl) (es : List Int) : D.set g (esD .own es) = esD g es := by simp [esD]
@[simp] theorem set_esB (g : Fl) (es : List Int) : D.set g (esD .bor es) = esD .bor es := by simp [esD]
@[simp] theorem set_esF (g : Fl) (es : List Int) : D.set g (esD .fz es) = esD .fz es := by simp [esD]
@[simp] theorem set_itsD (g : Fl) (is : List It) : D.set g (itsD .own is) = itsD g is := by simp [itsD]
@[simp] theorem set_itsB (g : Fl) (is : List It) : D.set g (itsD .bor is) = itsD .bor is := by simp [itsD]
@[simp] theorem set_itsF (g : Fl) (is : List It) : D.set g (itsD .fz is) = itsD .fz is := by simp [itsD]
@[simp] theorem setL_esD (g : Fl) (R : List (List Int)) : D.setL g (R.map (esD .own)) = R.map (esD g) := by rw [D.setL_map, List.map_map]; apply List.map_congr_left; intro p _; simp
@[simp] theorem setL_esB (g : Fl) (R : List (List Int)) : D.setL g (R.map (esD .bor)) = R.map (esD .bor) := by rw [D.setL_map, List.map_map]; apply List.map_congr_left; intro p _; simp
@[simp] theorem setL_itsD (g : Fl) (R : List (List It)) : D.setL g (R.map (itsD .own)) = R.map (itsD g) := by rw [D.setL_map, List.map_map]; apply List.map_congr_left; intro p _; simp
@[simp] theorem setL_itsB (g : Fl) (R : List (List It)) : D.setL g (R.map (itsD .bor)) = R.map (itsD .bor) := by rw [D.setL_map, List.map_map]; apply List.map_congr_left; intro p _; simp
@[simp] theorem noBor_esD (es : List Int) : D.noBor (esD .own es) = true := by simp [esD]
@[simp] theorem noBor_itsD (is : List It) : D.noBor (itsD .own is) = true := by simp [itsD]
@[simp] theorem noBorL_esD : ∀ R : List (List Int), D.noBorL (R.map (esD .own)) = true
  | [] => by simp
  | i :: is => by simp [noBorL_esD is]
@[simp] theorem noBorL_itsD : ∀ R : List (List It), D.noBorL (R.map (itsD .own)) = true
  | [] => by simp
  | i :: is => by simp [noBorL_itsD is]
@[simp] theorem plD0_esD (r : Nat) (p : Pth) (f : Fl) (es : List Int) : plD0 r p (esD f es) = some (.pth r p) := rfl
@[simp] theorem plD0_itsD (r : Nat) (p : Pth) (f : Fl) (es : List It) : plD0 r p (itsD f es) = some (.pth r p) := rfl
/-- what items spell, a window by sh -/
def spIt (sh : Int → List Int) : It → List Int
  | .ink a b => stretch (a, b)
  | .win s => sh s
def spE (sh : Int → List Int) (e : Int) : List Int := if e < 0 then sh (-1 - e) else [e]
def OkI : It → Prop
  | .ink a b => a < b
  | .win _ => True
theorem itStep_sp (sh : Int → List Int) (acc : List It) (e : Int) (h : ∀ i ∈ acc, OkI i) : (itStep acc e).flatMap (spIt sh) = acc.flatMap (spIt sh) ++ spE sh e ∧ ∀ i ∈ itStep acc e, OkI i := by
  unfold itStep spE
  have s1 : stretch (e, e + 1) = [e] := by
    have : (e + 1 - e).toNat = 1 := by omega
    simp [stretch, this]
  by_cases c : e < 0
  · rw [if_pos c, if_pos c]
    exact ⟨by simp [spIt], fun i hi => by rcases List.mem_append.mp hi with hi | hi; exact h i hi; simp at hi; subst hi; trivial⟩
  · rw [if_neg c, if_neg c]
    have new : (acc ++ [It.ink e (e + 1)]).flatMap (spIt sh) = acc.flatMap (spIt sh) ++ [e] ∧ ∀ i ∈ acc ++ [It.ink e (e + 1)], OkI i :=
      ⟨by simp [spIt, s1], fun i hi => by rcases List.mem_append.mp hi with hi | hi; exact h i hi; simp at hi; subst hi; show e < e + 1; omega⟩
    rcases nil_or_last acc with rfl | ⟨init, l, rfl⟩
    · simpa using new
    · cases l with
      | win s => simpa using new
      | ink a b =>
        by_cases c2 : b = e
        · subst c2
          have hab : a < b := h (.ink a b) (by simp)
          simp only [List.getLast?_append, List.getLast?_singleton, Option.some_or, if_pos, List.dropLast_concat]
          refine ⟨?_, fun i hi => ?_⟩
          · simp only [List.flatMap_append, List.flatMap_cons, List.flatMap_nil, List.append_nil, spIt, List.append_assoc]
            congr 1
            exact stretch_snoc (by omega)
          · rcases List.mem_append.mp hi with hi | hi
            · exact h i (by simp [hi])
            · simp at hi; subst hi; show a < b + 1; omega
        · simpa [c2] using new
theorem items_fold (sh : Int → List Int) : ∀ (es : List Int) (acc : List It), (∀ i ∈ acc, OkI i) → (es.foldl itStep acc).flatMap (spIt sh) = acc.flatMap (spIt sh) ++ es.flatMap (spE sh) ∧ ∀ i ∈ es.foldl itStep acc, OkI i
  | [], acc, h => ⟨by simp, h⟩
  | e :: es, acc, h => by
    obtain ⟨h1, h2⟩ := itStep_sp sh acc e h
    obtain ⟨h3, h4⟩ := items_fold sh es (itStep acc e) h2
    exact ⟨by rw [List.foldl_cons, h3, h1]; simp, h4⟩
theorem items_sp (sh : Int → List Int) (es : List Int) : (itemsF es).flatMap (spIt sh) = es.flatMap (spE sh) ∧ ∀ i ∈ itemsF es, OkI i := by
  obtain ⟨h1, h2⟩ := items_fold sh es [] (by simp)
  exact ⟨by simpa [itemsF] using h1, h2⟩
theorem items_win : ∀ (es : List Int) (acc : List It) (s : Int), It.win s ∈ es.foldl itStep acc → It.win s ∈ acc ∨ ∃ e ∈ es, e < 0 ∧ s = -1 - e
  | [], acc, s, h => .inl h
  | e :: es, acc, s, h => by
    rcases items_win es (itStep acc e) s h with h | ⟨e', he, h⟩
    · have : It.win s ∈ acc ∨ (e < 0 ∧ s = -1 - e) := by
        unfold itStep at h
        by_cases c : e < 0
        · rw [if_pos c] at h
          rcases List.mem_append.mp h with h | h
          · exact .inl h
          · simp at h; exact .inr ⟨c, h⟩
        · rw [if_neg c] at h
          rcases nil_or_last acc with rfl | ⟨init, l, rfl⟩
          · simp at h
          · cases l with
            | win s' => simp at h; exact .inl (by simpa using h)
            | ink a b =>
              by_cases c2 : b = e
              · simp [c2] at h; exact .inl (by simp [h])
              · simp [c2] at h; exact .inl (by simpa using h)
      rcases this with h | h
      · exact .inl h
      · exact .inr ⟨e, by simp, h⟩
    · exact .inr ⟨e', by simp [he], h⟩
@[simp] theorem setL_esZ (g : Fl) (R : List (List Int)) : D.setL g (R.map (esD .fz)) = R.map (esD .fz) := by rw [D.setL_map, List.map_map]; apply List.map_congr_left; intro p _; simp
@[simp] theorem setL_itsZ (g : Fl) (R : List (List It)) : D.setL g (R.map (itsD .fz)) = R.map (itsD .fz) := by rw [D.setL_map, List.map_map]; apply List.map_congr_left; intro p _; simp

/-! drawn sheets -/
/-- windows lead to sheets of less rank -/
structure Acy (R : List (List Int)) (rk : Int → Nat) (b : Int → Nat) (w : Nat) : Prop where
  win : ∀ (s : Nat) (es : List Int), R[s]? = some es → ∀ e ∈ es, e < 0 → -1 - e < R.length ∧ rk (-1 - e) < rk s
  sz : ∀ (s : Nat) (es : List Int), R[s]? = some es → (es.map fun e => if e < 0 then b (-1 - e) else 1).sum + w ≤ b s
  len : ∀ (s : Nat) (es : List Int), R[s]? = some es → es.length ≤ 1000
  adr : ∀ (s : Nat) (es : List Int), R[s]? = some es → ∀ e ∈ es, e ≤ 1000000
/-! what is told sheet by sheet -/
def sumE (c : List Int) (sh : Int → List Int) (e : Int) : List Int := if e < 0 then c ++ sh (-1 - e) else [e]
def shN (c : List Int) (R : List (List Int)) : Nat → Int → List Int
  | 0, _ => []
  | k + 1, s => (R[s.toNat]?.getD []).flatMap (sumE c (shN c R k))
theorem flat_congr {α β : Type} {f g : α → List β} : ∀ {l : List α}, (∀ x ∈ l, f x = g x) → l.flatMap f = l.flatMap g
  | [], _ => rfl
  | x :: l, h => by
    rw [List.flatMap_cons, List.flatMap_cons, h x (by simp), flat_congr fun y hy => h y (by simp [hy])]
theorem shN_stable {R : List (List Int)} {rk : Int → Nat} {b : Int → Nat} {w : Nat} (A : Acy R rk b w) (c : List Int) : ∀ (k k' : Nat) (s : Int), 0 ≤ s → rk s < k → rk s < k' → shN c R k s = shN c R k' s
  | 0, _, _, _, h, _ => by omega
  | _, 0, _, _, _, h => by omega
  | k + 1, k' + 1, s, h0, h1, h2 => by
    unfold shN
    cases q : R[s.toNat]? with
    | none => rfl
    | some es =>
      simp only [Option.getD_some]
      refine flat_congr fun e he => ?_
      unfold sumE
      by_cases c : e < 0
      · rw [if_pos c, if_pos c]
        obtain ⟨_, h3⟩ := A.win _ _ q e he c
        have : ((s.toNat : Nat) : Int) = s := by omega
        rw [this] at h3
        rw [shN_stable A _ k k' (-1 - e) (by omega) (by omega) (by omega)]
      · rw [if_neg c, if_neg c]
theorem sh_ex {R : List (List Int)} {rk : Int → Nat} {b : Int → Nat} {w : Nat} (A : Acy R rk b w) (c : List Int) : ∃ sh : Int → List Int, ∀ (s : Nat) (es : List Int), R[s]? = some es → sh s = es.flatMap (sumE c sh) := by
  refine ⟨fun s => shN c R (rk s + 1) s, fun s es q => ?_⟩
  show shN c R (rk s + 1) s = _
  rw [shN]
  have : ((s : Int).toNat) = s := by omega
  rw [this, q]
  simp only [Option.getD_some]
  refine flat_congr fun e he => ?_
  unfold sumE
  by_cases c : e < 0
  · rw [if_pos c, if_pos c]
    obtain ⟨_, h3⟩ := A.win _ _ q e he c
    rw [shN_stable A _ (rk s) (rk (-1 - e) + 1) (-1 - e) (by omega) h3 (by omega)]
  · rw [if_neg c, if_neg c]
theorem sh_len {R : List (List Int)} {rk : Int → Nat} {b : Int → Nat} {w : Nat} (A : Acy R rk b w) {sh : Int → List Int} (h : ∀ (s : Nat) (es : List Int), R[s]? = some es → sh s = es.flatMap (sumE [] sh)) : ∀ (k s : Nat), s < R.length → rk s < k → (sh s).length ≤ b s
  | 0, _, _, h2 => by omega
  | k + 1, s, h1, h2 => by
    have q : R[s]? = some R[s] := List.getElem?_eq_getElem h1
    rw [h s _ q, List.length_flatMap]
    refine Nat.le_trans ?_ (Nat.le_trans (Nat.le_add_right _ w) (A.sz s _ q))
    have : ∀ es : List Int, (∀ e ∈ es, e ∈ R[s]) → (es.map fun e => (sumE [] sh e).length).sum ≤ (es.map fun e => if e < 0 then b (-1 - e) else 1).sum := by
      intro es
      induction es with
      | nil => intro _; simp
      | cons e es ih =>
        intro hm
        have h3 := ih fun x hx => hm x (by simp [hx])
        have h4 : (sumE [] sh e).length ≤ if e < 0 then b (-1 - e) else 1 := by
          unfold sumE
          by_cases c : e < 0
          · rw [if_pos c, if_pos c]
            obtain ⟨h5, h6⟩ := A.win s _ q e (hm e (by simp)) c
            have h7 := sh_len A h k (-1 - e).toNat (by omega) (by
              have : (((-1 - e).toNat : Nat) : Int) = -1 - e := by omega
              rw [this]; omega)
            have : (((-1 - e).toNat : Nat) : Int) = -1 - e := by omega
            rw [this] at h7
            simpa using h7
          · rw [if_neg c, if_neg c]; simp
        simp only [List.map_cons, List.sum_cons]
        omega
    exact this _ fun e he => he
/-- a dict kept: the keys K, the values of f -/
def keptD (f : Int → D) (K : List Int) : D := .nd (.dct .own (K.map (Sum.inl : Int → Key))) (K.map f)
def rowD (sh : Int → List Int) (t : Int) : D := .nd (.lst .fz) ((rowF (sh t)).map pD)
@[simp] theorem noBorL_rowD (sh : Int → List Int) : ∀ K : List Int, D.noBorL (K.map (rowD sh)) = true
  | [] => by simp
  | t :: K => by simp [rowD, noBorL_rowD sh K]
/-! plain items, by the entries that they tell -/
def plItStep (acc : List It) : It → List It
  | .ink a b => match acc.getLast? with
    | some (.ink c d) => if d = a then acc.dropLast ++ [.ink c b] else acc ++ [.ink a b]
    | _ => acc ++ [.ink a b]
  | .win s => acc ++ [.win s]
def plItF (X : List It) : List It := X.foldl plItStep []
def entI : It → List Int
  | .ink a b => stretch (a, b)
  | .win s => [-1 - s]
def entF (X : List It) : List Int := X.flatMap entI
def NnI : It → Prop
  | .ink a b => 0 ≤ a ∧ a < b
  | .win s => 0 ≤ s
theorem itemsF_len (es : List Int) : (itemsF es).length ≤ es.length := by
  have : ∀ (es : List Int) (acc : List It), (es.foldl itStep acc).length ≤ acc.length + es.length := fun es => by
    induction es with
    | nil => intro acc; simp
    | cons e es ih => intro acc; rw [List.foldl_cons]; have := ih (itStep acc e); have := itStep_len acc e; simp; omega
  simpa [itemsF] using this es []
theorem sh_range {R : List (List Int)} {rk : Int → Nat} {b : Int → Nat} {w : Nat} (A : Acy R rk b w) {sh : Int → List Int} (h : ∀ (s : Nat) (es : List Int), R[s]? = some es → sh s = es.flatMap (sumE [] sh)) : ∀ (k s : Nat), s < R.length → rk s < k → ∀ n ∈ sh s, 0 ≤ n ∧ n ≤ 1000000
  | 0, _, _, h2 => by omega
  | k + 1, s, h1, h2 => by
    have q : R[s]? = some R[s] := List.getElem?_eq_getElem h1
    intro n hn
    rw [h s _ q, List.mem_flatMap] at hn
    obtain ⟨e, he, hn⟩ := hn
    unfold sumE at hn
    by_cases c : e < 0
    · rw [if_pos c] at hn
      obtain ⟨h3, h4⟩ := A.win s _ q e he c
      have ht : (((-1 - e).toNat : Nat) : Int) = -1 - e := by omega
      have := sh_range A h k (-1 - e).toNat (by omega) (by rw [ht]; omega) n
      rw [ht] at this
      exact this (by simpa using hn)
    · rw [if_neg c] at hn
      simp at hn; subst hn
      exact ⟨by omega, A.adr s _ q n he⟩
/-! items with their places -/
@[simp] theorem plD0_itD (r : Nat) (p : Pth) (i : It) : plD0 r p (itD i) = some (.pth r p) := by cases i <;> rfl
def rowI (sh : Int → List Int) : It → List (Int × Int)
  | .ink a b => [(a, b)]
  | .win s => rowF (sh s)
def lqD (sh : Int → List Int) (q : It × Int × Int) : D := .nd .tup [itD q.1, .int q.2.1, .int q.2.2, .nd (.lst .fz) ((rowI sh q.1).map pD)]
def laidF (sh : Int → List Int) : List It → Int → List (It × Int × Int)
  | [], _ => []
  | i :: X, k => (i, k, k + (spIt sh i).length) :: laidF sh X (k + (spIt sh i).length)
@[simp] theorem set_lqD (sh : Int → List Int) (g : Fl) (q : It × Int × Int) : D.set g (lqD sh q) = lqD sh q := by simp [lqD]
@[simp] theorem setL_lqD (sh : Int → List Int) (g : Fl) : ∀ L : List (It × Int × Int), D.setL g (L.map (lqD sh)) = L.map (lqD sh)
  | [] => by simp
  | q :: L => by simp [setL_lqD sh g L]
@[simp] theorem noBorL_lqD (sh : Int → List Int) : ∀ L : List (It × Int × Int), D.noBorL (L.map (lqD sh)) = true
  | [] => by simp
  | q :: L => by simp [lqD, noBorL_lqD sh L]
/-- the world of a drawn sheet -/
structure Sh (R : List (List Int)) (rk : Int → Nat) (b : Int → Nat) (w : Nat) (sh : Int → List Int) (Hs : List (List It)) : Prop where
  A : Acy R rk b w
  h : ∀ (s : Nat) (es : List Int), R[s]? = some es → sh s = es.flatMap (sumE [] sh)
  hb : ∀ x, rk x ≤ 41 ∧ b x ≤ 4000
  hR : R.length ≤ 41
  hH : Hs = R.map itemsF
section
variable {R : List (List Int)} {rk : Int → Nat} {b : Int → Nat} {w : Nat} {sh : Int → List Int} {Hs : List (List It)}
theorem Sh.len (W : Sh R rk b w sh Hs) (s : Nat) (hs : s < R.length) : (sh s).length ≤ 4000 := by
  have h1 := sh_len W.A W.h (rk s + 1) s hs (by omega)
  have h2 := (W.hb s).2
  omega
theorem Sh.win (W : Sh R rk b w sh Hs) {s : Nat} {es : List Int} (q : R[s]? = some es) {t : Int} (h : It.win t ∈ itemsF es) : 0 ≤ t ∧ t < R.length := by
  rcases items_win es [] t h with h | ⟨e, he, hn, ht⟩
  · simp at h
  · have := (W.A.win s es q e he hn).1
    omega
theorem Sh.range (W : Sh R rk b w sh Hs) {s : Nat} {es : List Int} (q : R[s]? = some es) {i : It} (hi : i ∈ itemsF es) : ∀ n ∈ spIt sh i, 0 ≤ n ∧ n ≤ 1000000 := fun n hn => by
  have h1 : s < R.length := (List.getElem?_eq_some_iff.mp q).1
  have h2 := sh_range W.A W.h (rk s + 1) s h1 (by omega) n
  apply h2
  rw [W.h s es q]
  have h3 := (items_sp sh es).1
  have h4 : es.flatMap (spE sh) = es.flatMap (sumE [] sh) := flat_congr fun e _ => by unfold spE sumE; simp
  rw [← h4, ← h3]
  exact List.mem_flatMap.mpr ⟨i, hi, hn⟩
end

/-! a cut, by entries and by items -/
def cutE (sh : Int → List Int) (x y : Int) : List Int → Int → List Int
  | [], _ => []
  | e :: es, f => (if x = y ∨ f + (sumE [] sh e).length ≤ x ∨ y ≤ f then [e] else if x ≤ f ∧ f + (sumE [] sh e).length ≤ y then [] else (sumE [] sh e).take (max 0 (x - f)).toNat ++ (sumE [] sh e).drop (min (f + (sumE [] sh e).length) y - f).toNat) ++ cutE sh x y es (f + (sumE [] sh e).length)
def cutIt (sh : Int → List Int) (x y : Int) (q : It × Int × Int) : List It := if q.2.2 ≤ x ∨ y ≤ q.2.1 then [q.1] else itemsF ((spIt sh q.1).take (max 0 (x - q.2.1)).toNat) ++ itemsF ((spIt sh q.1).drop (min q.2.2 y - q.2.1).toNat)
def takE (sh : Int → List Int) (x y : Int) : List Int → Int → List Int
  | [], _ => []
  | e :: es, f => (if x = y ∨ f + (sumE [] sh e).length ≤ x ∨ y ≤ f then [] else if x ≤ f ∧ f + (sumE [] sh e).length ≤ y then [e] else ((sumE [] sh e).take (min (f + (sumE [] sh e).length) y - f).toNat).drop (max 0 (x - f)).toNat) ++ takE sh x y es (f + (sumE [] sh e).length)
def takIt (sh : Int → List Int) (x y : Int) (q : It × Int × Int) : List It := if q.2.2 ≤ x ∨ y ≤ q.2.1 then [] else if x ≤ q.2.1 ∧ q.2.2 ≤ y then [q.1] else itemsF (((spIt sh q.1).take (min q.2.2 y - q.2.1).toNat).drop (max 0 (x - q.2.1)).toNat)
section
variable {R : List (List Int)} {rk : Int → Nat} {b : Int → Nat} {w : Nat} {sh : Int → List Int} {Hs : List (List It)}
end

/-! put in, by entries and by items -/
def pA {α : Type} (p : Int) (o P : List α) (n : Nat) (f : Int) : List α := if f + n ≤ p then o else if p ≤ f then [] else P
def putA (sh : Int → List Int) (p : Int) : List Int → Int → List Int
  | [], _ => []
  | e :: es, f => (if f + (sumE [] sh e).length ≤ p then [e] else if p ≤ f then [] else (sumE [] sh e).take (p - f).toNat) ++ putA sh p es (f + (sumE [] sh e).length)
def putB (sh : Int → List Int) (p : Int) : List Int → Int → List Int
  | [], _ => []
  | e :: es, f => (if f + (sumE [] sh e).length ≤ p then [] else if p ≤ f then [e] else (sumE [] sh e).drop (p - f).toNat) ++ putB sh p es (f + (sumE [] sh e).length)
def itA (sh : Int → List Int) (p : Int) (q : It × Int × Int) : List It := if q.2.2 ≤ p then [q.1] else if p ≤ q.2.1 then [] else itemsF ((spIt sh q.1).take (p - q.2.1).toNat)
def itB (sh : Int → List Int) (p : Int) (q : It × Int × Int) : List It := if q.2.2 ≤ p then [] else if p ≤ q.2.1 then [q.1] else itemsF ((spIt sh q.1).drop (p - q.2.1).toNat)
section
variable {R : List (List Int)} {rk : Int → Nat} {b : Int → Nat} {w : Nat} {sh : Int → List Int} {Hs : List (List It)}
end
section
variable {R : List (List Int)} {rk : Int → Nat} {b : Int → Nat} {w : Nat} {sh : Int → List Int} {Hs : List (List It)}
def putE (sh : Int → List Int) (p : Int) (es new : List Int) : List Int := if new = [] then es else putA sh p es 0 ++ new ++ putB sh p es 0
end

/-! the rest: the rows without what a cut takes -/
theorem Acy.set {R : List (List Int)} {rk : Int → Nat} {b : Int → Nat} {w : Nat} (A : Acy R rk b w) (s0 : Nat) (es0 : List Int) (h1 : ∀ e ∈ es0, e < 0 → -1 - e < R.length ∧ rk (-1 - e) < rk s0) (h2 : (es0.map fun e => if e < 0 then b (-1 - e) else 1).sum + w ≤ b s0) (h3 : es0.length ≤ 1000) (h4 : ∀ e ∈ es0, e ≤ 1000000) : Acy (R.set s0 es0) rk b w := by
  have get : ∀ (s : Nat) (es : List Int), (R.set s0 es0)[s]? = some es → (s = s0 ∧ es = es0) ∨ R[s]? = some es := fun s es q => by
    by_cases c : s = s0
    · subst c
      rw [List.getElem?_set] at q
      simp only [if_true] at q
      split at q
      · exact .inl ⟨rfl, (Option.some.inj q).symm⟩
      · cases q
    · rw [List.getElem?_set_ne (Ne.symm c)] at q
      exact .inr q
  refine ⟨fun s es q => ?_, fun s es q => ?_, fun s es q => ?_, fun s es q => ?_⟩
  · rw [List.length_set]
    rcases get s es q with ⟨rfl, rfl⟩ | q
    · exact h1
    · exact A.win s es q
  · rcases get s es q with ⟨rfl, rfl⟩ | q
    · exact h2
    · exact A.sz s es q
  · rcases get s es q with ⟨rfl, rfl⟩ | q
    · exact h3
    · exact A.len s es q
  · rcases get s es q with ⟨rfl, rfl⟩ | q
    · exact h4
    · exact A.adr s es q
def cst (rk : Int → Nat) (b : Int → Nat) (e : Int) : Nat := if e < 0 then b (-1 - e) else 1
section
variable {R : List (List Int)} {rk : Int → Nat} {b : Int → Nat} {sh : Int → List Int} {Hs : List (List It)}
end

/-! where windows lead -/
def Wn (R : List (List Int)) (x t : Int) : Prop := 0 ≤ x ∧ ∃ es, R[x.toNat]? = some es ∧ ∃ e ∈ es, e < 0 ∧ t = -1 - e
inductive Rc (R : List (List Int)) : Int → Int → Prop
  | one {x t : Int} : Wn R x t → Rc R x t
  | cons {x t u : Int} : Wn R x t → Rc R t u → Rc R x u
theorem Rc.snoc {R : List (List Int)} {x t u : Int} (h : Rc R x t) (w : Wn R t u) : Rc R x u := by
  induction h with
  | one a => exact .cons a (.one w)
  | cons a _ ih => exact .cons a (ih w)
/-- all windows lead to sheets -/
def WOk (R : List (List Int)) : Prop := ∀ x t, Wn R x t → 0 ≤ t ∧ t < R.length
theorem Rc.bound {R : List (List Int)} (hW : WOk R) {x t : Int} (h : Rc R x t) : 0 ≤ t ∧ t < R.length := by
  induction h with
  | one a => exact hW _ _ a
  | cons _ _ ih => exact ih
def wI : It → Option Int
  | .ink _ _ => none
  | .win s => some s
def winsF (X : List It) : List Int := X.filterMap wI
/-! loops that may return -/
/-! rings -/
def Walk (R : List (List Int)) : Int → List Int → Prop
  | _, [] => True
  | x, y :: l => Wn R x y ∧ Walk R y l
def camD (f : Fl) (K V : List Int) : D := .nd (.dct f (K.map (Sum.inl : Int → Key))) (V.map D.int)
/-- where a sheet was come to from -/
structure Cam (R : List (List Int)) (s : Int) (K V : List Int) : Prop where
  len : K.length = V.length
  nd : K.Nodup
  key : ∀ t ∈ K, t ≠ s ∧ Rc R s t
  frm : ∀ (j : Nat) (t v : Int), K[j]? = some t → V[j]? = some v → Wn R v t ∧ (v = s ∨ ∃ i, i < j ∧ K[i]? = some v)
/-! rows that are in order: no ring, windows within -/
structure Good (R : List (List Int)) : Prop where
  n : R.length ≤ 41
  wok : WOk R
  acy : ∀ x, ¬ Rc R x x
  len : ∀ (s : Nat) (es : List Int), R[s]? = some es → es.length ≤ 1000
  adr : ∀ (s : Nat) (es : List Int), R[s]? = some es → ∀ e ∈ es, e ≤ 1000000
theorem filter_lt {α : Type} (p q : α → Bool) : ∀ (l : List α), (∀ x ∈ l, p x = true → q x = true) → (∃ x ∈ l, q x = true ∧ p x = false) → (l.filter p).length < (l.filter q).length
  | [], _, ⟨x, h, _⟩ => by simp at h
  | a :: l, h1, ⟨x, hx, hq, hp⟩ => by
    have le : ∀ l : List α, (∀ x ∈ l, p x = true → q x = true) → (l.filter p).length ≤ (l.filter q).length := fun l => by
      induction l with
      | nil => intro _; simp
      | cons b l ih =>
        intro h
        have := ih fun y hy => h y (by simp [hy])
        have hb := h b (by simp)
        cases c1 : p b <;> cases c2 : q b <;> simp [c1, c2] <;> first | omega | (rw [hb c1] at c2; cases c2)
    have h1' : ∀ x ∈ l, p x = true → q x = true := fun y hy => h1 y (by simp [hy])
    rcases List.mem_cons.mp hx with rfl | hx
    · have := le l h1'
      simp [hp, hq]; omega
    · have := filter_lt p q l h1' ⟨x, hx, hq, hp⟩
      have hb := h1 a (by simp)
      cases c1 : p a <;> cases c2 : q a <;> simp [c1, c2] <;> first | omega | (rw [hb c1] at c2; cases c2)
theorem Rc.trans {R : List (List Int)} {x t u : Int} (h : Rc R x t) (k : Rc R t u) : Rc R x u := by
  induction h with
  | one a => exact .cons a k
  | cons a _ ih => exact .cons a (ih k)
open Classical in
noncomputable def rkR (R : List (List Int)) (x : Int) : Nat := (((List.range R.length).map fun k : Nat => (k : Int)).filter fun k => decide (Rc R x k)).length
open Classical in
theorem rk_lt {R : List (List Int)} (G : Good R) {x t : Int} (h : Wn R x t) : rkR R t < rkR R x := by
  have hb := G.wok x t h
  refine filter_lt _ _ _ (fun k _ hk => ?_) ⟨t, ?_, ?_, ?_⟩
  · simp only [decide_eq_true_eq] at hk ⊢
    exact .cons h hk
  · rw [List.mem_map]
    exact ⟨t.toNat, by rw [List.mem_range]; omega, by omega⟩
  · simp only [decide_eq_true_eq]; exact .one h
  · simp only [decide_eq_false_iff_not]; exact G.acy t
open Classical in
theorem rk_le (R : List (List Int)) (x : Int) : rkR R x ≤ R.length := by
  have := List.length_filter_le (fun k : Int => decide (Rc R x k)) ((List.range R.length).map fun k : Nat => (k : Int))
  simpa [rkR] using this
theorem wn_of {R : List (List Int)} {s : Nat} {es : List Int} (q : R[s]? = some es) {e : Int} (he : e ∈ es) (hn : e < 0) : Wn R s (-1 - e) := ⟨by omega, es, by simpa using q, e, he, hn, rfl⟩
/-- windows by rank, weights by their own -/
theorem Good.acyW {R : List (List Int)} (G : Good R) (wt : Int → List Int) (h : ∀ (s : Nat) (es : List Int), R[s]? = some es → wt s = es.flatMap (sumE [0] wt)) : Acy R (rkR R) (fun s => (wt s).length + 1) 1 := by
  refine ⟨fun s es q e he hn => ⟨(G.wok _ _ (wn_of q he hn)).2, rk_lt G (wn_of q he hn)⟩, fun s es q => ?_, G.len, G.adr⟩
  show _ + 1 ≤ (wt s).length + 1
  rw [h s es q, List.length_flatMap]
  clear q
  induction es with
  | nil => simp
  | cons e es ih =>
    simp only [List.map_cons, List.sum_cons]
    have : (if e < 0 then (wt (-1 - e)).length + 1 else 1) ≤ (sumE [0] wt e).length := by
      unfold sumE
      by_cases c : e < 0
      · rw [if_pos c, if_pos c]; simp
      · rw [if_neg c, if_neg c]; simp
    omega
theorem len_le {wt : Int → List Int} (es : List Int) : es.length ≤ (es.flatMap (sumE [0] wt)).length := by
  induction es with
  | nil => simp
  | cons e es ih =>
    rw [List.flatMap_cons, List.length_append, List.length_cons]
    have : 1 ≤ (sumE [0] wt e).length := by
      unfold sumE
      by_cases c : e < 0
      · rw [if_pos c]; simp
      · rw [if_neg c]; simp
    omega
/-- the world, where all weights are small -/
theorem Good.sh {R : List (List Int)} (G : Good R) (wt : Int → List Int) (h : ∀ (s : Nat) (es : List Int), R[s]? = some es → wt s = es.flatMap (sumE [0] wt)) (hw : ∀ s : Nat, s < R.length → (wt s).length ≤ 200) : ∃ (b : Int → Nat) (sh : Int → List Int), Sh R (rkR R) b 1 sh (R.map itemsF) ∧ (∀ s, b s ≤ 201) ∧ ∀ s : Nat, s < R.length → (sh s).length ≤ (wt s).length := by
  have A := G.acyW wt h
  have A' : Acy R (rkR R) (fun s => if 0 ≤ s ∧ s < R.length then (wt s).length + 1 else 0) 1 := by
    refine ⟨A.win, fun s es q => ?_, A.len, A.adr⟩
    have hs : s < R.length := (List.getElem?_eq_some_iff.mp q).1
    have := A.sz s es q
    have c : (0 : Int) ≤ s ∧ (s : Int) < R.length := ⟨by omega, by omega⟩
    simp only [if_pos c]
    refine Nat.le_trans (Nat.le_of_eq ?_) this
    congr 2
    apply List.map_congr_left
    intro e he
    by_cases hn : e < 0
    · have h1 := (A.win s es q e he hn).1
      simp only [if_pos hn]
      rw [if_pos ⟨by omega, h1⟩]
    · simp only [if_neg hn]
  have hb : ∀ x : Int, (if 0 ≤ x ∧ x < R.length then (wt x).length + 1 else 0) ≤ 201 := fun x => by
    split
    · rename_i c
      obtain ⟨k, rfl⟩ : ∃ k : Nat, x = k := ⟨x.toNat, by omega⟩
      have := hw k (by omega)
      omega
    · omega
  obtain ⟨sh, hsh⟩ := sh_ex A' []
  refine ⟨_, sh, ⟨A', hsh, fun x => ⟨by have := rk_le R x; have := G.n; omega, by have := hb x; show (if _ then _ else _) ≤ 4000; omega⟩, G.n, rfl⟩, hb, ?_⟩
  have key : ∀ (k s : Nat), s < R.length → rkR R s < k → (sh s).length ≤ (wt s).length := fun k => by
    induction k with
    | zero => intro _ _ h; omega
    | succ k ih =>
      intro s hs hk
      have q : R[s]? = some R[s] := List.getElem?_eq_getElem hs
      rw [hsh s _ q, h s _ q]
      have all : ∀ e ∈ R[s], (sumE [] sh e).length ≤ (sumE [0] wt e).length := fun e he => by
        unfold sumE
        by_cases c : e < 0
        · rw [if_pos c, if_pos c]
          obtain ⟨h1, h2⟩ := A.win s _ q e he c
          have ht : (((-1 - e).toNat : Nat) : Int) = -1 - e := by omega
          have := ih (-1 - e).toNat (by omega) (by rw [ht]; omega)
          rw [ht] at this
          simp; omega
        · rw [if_neg c, if_neg c]; simp
      generalize R[s] = es at all
      clear q
      induction es with
      | nil => simp
      | cons e es ih2 =>
        have := all e (by simp)
        have := ih2 fun x hx => all x (by simp [hx])
        simp only [List.flatMap_cons, List.length_append]
        omega
  exact fun s hs => key (rkR R s + 1) s hs (by omega)
/-- one sheet given anew: no ring, if none goes through it -/
theorem rc_set {R : List (List Int)} {s : Nat} {es : List Int} (G : Good R) (hs : s < R.length) (hno : ¬ Rc (R.set s es) s s) : ∀ x, ¬ Rc (R.set s es) x x := by
  have wn : ∀ x t : Int, x ≠ s → Wn (R.set s es) x t → Wn R x t := fun x t hx ⟨h0, es', h1, h2⟩ => by
    refine ⟨h0, es', ?_, h2⟩
    rw [List.getElem?_set_ne (by omega)] at h1
    exact h1
  -- a way that meets s turns into a ring through s
  have key : ∀ {x t : Int}, Rc (R.set s es) x t → Rc R x t ∨ (x = s ∨ Rc (R.set s es) x s) ∧ (Rc (R.set s es) s t) := by
    intro x t h
    induction h with
    | @one x t a =>
      by_cases c : x = s
      · subst c; exact .inr ⟨.inl rfl, .one a⟩
      · exact .inl (.one (wn x t c a))
    | @cons x t u a r ih =>
      by_cases c : x = s
      · subst c; exact .inr ⟨.inl rfl, .cons a r⟩
      · rcases ih with ih | ⟨ih, ih2⟩
        · exact .inl (.cons (wn x t c a) ih)
        · refine .inr ⟨.inr ?_, ih2⟩
          rcases ih with rfl | ih
          · exact .one a
          · exact .cons a ih
  intro x hx
  rcases key hx with h | ⟨h | h, h2⟩
  · exact G.acy x h
  · subst h; exact hno h2
  · exact hno (h2.trans h)
theorem Good.set {R : List (List Int)} (G : Good R) (s : Nat) (es : List Int) (hs : s < R.length) (hw : ∀ e ∈ es, e < 0 → -1 - e < R.length) (hl : es.length ≤ 1000) (ha : ∀ e ∈ es, e ≤ 1000000) (hno : ¬ Rc (R.set s es) s s) : Good (R.set s es) := by
  have get : ∀ (t : Nat) (fs : List Int), (R.set s es)[t]? = some fs → (t = s ∧ fs = es) ∨ R[t]? = some fs := fun t fs q => by
    by_cases c : t = s
    · subst c
      rw [List.getElem?_set_self hs] at q
      exact .inl ⟨rfl, (Option.some.inj q).symm⟩
    · rw [List.getElem?_set_ne (Ne.symm c)] at q
      exact .inr q
  refine ⟨by rw [List.length_set]; exact G.n, fun x t h => ?_, rc_set G hs hno, fun t fs q => ?_, fun t fs q => ?_⟩
  · obtain ⟨h0, fs, h1, e, he, hn, rfl⟩ := h
    rw [List.length_set]
    rcases get _ _ h1 with ⟨_, rfl⟩ | h1
    · exact ⟨by omega, hw e he hn⟩
    · exact G.wok x _ ⟨h0, fs, h1, e, he, hn, rfl⟩
  · rcases get _ _ q with ⟨_, rfl⟩ | q
    · exact hl
    · exact G.len _ _ q
  · rcases get _ _ q with ⟨_, rfl⟩ | q
    · exact ha
    · exact G.adr _ _ q
theorem Good.snoc {R : List (List Int)} (G : Good R) (hn : R.length ≤ 40) : Good (R ++ [[]]) := by
  have get : ∀ (t : Nat) (fs : List Int), (R ++ [[]])[t]? = some fs → fs = [] ∨ R[t]? = some fs := fun t fs q => by
    by_cases c : t < R.length
    · rw [List.getElem?_append_left c] at q; exact .inr q
    · rw [List.getElem?_append_right (by omega)] at q
      have : t - R.length = 0 := by
        have := (List.getElem?_eq_some_iff.mp q).1; simp at this; omega
      rw [this] at q; simp at q; exact .inl q
  have wn : ∀ x t : Int, Wn (R ++ [[]]) x t → Wn R x t := fun x t ⟨h0, es', h1, e, he, h2⟩ => by
    rcases get _ _ h1 with rfl | h1
    · simp at he
    · exact ⟨h0, es', h1, e, he, h2⟩
  have rc : ∀ {x t : Int}, Rc (R ++ [[]]) x t → Rc R x t := fun h => by
    induction h with
    | one a => exact .one (wn _ _ a)
    | cons a _ ih => exact .cons (wn _ _ a) ih
  refine ⟨by simp; omega, fun x t h => ?_, fun x h => G.acy x (rc h), fun t fs q => ?_, fun t fs q => ?_⟩
  · have := G.wok x t (wn x t h)
    simp; omega
  · rcases get _ _ q with rfl | q
    · simp
    · exact G.len _ _ q
  · rcases get _ _ q with rfl | q
    · simp
    · exact G.adr _ _ q

/-! the shelf -/
abbrev En := Int × List It
def entD (f : Fl) (p : En) : D := .nd .tup [.int p.1, itsD f p.2]
def shtD (f : Fl) (l : List En) : D := .nd (.lst f) (l.map (entD f))
def shelfD (f : Fl) (P : List (List En)) (m : Int) : D := .nd (.ins f "Shelf" ["past", "moment"]) [.nd (.lst f) (P.map (shtD f)), .int m]
@[simp] theorem set_entD (g : Fl) (p : En) : D.set g (entD .own p) = entD g p := by simp [entD]
@[simp] theorem set_entB (g : Fl) (p : En) : D.set g (entD .bor p) = entD .bor p := by simp [entD]
@[simp] theorem setL_entD (g : Fl) (l : List En) : D.setL g (l.map (entD .own)) = l.map (entD g) := by rw [D.setL_map, List.map_map]; apply List.map_congr_left; intro p _; simp
@[simp] theorem setL_entB (g : Fl) (l : List En) : D.setL g (l.map (entD .bor)) = l.map (entD .bor) := by rw [D.setL_map, List.map_map]; apply List.map_congr_left; intro p _; simp
@[simp] theorem set_shtD (g : Fl) (l : List En) : D.set g (shtD .own l) = shtD g l := by simp [shtD]
@[simp] theorem set_shtB (g : Fl) (l : List En) : D.set g (shtD .bor l) = shtD .bor l := by simp [shtD]
@[simp] theorem setL_shtD (g : Fl) (P : List (List En)) : D.setL g (P.map (shtD .own)) = P.map (shtD g) := by rw [D.setL_map, List.map_map]; apply List.map_congr_left; intro p _; simp
@[simp] theorem setL_shtB (g : Fl) (P : List (List En)) : D.setL g (P.map (shtD .bor)) = P.map (shtD .bor) := by rw [D.setL_map, List.map_map]; apply List.map_congr_left; intro p _; simp
@[simp] theorem noBor_entD (p : En) : D.noBor (entD .own p) = true := by simp [entD]
@[simp] theorem noBorL_entD : ∀ l : List En, D.noBorL (l.map (entD .own)) = true
  | [] => by simp
  | p :: l => by simp [noBorL_entD l]
@[simp] theorem noBor_shtD (l : List En) : D.noBor (shtD .own l) = true := by simp [shtD]
@[simp] theorem noBorL_shtD : ∀ P : List (List En), D.noBorL (P.map (shtD .own)) = true
  | [] => by simp
  | l :: P => by simp [noBorL_shtD P]
@[simp] theorem set_insD (g : Fl) (c : Str) (ns : List Str) (xs : List D) : D.set g (.nd (.ins .own c ns) xs) = .nd (.ins g c ns) (D.setL g xs) := by simp [D.set, Kd.fl, Kd.with]
@[simp] theorem set_insB (g : Fl) (c : Str) (ns : List Str) (xs : List D) : D.set g (.nd (.ins .bor c ns) xs) = .nd (.ins .bor c ns) (D.setL g xs) := by simp [D.set, Kd.fl, Kd.with]
@[simp] theorem noBor_insD (c : Str) (ns : List Str) (xs : List D) : D.noBor (.nd (.ins .own c ns) xs) = D.noBorL xs := by simp [D.noBor, Kd.fl]
@[simp] theorem set_shelfD (g : Fl) (P : List (List En)) (m : Int) : D.set g (shelfD .own P m) = shelfD g P m := by simp [shelfD]
@[simp] theorem set_shelfB (g : Fl) (P : List (List En)) (m : Int) : D.set g (shelfD .bor P m) = shelfD .bor P m := by simp [shelfD]
@[simp] theorem noBor_shelfD (P : List (List En)) (m : Int) : D.noBor (shelfD .own P m) = true := by simp [shelfD]
@[simp] theorem plD0_shelfD (r : Nat) (p : Pth) (f : Fl) (P : List (List En)) (m : Int) : plD0 r p (shelfD f P m) = some (.pth r p) := rfl
@[simp] theorem insD_shelfD (f : Fl) (P : List (List En)) (m : Int) : insD "Shelf" ["past", "moment"] (some (shelfD f P m)) = some (f, [.nd (.lst f) (P.map (shtD f)), .int m]) := by simp [insD, shelfD]
theorem sh_init : F_Shelf___init__ [.nd (.ins .own "Shelf" []) []] = .ok .non [shelfD .own [] 0] := by
  simp [F_Shelf___init__, runF_eq, m_Shelf___init__, chk_of, chkO_of, shelfD]
theorem sh_many (P : List (List En)) (m : Int) : F_Shelf_many [shelfD .bor P m] = .ok (.int P.length) [.un] := by
  simp [F_Shelf_many, runF_eq, m_Shelf_many, chk_of, chkO_of, shelfD]
theorem sh_look (P : List (List En)) (m s : Int) (h : 0 ≤ s ∧ s < P.length) : F_Shelf_look [shelfD .bor P m, .int s] = .ok .non [.un, .un] := by
  have c1 : ¬ s < 0 := by omega
  have c2 : ¬ (P.length : Int) ≤ s := by omega
  simp [F_Shelf_look, runF_eq, m_Shelf_look, chk_of, chkO_of, shelfD, c1, c2]
theorem sh_look_out (P : List (List En)) (m s : Int) (h : ¬ (0 ≤ s ∧ s < P.length)) : F_Shelf_look [shelfD .bor P m, .int s] = .ex ⟨"NoSheet", "", none⟩ [.un, .un] := by
  by_cases c1 : s < 0
  · simp [F_Shelf_look, runF_eq, m_Shelf_look, chk_of, chkO_of, shelfD, c1]
  · have c2 : (P.length : Int) ≤ s := by omega
    simp [F_Shelf_look, runF_eq, m_Shelf_look, chk_of, chkO_of, shelfD, c1, c2]
def lastI (l : List En) : List It := (l.getLast?.map (·.2)).getD []
theorem sh_row (P : List (List En)) (m : Int) (s : Nat) (l : List En) (h : P[s]? = some l) (hn : l ≠ []) (hl : (lastI l).length ≤ 10000) : F_Shelf_row [shelfD .bor P m, .int s] = .ok (itsD .own (lastI l)) [.un, .un] := by
  have hs : s < P.length := (List.getElem?_eq_some_iff.mp h).1
  have e1 := sh_look P m s ⟨by omega, by omega⟩
  rcases nil_or_last l with rfl | ⟨init, ⟨k, is⟩, rfl⟩
  · exact absurd rfl hn
  have hx : ixN P.length (s : Int) = some s := by rw [ixN_int (by omega) (by omega)]; simp
  have hP := (List.getElem?_eq_some_iff.mp h).2
  have hz : lastI (init ++ [(k, is)]) = is := by simp [lastI]
  rw [hz] at hl ⊢
  have k1 : is.length < 16777216 := by omega
  have k2 : is.length ≤ 16777216 := by omega
  unfold shelfD at e1
  have hP2 : P[s]? = some (init ++ [(k, is)]) := h
  have ix1 : ixN (init.length + 1) (-1) = some init.length := by
    simp [ixN]
    omega
  simp [F_Shelf_row, runF_eq, m_Shelf_row, chk_of, chkO_of, shelfD, e1, hx, hs, hP, hP2, shtD, entD, itsD, ix1, k1, k2]
def curF (P : List (List En)) : List (List It) := P.map lastI
def PastOk (P : List (List En)) : Prop := P.length ≤ 41 ∧ ∀ l ∈ P, l ≠ [] ∧ l.length ≤ 100000 ∧ (lastI l).length ≤ 10000
theorem range_map (n : Nat) {α : Type} (f : Nat → α) (g : Int → α) (h : ∀ i, i < n → g ((0 : Int) + (i : Nat)) = f i) : (((List.range n).map fun i => (0 : Int) + (i : Nat)).map g) = (List.range n).map f := by
  rw [List.map_map]
  apply List.map_congr_left
  intro i hi
  exact h i (List.mem_range.mp hi)
theorem map_range_get {α β : Type} (P : List α) (d : α) (f : α → β) : (List.range P.length).map (fun i => f (P[i]?.getD d)) = P.map f := by
  apply List.ext_getElem
  · simp
  · intro i h1 h2
    have : i < P.length := by simpa using h2
    simp [this]
theorem sh_rows (P : List (List En)) (m : Int) (h : PastOk P) : F_Shelf_rows [shelfD .bor P m] = .ok (.nd (.lst .own) ((curF P).map (itsD .own))) [.un] := by
  have e1 : lcL (lcT [1] lg_Shelf_rows_1 lt_Shelf_rows_1 le_Shelf_rows_1) (rangeD 0 (P.length : Int)) [] [shelfD .bor P m, .un] = .ok ((curF P).map (itsD .own)) [shelfD .bor P m, .un] := by
    have hr : rangeD 0 (P.length : Int) = ((List.range P.length).map fun i => (0 : Int) + (i : Nat)).map D.int := by
      have := rangeD_eq 0 (P.length : Int)
      simpa using this
    rw [hr, lcL_pure (f := D.int) (fun x => some (itsD .own (lastI (P[x.toNat]?.getD [])))) _ [] (by have := h.1; simp; omega) (fun x hx => by
      rw [List.mem_map] at hx
      obtain ⟨i, hi, rfl⟩ := hx
      rw [List.mem_range] at hi
      have q : P[i]? = some P[i] := List.getElem?_eq_getElem hi
      obtain ⟨o1, o2, o3⟩ := h.2 _ (List.getElem_mem hi)
      have e := sh_row P m i P[i] q o1 o3
      have ei : ((0 : Int) + (i : Nat)).toNat = i := by omega
      have ej : ((0 : Int) + (i : Nat)) = (i : Int) := by omega
      rw [ei, q, ej]
      simp [lg_Shelf_rows_1, lt_Shelf_rows_1, le_Shelf_rows_1, chkO_of, chk_of, e])]
    have := range_map P.length (fun i => itsD .own (lastI (P[i]?.getD []))) (fun x => itsD .own (lastI (P[x.toNat]?.getD []))) (fun i _ => by rw [show ((0 : Int) + (i : Nat)).toNat = i by omega])
    rw [List.nil_append]
    have hf : ∀ xs : List Int, xs.filterMap (fun x => some (itsD .own (lastI (P[x.toNat]?.getD [])))) = xs.map fun x => itsD .own (lastI (P[x.toNat]?.getD [])) := fun xs => by
      induction xs with
      | nil => rfl
      | cons x xs ih => simp [ih]
    rw [hf, this, map_range_get P [] (fun l => itsD .own (lastI l))]
    simp [curF]
  have e2 : mLcRC1 (mQ (qLen (qFs "Shelf" ["past", "moment"] 0 (qV 0)))) [1] lg_Shelf_rows_1 lt_Shelf_rows_1 le_Shelf_rows_1 [shelfD .bor P m, .un] = .ok (.nd (.lst .own) ((curF P).map (itsD .own))) [shelfD .bor P m, .un] :=
    lcRC1_of (z := (P.length : Int)) (by simp [shelfD]) (by omega) (by have := h.1; omega) e1
  simp [F_Shelf_rows, runF_eq, m_Shelf_rows, chk_of, chkO_of, e2]
/-- a change -/
def chD (f : Fl) (p : Int × List It) : D := .nd .tup [.int p.1, itsD f p.2]
def stepP (k : Int) (P : List (List En)) (c : Int × List It) : List (List En) := if c.1 = P.length then P ++ [[(k, c.2)]] else P.set c.1.toNat ((P[c.1.toNat]?.getD []) ++ [(k, c.2)])
theorem step_turn (f : Fl) (hf : f = .bor ∨ f = .fz) (P : List (List En)) (k : Int) (d1 x y : D) (c : Int × List It) (h0 : 0 ≤ c.1) (h1 : c.1 ≤ P.length) (hP : P.length ≤ 1000) (hL : ∀ l ∈ P, l.length ≤ 100000) (hc : c.2.length ≤ 10000) :
    tgR (lg_Shelf_step_1 (chD f c) [shelfD .own P k, d1, x, y]) lb_Shelf_step_1 = .nx [shelfD .own (stepP k P c) k, d1, .int c.1, itsD f c.2] := by
  obtain ⟨s, is⟩ := c
  simp only at h0 h1 hc
  have k1 : is.length ≤ 16777216 := by omega
  have k2 : P.length < 16777216 := by omega
  have hset : ∀ g : Fl, g = .bor ∨ g = .fz → D.set .fz (itsD g is) = itsD g is := fun g hg => by rcases hg with rfl | rfl <;> simp
  by_cases q : s = P.length
  · subst q
    have hx : ixN (P.length + 1) (P.length : Int) = some P.length := by rw [ixN_int (by omega) (by omega)]; simp
    rcases hf with rfl | rfl <;> simp [lg_Shelf_step_1, lb_Shelf_step_1, chD, shelfD, chk_of, chkO_of, stepP, k2, hx, shtD, entD, itsD, k1]
  · obtain ⟨j, rfl⟩ : ∃ j : Nat, s = j := ⟨s.toNat, by omega⟩
    have hj : j < P.length := by omega
    have hx : ixN P.length (j : Int) = some j := by rw [ixN_int (by omega) (by omega)]; simp
    have hl := hL _ (List.getElem_mem hj)
    have k3 : P[j].length < 16777216 := by omega
    rcases hf with rfl | rfl <;> simp [lg_Shelf_step_1, lb_Shelf_step_1, chD, shelfD, chk_of, chkO_of, stepP, q, hx, hj, shtD, entD, itsD, k1, k3]

/-- texts by their codes -/
def tx (cs : List Nat) : Str := ⟨cs.toArray⟩
@[simp] theorem tx_len (cs : List Nat) : (tx cs).length = cs.length := by simp [tx, Str.length]
@[simp] theorem tx_app (a b : List Nat) : tx a ++ tx b = tx (a ++ b) := by
  show Str.append _ _ = _
  simp [tx, Str.append]
@[simp] theorem tx_codes (cs : List Nat) : (tx cs).cps.toList = cs := by simp [tx]
@[simp] theorem signsD_tx (cs : List Nat) : signsD (tx cs) = cs.map fun c => .str (tx [c]) := by simp [signsD, tx]
/-! the well -/
def poD (p : Int × Nat × Nat) : D := .nd .tup [.int p.1, .int p.2.1, .int p.2.2]
@[simp] theorem set_poD (g : Fl) (p : Int × Nat × Nat) : D.set g (poD p) = poD p := by simp [poD]
@[simp] theorem noBor_poD (p : Int × Nat × Nat) : D.noBor (poD p) = true := by simp [poD]
@[simp] theorem setL_poD (g : Fl) : ∀ ps : List (Int × Nat × Nat), D.setL g (ps.map poD) = ps.map poD
  | [] => by simp
  | p :: ps => by have := setL_poD g ps; simp [poD] at this ⊢; exact this
@[simp] theorem noBorL_poD : ∀ ps : List (Int × Nat × Nat), D.noBorL (ps.map poD) = true
  | [] => by simp
  | p :: ps => by have := noBorL_poD ps; simp [poD] at this ⊢; exact this
def wellD (f : Fl) (cs : List Nat) (ps : List (Int × Nat × Nat)) : D := .nd (.ins f "Well" ["poured_signs", "pours"]) [.str (tx cs), .nd (.lst f) (ps.map poD)]
@[simp] theorem set_wellD (g : Fl) (cs : List Nat) (ps : List (Int × Nat × Nat)) : D.set g (wellD .own cs ps) = wellD g cs ps := by simp [wellD]
@[simp] theorem set_wellB (g : Fl) (cs : List Nat) (ps : List (Int × Nat × Nat)) : D.set g (wellD .bor cs ps) = wellD .bor cs ps := by simp [wellD]
@[simp] theorem noBor_wellD (cs : List Nat) (ps : List (Int × Nat × Nat)) : D.noBor (wellD .own cs ps) = true := by simp [wellD]
@[simp] theorem plD0_wellD (r : Nat) (p : Pth) (f : Fl) (cs : List Nat) (ps : List (Int × Nat × Nat)) : plD0 r p (wellD f cs ps) = some (.pth r p) := rfl
@[simp] theorem insD_wellD (f : Fl) (cs : List Nat) (ps : List (Int × Nat × Nat)) : insD "Well" ["poured_signs", "pours"] (some (wellD f cs ps)) = some (f, [.str (tx cs), .nd (.lst f) (ps.map poD)]) := by simp [insD, wellD]
theorem w_holds (fl : Fl) (cs : List Nat) (ps : List (Int × Nat × Nat)) (row : List (Int × Int)) (h : ∀ p ∈ row, 0 ≤ p.1 ∧ p.1 < p.2 ∧ p.2 ≤ cs.length) (hc : cs.length ≤ 1000000) (hl : row.length ≤ 1000000) : F_Well_holds [wellD .bor cs ps, .nd (.lst fl) (row.map pD)] = .ok (.bl true) [.un, .un] := by
  have k1 : cs.length ≤ 16777216 := by omega
  obtain ⟨st', e, x, y, rfl, _⟩ := forL_inv (g := lg_Well_holds_1) (b := lb_Well_holds_1) (f := pD) (fun pre post st => ∃ x y : D, st = [wellD .bor cs ps, (D.nd (.lst fl) (row.map pD)).frz, x, y] ∧ ∀ p ∈ post, p ∈ row)
    (fun pre p post st ⟨x, y, e1, hm⟩ => by
      subst e1
      obtain ⟨h1, h2, h3⟩ := h p (hm p (by simp))
      refine ⟨[wellD .bor cs ps, (D.nd (.lst fl) (row.map pD)).frz, .int p.1, .int p.2], ?_, _, _, rfl, fun y hy => hm y (by simp [hy])⟩
      simp [lg_Well_holds_1, lb_Well_holds_1, chk_of, chkO_of, pD, wellD, h1, h2, h3, k1])
    [] row [wellD .bor cs ps, (D.nd (.lst fl) (row.map pD)).frz, .un, .un] ⟨_, _, rfl, fun p hp => hp⟩
  unfold wellD at e ⊢
  cases fl <;> simp at e <;> simp [F_Well_holds, runF_eq, m_Well_holds, chk_of, chkO_of, e]

/-! the library -/
abbrev Pr := Option (List (Int × Int) × List (Int × Int))
structure Lb where
  cs : List Nat
  po : List (Int × Nat × Nat)
  vl : List (Int × Int)
  P : List (List En)
  m : Int
  ts : List Pr
  gk : List Int
  gv : List Int
  bk : List Str
def tieD (f : Fl) : Pr → D
  | none => .non
  | some p => .nd .tup [.nd (.lst f) (p.1.map pD), .nd (.lst f) (p.2.map pD)]
@[simp] theorem set_tie_own (g : Fl) (p : Pr) : D.set g (tieD .own p) = tieD g p := by cases p <;> simp [tieD]
@[simp] theorem set_tie_bor (g : Fl) (p : Pr) : D.set g (tieD .bor p) = tieD .bor p := by cases p <;> simp [tieD]
@[simp] theorem setL_ties_own (g : Fl) (ps : List Pr) : D.setL g (ps.map (tieD .own)) = ps.map (tieD g) := by rw [D.setL_map, List.map_map]; apply List.map_congr_left; intro p _; simp
@[simp] theorem setL_ties_bor (g : Fl) (ps : List Pr) : D.setL g (ps.map (tieD .bor)) = ps.map (tieD .bor) := by rw [D.setL_map, List.map_map]; apply List.map_congr_left; intro p _; simp
@[simp] theorem noBor_tie (p : Pr) : D.noBor (tieD .own p) = true := by cases p <;> simp [tieD]
@[simp] theorem noBorL_ties (ps : List Pr) : D.noBorL (ps.map (tieD .own)) = true := by
  induction ps with
  | nil => simp
  | cons p ps ih => simp [ih]
def blotsD (f : Fl) (xs : List (Int × Int)) : D := .nd (.ins f "Blots" ["veiled"]) [.nd (.lst f) (xs.map pD)]
def knotsD (f : Fl) (ps : List Pr) : D := .nd (.ins f "Ties" ["pairs"]) [.nd (.lst f) (ps.map (tieD f))]
def duesD (f : Fl) (gk gv : List Int) : D := .nd (.ins f "Dues" ["grains"]) [.nd (.dct f (gk.map (Sum.inl : Int → Key))) (gv.map D.int)]
@[simp] theorem setL_strD (g : Fl) : ∀ zs : List Str, D.setL g (zs.map D.str) = zs.map D.str
  | [] => by simp
  | w :: ws => by simp [setL_strD g ws]
@[simp] theorem noBorL_strD : ∀ zs : List Str, D.noBorL (zs.map D.str) = true
  | [] => by simp
  | w :: ws => by simp [noBorL_strD ws]
@[simp] theorem set_blotsD (g : Fl) (xs : List (Int × Int)) : D.set g (blotsD .own xs) = blotsD g xs := by simp [blotsD]
@[simp] theorem set_blotsB (g : Fl) (xs : List (Int × Int)) : D.set g (blotsD .bor xs) = blotsD .bor xs := by simp [blotsD]
@[simp] theorem noBor_blotsD (xs : List (Int × Int)) : D.noBor (blotsD .own xs) = true := by simp [blotsD]
@[simp] theorem set_knotsD (g : Fl) (xs : List Pr) : D.set g (knotsD .own xs) = knotsD g xs := by simp [knotsD]
@[simp] theorem set_knotsB (g : Fl) (xs : List Pr) : D.set g (knotsD .bor xs) = knotsD .bor xs := by simp [knotsD]
@[simp] theorem noBor_knotsD (xs : List Pr) : D.noBor (knotsD .own xs) = true := by simp [knotsD]
@[simp] theorem set_duesD (g : Fl) (k v : List Int) : D.set g (duesD .own k v) = duesD g k v := by simp [duesD]
@[simp] theorem set_duesB (g : Fl) (k v : List Int) : D.set g (duesD .bor k v) = duesD .bor k v := by simp [duesD]
@[simp] theorem noBor_duesD (k v : List Int) : D.noBor (duesD .own k v) = true := by simp [duesD]
@[simp] theorem plD0_blotsD (r : Nat) (p : Pth) (f : Fl) (xs : List (Int × Int)) : plD0 r p (blotsD f xs) = some (.pth r p) := rfl
@[simp] theorem plD0_knotsD (r : Nat) (p : Pth) (f : Fl) (xs : List Pr) : plD0 r p (knotsD f xs) = some (.pth r p) := rfl
@[simp] theorem plD0_duesD (r : Nat) (p : Pth) (f : Fl) (k v : List Int) : plD0 r p (duesD f k v) = some (.pth r p) := rfl
@[simp] theorem insD_blotsD (f : Fl) (xs : List (Int × Int)) : insD "Blots" ["veiled"] (some (blotsD f xs)) = some (f, [.nd (.lst f) (xs.map pD)]) := by simp [insD, blotsD]
@[simp] theorem insD_knotsD (f : Fl) (xs : List Pr) : insD "Ties" ["pairs"] (some (knotsD f xs)) = some (f, [.nd (.lst f) (xs.map (tieD f))]) := by simp [insD, knotsD]
@[simp] theorem insD_duesD (f : Fl) (k v : List Int) : insD "Dues" ["grains"] (some (duesD f k v)) = some (f, [.nd (.dct f (k.map (Sum.inl : Int → Key))) (v.map D.int)]) := by simp [insD, duesD]
def libD (f : Fl) (L : Lb) : D := .nd (.ins f "Library" ["well", "blots", "shelf", "knots", "purse", "book"]) [wellD f L.cs L.po, blotsD f L.vl, shelfD f L.P L.m, knotsD f L.ts, duesD f L.gk L.gv, .nd (.lst f) (L.bk.map D.str)]
@[simp] theorem set_libD (g : Fl) (L : Lb) : D.set g (libD .own L) = libD g L := by simp [libD]
@[simp] theorem set_libB (g : Fl) (L : Lb) : D.set g (libD .bor L) = libD .bor L := by simp [libD]
@[simp] theorem noBor_libD (L : Lb) : D.noBor (libD .own L) = true := by simp [libD]
@[simp] theorem plD0_libD (r : Nat) (p : Pth) (f : Fl) (L : Lb) : plD0 r p (libD f L) = some (.pth r p) := rfl
def lb0 : Lb := ⟨[], [], [], [], 0, [], [], [], []⟩
@[simp] theorem set_chO (g : Fl) (c : Int × List It) : D.set g (chD .own c) = chD g c := by simp [chD]
@[simp] theorem set_chB (g : Fl) (c : Int × List It) : D.set g (chD .bor c) = chD .bor c := by simp [chD]
@[simp] theorem set_chF (g : Fl) (c : Int × List It) : D.set g (chD .fz c) = chD .fz c := by simp [chD]
@[simp] theorem setL_chO (g : Fl) (C : List (Int × List It)) : D.setL g (C.map (chD .own)) = C.map (chD g) := by rw [D.setL_map, List.map_map]; apply List.map_congr_left; intro p _; simp
@[simp] theorem setL_chB (g : Fl) (C : List (Int × List It)) : D.setL g (C.map (chD .bor)) = C.map (chD .bor) := by rw [D.setL_map, List.map_map]; apply List.map_congr_left; intro p _; simp
@[simp] theorem setL_chF (g : Fl) (C : List (Int × List It)) : D.setL g (C.map (chD .fz)) = C.map (chD .fz) := by rw [D.setL_map, List.map_map]; apply List.map_congr_left; intro p _; simp
@[simp] theorem noBor_chD (c : Int × List It) : D.noBor (chD .own c) = true := by simp [chD]
@[simp] theorem noBorL_chD (C : List (Int × List It)) : D.noBorL (C.map (chD .own)) = true := by
  induction C with
  | nil => simp
  | cons p ps ih => simp [ih]
open TL in
def Bg (n : Int) : Prop := 0 ≤ n ∧ n < 1000000000000000000000000000000000000000000000000000000000000
open TL in
theorem cutL_tl {α : Type} (x : α) (xs : List α) : cutL (x :: xs) (some 1) none = xs := by
  have := cutL_from (xs := x :: xs) (y := 1) (by omega) (by simp only [List.length_cons]; omega)
  simpa using this
def joinS (l : List Str) : Str := Txt.join (Str.ofString " ") l
def stS (p : Int × Int) : Str := nS p.1 ++ Str.ofString "-" ++ nS p.2
theorem cur_len {P : List (List En)} {R : List (List Int)} (h : curF P = R.map itemsF) : P.length = R.length := by
  have := congrArg List.length h
  simpa [curF] using this
/-! the world of the law -/
def inkD (p : Int × Nat) : D := .nd .tup [.int p.1, .str (tx [p.2])]
@[simp] theorem set_inkD (g : Fl) (p : Int × Nat) : D.set g (inkD p) = inkD p := by simp [inkD]
@[simp] theorem noBor_inkD (p : Int × Nat) : D.noBor (inkD p) = true := by simp [inkD]
@[simp] theorem setL_inkD (g : Fl) : ∀ ps : List (Int × Nat), D.setL g (ps.map inkD) = ps.map inkD
  | [] => by simp
  | p :: ps => by have := setL_inkD g ps; simp [inkD] at this ⊢; exact this
@[simp] theorem noBorL_inkD : ∀ ps : List (Int × Nat), D.noBorL (ps.map inkD) = true
  | [] => by simp
  | p :: ps => by have := noBorL_inkD ps; simp [inkD] at this ⊢; exact this
def rowsZ (R : List (List Int)) : D := .nd (.lst .fz) (R.map (esD .fz))
@[simp] theorem set_rowsZ (g : Fl) (R : List (List Int)) : D.set g (rowsZ R) = rowsZ R := by simp [rowsZ]
@[simp] theorem setL_rowsZ (g : Fl) (Ps : List (List (List Int))) : D.setL g (Ps.map rowsZ) = Ps.map rowsZ := by rw [D.setL_map, List.map_map]; apply List.map_congr_left; intro p _; simp
@[simp] theorem noBor_esZ (es : List Int) : D.noBor (esD .fz es) = true := by simp [esD]
@[simp] theorem noBorL_esZ (R : List (List Int)) : D.noBorL (R.map (esD .fz)) = true := by
  induction R with
  | nil => simp
  | cons p ps ih => simp [ih]
@[simp] theorem noBor_rowsZ (R : List (List Int)) : D.noBor (rowsZ R) = true := by simp [rowsZ]
@[simp] theorem noBorL_rowsZ (Ps : List (List (List Int))) : D.noBorL (Ps.map rowsZ) = true := by
  induction Ps with
  | nil => simp
  | cons p ps ih => simp [ih]
@[simp] theorem plD0_rowsZ (r : Nat) (p : Pth) (R : List (List Int)) : plD0 r p (rowsZ R) = some (.pth r p) := rfl
@[simp] theorem setL_ints (g : Fl) (V : List Int) : D.setL g (V.map D.int) = V.map D.int := by rw [D.setL_map, List.map_map]; apply List.map_congr_left; intro p _; simp
abbrev kWorld : List Key := [.inr "ink", .inr "rows", .inr "past", .inr "veil"]
@[simp] theorem kp_ink : kpos kWorld (.inr "ink") = some 0 := by decide +kernel
@[simp] theorem kp_rows : kpos kWorld (.inr "rows") = some 1 := by decide +kernel
@[simp] theorem kp_past : kpos kWorld (.inr "past") = some 2 := by decide +kernel
@[simp] theorem kp_veil : kpos kWorld (.inr "veil") = some 3 := by decide +kernel
def worldD (f fl : Fl) (I : List (Int × Nat)) (R : List (List Int)) (Ps : List (List (List Int))) (V : List Int) : D := .nd (.dct f kWorld) [.nd (.lst f) (I.map inkD), .nd (.lst fl) (R.map (esD .fz)), .nd (.lst f) (.nd (.lst f) [] :: Ps.map rowsZ), .nd (.lst f) (V.map D.int)]
/-! the library tells the world -/
structure St (L : Lb) (I : List (Int × Nat)) (R : List (List Int)) (Ps : List (List (List Int))) : Prop where
  cs : L.cs = I.map (·.2)
  nI : I.length ≤ 200 * Ps.length
  ok : ∀ p ∈ I, p.2 < 1114112 ∧ Bg p.1
  cur : curF L.P = R.map itemsF
  ne : ∀ l ∈ L.P, l ≠ [] ∧ l.length ≤ Ps.length
  m : L.m = Ps.length
  G : Good R
  w : ∃ wt : Int → List Int, (∀ (s : Nat) (es : List Int), R[s]? = some es → wt s = es.flatMap (sumE [0] wt)) ∧ ∀ s : Nat, s < R.length → (wt s).length ≤ 200
  adr : ∀ es ∈ R, ∀ e ∈ es, e < I.length
  bk : L.bk.length ≤ Ps.length
  po : L.po.length ≤ Ps.length
  n40 : R.length ≤ 40
theorem St.world {L : Lb} {I : List (Int × Nat)} {R : List (List Int)} {Ps : List (List (List Int))} (S : St L I R Ps) : ∃ (b : Int → Nat) (sh : Int → List Int), Sh R (rkR R) b 1 sh (R.map itemsF) ∧ (∀ s, b s ≤ 201) ∧ (∀ s : Nat, s < R.length → (sh s).length ≤ 200) ∧ ∀ (s : Nat) (es : List Int), R[s]? = some es → es.length ≤ 200 := by
  obtain ⟨wt, h1, h2⟩ := S.w
  obtain ⟨b, sh, h3, h4, h5⟩ := S.G.sh wt h1 h2
  refine ⟨b, sh, h3, h4, fun s hs => by have := h5 s hs; have := h2 s hs; omega, fun s es q => ?_⟩
  have hs := (List.getElem?_eq_some_iff.mp q).1
  have := len_le (wt := wt) es
  rw [← h1 s es q] at this
  have := h2 s hs
  omega
/-! the deeds drawn -/
inductive Dd
  | put (s : Nat) (p : Int) (row : List (Int × Int)) | cut (s : Nat) (x y : Int) | move (s : Nat) (x y t : Int) | quote (t : Nat) (p : Int) (s : Nat) (x y : Int) | window (t : Nat) (p : Int) (s : Nat) | fix (s : Nat) | back (s : Nat) (m : Int)
def ddD (f : Fl) : Dd → D
  | .put s p row => .nd .tup [.str "put", .int s, .int p, .nd (.lst f) (row.map pD)]
  | .cut s x y => .nd .tup [.str "cut", .int s, .int x, .int y]
  | .move s x y t => .nd .tup [.str "move", .int s, .int x, .int y, .int t]
  | .quote t p s x y => .nd .tup [.str "quote", .int t, .int p, .int s, .int x, .int y]
  | .window t p s => .nd .tup [.str "window", .int t, .int p, .int s]
  | .fix s => .nd .tup [.str "fix", .int s]
  | .back s m => .nd .tup [.str "back", .int s, .int m]
def Dd.sheet : Dd → Nat
  | .put s _ _ => s
  | .cut s _ _ => s
  | .move s _ _ _ => s
  | .quote s _ _ _ _ => s
  | .window s _ _ => s
  | .fix s => s
  | .back s _ => s
@[simp] theorem atI4_0 {α : Type} (x y z w : α) : atI [x, y, z, w] 0 = some x := rfl
@[simp] theorem atI4_1 {α : Type} (x y z w : α) : atI [x, y, z, w] 1 = some y := rfl
@[simp] theorem atI4_2 {α : Type} (x y z w : α) : atI [x, y, z, w] 2 = some z := rfl
@[simp] theorem atI4_3 {α : Type} (x y z w : α) : atI [x, y, z, w] 3 = some w := rfl
def RowOk (n : Nat) (row : List (Int × Int)) : Prop := row.length ≤ 4 ∧ ∀ p ∈ row, 0 ≤ p.1 ∧ p.1 < p.2 ∧ p.2 ≤ n ∧ p.2 - p.1 ≤ 40
def OkDd (n : Nat) (R : List (List Int)) (sh : Int → List Int) : Dd → Prop
  | .put s p row => s < R.length ∧ 0 ≤ p ∧ p ≤ (sh s).length ∧ RowOk n row
  | .cut s x y => s < R.length ∧ 0 ≤ x ∧ x ≤ y ∧ y ≤ (sh s).length
  | .move s x y t => s < R.length ∧ (0 ≤ x ∧ x ≤ y ∧ y ≤ (sh s).length) ∧ 0 ≤ t ∧ t ≤ (sh s).length - (y - x)
  | .quote t p s x y => t < R.length ∧ s < R.length ∧ (0 ≤ p ∧ p ≤ (sh t).length) ∧ 0 ≤ x ∧ x ≤ y ∧ y ≤ (sh s).length
  | .window t p s => t < R.length ∧ s < R.length ∧ 0 ≤ p ∧ p ≤ (sh t).length
  | .fix s => s < R.length
  | .back _ _ => False
/-! the names of deeds -/
theorem okn_back : D.ok (.str "back") 60 = true := by simp [D.ok]; decide +kernel
theorem okn_cut : D.ok (.str "cut") 60 = true := by simp [D.ok]; decide +kernel
theorem okn_fix : D.ok (.str "fix") 60 = true := by simp [D.ok]; decide +kernel
theorem okn_fresh : D.ok (.str "fresh") 60 = true := by simp [D.ok]; decide +kernel
theorem okn_move : D.ok (.str "move") 60 = true := by simp [D.ok]; decide +kernel
theorem okn_pour : D.ok (.str "pour") 60 = true := by simp [D.ok]; decide +kernel
theorem okn_put : D.ok (.str "put") 60 = true := by simp [D.ok]; decide +kernel
theorem okn_quote : D.ok (.str "quote") 60 = true := by simp [D.ok]; decide +kernel
theorem okn_tie : D.ok (.str "tie") 60 = true := by simp [D.ok]; decide +kernel
theorem okn_window : D.ok (.str "window") 60 = true := by simp [D.ok]; decide +kernel
@[simp] theorem eqn_put_pour : eqD (.str "put") (.str "pour") = some false := by rw [eqD_ok okn_put okn_pour]; simp; decide +kernel
@[simp] theorem eqn_put_fresh : eqD (.str "put") (.str "fresh") = some false := by rw [eqD_ok okn_put okn_fresh]; simp; decide +kernel
@[simp] theorem eqn_put_put : eqD (.str "put") (.str "put") = some true := by rw [eqD_ok okn_put okn_put]; simp
@[simp] theorem eqn_put_cut : eqD (.str "put") (.str "cut") = some false := by rw [eqD_ok okn_put okn_cut]; simp; decide +kernel
@[simp] theorem eqn_put_move : eqD (.str "put") (.str "move") = some false := by rw [eqD_ok okn_put okn_move]; simp; decide +kernel
@[simp] theorem eqn_put_quote : eqD (.str "put") (.str "quote") = some false := by rw [eqD_ok okn_put okn_quote]; simp; decide +kernel
@[simp] theorem eqn_put_window : eqD (.str "put") (.str "window") = some false := by rw [eqD_ok okn_put okn_window]; simp; decide +kernel
@[simp] theorem eqn_put_fix : eqD (.str "put") (.str "fix") = some false := by rw [eqD_ok okn_put okn_fix]; simp; decide +kernel
@[simp] theorem eqn_put_tie : eqD (.str "put") (.str "tie") = some false := by rw [eqD_ok okn_put okn_tie]; simp; decide +kernel
@[simp] theorem eqn_cut_pour : eqD (.str "cut") (.str "pour") = some false := by rw [eqD_ok okn_cut okn_pour]; simp; decide +kernel
@[simp] theorem eqn_cut_fresh : eqD (.str "cut") (.str "fresh") = some false := by rw [eqD_ok okn_cut okn_fresh]; simp; decide +kernel
@[simp] theorem eqn_cut_put : eqD (.str "cut") (.str "put") = some false := by rw [eqD_ok okn_cut okn_put]; simp; decide +kernel
@[simp] theorem eqn_cut_cut : eqD (.str "cut") (.str "cut") = some true := by rw [eqD_ok okn_cut okn_cut]; simp
@[simp] theorem eqn_cut_move : eqD (.str "cut") (.str "move") = some false := by rw [eqD_ok okn_cut okn_move]; simp; decide +kernel
@[simp] theorem eqn_cut_quote : eqD (.str "cut") (.str "quote") = some false := by rw [eqD_ok okn_cut okn_quote]; simp; decide +kernel
@[simp] theorem eqn_cut_window : eqD (.str "cut") (.str "window") = some false := by rw [eqD_ok okn_cut okn_window]; simp; decide +kernel
@[simp] theorem eqn_cut_fix : eqD (.str "cut") (.str "fix") = some false := by rw [eqD_ok okn_cut okn_fix]; simp; decide +kernel
@[simp] theorem eqn_cut_tie : eqD (.str "cut") (.str "tie") = some false := by rw [eqD_ok okn_cut okn_tie]; simp; decide +kernel
@[simp] theorem eqn_move_pour : eqD (.str "move") (.str "pour") = some false := by rw [eqD_ok okn_move okn_pour]; simp; decide +kernel
@[simp] theorem eqn_move_fresh : eqD (.str "move") (.str "fresh") = some false := by rw [eqD_ok okn_move okn_fresh]; simp; decide +kernel
@[simp] theorem eqn_move_put : eqD (.str "move") (.str "put") = some false := by rw [eqD_ok okn_move okn_put]; simp; decide +kernel
@[simp] theorem eqn_move_cut : eqD (.str "move") (.str "cut") = some false := by rw [eqD_ok okn_move okn_cut]; simp; decide +kernel
@[simp] theorem eqn_move_move : eqD (.str "move") (.str "move") = some true := by rw [eqD_ok okn_move okn_move]; simp
@[simp] theorem eqn_move_quote : eqD (.str "move") (.str "quote") = some false := by rw [eqD_ok okn_move okn_quote]; simp; decide +kernel
@[simp] theorem eqn_move_window : eqD (.str "move") (.str "window") = some false := by rw [eqD_ok okn_move okn_window]; simp; decide +kernel
@[simp] theorem eqn_move_fix : eqD (.str "move") (.str "fix") = some false := by rw [eqD_ok okn_move okn_fix]; simp; decide +kernel
@[simp] theorem eqn_move_tie : eqD (.str "move") (.str "tie") = some false := by rw [eqD_ok okn_move okn_tie]; simp; decide +kernel
@[simp] theorem eqn_quote_pour : eqD (.str "quote") (.str "pour") = some false := by rw [eqD_ok okn_quote okn_pour]; simp; decide +kernel
@[simp] theorem eqn_quote_fresh : eqD (.str "quote") (.str "fresh") = some false := by rw [eqD_ok okn_quote okn_fresh]; simp; decide +kernel
@[simp] theorem eqn_quote_put : eqD (.str "quote") (.str "put") = some false := by rw [eqD_ok okn_quote okn_put]; simp; decide +kernel
@[simp] theorem eqn_quote_cut : eqD (.str "quote") (.str "cut") = some false := by rw [eqD_ok okn_quote okn_cut]; simp; decide +kernel
@[simp] theorem eqn_quote_move : eqD (.str "quote") (.str "move") = some false := by rw [eqD_ok okn_quote okn_move]; simp; decide +kernel
@[simp] theorem eqn_quote_quote : eqD (.str "quote") (.str "quote") = some true := by rw [eqD_ok okn_quote okn_quote]; simp
@[simp] theorem eqn_quote_window : eqD (.str "quote") (.str "window") = some false := by rw [eqD_ok okn_quote okn_window]; simp; decide +kernel
@[simp] theorem eqn_quote_fix : eqD (.str "quote") (.str "fix") = some false := by rw [eqD_ok okn_quote okn_fix]; simp; decide +kernel
@[simp] theorem eqn_quote_tie : eqD (.str "quote") (.str "tie") = some false := by rw [eqD_ok okn_quote okn_tie]; simp; decide +kernel
@[simp] theorem eqn_window_pour : eqD (.str "window") (.str "pour") = some false := by rw [eqD_ok okn_window okn_pour]; simp; decide +kernel
@[simp] theorem eqn_window_fresh : eqD (.str "window") (.str "fresh") = some false := by rw [eqD_ok okn_window okn_fresh]; simp; decide +kernel
@[simp] theorem eqn_window_put : eqD (.str "window") (.str "put") = some false := by rw [eqD_ok okn_window okn_put]; simp; decide +kernel
@[simp] theorem eqn_window_cut : eqD (.str "window") (.str "cut") = some false := by rw [eqD_ok okn_window okn_cut]; simp; decide +kernel
@[simp] theorem eqn_window_move : eqD (.str "window") (.str "move") = some false := by rw [eqD_ok okn_window okn_move]; simp; decide +kernel
@[simp] theorem eqn_window_quote : eqD (.str "window") (.str "quote") = some false := by rw [eqD_ok okn_window okn_quote]; simp; decide +kernel
@[simp] theorem eqn_window_window : eqD (.str "window") (.str "window") = some true := by rw [eqD_ok okn_window okn_window]; simp
@[simp] theorem eqn_window_fix : eqD (.str "window") (.str "fix") = some false := by rw [eqD_ok okn_window okn_fix]; simp; decide +kernel
@[simp] theorem eqn_window_tie : eqD (.str "window") (.str "tie") = some false := by rw [eqD_ok okn_window okn_tie]; simp; decide +kernel
@[simp] theorem eqn_fix_pour : eqD (.str "fix") (.str "pour") = some false := by rw [eqD_ok okn_fix okn_pour]; simp; decide +kernel
@[simp] theorem eqn_fix_fresh : eqD (.str "fix") (.str "fresh") = some false := by rw [eqD_ok okn_fix okn_fresh]; simp; decide +kernel
@[simp] theorem eqn_fix_put : eqD (.str "fix") (.str "put") = some false := by rw [eqD_ok okn_fix okn_put]; simp; decide +kernel
@[simp] theorem eqn_fix_cut : eqD (.str "fix") (.str "cut") = some false := by rw [eqD_ok okn_fix okn_cut]; simp; decide +kernel
@[simp] theorem eqn_fix_move : eqD (.str "fix") (.str "move") = some false := by rw [eqD_ok okn_fix okn_move]; simp; decide +kernel
@[simp] theorem eqn_fix_quote : eqD (.str "fix") (.str "quote") = some false := by rw [eqD_ok okn_fix okn_quote]; simp; decide +kernel
@[simp] theorem eqn_fix_window : eqD (.str "fix") (.str "window") = some false := by rw [eqD_ok okn_fix okn_window]; simp; decide +kernel
@[simp] theorem eqn_fix_fix : eqD (.str "fix") (.str "fix") = some true := by rw [eqD_ok okn_fix okn_fix]; simp
@[simp] theorem eqn_fix_tie : eqD (.str "fix") (.str "tie") = some false := by rw [eqD_ok okn_fix okn_tie]; simp; decide +kernel
@[simp] theorem eqn_back_pour : eqD (.str "back") (.str "pour") = some false := by rw [eqD_ok okn_back okn_pour]; simp; decide +kernel
@[simp] theorem eqn_back_fresh : eqD (.str "back") (.str "fresh") = some false := by rw [eqD_ok okn_back okn_fresh]; simp; decide +kernel
@[simp] theorem eqn_back_put : eqD (.str "back") (.str "put") = some false := by rw [eqD_ok okn_back okn_put]; simp; decide +kernel
@[simp] theorem eqn_back_cut : eqD (.str "back") (.str "cut") = some false := by rw [eqD_ok okn_back okn_cut]; simp; decide +kernel
@[simp] theorem eqn_back_move : eqD (.str "back") (.str "move") = some false := by rw [eqD_ok okn_back okn_move]; simp; decide +kernel
@[simp] theorem eqn_back_quote : eqD (.str "back") (.str "quote") = some false := by rw [eqD_ok okn_back okn_quote]; simp; decide +kernel
@[simp] theorem eqn_back_window : eqD (.str "back") (.str "window") = some false := by rw [eqD_ok okn_back okn_window]; simp; decide +kernel
@[simp] theorem eqn_back_fix : eqD (.str "back") (.str "fix") = some false := by rw [eqD_ok okn_back okn_fix]; simp; decide +kernel
@[simp] theorem eqn_back_tie : eqD (.str "back") (.str "tie") = some false := by rw [eqD_ok okn_back okn_tie]; simp; decide +kernel
@[simp] theorem eqn_fresh_pour : eqD (.str "fresh") (.str "pour") = some false := by rw [eqD_ok okn_fresh okn_pour]; simp; decide +kernel
@[simp] theorem eqn_fresh_fresh : eqD (.str "fresh") (.str "fresh") = some true := by rw [eqD_ok okn_fresh okn_fresh]; simp
@[simp] theorem eqn_fresh_put : eqD (.str "fresh") (.str "put") = some false := by rw [eqD_ok okn_fresh okn_put]; simp; decide +kernel
@[simp] theorem eqn_fresh_cut : eqD (.str "fresh") (.str "cut") = some false := by rw [eqD_ok okn_fresh okn_cut]; simp; decide +kernel
@[simp] theorem eqn_fresh_move : eqD (.str "fresh") (.str "move") = some false := by rw [eqD_ok okn_fresh okn_move]; simp; decide +kernel
@[simp] theorem eqn_fresh_quote : eqD (.str "fresh") (.str "quote") = some false := by rw [eqD_ok okn_fresh okn_quote]; simp; decide +kernel
@[simp] theorem eqn_fresh_window : eqD (.str "fresh") (.str "window") = some false := by rw [eqD_ok okn_fresh okn_window]; simp; decide +kernel
@[simp] theorem eqn_fresh_fix : eqD (.str "fresh") (.str "fix") = some false := by rw [eqD_ok okn_fresh okn_fix]; simp; decide +kernel
@[simp] theorem eqn_fresh_tie : eqD (.str "fresh") (.str "tie") = some false := by rw [eqD_ok okn_fresh okn_tie]; simp; decide +kernel
@[simp] theorem eqn_pour_pour : eqD (.str "pour") (.str "pour") = some true := by rw [eqD_ok okn_pour okn_pour]; simp
@[simp] theorem eqn_pour_fresh : eqD (.str "pour") (.str "fresh") = some false := by rw [eqD_ok okn_pour okn_fresh]; simp; decide +kernel
@[simp] theorem eqn_pour_put : eqD (.str "pour") (.str "put") = some false := by rw [eqD_ok okn_pour okn_put]; simp; decide +kernel
@[simp] theorem eqn_pour_cut : eqD (.str "pour") (.str "cut") = some false := by rw [eqD_ok okn_pour okn_cut]; simp; decide +kernel
@[simp] theorem eqn_pour_move : eqD (.str "pour") (.str "move") = some false := by rw [eqD_ok okn_pour okn_move]; simp; decide +kernel
@[simp] theorem eqn_pour_quote : eqD (.str "pour") (.str "quote") = some false := by rw [eqD_ok okn_pour okn_quote]; simp; decide +kernel
@[simp] theorem eqn_pour_window : eqD (.str "pour") (.str "window") = some false := by rw [eqD_ok okn_pour okn_window]; simp; decide +kernel
@[simp] theorem eqn_pour_fix : eqD (.str "pour") (.str "fix") = some false := by rw [eqD_ok okn_pour okn_fix]; simp; decide +kernel
@[simp] theorem eqn_pour_tie : eqD (.str "pour") (.str "tie") = some false := by rw [eqD_ok okn_pour okn_tie]; simp; decide +kernel

section
variable {L : Lb} {R : List (List Int)} {rk : Int → Nat} {b : Int → Nat} {sh : Int → List Int}
end
/-- a step of the library -/
def stepL (L : Lb) (s : Nat) (A : List Int) (z : Str) : Lb := { L with P := stepP (L.m + 1) L.P ((s : Int), itemsF A), m := L.m + 1, bk := L.bk ++ [z] }
def FitW (R : List (List Int)) : Prop := Good R ∧ ∃ wt : Int → List Int, (∀ (s : Nat) (es : List Int), R[s]? = some es → wt s = es.flatMap (sumE [0] wt)) ∧ ∀ s : Nat, s < R.length → (wt s).length ≤ 200
section
variable {L : Lb} {I : List (Int × Nat)} {R : List (List Int)} {Ps : List (List (List Int))} {b : Int → Nat} {sh : Int → List Int}
end
section
variable {R : List (List Int)} {rk : Int → Nat} {b : Int → Nat} {w : Nat} {sh : Int → List Int} {Hs : List (List It)}
end
section
variable {L : Lb} {I : List (Int × Nat)} {R : List (List Int)} {Ps : List (List (List Int))} {b : Int → Nat} {sh : Int → List Int}
end

/-! what a deed makes of a row -/
/-- what sheets show lies in the ink -/
theorem sh_lt {R : List (List Int)} {rk : Int → Nat} {b : Int → Nat} {w : Nat} {sh : Int → List Int} {Hs : List (List It)} (W : Sh R rk b w sh Hs) (N : Int) (h : ∀ es ∈ R, ∀ e ∈ es, e < N) : ∀ (k s : Nat), s < R.length → rk s < k → ∀ n ∈ sh s, 0 ≤ n ∧ n < N
  | 0, _, _, h2 => by omega
  | k + 1, s, h1, h2 => by
    intro n hn
    have q : R[s]? = some R[s] := List.getElem?_eq_getElem h1
    rw [W.h s _ q] at hn
    obtain ⟨e, he, hn⟩ := List.mem_flatMap.mp hn
    unfold sumE at hn
    by_cases c : e < 0
    · rw [if_pos c] at hn
      simp at hn
      obtain ⟨w1, w2⟩ := W.A.win s _ q e he c
      have ht : (((-1 - e).toNat : Nat) : Int) = -1 - e := by omega
      exact sh_lt W N h k (-1 - e).toNat (by omega) (by rw [ht]; omega) n (by rw [ht]; exact hn)
    · rw [if_neg c] at hn
      simp at hn; subst hn
      exact ⟨by omega, h _ (List.getElem_mem h1) _ he⟩
theorem sum_lt {R : List (List Int)} {rk : Int → Nat} {b : Int → Nat} {w : Nat} {sh : Int → List Int} {Hs : List (List It)} (W : Sh R rk b w sh Hs) (N : Int) (h : ∀ es ∈ R, ∀ e ∈ es, e < N) {s : Nat} {es : List Int} (q : R[s]? = some es) {e : Int} (he : e ∈ es) : ∀ n ∈ sumE [] sh e, 0 ≤ n ∧ n < N := fun n hn => by
  unfold sumE at hn
  by_cases c : e < 0
  · rw [if_pos c] at hn
    simp at hn
    obtain ⟨w1, w2⟩ := W.A.win s _ q e he c
    have ht : (((-1 - e).toNat : Nat) : Int) = -1 - e := by omega
    exact sh_lt W N h (rk (-1 - e) + 1) (-1 - e).toNat (by omega) (by rw [ht]; omega) n (by rw [ht]; exact hn)
  · rw [if_neg c] at hn
    simp at hn; subst hn
    exact ⟨by omega, h es (List.mem_of_getElem? q) _ he⟩
/-- a row that may take a sheet's place -/
structure OkA (N : Int) (R : List (List Int)) (A : List Int) : Prop where
  len : A.length ≤ 1000
  win : ∀ e ∈ A, e < 0 → -1 - e < R.length
  adr : ∀ e ∈ A, e < N
section
variable {R : List (List Int)} {rk : Int → Nat} {b : Int → Nat} {w : Nat} {sh : Int → List Int} {Hs : List (List It)}
theorem okA_of (W : Sh R rk b w sh Hs) (N : Int) (h : ∀ es ∈ R, ∀ e ∈ es, e < N) {s : Nat} {es : List Int} (q : R[s]? = some es) (A : List Int) (hl : A.length ≤ 1000) (hm : ∀ z ∈ A, z ∈ es ∨ (∃ e ∈ es, z ∈ sumE [] sh e) ∨ (0 ≤ z ∧ z < N) ∨ (z < 0 ∧ -1 - z < R.length ∧ z < N)) : OkA N R A :=
  ⟨hl, fun z hz hn => by
    rcases hm z hz with h1 | ⟨e, h1, h2⟩ | h1 | h1
    · exact (W.A.win s es q z h1 hn).1
    · have := sum_lt W N h q h1 z h2; omega
    · omega
    · exact h1.2.1, fun z hz => by
    rcases hm z hz with h1 | ⟨e, h1, h2⟩ | h1 | h1
    · exact h es (List.mem_of_getElem? q) z h1
    · exact (sum_lt W N h q h1 z h2).2
    · exact h1.2
    · exact h1.2.2⟩
end

@[simp] theorem ixN5_0 : ixN 5 0 = some 0 := by decide
@[simp] theorem ixN5_1 : ixN 5 1 = some 1 := by decide
@[simp] theorem ixN5_2 : ixN 5 2 = some 2 := by decide
@[simp] theorem ixN5_3 : ixN 5 3 = some 3 := by decide
@[simp] theorem ixN5_4 : ixN 5 4 = some 4 := by decide
@[simp] theorem ixN6_0 : ixN 6 0 = some 0 := by decide
@[simp] theorem ixN6_1 : ixN 6 1 = some 1 := by decide
@[simp] theorem ixN6_2 : ixN 6 2 = some 2 := by decide
@[simp] theorem ixN6_3 : ixN 6 3 = some 3 := by decide
@[simp] theorem ixN6_4 : ixN 6 4 = some 4 := by decide
@[simp] theorem ixN6_5 : ixN 6 5 = some 5 := by decide
@[simp] theorem atI2_0 {α : Type} (x y : α) : atI [x, y] 0 = some x := rfl
@[simp] theorem atI2_1 {α : Type} (x y : α) : atI [x, y] 1 = some y := rfl
@[simp] theorem set_ddD (g : Fl) (d : Dd) : D.set g (ddD .own d) = ddD g d := by cases d <;> simp [ddD]
@[simp] theorem set_ddB (g : Fl) (d : Dd) : D.set g (ddD .bor d) = ddD .bor d := by cases d <;> simp [ddD]
@[simp] theorem noBor_ddD (d : Dd) : D.noBor (ddD .own d) = true := by cases d <;> simp [ddD]
section
variable {Pw : List (List (List Int))} {L : Lb} {I : List (Int × Nat)} {R : List (List Int)} {Ps : List (List (List Int))} {b : Int → Nat} {sh : Int → List Int}
def Runs (L : Lb) (I : List (Int × Nat)) (R : List (List Int)) (Ps : List (List (List Int))) (V : List Int) (d : Dd) : Prop :=
  d.sheet < R.length ∧ ∃ A : List Int, F__law_after [worldD .bor .fz I R Ps V, ddD .bor d] = .ok (.nd (.lst .own) (A.map D.int)) [.un, .un] ∧ OkA I.length R A ∧ (FitW (R.set d.sheet A) → ∃ z, F__law_done [libD .own L, ddD .bor d] = .ok .non [libD .own (stepL L d.sheet A z), .un])
end

theorem step_cur {P : List (List En)} {R : List (List Int)} (h : curF P = R.map itemsF) (k : Int) (s : Nat) (hs : s < R.length) (A : List Int) : curF (stepP k P ((s : Int), itemsF A)) = (R.set s A).map itemsF := by
  have lP := cur_len h
  have hne : ¬ (s : Int) = (P.length : Nat) := by omega
  unfold stepP curF
  rw [if_neg hne]
  simp only [Int.toNat_natCast]
  rw [List.map_set, List.map_set]
  have : P.map lastI = R.map itemsF := h
  rw [this]
  congr 1
  simp [lastI]
theorem step_ne {P : List (List En)} {n : Nat} (h : ∀ l ∈ P, l ≠ [] ∧ l.length ≤ n) (k : Int) (c : Int × List It) : ∀ l ∈ stepP k P c, l ≠ [] ∧ l.length ≤ n + 1 := by
  intro l hl
  unfold stepP at hl
  split at hl
  · rcases List.mem_append.mp hl with hl | hl
    · have := h l hl; exact ⟨this.1, by omega⟩
    · simp at hl; subst hl; exact ⟨by simp, by simp⟩
  · rcases List.mem_or_eq_of_mem_set hl with hl | hl
    · have := h l hl; exact ⟨this.1, by omega⟩
    · subst hl
      refine ⟨by simp, ?_⟩
      rw [List.length_append, List.length_singleton]
      cases q : P[c.1.toNat]? with
      | none => simp
      | some l => have := (h l (List.mem_of_getElem? q)).2; simp; omega
section
variable {L : Lb} {I : List (Int × Nat)} {R : List (List Int)} {Ps : List (List (List Int))}
theorem St.step (S : St L I R Ps) (s : Nat) (hs : s < R.length) (A : List Int) (ok : OkA I.length R A) (F : FitW (R.set s A)) (z : Str) : St (stepL L s A z) I (R.set s A) (Ps ++ [R.set s A]) := by
  refine ⟨S.cs, ?_, S.ok, step_cur S.cur _ s hs A, ?_, ?_, F.1, F.2, ?_, ?_, ?_, by rw [List.length_set]; exact S.n40⟩
  · have := S.nI; simp; omega
  · intro l hl
    have := step_ne S.ne _ _ l hl
    simpa using this
  · show L.m + 1 = _
    rw [S.m]; simp
  · intro es hes e he
    rcases List.mem_or_eq_of_mem_set hes with h | h
    · exact S.adr es h e he
    · subst h; exact ok.adr e he
  · have := S.bk; simp [stepL]; omega
  · have := S.po; simp [stepL]; omega
end

theorem items_turn (r0 : D) (acc : List It) (e : Int) (x : D) (hl : acc.length < 16777215) :
    (tgR (lg__law_items_of_1 (.int e) [r0, .nd (.lst .own) (acc.map itD), x]) lb__law_items_of_1).tn = .nx [r0, .nd (.lst .own) ((itStep acc e).map itD), .int e] := by
  have k1 : acc.length < 16777216 := by omega
  by_cases h : e < 0
  · simp [lg__law_items_of_1, lb__law_items_of_1, chkO_of, chk_of, itStep, h, k1, itD]
  · rcases nil_or_last acc with rfl | ⟨init, l, rfl⟩
    · simp [lg__law_items_of_1, lb__law_items_of_1, chkO_of, chk_of, itStep, h, itD]
    · simp at hl k1
      cases l with
      | win s => simp [lg__law_items_of_1, lb__law_items_of_1, chkO_of, chk_of, itStep, h, itD, eq_win_ink, k1]
      | ink a b =>
        by_cases h2 : b = e
        · simp [lg__law_items_of_1, lb__law_items_of_1, chkO_of, chk_of, itStep, h, itD, eq_ink_ink, k1, h2]
        · simp [lg__law_items_of_1, lb__law_items_of_1, chkO_of, chk_of, itStep, h, itD, eq_ink_ink, k1, h2]
theorem items_of_eq (f : Fl) (es : List Int) (hl : es.length < 10000000) : F__law_items_of [esD f es] = .ok (itsD .own (itemsF es)) [.un] := by
  obtain ⟨w, e, _⟩ := forL_S (g := lg__law_items_of_1) (b := lb__law_items_of_1) (f := D.int) itStep (fun z w => [(D.nd (.lst f) (es.map D.int)).frz, .nd (.lst .own) (z.map itD), w]) (fun z post => z.length + post.length < 16777215)
    (fun x post z w h => ⟨.int x, items_turn _ _ _ _ (by simp at h; omega), by have := itStep_len z x; simp at h; omega⟩) es [] D.un (by simp; omega)
  simp at e
  unfold esD itsD
  cases f <;> simp [F__law_items_of, runF_eq, m__law_items_of, chk_of, chkO_of] at e ⊢ <;> simp [e, itemsF]

/-! the shelf's earlier rows -/
def cameI (k : Int) (l : List En) : List It := l.foldl (fun z e => if e.1 ≤ k then e.2 else z) []
def opn (l : List En) : Int := (l.head?.map (·.1)).getD 0
def thenF (P : List (List En)) (k : Int) : List (List It) := (P.filter fun l => decide (opn l ≤ k)).map (cameI k)
theorem sh_opened (P : List (List En)) (m : Int) (s : Nat) (l : List En) (h : P[s]? = some l) (hn : l ≠ []) : F_Shelf_opened [shelfD .bor P m, .int s] = .ok (.int (opn l)) [.un, .un] := by
  have hs : s < P.length := (List.getElem?_eq_some_iff.mp h).1
  have e1 := sh_look P m s ⟨by omega, by omega⟩
  cases l with
  | nil => exact absurd rfl hn
  | cons e l =>
    have hx : ixN P.length (s : Int) = some s := by rw [ixN_int (by omega) (by omega)]; simp
    have hP := (List.getElem?_eq_some_iff.mp h).2
    have ix1 : ixN (l.length + 1) 0 = some 0 := by simp [ixN]
    unfold shelfD at e1
    simp [F_Shelf_opened, runF_eq, m_Shelf_opened, chk_of, chkO_of, shelfD, e1, hx, hs, hP, h, shtD, entD, ix1, opn]
theorem sh_opened_out (P : List (List En)) (m s : Int) (h : ¬ (0 ≤ s ∧ s < P.length)) : F_Shelf_opened [shelfD .bor P m, .int s] = .ex ⟨"NoSheet", "", none⟩ [.un, .un] := by
  have e1 := sh_look_out P m s h
  unfold shelfD at *
  simp [F_Shelf_opened, runF_eq, m_Shelf_opened, chk_of, chkO_of, Ex.ds, e1]
theorem sh_lt_ok (P : List (List En)) (m k : Int) (s : Nat) (l : List En) (h : P[s]? = some l) (hn : l ≠ []) (hk : 0 ≤ k ∧ k ≤ m) (ho : opn l ≤ k) : F_Shelf_look_then [shelfD .bor P m, .int s, .int k] = .ok .non [.un, .un, .un] := by
  have hs : s < P.length := (List.getElem?_eq_some_iff.mp h).1
  have e1 := sh_look P m s ⟨by omega, by omega⟩
  have e2 := sh_opened P m s l h hn
  have c1 : ¬ k < 0 := by omega
  have c2 : ¬ m < k := by omega
  have c3 : ¬ k < opn l := by omega
  unfold shelfD at *
  simp [F_Shelf_look_then, runF_eq, m_Shelf_look_then, chk_of, chkO_of, e1, e2, c1, c2, c3]
theorem sh_lt_out1 (P : List (List En)) (m s k : Int) (h : ¬ (0 ≤ s ∧ s < P.length)) : F_Shelf_look_then [shelfD .bor P m, .int s, .int k] = .ex ⟨"NoSheet", "", none⟩ [.un, .un, .un] := by
  have e1 := sh_look_out P m s h
  unfold shelfD at *
  simp [F_Shelf_look_then, runF_eq, m_Shelf_look_then, chk_of, chkO_of, Ex.ds, e1]
theorem sh_lt_out2 (P : List (List En)) (m s k : Int) (h : 0 ≤ s ∧ s < P.length) (hk : ¬ (0 ≤ k ∧ k ≤ m)) : F_Shelf_look_then [shelfD .bor P m, .int s, .int k] = .ex ⟨"NoMoment", "", none⟩ [.un, .un, .un] := by
  have e1 := sh_look P m s h
  unfold shelfD at *
  by_cases c1 : k < 0
  · simp [F_Shelf_look_then, runF_eq, m_Shelf_look_then, chk_of, chkO_of, Ex.ds, e1, c1]
  · have c2 : m < k := by omega
    simp [F_Shelf_look_then, runF_eq, m_Shelf_look_then, chk_of, chkO_of, Ex.ds, e1, c1, c2]
theorem sh_lt_out3 (P : List (List En)) (m k : Int) (s : Nat) (l : List En) (h : P[s]? = some l) (hn : l ≠ []) (hk : 0 ≤ k ∧ k ≤ m) (ho : k < opn l) : F_Shelf_look_then [shelfD .bor P m, .int s, .int k] = .ex ⟨"NoSheet", "", none⟩ [.un, .un, .un] := by
  have hs : s < P.length := (List.getElem?_eq_some_iff.mp h).1
  have e1 := sh_look P m s ⟨by omega, by omega⟩
  have e2 := sh_opened P m s l h hn
  have c1 : ¬ k < 0 := by omega
  have c2 : ¬ m < k := by omega
  unfold shelfD at *
  simp [F_Shelf_look_then, runF_eq, m_Shelf_look_then, chk_of, chkO_of, e1, e2, c1, c2, ho, Ex.ds]
theorem came_turn (k : Int) (d0 d1 : D) (z : List It) (e : En) (x y : D) (f g : Fl) (hf : f = .own ∨ f = .bor) :
    tgR (lg_Shelf_row_then_1 (entD .bor e) [d0, d1, .int k, itsD f z, x, y]) lb_Shelf_row_then_1 = .nx [d0, d1, .int k, (if e.1 ≤ k then itsD .bor e.2 else itsD f z), .int e.1, itsD .bor e.2] := by
  obtain ⟨c, is⟩ := e
  by_cases h : c ≤ k
  · simp [lg_Shelf_row_then_1, lb_Shelf_row_then_1, entD, itsD, chk_of, chkO_of, h]
  · simp [lg_Shelf_row_then_1, lb_Shelf_row_then_1, entD, itsD, chk_of, chkO_of, h]
theorem came_loop (k : Int) (d0 d1 : D) : ∀ (l : List En) (z : List It) (f : Fl) (x y : D), (f = .own ∨ f = .bor) → ∃ f' x' y', (f' = .own ∨ f' = .bor) ∧ forL lg_Shelf_row_then_1 lb_Shelf_row_then_1 (l.map (entD .bor)) [d0, d1, .int k, itsD f z, x, y] = .nx [d0, d1, .int k, itsD f' (l.foldl (fun z e => if e.1 ≤ k then e.2 else z) z), x', y']
  | [], z, f, x, y, hf => ⟨f, x, y, hf, by simp⟩
  | e :: l, z, f, x, y, hf => by
    have t := came_turn k d0 d1 z e x y f f hf
    by_cases c : e.1 ≤ k
    · rw [if_pos c] at t
      obtain ⟨f', x', y', h1, h2⟩ := came_loop k d0 d1 l e.2 .bor (.int e.1) (itsD .bor e.2) (.inr rfl)
      refine ⟨f', x', y', h1, ?_⟩
      rw [List.map_cons, forL_cons, t]
      simp only [RS.lp, h2, List.foldl_cons, if_pos c]
    · rw [if_neg c] at t
      obtain ⟨f', x', y', h1, h2⟩ := came_loop k d0 d1 l z f (.int e.1) (itsD .bor e.2) hf
      refine ⟨f', x', y', h1, ?_⟩
      rw [List.map_cons, forL_cons, t]
      simp only [RS.lp, h2, List.foldl_cons, if_neg c]
theorem sh_row_then (P : List (List En)) (m k : Int) (s : Nat) (l : List En) (h : P[s]? = some l) (hn : l ≠ []) (hk : 0 ≤ k ∧ k ≤ m) (ho : opn l ≤ k) (hc : (cameI k l).length ≤ 10000) : F_Shelf_row_then [shelfD .bor P m, .int s, .int k] = .ok (itsD .own (cameI k l)) [.un, .un, .un] := by
  have hs : s < P.length := (List.getElem?_eq_some_iff.mp h).1
  have e1 := sh_lt_ok P m k s l h hn hk ho
  have hx : ixN P.length (s : Int) = some s := by rw [ixN_int (by omega) (by omega)]; simp
  have hP := (List.getElem?_eq_some_iff.mp h).2
  obtain ⟨f', x', y', h1, h2⟩ := came_loop k (shelfD .bor P m) (.int s) l [] .own .un .un (.inl rfl)
  have hcd : l.foldl (fun z e => if e.1 ≤ k then e.2 else z) [] = cameI k l := rfl
  rw [hcd] at h2
  have k1 : (cameI k l).length ≤ 16777216 := by omega
  generalize cameI k l = Z at *
  have hset : (P.map (shtD .bor)).set s (.nd (.lst .bor) (l.map (entD .bor))) = P.map (shtD .bor) := list_set_same (by rw [List.getElem?_map, h]; rfl)
  unfold shelfD at *
  simp only [itsD, List.map_nil] at h2
  rcases h1 with rfl | rfl <;> simp [F_Shelf_row_then, runF_eq, m_Shelf_row_then, chk_of, chkO_of, e1, hx, hs, hP, h, shtD, h2, itsD, k1, hset]

theorem range_pos {n : Nat} {pre post : List Nat} {x : Nat} (h : pre ++ x :: post = List.range n) : x = pre.length ∧ x < n := by
  have h1 := congrArg (fun l => l[pre.length]?) h
  have h2 := congrArg List.length h
  simp at h1 h2
  rw [List.getElem?_range (by omega)] at h1
  cases h1
  omega
theorem filter_prefix {α : Type} (p : α → Bool) : ∀ (P : List α) (n : Nat), (∀ (s : Nat) l, P[s]? = some l → (p l = true ↔ s < n)) → P.filter p = P.take n
  | [], n, _ => by simp
  | a :: P, n, h => by
    have h0 := h 0 a rfl
    cases n with
    | zero =>
      have h0 : ¬ p a = true := fun c => by have := h0.mp c; omega
      have ih := filter_prefix p P 0 (fun s l q => by have := h (s + 1) l q; simpa using this)
      rw [List.filter_cons_of_neg h0, ih]; simp
    | succ n =>
      have ih := filter_prefix p P n (fun s l q => by have := h (s + 1) l q; rw [this]; omega)
      rw [List.filter_cons_of_pos (h0.mpr (by omega)), ih]; simp
theorem sh_rows_then (P : List (List En)) (m k : Int) (hk : 0 ≤ k ∧ k ≤ m) (hP : P.length ≤ 41) (hl : ∀ l ∈ P, l ≠ [] ∧ (opn l ≤ k → (cameI k l).length ≤ 10000)) : F_Shelf_rows_then [shelfD .bor P m, .int k] = .ok (.nd (.lst .own) ((thenF P k).map (itsD .own))) [.un, .un] := by
  obtain ⟨st', e, x, rfl, _⟩ := forL_inv (g := lg_Shelf_rows_then_1) (b := lb_Shelf_rows_then_1) (f := fun i : Nat => D.int ((0 : Int) + (i : Nat))) (fun pre post st => ∃ x : D, st = [shelfD .bor P m, .int k, .nd (.lst .own) ((thenF (P.take pre.length) k).map (itsD .own)), x] ∧ pre ++ post = List.range P.length)
    (fun pre i post st ⟨x, e, hm⟩ => by
      subst e
      obtain ⟨rfl, hi⟩ := range_pos hm
      have q : P[pre.length]? = some P[pre.length] := List.getElem?_eq_getElem hi
      obtain ⟨n1, n2⟩ := hl _ (List.getElem_mem hi)
      have e1 := sh_opened P m pre.length _ q n1
      have ht : P.take (pre.length + 1) = P.take pre.length ++ [P[pre.length]] := by rw [List.take_add_one, q]; rfl
      refine ⟨[shelfD .bor P m, .int k, .nd (.lst .own) ((thenF (P.take (pre ++ [pre.length]).length) k).map (itsD .own)), .int ((0 : Int) + (pre.length : Nat))], ?_, _, rfl, by simpa using hm⟩
      have lt : (thenF (P.take pre.length) k).length ≤ 41 := by
        unfold thenF
        rw [List.length_map]
        have := List.length_filter_le (fun l => decide (opn l ≤ k)) (P.take pre.length)
        simp only [List.length_take] at this
        omega
      have k1 : (thenF (P.take pre.length) k).length < 16777216 := by omega
      by_cases c : opn P[pre.length] ≤ k
      · have e2 := sh_row_then P m k pre.length _ q n1 hk c (n2 c)
        have ex : thenF (P.take (pre.length + 1)) k = thenF (P.take pre.length) k ++ [cameI k P[pre.length]] := by
          unfold thenF; rw [ht, List.filter_append, List.map_append, List.filter_cons_of_pos (by simpa using c)]; rfl
        simp only [List.length_append, List.length_singleton]
        rw [ex]
        unfold shelfD at *
        generalize thenF (P.take pre.length) k = Z at *
        simp [lg_Shelf_rows_then_1, lb_Shelf_rows_then_1, chk_of, chkO_of, e1, e2, c, k1]
      · have ex : thenF (P.take (pre.length + 1)) k = thenF (P.take pre.length) k := by
          unfold thenF; rw [ht, List.filter_append, List.map_append, List.filter_cons_of_neg (by simpa using c)]; simp
        simp only [List.length_append, List.length_singleton]
        rw [ex]
        unfold shelfD at *
        generalize thenF (P.take pre.length) k = Z at *
        simp [lg_Shelf_rows_then_1, lb_Shelf_rows_then_1, chk_of, chkO_of, e1, c, k1])
    [] (List.range P.length) [shelfD .bor P m, .int k, .nd (.lst .own) [], .un] ⟨.un, by simp [thenF], by simp⟩
  have hr : rangeD 0 (P.length : Int) = (List.range P.length).map fun k : Nat => D.int ((0 : Int) + (k : Nat)) := by
    have := rangeD_eq 0 (P.length : Int)
    simpa [Function.comp_def] using this
  rw [← hr] at e
  simp only [List.nil_append, List.length_range, List.take_length] at e
  have e2 : mForRC1 (mQ (qLen (qFs "Shelf" ["past", "moment"] 0 (qV 0)))) lg_Shelf_rows_then_1 lb_Shelf_rows_then_1 [shelfD .bor P m, .int k, .nd (.lst .own) [], .un] = .nx [shelfD .bor P m, .int k, .nd (.lst .own) ((thenF P k).map (itsD .own)), x] :=
    forRC1_of (z := (P.length : Int)) (by simp [shelfD, chk_of, chkO_of]) (by omega) (by omega) e
  have c1 : ¬ k < 0 := by omega
  have c2 : ¬ m < k := by omega
  unfold shelfD at *
  simp [F_Shelf_rows_then, runF_eq, m_Shelf_rows_then, chk_of, chkO_of, c1, c2, e2]
/-- the shelf grows by entries of one moment -/
structure Grow (c : Int) (P P' : List (List En)) : Prop where
  old : ∀ (s : Nat) l, P[s]? = some l → ∃ x, P'[s]? = some (l ++ x) ∧ ∀ e ∈ x, e.1 = c
  new : ∀ (s : Nat) l, P'[s]? = some l → P.length ≤ s → l ≠ [] ∧ ∀ e ∈ l, e.1 = c
theorem Grow.refl (c : Int) (P : List (List En)) : Grow c P P := ⟨fun s l h => ⟨[], by simpa using h, by simp⟩, fun s l h h2 => by have := (List.getElem?_eq_some_iff.mp h).1; omega⟩
theorem Grow.len {c : Int} {P P' : List (List En)} (G : Grow c P P') : P.length ≤ P'.length := by
  rcases Nat.lt_or_ge P'.length P.length with h | h
  · obtain ⟨x, h1, _⟩ := G.old P'.length _ (List.getElem?_eq_getElem h)
    have := (List.getElem?_eq_some_iff.mp h1).1
    omega
  · exact h
theorem Grow.trans {c : Int} {P P' P2 : List (List En)} (G : Grow c P P') (G2 : Grow c P' P2) : Grow c P P2 := by
  refine ⟨fun s l h => ?_, fun s l h h2 => ?_⟩
  · obtain ⟨x, h1, h3⟩ := G.old s l h
    obtain ⟨y, h4, h5⟩ := G2.old s _ h1
    exact ⟨x ++ y, by rw [h4, List.append_assoc], fun e he => (List.mem_append.mp he).elim (h3 e) (h5 e)⟩
  · rcases Nat.lt_or_ge s P'.length with h3 | h3
    · have q := List.getElem?_eq_getElem h3
      obtain ⟨n1, n2⟩ := G.new s _ q h2
      obtain ⟨y, h4, h5⟩ := G2.old s _ q
      rw [h] at h4; cases h4
      exact ⟨by simp [n1], fun e he => (List.mem_append.mp he).elim (n2 e) (h5 e)⟩
    · exact G2.new s l h h3
theorem stepP_grow (k : Int) (P : List (List En)) (c : Int × List It) (h0 : 0 ≤ c.1) (h1 : c.1 ≤ P.length) : Grow k P (stepP k P c) := by
  unfold stepP
  by_cases q : c.1 = P.length
  · rw [if_pos q]
    refine ⟨fun s l h => ⟨[], ?_, by simp⟩, fun s l h h2 => ?_⟩
    · have := (List.getElem?_eq_some_iff.mp h).1
      rw [List.getElem?_append_left this]; simpa using h
    · rw [List.getElem?_append_right h2] at h
      have hs := (List.getElem?_eq_some_iff.mp h).1
      simp at hs
      have : s - P.length = 0 := by omega
      rw [this] at h
      simp at h
      subst h
      simp
  · rw [if_neg q]
    have hj : c.1.toNat < P.length := by omega
    refine ⟨fun s l h => ?_, fun s l h h2 => ?_⟩
    · by_cases e : c.1.toNat = s
      · subst e
        refine ⟨[(k, c.2)], ?_, by simp⟩
        rw [List.getElem?_set_self hj, h]; rfl
      · exact ⟨[], by rw [List.getElem?_set_ne e]; simpa using h, by simp⟩
    · have := (List.getElem?_eq_some_iff.mp h).1
      rw [List.length_set] at this
      omega
/-- all that the sheets were -/
structure Hist (P : List (List En)) (PP : List (List (List Int))) (N : Int) : Prop where
  ne : ∀ l ∈ P, l ≠ []
  row : ∀ (k : Nat) (Rk : List (List Int)), PP[k]? = some Rk → ∀ (s : Nat) l es, P[s]? = some l → Rk[s]? = some es → cameI k l = itemsF es
  opn : ∀ (k : Nat) (Rk : List (List Int)), PP[k]? = some Rk → ∀ (s : Nat) l, P[s]? = some l → (opn l ≤ k ↔ s < Rk.length)
  le : ∀ Rk ∈ PP, Rk.length ≤ P.length
  fit : ∀ Rk ∈ PP, FitW Rk
  came : ∀ l ∈ P, ∀ e ∈ l, e.1 < PP.length
  adr : ∀ Rk ∈ PP, ∀ es ∈ Rk, ∀ e ∈ es, e < N
theorem came_app {k : Int} {l x : List En} (h : ∀ e ∈ x, ¬ e.1 ≤ k) : cameI k (l ++ x) = cameI k l := by
  unfold cameI
  rw [List.foldl_append]
  generalize l.foldl (fun z e => if e.1 ≤ k then e.2 else z) [] = z
  induction x with
  | nil => rfl
  | cons e x ih =>
    rw [List.foldl_cons, if_neg (h e (by simp))]
    exact ih fun y hy => h y (by simp [hy])
theorem came_last {k : Int} {l : List En} (h : ∀ e ∈ l, e.1 ≤ k) : cameI k l = lastI l := by
  rcases nil_or_last l with rfl | ⟨init, ⟨c, is⟩, rfl⟩
  · rfl
  · unfold cameI
    rw [List.foldl_append]
    simp only [List.foldl_cons, List.foldl_nil]
    have hc : c ≤ k := h (c, is) (by simp)
    rw [if_pos hc]
    simp [lastI]
theorem opn_app {l x : List En} (h : l ≠ []) : opn (l ++ x) = opn l := by
  cases l with
  | nil => exact absurd rfl h
  | cons e l => rfl
theorem opn_all {l : List En} {c : Int} (h : l ≠ []) (h2 : ∀ e ∈ l, e.1 = c) : opn l = c := by
  cases l with
  | nil => exact absurd rfl h
  | cons e l => exact h2 e (by simp)
theorem opn_mem {l : List En} (h : l ≠ []) : ∃ e ∈ l, opn l = e.1 := by
  cases l with
  | nil => exact absurd rfl h
  | cons e l => exact ⟨e, by simp, rfl⟩
theorem Hist.grow {P P' : List (List En)} {PP : List (List (List Int))} {N N' : Int} (H : Hist P PP N) (G : Grow (PP.length : Int) P P') (R' : List (List Int)) (hcur : curF P' = R'.map itemsF) (F : FitW R') (hN : N ≤ N') (hA : ∀ es ∈ R', ∀ e ∈ es, e < N') : Hist P' (PP ++ [R']) N' := by
  have lP' := cur_len hcur
  have ne' : ∀ l ∈ P', l ≠ [] := fun l hl => by
    obtain ⟨s, hs⟩ := List.mem_iff_getElem?.mp hl
    rcases Nat.lt_or_ge s P.length with h | h
    · have q := List.getElem?_eq_getElem h
      obtain ⟨x, h1, _⟩ := G.old s _ q
      rw [hs] at h1; cases h1
      have := H.ne _ (List.getElem_mem h)
      simp [this]
    · exact (G.new s l hs h).1
  have all' : ∀ l ∈ P', ∀ e ∈ l, e.1 ≤ PP.length := fun l hl e he => by
    obtain ⟨s, hs⟩ := List.mem_iff_getElem?.mp hl
    rcases Nat.lt_or_ge s P.length with h | h
    · have q := List.getElem?_eq_getElem h
      obtain ⟨x, h1, h2⟩ := G.old s _ q
      rw [hs] at h1; cases h1
      rcases List.mem_append.mp he with he | he
      · have := H.came _ (List.getElem_mem h) e he; omega
      · have := h2 e he; omega
    · have := (G.new s l hs h).2 e he; omega
  refine ⟨ne', ?_, ?_, ?_, ?_, ?_, ?_⟩
  · intro k Rk hk s l es hl he
    rcases Nat.lt_or_ge k PP.length with h | h
    · rw [List.getElem?_append_left h] at hk
      have hle := H.le Rk (List.mem_of_getElem? hk)
      have hs := (List.getElem?_eq_some_iff.mp he).1
      have q := List.getElem?_eq_getElem (l := P) (i := s) (by omega)
      obtain ⟨x, h1, h2⟩ := G.old s _ q
      rw [hl] at h1; cases h1
      rw [came_app fun e he => by have := h2 e he; omega]
      exact H.row k Rk hk s _ es q he
    · rw [List.getElem?_append_right h] at hk
      have hk1 := (List.getElem?_eq_some_iff.mp hk).1
      simp at hk1
      have hk0 : k - PP.length = 0 := by omega
      rw [hk0] at hk
      simp at hk
      subst hk
      rw [came_last fun e hel => by have := all' l (List.mem_of_getElem? hl) e hel; omega]
      have h1 : (curF P')[s]? = some (lastI l) := by simp [curF, hl]
      rw [hcur, List.getElem?_map, he] at h1
      simpa using h1.symm
  · intro k Rk hk s l hl
    rcases Nat.lt_or_ge k PP.length with h | h
    · rw [List.getElem?_append_left h] at hk
      have hle := H.le Rk (List.mem_of_getElem? hk)
      rcases Nat.lt_or_ge s P.length with h3 | h3
      · have q := List.getElem?_eq_getElem h3
        obtain ⟨x, h1, h2⟩ := G.old s _ q
        rw [hl] at h1; cases h1
        rw [opn_app (H.ne _ (List.getElem_mem h3))]
        exact H.opn k Rk hk s _ q
      · obtain ⟨n1, n2⟩ := G.new s l hl h3
        rw [opn_all n1 n2]
        omega
    · rw [List.getElem?_append_right h] at hk
      have hk1 := (List.getElem?_eq_some_iff.mp hk).1
      simp at hk1
      have hk0 : k - PP.length = 0 := by omega
      rw [hk0] at hk
      simp at hk
      subst hk
      have hs := (List.getElem?_eq_some_iff.mp hl).1
      obtain ⟨e, he, h5⟩ := opn_mem (ne' l (List.mem_of_getElem? hl))
      have := all' l (List.mem_of_getElem? hl) e he
      omega
  · intro Rk hRk
    have := G.len
    rcases List.mem_append.mp hRk with h | h
    · have := H.le Rk h; omega
    · simp at h; subst h; omega
  · intro Rk hRk
    rcases List.mem_append.mp hRk with h | h
    · exact H.fit Rk h
    · simp at h; subst h; exact F
  · intro l hl e he
    have := all' l hl e he
    simp; omega
  · intro Rk hRk es hes e he
    rcases List.mem_append.mp hRk with h | h
    · have := H.adr Rk h es hes e he; omega
    · simp at h; subst h; exact hA es hes e he
theorem Hist.thenF {P : List (List En)} {PP : List (List (List Int))} {N : Int} (H : Hist P PP N) (k : Nat) (Rk : List (List Int)) (hk : PP[k]? = some Rk) : thenF P k = Rk.map itemsF := by
  have hle := H.le Rk (List.mem_of_getElem? hk)
  unfold Law.thenF
  rw [filter_prefix _ P Rk.length fun s l q => by rw [decide_eq_true_iff]; exact H.opn k Rk hk s l q]
  apply List.ext_getElem?
  intro s
  rw [List.getElem?_map, List.getElem?_map]
  rcases Nat.lt_or_ge s Rk.length with h | h
  · have q1 := List.getElem?_eq_getElem h
    have q2 := List.getElem?_eq_getElem (l := P) (i := s) (by omega)
    rw [List.getElem?_take_of_lt h, q2, q1]
    simp only [Option.map_some]
    rw [H.row k Rk hk s _ _ q2 q1]
  · rw [List.getElem?_eq_none (by simp; omega), List.getElem?_eq_none h]
    rfl
theorem FitW.world {R : List (List Int)} (F : FitW R) : ∃ (b : Int → Nat) (sh : Int → List Int), Sh R (rkR R) b 1 sh (R.map itemsF) ∧ (∀ s, b s ≤ 201) ∧ (∀ s : Nat, s < R.length → (sh s).length ≤ 200) ∧ ∀ (s : Nat) (es : List Int), R[s]? = some es → es.length ≤ 200 := by
  obtain ⟨G, wt, h1, h2⟩ := F
  obtain ⟨b, sh, h3, h4, h5⟩ := G.sh wt h1 h2
  refine ⟨b, sh, h3, h4, fun s hs => by have := h5 s hs; have := h2 s hs; omega, fun s es q => ?_⟩
  have hs := (List.getElem?_eq_some_iff.mp q).1
  have := len_le (wt := wt) es
  rw [← h1 s es q] at this
  have := h2 s hs
  omega
section
variable {L : Lb} {PP : List (List (List Int))} {N : Int} {rk : Int → Nat} {b : Int → Nat} {sh : Int → List Int}
end
theorem sh_row_then_ex {P : List (List En)} {m s k : Int} {c : Str} (h : F_Shelf_look_then [shelfD .bor P m, .int s, .int k] = .ex ⟨c, "", none⟩ [.un, .un, .un]) : F_Shelf_row_then [shelfD .bor P m, .int s, .int k] = .ex ⟨c, "", none⟩ [.un, .un, .un] := by
  unfold shelfD at *
  simp [F_Shelf_row_then, runF_eq, m_Shelf_row_then, chk_of, chkO_of, h, Ex.ds]
/-! a shelf, all moments kept -/
structure Hist0 (P : List (List En)) (PP : List (List (List Int))) : Prop where
  ne : ∀ l ∈ P, l ≠ []
  row : ∀ (k : Nat) (Rk : List (List Int)), PP[k]? = some Rk → ∀ (s : Nat) l es, P[s]? = some l → Rk[s]? = some es → cameI k l = itemsF es
  opn : ∀ (k : Nat) (Rk : List (List Int)), PP[k]? = some Rk → ∀ (s : Nat) l, P[s]? = some l → (opn l ≤ k ↔ s < Rk.length)
  le : ∀ Rk ∈ PP, Rk.length ≤ P.length
  came : ∀ l ∈ P, ∀ e ∈ l, e.1 < PP.length
theorem Hist0.grow {P P' : List (List En)} {PP : List (List (List Int))} (H : Hist0 P PP) (G : Grow (PP.length : Int) P P') (R' : List (List Int)) (hcur : curF P' = R'.map itemsF) : Hist0 P' (PP ++ [R']) := by
  have lP' := cur_len hcur
  have ne' : ∀ l ∈ P', l ≠ [] := fun l hl => by
    obtain ⟨s, hs⟩ := List.mem_iff_getElem?.mp hl
    rcases Nat.lt_or_ge s P.length with h | h
    · have q := List.getElem?_eq_getElem h
      obtain ⟨x, h1, _⟩ := G.old s _ q
      rw [hs] at h1; cases h1
      have := H.ne _ (List.getElem_mem h)
      simp [this]
    · exact (G.new s l hs h).1
  have all' : ∀ l ∈ P', ∀ e ∈ l, e.1 ≤ PP.length := fun l hl e he => by
    obtain ⟨s, hs⟩ := List.mem_iff_getElem?.mp hl
    rcases Nat.lt_or_ge s P.length with h | h
    · have q := List.getElem?_eq_getElem h
      obtain ⟨x, h1, h2⟩ := G.old s _ q
      rw [hs] at h1; cases h1
      rcases List.mem_append.mp he with he | he
      · have := H.came _ (List.getElem_mem h) e he; omega
      · have := h2 e he; omega
    · have := (G.new s l hs h).2 e he; omega
  refine ⟨ne', ?_, ?_, ?_, ?_⟩
  · intro k Rk hk s l es hl he
    rcases Nat.lt_or_ge k PP.length with h | h
    · rw [List.getElem?_append_left h] at hk
      have hle := H.le Rk (List.mem_of_getElem? hk)
      have hs := (List.getElem?_eq_some_iff.mp he).1
      have q := List.getElem?_eq_getElem (l := P) (i := s) (by omega)
      obtain ⟨x, h1, h2⟩ := G.old s _ q
      rw [hl] at h1; cases h1
      rw [came_app fun e he => by have := h2 e he; omega]
      exact H.row k Rk hk s _ es q he
    · rw [List.getElem?_append_right h] at hk
      have hk1 := (List.getElem?_eq_some_iff.mp hk).1
      simp at hk1
      have hk0 : k - PP.length = 0 := by omega
      rw [hk0] at hk
      simp at hk
      subst hk
      rw [came_last fun e hel => by have := all' l (List.mem_of_getElem? hl) e hel; omega]
      have h1 : (curF P')[s]? = some (lastI l) := by simp [curF, hl]
      rw [hcur, List.getElem?_map, he] at h1
      simpa using h1.symm
  · intro k Rk hk s l hl
    rcases Nat.lt_or_ge k PP.length with h | h
    · rw [List.getElem?_append_left h] at hk
      have hle := H.le Rk (List.mem_of_getElem? hk)
      rcases Nat.lt_or_ge s P.length with h3 | h3
      · have q := List.getElem?_eq_getElem h3
        obtain ⟨x, h1, h2⟩ := G.old s _ q
        rw [hl] at h1; cases h1
        rw [opn_app (H.ne _ (List.getElem_mem h3))]
        exact H.opn k Rk hk s _ q
      · obtain ⟨n1, n2⟩ := G.new s l hl h3
        rw [opn_all n1 n2]
        omega
    · rw [List.getElem?_append_right h] at hk
      have hk1 := (List.getElem?_eq_some_iff.mp hk).1
      simp at hk1
      have hk0 : k - PP.length = 0 := by omega
      rw [hk0] at hk
      simp at hk
      subst hk
      have hs := (List.getElem?_eq_some_iff.mp hl).1
      obtain ⟨e, he, h5⟩ := opn_mem (ne' l (List.mem_of_getElem? hl))
      have := all' l (List.mem_of_getElem? hl) e he
      omega
  · intro Rk hRk
    have := G.len
    rcases List.mem_append.mp hRk with h | h
    · have := H.le Rk h; omega
    · simp at h; subst h; omega
  · intro l hl e he
    have := all' l hl e he
    simp; omega
theorem Hist0.thenF {P : List (List En)} {PP : List (List (List Int))} (H : Hist0 P PP) (k : Nat) (Rk : List (List Int)) (hk : PP[k]? = some Rk) : thenF P k = Rk.map itemsF := by
  have hle := H.le Rk (List.mem_of_getElem? hk)
  unfold Law.thenF
  rw [filter_prefix _ P Rk.length fun s l q => by rw [decide_eq_true_iff]; exact H.opn k Rk hk s l q]
  apply List.ext_getElem?
  intro s
  rw [List.getElem?_map, List.getElem?_map]
  rcases Nat.lt_or_ge s Rk.length with h | h
  · have q1 := List.getElem?_eq_getElem h
    have q2 := List.getElem?_eq_getElem (l := P) (i := s) (by omega)
    rw [List.getElem?_take_of_lt h, q2, q1]
    simp only [Option.map_some]
    rw [H.row k Rk hk s _ _ q2 q1]
  · rw [List.getElem?_eq_none (by simp; omega), List.getElem?_eq_none h]
    rfl
/-- an entry: a sheet, its new row -/
abbrev Ent := Int × List Int
def stR (R : List (List Int)) (e : Ent) : List (List Int) := if e.1 = R.length then R ++ [e.2] else R.set e.1.toNat e.2
def VR : List (List Int) → List Ent → Prop
  | _, [] => True
  | R, e :: E => (0 ≤ e.1 ∧ e.1 ≤ R.length ∧ e.2.length ≤ 4) ∧ VR (stR R e) E
theorem VR.snoc : ∀ {E : List Ent} {R : List (List Int)} {e : Ent}, VR R E → 0 ≤ e.1 → e.1 ≤ (E.foldl stR R).length → e.2.length ≤ 4 → VR R (E ++ [e])
  | [], _, _, _, h0, h1, h2 => ⟨⟨h0, h1, h2⟩, trivial⟩
  | _ :: _, _, _, v, h0, h1, h2 => ⟨v.1, VR.snoc v.2 h0 h1 h2⟩
theorem stR_set (R : List (List Int)) (i : Nat) (hi : i < R.length) (es : List Int) : stR R ((i : Int), es) = R.set i es := by
  unfold stR
  rw [if_neg (by simp; omega)]
  simp
theorem stR_comm (R : List (List Int)) (i : Nat) (hi : i < R.length) (es : List Int) (d : Ent) (hd : d.1 ≠ i) (h0 : 0 ≤ d.1) : stR (R.set i es) d = (stR R d).set i es ∧ i < (stR R d).length := by
  unfold stR
  rw [List.length_set]
  by_cases c : d.1 = R.length
  · rw [if_pos c, if_pos c, List.set_append_left _ _ hi]
    exact ⟨rfl, by simp; omega⟩
  · rw [if_neg c, if_neg c, List.set_comm _ _ (by omega)]
    exact ⟨rfl, by simpa using hi⟩
theorem rot (i : Nat) (es : List Int) (hl : es.length ≤ 4) : ∀ (E : List Ent) (R : List (List Int)), i < R.length → (∀ d ∈ E, d.1 ≠ i) → VR (R.set i es) E → VR R (E ++ [((i : Int), es)]) ∧ (E ++ [((i : Int), es)]).foldl stR R = E.foldl stR (R.set i es)
  | [], R, hi, _, _ => ⟨⟨⟨by simp, by simp; omega, hl⟩, trivial⟩, by simp [stR_set R i hi es]⟩
  | d :: E, R, hi, hd, v => by
    obtain ⟨c1, c2⟩ := stR_comm R i hi es d (hd d (by simp)) v.1.1
    have v2 := v.2
    rw [c1] at v2
    obtain ⟨h1, h2⟩ := rot i es hl E (stR R d) c2 (fun x hx => hd x (by simp [hx])) v2
    refine ⟨⟨⟨v.1.1, by simpa using v.1.2.1, v.1.2.2⟩, h1⟩, ?_⟩
    rw [List.cons_append, List.foldl_cons, h2, List.foldl_cons, c1]
def chI (e : Ent) : Int × List It := (e.1, itemsF e.2)
theorem stR_cur {P : List (List En)} {R : List (List Int)} (h : curF P = R.map itemsF) (k : Int) (e : Ent) (h0 : 0 ≤ e.1) (h1 : e.1 ≤ R.length) : curF (stepP k P (chI e)) = (stR R e).map itemsF := by
  have lP := cur_len h
  by_cases c : e.1 = R.length
  · unfold stR stepP chI
    rw [if_pos c, if_pos (by simp; omega)]
    unfold curF at h ⊢
    rw [List.map_append, h, List.map_append]
    rfl
  · obtain ⟨i, es⟩ := e
    obtain ⟨j, rfl⟩ : ∃ j : Nat, i = j := ⟨i.toNat, by simp at h0; omega⟩
    simp at c h1
    rw [stR_set R j (by omega) es]
    exact step_cur h k j (by omega) es
theorem itemsF_len4 {es : List Int} (h : es.length ≤ 4) : (itemsF es).length ≤ 4 := by have := itemsF_len es; omega
/-- the shelf's step -/
theorem step_loop23 (k : Int) (f : Fl) (hf : f = .bor ∨ f = .fz) (d1 : D) : ∀ (E : List Ent) (P : List (List En)) (R : List (List Int)) (x y : D), curF P = R.map itemsF → VR R E → P.length + E.length ≤ 1000 → (∀ l ∈ P, l.length + E.length ≤ 100000) → ∃ (P' : List (List En)) (x' y' : D), forL lg_Shelf_step_1 lb_Shelf_step_1 ((E.map chI).map (chD f)) [shelfD .own P k, d1, x, y] = .nx [shelfD .own P' k, d1, x', y'] ∧ curF P' = (E.foldl stR R).map itemsF ∧ Grow k P P' ∧ ∀ n, (∀ l ∈ P, l.length ≤ n) → ∀ l ∈ P', l.length ≤ n + E.length
  | [], P, R, x, y, hc, _, _, _ => ⟨P, x, y, by simp, hc, Grow.refl k P, fun n h => by simpa using h⟩
  | e :: E, P, R, x, y, hc, v, l1, l2 => by
    have lP := cur_len hc
    simp only [List.length_cons] at l1 l2
    have t := step_turn f hf P k d1 x y (chI e) v.1.1 (by have := v.1.2.1; show e.1 ≤ _; omega) (by omega) (fun l hl => by have := l2 l hl; omega) (by have := itemsF_len4 v.1.2.2; show (itemsF e.2).length ≤ _; omega)
    have hc2 := stR_cur hc k e v.1.1 v.1.2.1
    have G := stepP_grow k P (chI e) v.1.1 (by have := v.1.2.1; show e.1 ≤ _; omega)
    have ll : ∀ n, (∀ l ∈ P, l.length ≤ n) → ∀ l ∈ stepP k P (chI e), l.length ≤ n + 1 := fun n hn l hl => by
      unfold stepP at hl
      split at hl
      · rcases List.mem_append.mp hl with hl | hl
        · have := hn l hl; omega
        · simp at hl; subst hl; simp
      · rcases List.mem_or_eq_of_mem_set hl with hl | hl
        · have := hn l hl; omega
        · subst hl
          rw [List.length_append, List.length_singleton]
          cases q : P[(chI e).1.toNat]? with
          | none => simp
          | some l => have := hn l (List.mem_of_getElem? q); simp; omega
    have lS : (stepP k P (chI e)).length ≤ P.length + 1 := by
      unfold stepP; split <;> simp
    obtain ⟨P', x', y', e1, e2, e3, e4⟩ := step_loop23 k f hf d1 E (stepP k P (chI e)) (stR R e) (.int e.1) (itsD f (itemsF e.2)) hc2 v.2 (by omega) (fun l hl => by
      have := ll (100000 - (E.length + 1)) (fun l hl => by have := l2 l hl; omega) l hl
      rcases Nat.eq_zero_or_pos P.length with h | h
      · unfold stepP at hl
        omega
      · have h9 := l2 P[0] (List.getElem_mem h); omega)
    refine ⟨P', x', y', ?_, by simpa using e2, G.trans e3, fun n hn l hl => by have := e4 (n + 1) (ll n hn) l hl; simp; omega⟩
    rw [List.map_cons, List.map_cons, forL_cons, t]
    simp only [RS.lp]
    exact e1
theorem line_by_ok (s : Sr) (m : Int) (h0 : 0 ≤ m) (h1 : m ≤ 1000) : ∃ (es : List Int) (s' : Sr), es.length ≤ 4 ∧ F__law_line_by [srcD s, .int m] = .ok (esD .own es) [srcD s', .un] := by
  obtain ⟨v, s1, v0, v1, e1⟩ := next_ok s 5 (by decide) (by decide)
  obtain ⟨st', e3, s2, es, x, rfl, hl, hb⟩ := forL_inv (g := lg__law_line_by_1) (b := lb__law_line_by_1) (f := D.int) (fun pre post st => ∃ (s : Sr) (es : List Int) (x : D), st = [srcD s, .int m, .nd (.lst .own) (es.map D.int), x] ∧ es.length = pre.length ∧ pre.length + post.length ≤ 4)
    (fun pre i post st ⟨s, es, x, e, hl, hb⟩ => by
      subst e
      simp at hb
      have k1 : es.length < 16777216 := by omega
      have k2 : es.length ≤ 16777216 := by omega
      obtain ⟨a, sa, a0, a1, f1⟩ := next_ok s 4 (by decide) (by decide)
      have big : ∀ s : Sr, ∃ (z : Int) (s' s'' : Sr) (u t : Int), F__law_next [srcD s, .int 2] = .ok (.int u) [srcD s', .un] ∧ atI [D.int 12, .int 1000000000000000000000000000000] u = some (.int t) ∧ F__law_next [srcD s', .int t] = .ok (.int z) [srcD s'', .un] := fun s => by
        obtain ⟨u, s1, u0, u1, e1⟩ := next_ok s 2 (by decide) (by decide)
        have : u = 0 ∨ u = 1 := by omega
        rcases this with rfl | rfl
        · obtain ⟨z, s2, _, _, e2⟩ := next_ok s1 12 (by decide) (by decide)
          exact ⟨z, s1, s2, 0, 12, e1, rfl, e2⟩
        · obtain ⟨z, s2, _, _, e2⟩ := next_ok s1 1000000000000000000000000000000 (by decide) (by decide)
          exact ⟨z, s1, s2, 1, 1000000000000000000000000000000, e1, rfl, e2⟩
      obtain ⟨TL, hTL⟩ : ∃ TL : MS, TL = mSeq (mIf (mAndT (mTQ (qOp gGt (qLen (qV 2)) (qC (.int 0)))) (mAndT (mTQ (qOp gGe (qIx (qV 2) (qNeg (qC (.int 1)))) (qC (.int 0)))) (mTE (mEq false (mCall [.io, .bo] F__law_next (aPth (qV 0) (aVal (mQ (qC (.int 2))) aNil))) (mQ (qC (.int 0))))))) (mSeq (mExpr (mAppend (qV 2) (mQ (qOp gAdd (qIx (qV 2) (qNeg (qC (.int 1)))) (qC (.int 1)))))) mSkip) (mSeq (mExpr (mAppend (qV 2) (mCall [.io, .bo] F__law_next (aPth (qV 0) (aVal (mIxE (mLst (mCons (mQ (qC (.int 12))) (mCons (mQ (qOp gPow (qC (.int 10)) (qC (.int 30)))) mNil))) (mCall [.io, .bo] F__law_next (aPth (qV 0) (aVal (mQ (qC (.int 2))) aNil)))) aNil))))) mSkip)) mSkip := ⟨_, rfl⟩
      have lbE : lb__law_line_by_1 = mSeq (mIf (mAndT (mTQ (qOp gGt (qV 1) (qC (.int 0)))) (mTE (mEq false (mCall [.io, .bo] F__law_next (aPth (qV 0) (aVal (mQ (qC (.int 4))) aNil))) (mQ (qC (.int 0)))))) (mSeq (mExpr (mAppend (qV 2) (mOp gSub (mQ (qNeg (qC (.int 1)))) (mCall [.io, .bo] F__law_next (aPth (qV 0) (aPth (qV 1) aNil)))))) mSkip) TL) mSkip := by rw [hTL]; rfl
      have tail : ∀ s : Sr, ∃ (s' : Sr) (n : Int), TL [srcD s, .int m, .nd (.lst .own) (es.map D.int), .int i] = .nx [srcD s', .int m, .nd (.lst .own) ((es ++ [n]).map D.int), .int i] := fun s => by
        subst hTL
        obtain ⟨z, sb, sc, u, t, b1, b2, b3⟩ := big s
        by_cases c1 : 0 < (es.length : Int)
        · rcases nil_or_last es with rfl | ⟨init, l, rfl⟩
          · simp at c1
          have hx : ixN (init.length + 1) (-1) = some init.length := by simp [ixN]; omega
          by_cases c2 : 0 ≤ l
          · obtain ⟨q, sq, q0, q1, f2⟩ := next_ok s 2 (by decide) (by decide)
            by_cases c3 : q = 0
            · exact ⟨sq, l + 1, by simp at k1 k2 c1; simp [chk_of, chkO_of, hx, c2, f2, c3, k1, k2, c1]⟩
            · obtain ⟨z, sb, sc, u, t, b1, b2, b3⟩ := big sq
              exact ⟨sc, z, by simp at k1 k2 c1; simp [chk_of, chkO_of, hx, c2, f2, c3, k1, k2, c1, b1, b2, b3]⟩
          · exact ⟨sc, z, by simp at k1 k2 c1; simp [chk_of, chkO_of, hx, c2, k1, k2, c1, b1, b2, b3]⟩
        · exact ⟨sc, z, by simp at c1; simp [chk_of, chkO_of, c1, k1, k2, b1, b2, b3]⟩
      by_cases c0 : 0 < m
      · by_cases c1 : a = 0
        · obtain ⟨w, sw, w0, w1, f2⟩ := next_ok sa m c0 (by omega)
          exact ⟨_, by simp [lg__law_line_by_1, lbE, chk_of, chkO_of, c0, f1, c1, f2, k1]; rfl, sw, es ++ [-1 - w], .int i, by simp, by simp [hl], by simp; omega⟩
        · obtain ⟨st, n, ht⟩ := tail sa
          refine ⟨_, ?_, st, es ++ [n], .int i, rfl, by simp [hl], by simp; omega⟩
          simp [lg__law_line_by_1, lbE, chk_of, chkO_of, c0, f1, c1, ht]
      · obtain ⟨st, n, ht⟩ := tail s
        refine ⟨_, ?_, st, es ++ [n], .int i, rfl, by simp [hl], by simp; omega⟩
        simp [lg__law_line_by_1, lbE, chk_of, chkO_of, c0, ht])
    [] ((List.range v.toNat).map fun i => (0 : Int) + (i : Nat)) [srcD s1, .int m, .nd (.lst .own) [], .un] ⟨s1, [], .un, rfl, rfl, by simp; omega⟩
  simp at hl hb
  refine ⟨es, s2, by omega, ?_⟩
  have h6 : -4611686018427387904 ≤ v ∧ v < 4611686018427387904 := ⟨by omega, by omega⟩
  simp [rangeD_eq] at e3
  simp [F__law_line_by, runF_eq, m__law_line_by, chk_of, chkO_of, chkS_of, e1, h6, rangeD_eq, e3, esD]
def rowsO (R : List (List Int)) : D := .nd (.lst .own) (R.map (esD .own))
def chsO (E : List Ent) : D := .nd (.lst .own) ((E.map chI).map (chD .own))
theorem step_rows (R : List (List Int)) (hl : R.length ≤ 1000) (a0 a1 a2 a3 a4 a5 a6 a7 a8 a9 : D) : lcL (lcT [10] lg__law_step_1 lt__law_step_1 le__law_step_1) (R.map (esD .fz)) [] [a0, a1, a2, a3, a4, a5, a6, a7, a8, a9, .un] = .ok (R.map (esD .own)) [a0, a1, a2, a3, a4, a5, a6, a7, a8, a9, .un] := by
  rw [lcL_pure (f := esD .fz) (fun es => some (esD .own es)) R [] (by simp; omega) (fun es he => by
    simp [lg__law_step_1, lt__law_step_1, le__law_step_1, chk_of, chkO_of, esD])]
  simp
/-- the changes drawn so far -/
structure Dr (R0 : List (List Int)) (E : List Ent) (n : Nat) : Prop where
  v : VR R0 E
  nd : (E.map (·.1)).Nodup
  lt : ∀ e ∈ E, 0 ≤ e.1 ∧ e.1 < n
  sh : ∀ e ∈ E, e.2.length ≤ 4
theorem chd_app (E : List Ent) (e : Ent) : ((E ++ [e]).map chI).map (chD .own) = (E.map chI).map (chD .own) ++ [chD .own (e.1, itemsF e.2)] := by simp [chI]
theorem step_one (R0 : List (List Int)) (hR : R0.length ≤ 100) (sh pa : D) (s : Sr) (x : D) : ∃ (s' : Sr) (E : List Ent) (x' : D), forL lg__law_step_2 lb__law_step_2 (((List.range R0.length).map fun i => (0 : Int) + (i : Nat)).map D.int) [srcD s, sh, pa, rowsO R0, chsO [], x, .un, .un, .un, .un, .un] = .nx [srcD s', sh, pa, rowsO (E.foldl stR R0), chsO E, x', .un, .un, .un, .un, .un] ∧ Dr R0 E R0.length ∧ E.length ≤ R0.length ∧ (E.foldl stR R0).length = R0.length := by
  obtain ⟨st', e3, s2, E, R, x', rfl, hE, hr, hl, hn, _⟩ := forL_inv (g := lg__law_step_2) (b := lb__law_step_2) (f := D.int) (fun pre post st => ∃ (s : Sr) (E : List Ent) (R : List (List Int)) (x : D), st = [srcD s, sh, pa, .nd (.lst .own) (R.map (esD .own)), .nd (.lst .own) ((E.map chI).map (chD .own)), x, .un, .un, .un, .un, .un] ∧ Dr R0 E pre.length ∧ R = E.foldl stR R0 ∧ E.length ≤ pre.length ∧ R.length = R0.length ∧ pre ++ post = (List.range R0.length).map fun i => (0 : Int) + (i : Nat))
    (fun pre i post st ⟨s, E, R, x, e, hE, hr, hl, hn, hm⟩ => by
      subst e
      obtain ⟨hi, hlt⟩ := rng_x hm
      have hm' : (pre ++ [i]) ++ post = (List.range R0.length).map fun i => (0 : Int) + (i : Nat) := by simpa using hm
      obtain ⟨u, s1, u0, u1, f1⟩ := next_ok s 3 (by decide) (by decide)
      have k1 : R.length ≤ 16777216 := by omega
      have k2 : E.length < 16777216 := by omega
      have hx : ixN R.length i = some pre.length := by rw [hi, ixN_int (by omega) (by omega)]; simp
      by_cases c : u = 0
      · obtain ⟨es, s2, el, f2⟩ := line_by_ok s1 R.length (by omega) (by omega)
        have f3 := items_of_eq .bor es (by omega)
        have f4 := items_of_eq .own es (by omega)
        have hset : R.set pre.length es = stR R (i, es) := by rw [hi, stR_set R pre.length (by omega) es]
        have hj : pre.length < R.length := by omega
        refine ⟨[srcD s2, sh, pa, .nd (.lst .own) ((R.set pre.length es).map (esD .own)), .nd (.lst .own) (((E ++ [(i, es)]).map chI).map (chD .own)), .int i, .un, .un, .un, .un, .un], ?_, s2, E ++ [(i, es)], R.set pre.length es, .int i, rfl, ⟨hE.v.snoc (by show 0 ≤ i; omega) (by rw [← hr]; show i ≤ _; omega) el, ?_, fun e he => ?_, fun e he => ?_⟩, ?_, by simp; omega, by simpa using hn, hm'⟩
        · rw [chd_app]
          simp [lg__law_step_2, lb__law_step_2, chk_of, chkO_of, f1, c, f2, f3, k1, k2, hx, hj, chD]
        · rw [List.map_append, List.nodup_append]
          refine ⟨hE.nd, by simp, fun a ha b hb => ?_⟩
          obtain ⟨e, he, rfl⟩ := List.mem_map.mp ha
          simp at hb
          have := hE.lt e he
          omega
        · rcases List.mem_append.mp he with he | he
          · have := hE.lt e he; simp; omega
          · simp at he; subst he; simp; omega
        · rcases List.mem_append.mp he with he | he
          · exact hE.sh e he
          · simp at he; subst he; exact el
        · rw [List.foldl_append, ← hr, hset]; rfl
      · refine ⟨[srcD s1, sh, pa, .nd (.lst .own) (R.map (esD .own)), .nd (.lst .own) ((E.map chI).map (chD .own)), .int i, .un, .un, .un, .un, .un], ?_, s1, E, R, .int i, rfl, ⟨hE.v, hE.nd, fun e he => by have := hE.lt e he; simp; omega, hE.sh⟩, hr, by simp; omega, hn, hm'⟩
        simp [lg__law_step_2, lb__law_step_2, chk_of, chkO_of, f1, c])
    [] ((List.range R0.length).map fun i => (0 : Int) + (i : Nat)) [srcD s, sh, pa, .nd (.lst .own) (R0.map (esD .own)), .nd (.lst .own) [], x, .un, .un, .un, .un, .un] ⟨s, [], R0, x, rfl, ⟨trivial, by simp, by simp, by simp⟩, rfl, by simp, rfl, by simp⟩
  simp at hE hl
  refine ⟨s2, E, x', ?_, hE, hl, by rw [← hr, hn]⟩
  rw [← hr]
  exact e3
theorem step_two (R0 R1 : List (List Int)) (E1 : List Ent) (hE1 : Dr R0 E1 R1.length) (hr1 : R1 = E1.foldl stR R0) (hl1 : E1.length ≤ R1.length) (hR : R1.length ≤ 100) (v : Int) (v0 : 0 ≤ v) (v1 : v ≤ 2) (sh pa x y : D) (s : Sr) : ∃ (s' : Sr) (E : List Ent) (y' : D), forL lg__law_step_3 lb__law_step_3 (((List.range v.toNat).map fun i => (0 : Int) + (i : Nat)).map D.int) [srcD s, sh, pa, rowsO R1, chsO E1, x, y, .un, .un, .un, .un] = .nx [srcD s', sh, pa, rowsO (E.foldl stR R0), chsO E, x, y', .un, .un, .un, .un] ∧ Dr R0 E (E.foldl stR R0).length ∧ E.length ≤ (E.foldl stR R0).length ∧ (E.foldl stR R0).length ≤ R1.length + 2 ∧ R1.length ≤ (E.foldl stR R0).length := by
  obtain ⟨st', e3, s2, E, R, y', rfl, hE, hr, hl, hn, hb⟩ := forL_inv (g := lg__law_step_3) (b := lb__law_step_3) (f := D.int) (fun pre post st => ∃ (s : Sr) (E : List Ent) (R : List (List Int)) (y : D), st = [srcD s, sh, pa, .nd (.lst .own) (R.map (esD .own)), .nd (.lst .own) ((E.map chI).map (chD .own)), x, y, .un, .un, .un, .un] ∧ Dr R0 E R.length ∧ R = E.foldl stR R0 ∧ E.length ≤ R.length ∧ R.length = R1.length + pre.length ∧ pre.length + post.length ≤ 2)
    (fun pre i post st ⟨s, E, R, y, e, hE, hr, hl, hn, hb⟩ => by
      subst e
      simp at hb
      have k1 : R.length < 16777216 := by omega
      have k3 : R.length ≤ 16777216 := by omega
      have k4 : R.length + 1 ≤ 16777216 := by omega
      have k2 : E.length < 16777216 := by omega
      obtain ⟨es, s2, el, f2⟩ := line_by_ok s R.length (by omega) (by omega)
      have f3 := items_of_eq .bor es (by omega)
      have hx : ixN (R.length + 1) (-1) = some R.length := by simp [ixN]; omega
      have ez : ((R.length : Int) + 1 - 1) = R.length := by omega
      have hst : stR R ((R.length : Int), es) = R ++ [es] := by unfold stR; rw [if_pos rfl]
      refine ⟨[srcD s2, sh, pa, .nd (.lst .own) ((R ++ [es]).map (esD .own)), .nd (.lst .own) (((E ++ [((R.length : Int), es)]).map chI).map (chD .own)), x, .int i, .un, .un, .un, .un], ?_, s2, E ++ [((R.length : Int), es)], R ++ [es], .int i, rfl, ⟨hE.v.snoc (by simp) (by rw [← hr]; simp) el, ?_, fun e he => ?_, fun e he => ?_⟩, ?_, by simp; omega, by simp; omega, by simp; omega⟩
      · rw [chd_app]
        simp [lg__law_step_3, lb__law_step_3, chk_of, chkO_of, f2, f3, k1, k2, k3, k4, hx, chD, ez]
      · rw [List.map_append, List.nodup_append]
        refine ⟨hE.nd, by simp, fun a ha b hb => ?_⟩
        obtain ⟨e, he, rfl⟩ := List.mem_map.mp ha
        simp at hb
        have := hE.lt e he
        omega
      · rcases List.mem_append.mp he with he | he
        · have := hE.lt e he; simp; omega
        · simp at he; subst he; simp; omega
      · rcases List.mem_append.mp he with he | he
        · exact hE.sh e he
        · simp at he; subst he; exact el
      · rw [List.foldl_append, ← hr]; exact hst.symm)
    [] ((List.range v.toNat).map fun i => (0 : Int) + (i : Nat)) [srcD s, sh, pa, .nd (.lst .own) (R1.map (esD .own)), .nd (.lst .own) ((E1.map chI).map (chD .own)), x, y, .un, .un, .un, .un] ⟨s, E1, R1, y, rfl, hE1, hr1, hl1, by simp, by simp; omega⟩
  simp at hn hb
  refine ⟨s2, E, y', ?_, by rw [← hr]; exact hE, by rw [← hr]; exact hl, by rw [← hr]; omega, by rw [← hr]; omega⟩
  rw [← hr]
  exact e3
def pz (f : Fl) (Ps : List (List (List Int))) : List D := .nd (.lst f) [] :: Ps.map rowsZ
def pastD (f g : Fl) (Ps : List (List (List Int))) : D := .nd (.lst f) (pz g Ps)
theorem pz_len (f : Fl) (Ps : List (List (List Int))) : (pz f Ps).length = Ps.length + 1 := by simp [pz]
theorem pz_get (f : Fl) (Ps : List (List (List Int))) (k : Nat) (R : List (List Int)) (h : ([] :: Ps)[k]? = some R) : ∃ g, (g = f ∨ g = .fz) ∧ (pz f Ps)[k]? = some (.nd (.lst g) (R.map (esD .fz))) := by
  cases k with
  | zero => simp at h; subst h; exact ⟨f, .inl rfl, by simp [pz]⟩
  | succ k =>
    have h : Ps[k]? = some R := by simpa using h
    exact ⟨.fz, .inr rfl, by simp [pz, h, rowsZ]⟩
@[simp] theorem set_rowsZ' (g : Fl) (R : List (List Int)) : D.set g (rowsZ R) = rowsZ R := by
  have : ∀ R : List (List Int), D.setL g (R.map (esD .fz)) = R.map (esD .fz) := fun R => by induction R with | nil => simp | cons a r ih => simp [ih]
  simp [rowsZ, this]
theorem set_pastD (g g1 : Fl) (Ps : List (List (List Int))) : D.set g (pastD .own g1 Ps) = pastD g (if g1 = .own then g else g1) Ps := by
  have : ∀ Ps : List (List (List Int)), D.setL g (Ps.map rowsZ) = Ps.map rowsZ := fun Ps => by induction Ps with | nil => simp | cons a r ih => simp [ih]
  cases g1 <;> simp [pastD, pz, this]
theorem noBor_pastD (g : Fl) (hg : g = .own ∨ g = .fz) (Ps : List (List (List Int))) : D.noBor (pastD .own g Ps) = true := by
  have : ∀ Ps : List (List (List Int)), D.noBorL (Ps.map rowsZ) = true := fun Ps => by induction Ps with | nil => simp | cons a r ih => simp [ih, rowsZ]
  rcases hg with rfl | rfl <;> simp [pastD, pz, this]
def lastP (Ps : List (List (List Int))) : List (List Int) := (Ps.getLast?).getD []
theorem last_get (Ps : List (List (List Int))) : ([] :: Ps)[Ps.length]? = some (lastP Ps) := by
  rcases nil_or_last Ps with rfl | ⟨i, l, rfl⟩
  · rfl
  · simp [lastP]
theorem pz_last (f : Fl) (Ps : List (List (List Int))) : ∃ g, (g = f ∨ g = .fz) ∧ (pz f Ps)[Ps.length]? = some (.nd (.lst g) ((lastP Ps).map (esD .fz))) := pz_get f Ps _ _ (last_get Ps)
theorem ix_last (f : Fl) (Ps : List (List (List Int))) : ixN (pz f Ps).length (-1) = some Ps.length := by
  rw [pz_len]
  simp [ixN]
  omega
theorem st_a (s : Sr) (sh : D) (g : Fl) (hg0 : g = .own ∨ g = .fz) (Ps : List (List (List Int))) (hl : (lastP Ps).length ≤ 100) : ∃ g', (g' = .own ∨ g' = .fz) ∧ (mAsg (mLcL (mQ (qIx (qV 2) (qNeg (qC (.int 1))))) [10] lg__law_step_1 lt__law_step_1 le__law_step_1) (gNm 3)) [srcD s, sh, pastD .own g Ps, .un, .un, .un, .un, .un, .un, .un, .un] = .nx [srcD s, sh, pastD .own g' Ps, rowsO (lastP Ps), .un, .un, .un, .un, .un, .un, .un] := by
  cases Ps with
  | nil =>
    refine ⟨.fz, .inr rfl, ?_⟩
    have ix : ixN 1 (-1) = some 0 := by decide
    have e0 : ∀ (T : D → List D → PV.R (Option D)) (st : List D), lcL T [] [] st = .ok [] st := fun _ _ => rfl
    rcases hg0 with rfl | rfl <;> simp [pastD, pz, lastP, chk_of, chkO_of, ix, rowsO, e0]
  | cons R Ps =>
    refine ⟨g, hg0, ?_⟩
    obtain ⟨n, X, hX⟩ : ∃ (n : Nat) (X : List D), X = pz g (R :: Ps) ∧ n = (R :: Ps).length := ⟨_, _, rfl, rfl⟩
    obtain ⟨hX, hn⟩ := hX
    have e : X[n]? = some (.nd (.lst .fz) ((lastP (R :: Ps)).map (esD .fz))) := by
      have h := last_get (R :: Ps)
      rw [hX, hn]
      have h2 : (R :: Ps)[Ps.length]? = some (lastP (R :: Ps)) := by simpa using h
      show ((.nd (.lst g) [] : D) :: (R :: Ps).map rowsZ)[Ps.length + 1]? = _
      rw [List.getElem?_cons_succ, List.getElem?_map, h2]
      rfl
    have ix : ixN X.length (-1) = some n := by rw [hX, hn]; exact ix_last g _
    have hs : X.set n (.nd (.lst .fz) ((lastP (R :: Ps)).map (esD .fz))) = X := list_set_same e
    have e2 := step_rows (lastP (R :: Ps)) (by omega) (srcD s) sh (.nd (.lst .own) X) .un .un .un .un .un .un .un
    unfold pastD
    rw [← hX]
    simp [chk_of, chkO_of, ix, e, hs, e2, rowsO]
theorem st_b (g : Fl) (s : Sr) (sh : D) (Ps : List (List (List Int))) (R0 : List (List Int)) (hR : R0.length ≤ 100) : ∃ (s' : Sr) (E : List Ent) (x : D), mSeq (mAsg (mLst mNil) (gNm 4)) (mForRC1 (mQ (qLen (qV 3))) lg__law_step_2 lb__law_step_2) [srcD s, sh, pastD .own g Ps, rowsO R0, .un, .un, .un, .un, .un, .un, .un] = .nx [srcD s', sh, pastD .own g Ps, rowsO (E.foldl stR R0), chsO E, x, .un, .un, .un, .un, .un] ∧ Dr R0 E R0.length ∧ E.length ≤ R0.length ∧ (E.foldl stR R0).length = R0.length := by
  obtain ⟨s', E, x', e, h1, h2, h3⟩ := step_one R0 hR sh (pastD .own g Ps) s .un
  refine ⟨s', E, x', ?_, h1, h2, h3⟩
  have hr : rangeD 0 (R0.length : Int) = ((List.range R0.length).map fun i => (0 : Int) + (i : Nat)).map D.int := by
    have := rangeD_eq 0 (R0.length : Int)
    simpa using this
  rw [← hr] at e
  have e2 : (mForRC1 (mQ (qLen (qV 3))) lg__law_step_2 lb__law_step_2) [srcD s, sh, pastD .own g Ps, rowsO R0, chsO [], .un, .un, .un, .un, .un, .un] = _ := forRC1_of (z := (R0.length : Int)) (by simp [rowsO, chk_of]) (by omega) (by omega) e
  rw [← e2]
  generalize (mForRC1 (mQ (qLen (qV 3))) lg__law_step_2 lb__law_step_2) = Q
  simp [chk_of, chkO_of, chsO]
theorem st_c (g : Fl) (s : Sr) (sh x : D) (Ps : List (List (List Int))) (R0 R1 : List (List Int)) (E1 : List Ent) (hE1 : Dr R0 E1 R1.length) (hr1 : R1 = E1.foldl stR R0) (hl1 : E1.length ≤ R1.length) (hR : R1.length ≤ 100) : ∃ (s' : Sr) (E : List Ent) (y' : D), (mForR1 (mCall [.io, .bo] F__law_next (aPth (qV 0) (aVal (mQ (qC (.int 3))) aNil))) lg__law_step_3 lb__law_step_3) [srcD s, sh, pastD .own g Ps, rowsO R1, chsO E1, x, .un, .un, .un, .un, .un] = .nx [srcD s', sh, pastD .own g Ps, rowsO (E.foldl stR R0), chsO E, x, y', .un, .un, .un, .un] ∧ Dr R0 E (E.foldl stR R0).length ∧ E.length ≤ (E.foldl stR R0).length ∧ (E.foldl stR R0).length ≤ R1.length + 2 ∧ R1.length ≤ (E.foldl stR R0).length := by
  obtain ⟨v, s1, v0, v1, e1⟩ := next_ok s 3 (by decide) (by decide)
  obtain ⟨s', E, y', e, h⟩ := step_two R0 R1 E1 hE1 hr1 hl1 hR v v0 (by omega) sh (pastD .own g Ps) x .un s1
  refine ⟨s', E, y', ?_, h⟩
  have h6 : -4611686018427387904 ≤ v ∧ v < 4611686018427387904 := ⟨by omega, by omega⟩
  have hr : rangeD 0 v = ((List.range v.toNat).map fun i => (0 : Int) + (i : Nat)).map D.int := by
    have := rangeD_eq 0 v
    simpa using this
  rw [← hr] at e
  simp [chk_of, chkO_of, chkS_of, e1, h6, e]
abbrev Ch := Int × List It
def chsC (f : Fl) (C : List Ch) : D := .nd (.lst .own) (C.map (chD f))
abbrev chsF (f : Fl) (E : List Ent) : D := chsC f (E.map chI)
theorem st_d (g : Fl) (s : Sr) (sh x y : D) (Ps : List (List (List Int))) (R : D) (E : List Ent) (hE : Dr (lastP Ps) E 1000) (hl : E.length ≤ 1000) (hR : (lastP Ps).length ≤ 1000) : ∃ (s' : Sr) (E2 : List Ent) (f : Fl), (mIf (mAndT (mTE (mEq false (mCall [.io, .bo] F__law_next (aPth (qV 0) (aVal (mQ (qC (.int 2))) aNil))) (mQ (qC (.int 0))))) (mAndT (mTQ (qOp gGt (qLen (qV 4)) (qC (.int 1)))) (mTQ (qOp gLt (qIx (qIx (qV 4) (qC (.int 0))) (qC (.int 0))) (qLen (qIx (qV 2) (qNeg (qC (.int 1))))))))) (mSeq (mAsg (mAdd (mSlQ (qV 4) (oQ (qC (.int 1))) oNo) (mSlQ (qV 4) oNo (oQ (qC (.int 1))))) (gNm 4)) mSkip) mSkip) [srcD s, sh, pastD .own g Ps, R, chsO E, x, y, .un, .un, .un, .un] = .nx [srcD s', sh, pastD .own g Ps, R, chsF f E2, x, y, .un, .un, .un, .un] ∧ (f = .own ∨ f = .fz) ∧ VR (lastP Ps) E2 ∧ E2.foldl stR (lastP Ps) = E.foldl stR (lastP Ps) ∧ E2.length = E.length ∧ ∀ e ∈ E2, e.2.length ≤ 4 := by
  obtain ⟨u, s1, u0, u1, f1⟩ := next_ok s 2 (by decide) (by decide)
  have keep : ∀ (s' : Sr), (mIf (mAndT (mTE (mEq false (mCall [.io, .bo] F__law_next (aPth (qV 0) (aVal (mQ (qC (.int 2))) aNil))) (mQ (qC (.int 0))))) (mAndT (mTQ (qOp gGt (qLen (qV 4)) (qC (.int 1)))) (mTQ (qOp gLt (qIx (qIx (qV 4) (qC (.int 0))) (qC (.int 0))) (qLen (qIx (qV 2) (qNeg (qC (.int 1))))))))) (mSeq (mAsg (mAdd (mSlQ (qV 4) (oQ (qC (.int 1))) oNo) (mSlQ (qV 4) oNo (oQ (qC (.int 1))))) (gNm 4)) mSkip) mSkip) [srcD s, sh, pastD .own g Ps, R, chsO E, x, y, .un, .un, .un, .un] = .nx [srcD s', sh, pastD .own g Ps, R, chsO E, x, y, .un, .un, .un, .un] → _ := fun s' e => (⟨s', E, .own, e, .inl rfl, hE.v, rfl, rfl, hE.sh⟩ : ∃ (s' : Sr) (E2 : List Ent) (f : Fl), (mIf (mAndT (mTE (mEq false (mCall [.io, .bo] F__law_next (aPth (qV 0) (aVal (mQ (qC (.int 2))) aNil))) (mQ (qC (.int 0))))) (mAndT (mTQ (qOp gGt (qLen (qV 4)) (qC (.int 1)))) (mTQ (qOp gLt (qIx (qIx (qV 4) (qC (.int 0))) (qC (.int 0))) (qLen (qIx (qV 2) (qNeg (qC (.int 1))))))))) (mSeq (mAsg (mAdd (mSlQ (qV 4) (oQ (qC (.int 1))) oNo) (mSlQ (qV 4) oNo (oQ (qC (.int 1))))) (gNm 4)) mSkip) mSkip) [srcD s, sh, pastD .own g Ps, R, chsO E, x, y, .un, .un, .un, .un] = .nx [srcD s', sh, pastD .own g Ps, R, chsF f E2, x, y, .un, .un, .un, .un] ∧ (f = .own ∨ f = .fz) ∧ VR (lastP Ps) E2 ∧ E2.foldl stR (lastP Ps) = E.foldl stR (lastP Ps) ∧ E2.length = E.length ∧ ∀ e ∈ E2, e.2.length ≤ 4)
  obtain ⟨g1, hg, eg⟩ := pz_last g Ps
  have ix := ix_last g Ps
  have kR : (lastP Ps).length ≤ 16777216 := by omega
  by_cases c : u = 0
  · cases E with
    | nil => exact keep s1 (by simp [chsO, chk_of, chkO_of, f1, c])
    | cons e E =>
      have kE : E.length ≤ 16777215 := by simp at hl; omega
      have kE1 : E.length + 1 ≤ 16777216 := by omega
      have x0 : ixN (E.length + 1) 0 = some 0 := by simp [ixN]
      by_cases c1 : E = []
      · subst c1
        exact keep s1 (by simp [chsO, chk_of, chkO_of, f1, c])
      · have c1' : 1 < (E.length : Int) + 1 := by
          have := List.length_pos_iff.mpr c1; omega
        by_cases c2 : e.1 < ((lastP Ps).length : Int)
        · obtain ⟨i, es⟩ := e
          have i0 := (hE.lt (i, es) (by simp)).1
          obtain ⟨j, rfl⟩ : ∃ j : Nat, i = j := ⟨i.toNat, by simp at i0; omega⟩
          simp at c2
          have v := hE.v
          have v2 := v.2
          rw [stR_set (lastP Ps) j c2 es] at v2
          have nd := hE.nd
          simp only [List.map_cons, List.nodup_cons] at nd
          obtain ⟨h1, h2⟩ := rot j es v.1.2.2 E (lastP Ps) c2 (fun d hd q => nd.1 (by rw [← q]; exact List.mem_map.mpr ⟨d, hd, rfl⟩)) v2
          refine ⟨s1, E ++ [((j : Int), es)], .fz, ?_, .inr rfl, h1, by rw [h2, List.foldl_cons, stR_set (lastP Ps) j c2 es], by simp, fun e he => by
            rcases List.mem_append.mp he with he | he
            · exact hE.sh e (by simp [he])
            · simp at he; subst he; exact v.1.2.2⟩
          have w1 : cutL (chD .fz (chI ((j : Int), es)) :: (E.map chI).map (chD .fz)) (some 1) none = (E.map chI).map (chD .fz) := cutL_tl _ _
          have w2 : cutL (chD .fz (chI ((j : Int), es)) :: (E.map chI).map (chD .fz)) none (some 1) = [chD .fz (chI ((j : Int), es))] := cutL_to (xs := chD .fz (chI ((j : Int), es)) :: (E.map chI).map (chD .fz)) (y := 1) (by omega) (by simp; omega)
          have s2 : D.setL .fz ((E.map chI).map (chD .own)) = (E.map chI).map (chD .fz) := setL_chO .fz _
          have hl2 : E.length + 1 ≤ 16777216 := by omega
          unfold pastD at *
          clear keep
          simp [chsO, chsF, chsC, chk_of, chkO_of, chkS_of, f1, c, ix, eg, x0, chI, chD, c1', c2, kE, kE1, kR, hl2] at w1 w2 s2 ⊢
          simp [w1, w2, s2, chk_of, chkO_of, hl2]
        · refine keep s1 ?_
          unfold pastD
          simp [chsO, chk_of, chkO_of, f1, c, ix, eg, x0, chI, chD, c1', c2, kE, kE1, kR]
  · exact keep s1 (by simp [chk_of, chkO_of, f1, c])
theorem hand_lc (C : List Ch) (hl : C.length ≤ 1000) (hs : ∀ c ∈ C, c.2.length ≤ 4) (a0 a1 a2 a3 a4 x a6 a7 a8 : D) : ∃ x', lcL (lcT [5, 9] lg__law_step_4 lt__law_step_4 le__law_step_4) (C.map (chD .fz)) [] [a0, a1, a2, a3, a4, x, a6, a7, a8, .un, .un] = .ok (C.map (chD .own)) [a0, a1, a2, a3, a4, x', a6, a7, a8, .un, .un] := by
  have key : lcL (lcT [5, 9] lg__law_step_4 lt__law_step_4 le__law_step_4) (C.map (chD .fz)) [] [a0, a1, a2, a3, a4, .un, a6, a7, a8, .un, .un] = .ok (C.map (chD .own)) [a0, a1, a2, a3, a4, .un, a6, a7, a8, .un, .un] := by
    rw [lcL_pure (f := chD .fz) (fun c => some (chD .own c)) C [] (by simp; omega) (fun c hc => by
      have := hs c hc
      have k : c.2.length ≤ 16777216 := by omega
      simp [lg__law_step_4, lt__law_step_4, le__law_step_4, chk_of, chkO_of, chD, itsD, k])]
    simp
  cases C with
  | nil => exact ⟨x, rfl⟩
  | cons e E =>
    refine ⟨.un, ?_⟩
    rw [← key]
    rfl
theorem st_e (s : Sr) (sh pa R x y : D) (C : List Ch) (f : Fl) (hf : f = .own ∨ f = .fz) (hl : C.length ≤ 1000) (hs : ∀ c ∈ C, c.2.length ≤ 4) : ∃ x', (mAsg (mLcL (mQ (qV 4)) [5, 9] lg__law_step_4 lt__law_step_4 le__law_step_4) (gNm 7)) [srcD s, sh, pa, R, chsC f C, x, y, .un, .un, .un, .un] = .nx [srcD s, sh, pa, R, .nd (.lst .fz) (C.map (chD .fz)), x', y, chsC .own C, .un, .un, .un] := by
  obtain ⟨x', e⟩ := hand_lc C hl hs (srcD s) sh pa R (.nd (.lst .fz) (C.map (chD .fz))) x y .un .un
  refine ⟨x', ?_⟩
  unfold chsC
  rcases hf with rfl | rfl <;> simp [chk_of, chkO_of, e]
theorem sh_step23 (E : List Ent) (P : List (List En)) (R : List (List Int)) (m : Int) (hc : curF P = R.map itemsF) (v : VR R E) (l1 : P.length + E.length ≤ 1000) (l2 : ∀ l ∈ P, l.length + E.length ≤ 100000) : ∃ P', F_Shelf_step [shelfD .own P m, .nd (.lst .bor) ((E.map chI).map (chD .bor))] = .ok .non [shelfD .own P' (m + 1), .un] ∧ curF P' = (E.foldl stR R).map itemsF ∧ Grow (m + 1) P P' ∧ ∀ n, (∀ l ∈ P, l.length ≤ n) → ∀ l ∈ P', l.length ≤ n + E.length := by
  obtain ⟨P', x', y', e, h1, h2, h3⟩ := step_loop23 (m + 1) .bor (.inl rfl) (.nd (.lst .bor) ((E.map chI).map (chD .bor))) E P R .un .un hc v l1 l2
  refine ⟨P', ?_, h1, h2, h3⟩
  generalize E.map chI = C at *
  unfold shelfD at e ⊢
  simp [F_Shelf_step, runF_eq, m_Shelf_step, chk_of, chkO_of, e]
theorem st_f (s : Sr) (P P' : List (List En)) (m m' : Int) (pa R Z x y : D) (C : List Ch) (h : F_Shelf_step [shelfD .own P m, .nd (.lst .bor) (C.map (chD .bor))] = .ok .non [shelfD .own P' m', .un]) : (mAsg (mMethS "Shelf" ["past", "moment"] [.io, .bo] F_Shelf_step (qV 1) (aPth (qV 7) aNil)) (gNm 8)) [srcD s, shelfD .own P m, pa, R, Z, x, y, chsC .own C, .un, .un, .un] = .nx [srcD s, shelfD .own P' m', pa, R, Z, x, y, chsC .own C, .non, .un, .un] := by
  unfold chsC
  simp [chk_of, chkO_of, h]
theorem eqv_its : ∀ is : List It, D.eqvL (is.map itD) (is.map itD) = true
  | [] => by simp
  | i :: is => by cases i <;> simp [itD, eqv_its is]
theorem eqD_ch (f g h k : Fl) (C : List Ch) : eqD (.nd (.lst f) (C.map (chD g))) (.nd (.lst h) (C.map (chD k))) = some true := by
  have o1 : ∀ (i : It) (n : Nat), D.ok (itD i) (n + 1) = true := fun i n => by
    have h1 : PySem.PyData.strOk (Str.ofString "ink") = true := by decide +kernel
    have h2 : PySem.PyData.strOk (Str.ofString "win") = true := by decide +kernel
    cases i <;> simp [itD, h1, h2]
  have o2 : ∀ (f g : Fl) (n : Nat), D.ok (.nd (.lst f) (C.map (chD g))) (n + 4) = true := fun f g n => by
    rw [ok_lst, okL_all, List.all_eq_true]
    intro x hx
    obtain ⟨c, _, rfl⟩ := List.mem_map.mp hx
    have : D.okL (c.2.map itD) (n + 1) = true := by
      rw [okL_all, List.all_eq_true]
      intro y hy
      obtain ⟨i, _, rfl⟩ := List.mem_map.mp hy
      exact o1 i n
    simp [chD, itsD, this]
  rw [eqD_ok (o2 f g 56) (o2 h k 56), eqv_lst]
  congr 1
  have : ∀ C : List Ch, D.eqvL (C.map (chD g)) (C.map (chD k)) = true := fun C => by
    induction C with
    | nil => simp
    | cons c C ih => simp [chD, itsD, eqv_its, ih]
  exact this C
theorem st_g (s : Sr) (sh pa R x y : D) (C : List Ch) : (mIf (mTQ (qEq true (qV 7) (qV 4))) (mSeq (mRet (mQ (qC (.bl false)))) mSkip) mSkip) [srcD s, sh, pa, R, .nd (.lst .fz) (C.map (chD .fz)), x, y, chsC .own C, .non, .un, .un] = .nx [srcD s, sh, pa, R, .nd (.lst .fz) (C.map (chD .fz)), x, y, chsC .own C, .non, .un, .un] := by
  have e := eqD_ch .own .own .fz .fz C
  unfold chsC
  simp [chk_of, chkO_of, e]
theorem hs_turn (a0 a1 a2 a3 a4 a6 a8 : D) (z : Int) (xs : List D) (j : Nat) (c : Ch) (hx : xs[j]? = some (chD .own c)) (hc : c.2.length ≤ 4) : lb__law_step_5 7 [j, 1] [a0, a1, a2, a3, a4, .int z, a6, .nd (.lst .own) xs, a8, .un, .un] = .nx [a0, a1, a2, a3, a4, .int z, a6, .nd (.lst .own) (xs.set j (chD .own (c.1, c.2 ++ [.ink 7 9]))), a8, .un, .un] := by
  have k : c.2.length < 16777216 := by omega
  have hj : j < xs.length := (List.getElem?_eq_some_iff.mp hx).1
  have hv : xs[j] = .nd .tup [.int c.1, .nd (.lst .own) (c.2.map itD)] := (List.getElem?_eq_some_iff.mp hx).2
  simp [lb__law_step_5, mBlk, bHdAt, bOut, getS, getP, hv, hj, bVis, bEnd, bOk, bTree, spS, spOk, bBack, bMrg, setS, setP, Kd.fl, chk_of, chkO_of, chD, itsD, k, itD]
theorem hs_for (n : Nat) (a0 a1 a2 a3 a4 a6 a8 : D) : ∀ (c j : Nat) (x : D) (xs : List D), xs.length = n → j + c = n → (∀ (i : Nat) (d : D), j ≤ i → xs[i]? = some d → ∃ k : Ch, d = chD .own k ∧ k.2.length ≤ 4) → ∃ (x' : D) (xs' : List D), forA true 7 n [1] (gaPr 5 9) lb__law_step_5 c j [a0, a1, a2, a3, a4, x, a6, .nd (.lst .own) xs, a8, .un, .un] = .nx [a0, a1, a2, a3, a4, x', a6, .nd (.lst .own) xs', a8, .un, .un] ∧ xs'.length = n
  | 0, j, x, xs, hl, _, _ => ⟨x, xs, by simp [forA, okA, seqN, hl], hl⟩
  | c + 1, j, x, xs, hl, hj, h => by
    obtain ⟨d, hd⟩ : ∃ d, xs[j]? = some d := ⟨xs[j], by simp⟩
    obtain ⟨k, rfl, hk⟩ := h j d (Nat.le_refl _) hd
    have e := hs_turn a0 a1 a2 a3 a4 a6 a8 k.1 xs j k hd hk
    obtain ⟨x', xs', e2, e3⟩ := hs_for n a0 a1 a2 a3 a4 a6 a8 c (j + 1) (.int k.1) (xs.set j (chD .own (k.1, k.2 ++ [.ink 7 9]))) (by simpa using hl) (by omega) (fun i y hi hy => by
      rw [List.getElem?_set_ne (by omega)] at hy
      exact h i y (by omega) hy)
    refine ⟨x', xs', ?_, e3⟩
    have o : okA true 7 n [a0, a1, a2, a3, a4, x, a6, .nd (.lst .own) xs, a8, .un, .un] = true := by simp [okA, seqN, hl]
    have g : getS [a0, a1, a2, a3, a4, x, a6, .nd (.lst .own) xs, a8, .un, .un] 7 [j] = some (chD .own k) := by simp [getS, getP, hd]
    have g2 : gaPr 5 9 (chD .own k) 7 [a0, a1, a2, a3, a4, x, a6, .nd (.lst .own) xs, a8, .un, .un] = some [a0, a1, a2, a3, a4, .int k.1, a6, .nd (.lst .own) xs, a8, .un, .un] := by simp [gaPr, chD, vOf]
    unfold forA
    rw [if_pos o, g]
    simp only [g2]
    rw [e]
    exact e2
theorem st_h (s : Sr) (sh pa R Z x y : D) (C : List Ch) (hs : ∀ c ∈ C, c.2.length ≤ 4) : ∃ (x' : D) (xs' : List D), (mForA true [.hd, .hd, .hd, .hd, .hd, .io, .hd, .hd, .hd, .al, .hd] (qV 7) [1] (gaPr 5 9) lb__law_step_5) [srcD s, sh, pa, R, Z, x, y, chsC .own C, .non, .un, .un] = .nx [srcD s, sh, pa, R, Z, x', y, .nd (.lst .own) xs', .non, .un, .un] ∧ xs'.length = C.length := by
  obtain ⟨x', xs', e, hl⟩ := hs_for C.length (srcD s) sh pa R Z y .non C.length 0 x (C.map (chD .own)) (by simp) (by omega) (fun i d _ hd => by
    obtain ⟨c, hc, rfl⟩ := List.mem_map.mp (List.mem_of_getElem? hd)
    exact ⟨c, rfl, hs c hc⟩)
  refine ⟨x', xs', ?_, hl⟩
  have q : qV 7 [srcD s, sh, pa, R, Z, x, y, chsC .own C, .non, .un, .un] = some (.pth 7 []) := rfl
  unfold mForA
  rw [q]
  simp only
  rw [if_pos (show bHdAt [.hd, .hd, .hd, .hd, .hd, .io, .hd, .hd, .hd, .al, .hd] 7 = true from rfl)]
  have b : (([srcD s, sh, pa, R, Z, x, y, chsC .own C, .non, .un, .un] : List D)[7]?).bind (seqN true) = some C.length := by simp [chsC, seqN]
  rw [b]
  exact e
theorem st_i (a0 a1 a2 a3 a4 a5 a6 a8 : D) (xs : List D) (h : xs.length ≤ 10000) : (mExpr (mAppend (qV 7) (mTup (mCons (mQ (qC (.int 0))) (mCons (mLst mNil) mNil))))) [a0, a1, a2, a3, a4, a5, a6, .nd (.lst .own) xs, a8, .un, .un] = .nx [a0, a1, a2, a3, a4, a5, a6, .nd (.lst .own) (xs ++ [.nd .tup [.int 0, .nd (.lst .own) []]]), a8, .un, .un] := by
  have k : xs.length < 16777216 := by omega
  simp [chk_of, chkO_of, k]
theorem st_j (a0 a1 a4 a5 a6 a7 a8 : D) (g : Fl) (Ps : List (List (List Int))) (R : List (List Int)) (h : Ps.length ≤ 10000) : (mExpr (mAppend (qV 2) (mQ (qV 3)))) [a0, a1, pastD .own g Ps, rowsO R, a4, a5, a6, a7, a8, .un, .un] = .nx [a0, a1, pastD .own g (Ps ++ [R]), rowsZ R, a4, a5, a6, a7, a8, .un, .un] := by
  have k : Ps.length + 1 < 16777216 := by omega
  simp [chk_of, chkO_of, k, pastD, pz, rowsO, rowsZ]
theorem sq {m n : MS} {st st' : List D} (h : m st = .nx st') : mSeq m n st = n st' := by unfold mSeq; rw [h]
theorem stR_sh : ∀ (E : List Ent) (R : List (List Int)), (∀ es ∈ R, es.length ≤ 4) → VR R E → ∀ es ∈ E.foldl stR R, es.length ≤ 4
  | [], R, h, _ => h
  | e :: E, R, h, v => stR_sh E (stR R e) (fun es he => by
    unfold stR at he
    split at he
    · rcases List.mem_append.mp he with he | he
      · exact h es he
      · simp at he; subst he; exact v.1.2.2
    · rcases List.mem_or_eq_of_mem_set he with he | he
      · exact h es he
      · subst he; exact v.1.2.2) v.2
structure Inv23 (P : List (List En)) (m : Int) (Ps : List (List (List Int))) : Prop where
  h : Hist0 P ([] :: Ps)
  m : m = Ps.length
  cur : curF P = (lastP Ps).map itemsF
  len : (lastP Ps).length ≤ 2 * Ps.length
  sh : ∀ R ∈ Ps, ∀ es ∈ R, es.length ≤ 4
  bd : ∀ l ∈ P, l.length ≤ 100 * Ps.length
theorem lastP_sh {Ps : List (List (List Int))} (h : ∀ R ∈ Ps, ∀ es ∈ R, es.length ≤ 4) : ∀ es ∈ lastP Ps, es.length ≤ 4 := by
  rcases nil_or_last Ps with rfl | ⟨i, l, rfl⟩
  · simp [lastP]
  · have e : lastP (i ++ [l]) = l := by simp [lastP]
    rw [e]
    exact h l (by simp)
theorem chI_sh {E : List Ent} (h : ∀ e ∈ E, e.2.length ≤ 4) : ∀ c ∈ E.map chI, c.2.length ≤ 4 := fun c hc => by
  obtain ⟨e, he, rfl⟩ := List.mem_map.mp hc
  exact itemsF_len4 (h e he)
theorem step_ok (s : Sr) (P : List (List En)) (m : Int) (g : Fl) (hg : g = .own ∨ g = .fz) (Ps : List (List (List Int))) (I : Inv23 P m Ps) (hn : Ps.length ≤ 20) : ∃ (s' : Sr) (P' : List (List En)) (g' : Fl) (R' : List (List Int)), F__law_step [srcD s, shelfD .own P m, pastD .own g Ps] = .ok (.bl true) [srcD s', shelfD .own P' (m + 1), pastD .own g' (Ps ++ [R'])] ∧ (g' = .own ∨ g' = .fz) ∧ Inv23 P' (m + 1) (Ps ++ [R']) := by
  have hl := I.len
  obtain ⟨g1, hg1, ea⟩ := st_a s (shelfD .own P m) g hg Ps (by omega)
  obtain ⟨s1, E1, x1, eb, D1, l1, n1⟩ := st_b g1 s (shelfD .own P m) Ps (lastP Ps) (by omega)
  rw [show (lastP Ps).length = (E1.foldl stR (lastP Ps)).length from n1.symm] at D1
  obtain ⟨s2, E2, y2, ec, D2, l2, n2, n3⟩ := st_c g1 s1 (shelfD .own P m) x1 Ps (lastP Ps) (E1.foldl stR (lastP Ps)) E1 D1 rfl (by omega) (by omega)
  obtain ⟨s3, E3, f, ed, hf, v3, h3, l3, sh3⟩ := st_d g1 s2 (shelfD .own P m) x1 y2 Ps (rowsO (E2.foldl stR (lastP Ps))) E2 ⟨D2.v, D2.nd, fun e he => by have := D2.lt e he; omega, D2.sh⟩ (by omega) (by omega)
  have hs3 := chI_sh sh3
  have lC : (E3.map chI).length = E3.length := by simp
  obtain ⟨x4, ee⟩ := st_e s3 (shelfD .own P m) (pastD .own g1 Ps) (rowsO (E2.foldl stR (lastP Ps))) x1 y2 (E3.map chI) f hf (by omega) hs3
  have lP := cur_len I.cur
  obtain ⟨P', sS, c1, G, b1⟩ := sh_step23 E3 P (lastP Ps) m I.cur v3 (by omega) (fun l hl => by have := I.bd l hl; omega)
  have ef := st_f s3 P P' m (m + 1) (pastD .own g1 Ps) (rowsO (E2.foldl stR (lastP Ps))) (.nd (.lst .fz) ((E3.map chI).map (chD .fz))) x4 y2 (E3.map chI) sS
  have eg := st_g s3 (shelfD .own P' (m + 1)) (pastD .own g1 Ps) (rowsO (E2.foldl stR (lastP Ps))) x4 y2 (E3.map chI)
  obtain ⟨x5, xs', eh, lx⟩ := st_h s3 (shelfD .own P' (m + 1)) (pastD .own g1 Ps) (rowsO (E2.foldl stR (lastP Ps))) (.nd (.lst .fz) ((E3.map chI).map (chD .fz))) x4 y2 (E3.map chI) hs3
  have ei := st_i (srcD s3) (shelfD .own P' (m + 1)) (pastD .own g1 Ps) (rowsO (E2.foldl stR (lastP Ps))) (.nd (.lst .fz) ((E3.map chI).map (chD .fz))) x5 y2 .non xs' (by omega)
  have ej := st_j (srcD s3) (shelfD .own P' (m + 1)) (.nd (.lst .fz) ((E3.map chI).map (chD .fz))) x5 y2 (.nd (.lst .own) (xs' ++ [.nd .tup [.int 0, .nd (.lst .own) []]])) .non g1 Ps (E2.foldl stR (lastP Ps)) (by omega)
  rw [h3] at c1
  have lastA : lastP (Ps ++ [E2.foldl stR (lastP Ps)]) = E2.foldl stR (lastP Ps) := by simp [lastP]
  refine ⟨s3, P', g1, E2.foldl stR (lastP Ps), ?_, hg1, ⟨?_, by rw [I.m]; simp, by rw [lastA]; exact c1, by rw [lastA]; simp; omega, fun R hR es he => ?_, fun l hl => ?_⟩⟩
  · rw [F__law_step, runF_eq]
    unfold m__law_step
    have ea' := ea
    have e1 : mSeq (mAsg (mLst mNil) (gNm 4)) (mForRC1 (mQ (qLen (qV 3))) lg__law_step_2 lb__law_step_2) [srcD s, shelfD .own P m, pastD .own g1 Ps, rowsO (lastP Ps), .un, .un, .un, .un, .un, .un, .un] = _ := eb
    have e2 : ∀ n : MS, mSeq (mAsg (mLst mNil) (gNm 4)) (mSeq (mForRC1 (mQ (qLen (qV 3))) lg__law_step_2 lb__law_step_2) n) [srcD s, shelfD .own P m, pastD .own g1 Ps, rowsO (lastP Ps), .un, .un, .un, .un, .un, .un, .un] = n [srcD s1, shelfD .own P m, pastD .own g1 Ps, rowsO (E1.foldl stR (lastP Ps)), chsO E1, x1, .un, .un, .un, .un, .un] := fun n => by
      have as : ∀ (a b c : MS) (st : List D), mSeq a (mSeq b c) st = mSeq (mSeq a b) c st := fun a b c st => by
        unfold mSeq
        cases a st <;> rfl
      rw [as, sq eb]
    show (mSeq (mAsg (mLcL (mQ (qIx (qV 2) (qNeg (qC (.int 1))))) [10] lg__law_step_1 lt__law_step_1 le__law_step_1) (gNm 3)) _ [srcD s, shelfD .own P m, pastD .own g Ps, .un, .un, .un, .un, .un, .un, .un, .un]).fr _ = _
    rw [sq ea, e2, sq ec, sq ed, sq ee, sq ef, sq eg, sq eh, sq ei, sq ej]
    simp [chk_of, noBor_pastD g1 hg1]
  · have e0 : ([] :: (Ps ++ [E2.foldl stR (lastP Ps)]) : List (List (List Int))) = ([] :: Ps) ++ [E2.foldl stR (lastP Ps)] := rfl
    rw [e0]
    refine I.h.grow ?_ _ c1
    have : ((([] : List (List Int)) :: Ps).length : Int) = m + 1 := by rw [I.m]; simp
    rw [this]
    exact G
  · rcases List.mem_append.mp hR with hR | hR
    · exact I.sh R hR es he
    · simp at hR
      subst hR
      exact stR_sh E2 (lastP Ps) (lastP_sh I.sh) D2.v es he
  · have := b1 _ I.bd l hl
    simp
    omega
/-! what is asked -/
theorem same_self23 : ∀ (n : Nat) (x : D), D.ok x n = true → D.same x x = true
  | n, x, h => by
    rcases ok_cases h with rfl | ⟨b, rfl⟩ | ⟨b, rfl⟩ | ⟨b, rfl, hb⟩ | ⟨f, xs, m, rfl, rfl, hb⟩ | ⟨xs, m, rfl, rfl, hb⟩
    · simp [D.same]
    · simp [D.same]
    · simp [D.same]
    · simp [D.same]
    · have key : ∀ ys : List D, D.okL ys m = true → D.sameL ys ys = true := fun ys => by
        induction ys with
        | nil => intro _; simp [D.sameL]
        | cons y ys ih =>
          intro hy
          simp at hy
          simp [D.sameL, same_self23 m y hy.1, ih hy.2]
      simp [D.same, key xs hb]
    · have key : ∀ ys : List D, D.okL ys m = true → D.sameL ys ys = true := fun ys => by
        induction ys with
        | nil => intro _; simp [D.sameL]
        | cons y ys ih =>
          intro hy
          simp at hy
          simp [D.sameL, same_self23 m y hy.1, ih hy.2]
      simp [D.same, key xs hb]
theorem same_selfX (x : D) (h : D.ok x 5 = true) : F__law_same_top [x, x] = .ok (.bl true) [.un, .un] := by
  rw [same_eq x x h h]
  have : ∀ (n : Nat) (x : D), D.ok x n = true → D.same x x = true := same_self23
  rw [this 5 x h]
theorem ok_its (f : Fl) (is : List It) (n : Nat) : D.ok (itsD f is) (n + 2) = true := by
  have h1 : PySem.PyData.strOk (Str.ofString "ink") = true := by decide +kernel
  have h2 : PySem.PyData.strOk (Str.ofString "win") = true := by decide +kernel
  rw [itsD, ok_lst, okL_all, List.all_eq_true]
  intro y hy
  obtain ⟨i, _, rfl⟩ := List.mem_map.mp hy
  cases i <;> simp [itD, h1, h2]
def anD (z : Str) (x : D) : D := .nd .tup [.str z, x]
theorem same_an (z : Str) (hz : PySem.PyData.strOk z = true) (x : D) (h : D.ok x 4 = true) : F__law_same_top [anD z x, anD z x] = .ok (.bl true) [.un, .un] := same_selfX _ (by simp [anD, hz, h])
theorem ok_e : PySem.PyData.strOk (Str.ofString "") = true := by decide +kernel
theorem ok_sheet : PySem.PyData.strOk (Str.ofString "sheet") = true := by decide +kernel
theorem ok_moment : PySem.PyData.strOk (Str.ofString "moment") = true := by decide +kernel
section
variable {P : List (List En)} {m : Int}
theorem row_or_in (s : Nat) (l : List En) (h : P[s]? = some l) (hn : l ≠ []) (hl : (lastI l).length ≤ 10000) : F__law_row_or [shelfD .bor P m, .int s] = .ok (anD "" (itsD .own (lastI l))) [.un, .un] := by
  have e := sh_row P m s l h hn hl
  unfold itsD at e ⊢
  simp [F__law_row_or, runF_eq, m__law_row_or, chk_of, chkO_of, e, anD]
theorem row_or_out (s : Int) (h : ¬ (0 ≤ s ∧ s < P.length)) : F__law_row_or [shelfD .bor P m, .int s] = .ok (anD "sheet" .non) [.un, .un] := by
  have e1 := sh_look_out P m s h
  have e : F_Shelf_row [shelfD .bor P m, .int s] = .ex ⟨"NoSheet", "", none⟩ [.un, .un] := by
    unfold shelfD at *
    simp [F_Shelf_row, runF_eq, m_Shelf_row, chk_of, chkO_of, e1, Ex.ds]
  simp [F__law_row_or, runF_eq, m__law_row_or, chk_of, chkO_of, e, anD, Ex.ds]
theorem opened_or_in (s : Nat) (l : List En) (h : P[s]? = some l) (hn : l ≠ []) : F__law_opened_or [shelfD .bor P m, .int s] = .ok (anD "" (.int (opn l))) [.un, .un] := by
  have e := sh_opened P m s l h hn
  simp [F__law_opened_or, runF_eq, m__law_opened_or, chk_of, chkO_of, e, anD]
theorem opened_or_out (s : Int) (h : ¬ (0 ≤ s ∧ s < P.length)) : F__law_opened_or [shelfD .bor P m, .int s] = .ok (anD "sheet" .non) [.un, .un] := by
  have e := sh_opened_out P m s h
  simp [F__law_opened_or, runF_eq, m__law_opened_or, chk_of, chkO_of, e, anD, Ex.ds]
theorem sh_now23 : F_Shelf_now [shelfD .bor P m] = .ok (.int m) [.un] := by
  simp [F_Shelf_now, runF_eq, m_Shelf_now, chk_of, chkO_of, shelfD]
end
/-- at which moments a sheet is there -/
def thL (PP : List (List (List Int))) (s : Int) : List Nat := (List.range PP.length).filter fun k => decide (0 ≤ s ∧ s < ((PP[k]?.getD []).length : Int))
theorem PP_get {Ps : List (List (List Int))} {k : Nat} (h : k < Ps.length + 1) : ([] :: Ps)[k]? = some ((([] :: Ps)[k]?).getD []) := by
  rw [List.getElem?_eq_getElem (by simpa using h)]; rfl
theorem there_lc (g : Fl) (Ps : List (List (List Int))) (hn : Ps.length ≤ 30) (hR : ∀ R ∈ Ps, R.length ≤ 1000) (sh : D) (s : Int) (a3 a4 a5 a6 a7 a8 : D) : (mAsg (mLcRC1 (mQ (qLen (qV 1))) [9] lg__law_now_right_1 lt__law_now_right_1 le__law_now_right_1) (gNm 3)) [sh, pastD .bor g Ps, .int s, a3, a4, a5, a6, a7, a8, .un] = .nx [sh, pastD .bor g Ps, .int s, .nd (.lst .own) ((thL ([] :: Ps) s).map fun k => D.int ((0 : Int) + (k : Nat))), a4, a5, a6, a7, a8, .un] := by
  have hr : rangeD 0 ((Ps.length + 1 : Nat) : Int) = (List.range (Ps.length + 1)).map fun k : Nat => D.int ((0 : Int) + (k : Nat)) := by
    have := rangeD_eq 0 ((Ps.length + 1 : Nat) : Int)
    simpa [Function.comp_def] using this
  have e : lcL (lcT [9] lg__law_now_right_1 lt__law_now_right_1 le__law_now_right_1) ((List.range (Ps.length + 1)).map fun k : Nat => D.int ((0 : Int) + (k : Nat))) [] [sh, pastD .bor g Ps, .int s, a3, a4, a5, a6, a7, a8, .un] = .ok ((thL ([] :: Ps) s).map fun k => D.int ((0 : Int) + (k : Nat))) [sh, pastD .bor g Ps, .int s, a3, a4, a5, a6, a7, a8, .un] := by
    rw [lcL_pure (f := fun k : Nat => D.int ((0 : Int) + (k : Nat))) (fun k => if 0 ≤ s ∧ s < (((([] :: Ps)[k]?).getD []).length : Int) then some (D.int ((0 : Int) + (k : Nat))) else none) (List.range (Ps.length + 1)) [] (by simp; omega) (fun k hk => by
      have hk := List.mem_range.mp hk
      obtain ⟨g1, _, eg⟩ := pz_get g Ps k _ (PP_get hk)
      have hx : ixN (pz g Ps).length ((0 : Int) + (k : Nat)) = some k := by rw [pz_len, ixN_int (by omega) (by omega)]; simp
      have hx' : ixN (pz g Ps).length (k : Int) = some k := by rw [pz_len, ixN_int (by omega) (by omega)]; simp
      have lR : ((([] :: Ps)[k]?).getD []).length ≤ 16777216 := by
        cases k with
        | zero => simp
        | succ k =>
          simp only [List.getElem?_cons_succ]
          cases q : Ps[k]? with
          | none => simp
          | some R => have := hR R (List.mem_of_getElem? q); simp; omega
      generalize ((([] :: Ps)[k]?).getD []) = R at *
      unfold pastD
      by_cases c0 : 0 ≤ s
      · by_cases c1 : s < (R.length : Int)
        · simp [lg__law_now_right_1, lt__law_now_right_1, le__law_now_right_1, chk_of, chkO_of, c0, c1, hx, hx', eg, lR]
        · simp [lg__law_now_right_1, lt__law_now_right_1, le__law_now_right_1, chk_of, chkO_of, c0, c1, hx, hx', eg, lR]
      · simp [lg__law_now_right_1, lt__law_now_right_1, le__law_now_right_1, chk_of, chkO_of, c0])]
    rw [List.nil_append, thL]
    congr 1
    have : (([] : List (List Int)) :: Ps).length = Ps.length + 1 := rfl
    rw [this]
    generalize List.range (Ps.length + 1) = Z
    induction Z with
    | nil => rfl
    | cons k Z ih =>
      rw [List.filterMap_cons, List.filter_cons, ih]
      by_cases c : 0 ≤ s ∧ s < (((([] :: Ps)[k]?).getD []).length : Int)
      · simp [c]
      · rw [if_neg c, decide_eq_false c]; rfl
  rw [← hr] at e
  have e2 : mLcRC1 (mQ (qLen (qV 1))) [9] lg__law_now_right_1 lt__law_now_right_1 le__law_now_right_1 [sh, pastD .bor g Ps, .int s, a3, a4, a5, a6, a7, a8, .un] = .ok (.nd (.lst .own) ((thL ([] :: Ps) s).map fun k => D.int ((0 : Int) + (k : Nat)))) [sh, pastD .bor g Ps, .int s, a3, a4, a5, a6, a7, a8, .un] :=
    lcRC1_of (z := ((Ps.length + 1 : Nat) : Int)) (by have := pz_len g Ps; simp [pastD, this, chk_of]) (by omega) (by omega) e
  simp [e2, chkO_of]
theorem thL_out {P : List (List En)} {PP : List (List (List Int))} (H : Hist0 P PP) (s : Int) (h : ¬ (0 ≤ s ∧ s < P.length)) : thL PP s = [] := by
  unfold thL
  rw [List.filter_eq_nil_iff]
  intro k hk c
  have hk := List.mem_range.mp hk
  simp only [decide_eq_true_eq] at c
  rw [List.getElem?_eq_getElem hk] at c
  have := H.le _ (List.getElem_mem hk)
  simp at c
  omega
theorem thL_in {P : List (List En)} {PP : List (List (List Int))} (H : Hist0 P PP) (s : Nat) (l : List En) (h : P[s]? = some l) (h0 : 0 ≤ opn l) : (thL PP s).head? = some (opn l).toNat := by
  unfold thL
  rw [List.head?_filter]
  obtain ⟨e, he, ho⟩ := opn_mem (H.ne l (List.mem_of_getElem? h))
  have hc := H.came l (List.mem_of_getElem? h) e he
  have key : ∀ k, k < PP.length → (decide (0 ≤ (s : Int) ∧ (s : Int) < ((PP[k]?.getD []).length : Int)) = true ↔ opn l ≤ k) := fun k hk => by
    rw [H.opn k PP[k] (List.getElem?_eq_getElem hk) s l h, List.getElem?_eq_getElem hk]
    simp
  rw [List.find?_range_eq_some]
  refine ⟨(key _ (by omega)).mpr (by omega), by simp; omega, fun j hj => ?_⟩
  have : ¬ decide (0 ≤ (s : Int) ∧ (s : Int) < ((PP[j]?.getD []).length : Int)) = true := fun c => by
    have := (key j (by omega)).mp c
    omega
  simpa using this
structure Now23 (P : List (List En)) (m : Int) (Ps : List (List (List Int))) : Prop where
  I : Inv23 P m Ps
  hn : Ps.length ≤ 20
  ge : ∀ l ∈ P, 0 ≤ opn l
  lR : ∀ R ∈ Ps, R.length ≤ 100
theorem Now23.last (N : Now23 P m Ps) (s : Nat) (l : List En) (h : P[s]? = some l) : ∃ es, (lastP Ps)[s]? = some es ∧ es.length ≤ 4 ∧ lastI l = itemsF es ∧ l ≠ [] := by
  have lP := cur_len N.I.cur
  have hs := (List.getElem?_eq_some_iff.mp h).1
  have q := List.getElem?_eq_getElem (l := lastP Ps) (i := s) (by omega)
  refine ⟨_, q, lastP_sh N.I.sh _ (List.mem_of_getElem? q), ?_, N.I.h.ne l (List.mem_of_getElem? h)⟩
  have h1 : (curF P)[s]? = some (lastI l) := by simp [curF, h]
  rw [N.I.cur, List.getElem?_map, q] at h1
  simpa using h1.symm
theorem now_turn (N : Now23 P m Ps) (g : Fl) (hg : g = .bor ∨ g = .fz) (s : Int) (a2 a3 a4 a5 a6 : D) : ∃ b3 b4 b5 b6 : D, (tgR (lg__law_now_right_2 (.int s) [shelfD .bor P m, pastD .bor g Ps, a2, a3, a4, a5, a6, .un, .un, .un]) lb__law_now_right_2).tn = .nx [shelfD .bor P m, pastD .bor g Ps, .int s, b3, b4, b5, b6, .un, .un, .un] := by
  have hth := there_lc g Ps (by have := N.hn; omega) (fun R hR => by have := N.lR R hR; omega) (shelfD .bor P m) s a3 a4 a5 a6 .un .un
  have lP := cur_len N.I.cur
  have lb : lb__law_now_right_2 = (mSeq (mAsg (mLcRC1 (mQ (qLen (qV 1))) [9] lg__law_now_right_1 lt__law_now_right_1 le__law_now_right_1) (gNm 3)) (mSeq (mAsg (mTup (mCons (mQ (qC (.str "sheet"))) (mCons (mQ (qC .non)) mNil))) (gNm 4)) (mSeq (mAsg (mTup (mCons (mQ (qC (.str "sheet"))) (mCons (mQ (qC .non)) mNil))) (gNm 5)) (mSeq (mIf (mTQ (qOp gGt (qLen (qV 3)) (qC (.int 0)))) (mSeq (mAsg (mTup (mCons (mQ (qC (.str ""))) (mCons (mCall [.bo] F__law_items_of (aPth (qIx (qIx (qV 1) (qNeg (qC (.int 1)))) (qV 2)) aNil)) mNil))) (gNm 4)) (mSeq (mAsg (mTup (mCons (mQ (qC (.str ""))) (mCons (mQ (qIx (qV 3) (qC (.int 0)))) mNil))) (gNm 5)) mSkip)) mSkip) (mSeq (mAsg (mCall [.bo, .bo] F__law_row_or (aPth (qV 0) (aPth (qV 2) aNil))) (gNm 6)) (mSeq (mIf (mOrT (mNotT (mTE (mCall [.bo, .bo] F__law_same_top (aPth (qV 6) (aPth (qV 4) aNil))))) (mNotT (mTE (mCall [.bo, .bo] F__law_same_top (aVal (mCall [.bo, .bo] F__law_opened_or (aPth (qV 0) (aPth (qV 2) aNil))) (aPth (qV 5) aNil)))))) (mSeq (mRet (mQ (qC (.bl false)))) mSkip) mSkip) (mSeq (mIf (mTQ (qIsN true (qIx (qV 6) (qC (.int 1))))) (mSeq (mExpr (mAppend (qIx (qV 6) (qC (.int 1))) (mTup (mCons (mQ (qC (.str "win"))) (mCons (mQ (qC (.int 0))) mNil))))) mSkip) mSkip) mSkip))))))) := rfl
  have tg : ∀ st, (tgR (lg__law_now_right_2 (.int s) [shelfD .bor P m, pastD .bor g Ps, a2, a3, a4, a5, a6, .un, .un, .un]) lb__law_now_right_2).tn = st ↔ (lb__law_now_right_2 [shelfD .bor P m, pastD .bor g Ps, .int s, a3, a4, a5, a6, .un, .un, .un]).tn = st := fun st => by
    simp [lg__law_now_right_2, chkO_of]
  by_cases c : 0 ≤ s ∧ s < P.length
  · obtain ⟨j, rfl⟩ : ∃ j : Nat, s = j := ⟨s.toNat, by omega⟩
    have hj : j < P.length := by omega
    have q := List.getElem?_eq_getElem hj
    obtain ⟨es, qe, el, hI, hne⟩ := N.last j _ q
    have h0 := N.ge _ (List.getElem_mem hj)
    have h1 := thL_in N.I.h j _ q h0
    obtain ⟨T, hT⟩ : ∃ T, T = thL ([] :: Ps) (j : Int) := ⟨_, rfl⟩
    rw [← hT] at h1 hth
    cases T with
    | nil => simp at h1
    | cons k T =>
      simp at h1
      have hk : (0 : Int) + (k : Nat) = opn P[j] := by omega
      rw [List.map_cons, hk] at hth
      have e1 := row_or_in (m := m) j _ q hne (by have := itemsF_len4 el; rw [hI]; omega)
      have e2 := opened_or_in (m := m) j _ q hne
      rw [hI] at e1
      have e3 := items_of_eq .fz es (by omega)
      have il := itemsF_len4 el
      have s1 := same_an "" ok_e (itsD .bor (itemsF es)) (ok_its .bor _ 2)
      have s2 := same_an "" ok_e (.int (opn P[j])) (by simp)
      obtain ⟨g1, hg1, eg⟩ := pz_last g Ps
      have ix := ix_last g Ps
      have hl : T.length ≤ 1000 := by
        have : (thL ([] :: Ps) (j : Int)).length ≤ Ps.length + 1 := by
          unfold thL
          have := List.length_filter_le (fun k => decide (0 ≤ (j : Int) ∧ (j : Int) < (((([] :: Ps)[k]?).getD []).length : Int))) (List.range ([] :: Ps).length)
          simpa using this
        rw [← hT] at this
        simp at this
        have := N.hn
        omega
      have kT : T.length + 1 ≤ 16777216 := by omega
      have kT0 : (0 : Int) < (T.length : Int) + 1 := by omega
      have x0 : ixN (T.length + 1) 0 = some 0 := by simp [ixN]
      have hlt : j < (lastP Ps).length := (List.getElem?_eq_some_iff.mp qe).1
      have xj : ixN ((lastP Ps).map (esD .fz)).length (j : Int) = some j := by rw [List.length_map, ixN_int (by omega) (by omega)]; simp
      have hset : ((lastP Ps).map (esD .fz)).set j (esD .fz es) = (lastP Ps).map (esD .fz) := list_set_same (by simp [qe])
      have k1 : (itemsF es).length < 16777216 := by omega
      have hsv : (lastP Ps)[j] = es := (List.getElem?_eq_some_iff.mp qe).2
      have hset2 : (pz g Ps).set Ps.length (.nd (.lst g1) ((lastP Ps).map (esD .fz))) = pz g Ps := list_set_same eg
      refine ⟨.nd (.lst .own) (.int (opn P[j]) :: T.map fun k => D.int ((0 : Int) + (k : Nat))), anD "" (itsD .own (itemsF es)), anD "" (.int (opn P[j])), anD "" (itsD .own (itemsF es ++ [.win 0])), (tg _).mpr ?_⟩
      rw [lb, sq hth]
      generalize opn P[j] = O at *
      unfold anD itsD pastD at *
      have kg : (Kd.lst g1).fl = some g1 := rfl
      have hq : ((lastP Ps).map (esD .fz))[j]? = some (esD .fz es) := by simp [qe]
      have hw : itD (.win 0) = .nd .tup [.str "win", .int 0] := rfl
      generalize (lastP Ps).map (esD .fz) = LL at *
      rcases hg with rfl | rfl <;> rcases hg1 with rfl | rfl <;> simp [chk_of, chkO_of, e1, e2, e3, s1, s2, ix, eg, kT, kT0, x0, hset, hset2, hq, k1, xj, hw]
  · have h1 := thL_out N.I.h s c
    rw [h1] at hth
    have e1 := row_or_out (m := m) s c
    have e2 := opened_or_out (m := m) s c
    have s1 := same_an "sheet" ok_sheet .non (by simp)
    refine ⟨.nd (.lst .own) [], anD "sheet" .non, anD "sheet" .non, anD "sheet" .non, (tg _).mpr ?_⟩
    rw [lb, sq hth]
    unfold anD at *
    simp [chk_of, chkO_of, e1, e2, s1]
def rowsI (f : Fl) (Is : List (List It)) : D := .nd (.lst f) (Is.map (itsD f))
theorem ok_rowsI (f : Fl) (Is : List (List It)) (n : Nat) : D.ok (rowsI f Is) (n + 3) = true := by
  rw [rowsI, ok_lst, okL_all, List.all_eq_true]
  intro y hy
  obtain ⟨i, _, rfl⟩ := List.mem_map.mp hy
  exact ok_its f i n
theorem nr0 (N : Now23 P m Ps) (g : Fl) (hg : g = .bor ∨ g = .fz) : ∃ b2 b3 b4 b5 b6 : D, (mForR (mQ (qNeg (qC (.int 1)))) (mQ (qOp gAdd (qLen (qIx (qV 1) (qNeg (qC (.int 1))))) (qC (.int 1)))) lg__law_now_right_2 lb__law_now_right_2) [shelfD .bor P m, pastD .bor g Ps, .un, .un, .un, .un, .un, .un, .un, .un] = .nx [shelfD .bor P m, pastD .bor g Ps, b2, b3, b4, b5, b6, .un, .un, .un] := by
  obtain ⟨st', e, b2, b3, b4, b5, b6, rfl⟩ := forL_inv (g := lg__law_now_right_2) (b := lb__law_now_right_2) (f := D.int) (fun pre post st => ∃ a2 a3 a4 a5 a6 : D, st = [shelfD .bor P m, pastD .bor g Ps, a2, a3, a4, a5, a6, .un, .un, .un])
    (fun pre x post st ⟨a2, a3, a4, a5, a6, e⟩ => by
      subst e
      obtain ⟨b3, b4, b5, b6, h⟩ := now_turn N g hg x a2 a3 a4 a5 a6
      exact ⟨_, h, .int x, b3, b4, b5, b6, rfl⟩)
    [] ((List.range (((lastP Ps).length : Int) + 1 - -1).toNat).map fun i => (-1 : Int) + (i : Nat)) [shelfD .bor P m, pastD .bor g Ps, .un, .un, .un, .un, .un, .un, .un, .un] ⟨.un, .un, .un, .un, .un, rfl⟩
  refine ⟨b2, b3, b4, b5, b6, ?_⟩
  have hr := rangeD_eq (-1) (((lastP Ps).length : Int) + 1)
  rw [← hr] at e
  obtain ⟨g1, hg1, eg⟩ := pz_last g Ps
  have ix := ix_last g Ps
  have hl := N.I.len
  have hn := N.hn
  have k1 : (lastP Ps).length ≤ 16777216 := by omega
  obtain ⟨z, hz⟩ : ∃ z : Int, z = ((lastP Ps).length : Int) + 1 := ⟨_, rfl⟩
  have hz1 : ((lastP Ps).length : Int) + 1 = z := hz.symm
  have h6 : -4611686018427387904 ≤ z ∧ z < 4611686018427387904 := by omega
  rw [hz1] at e
  unfold pastD at *
  simp [chk_of, chkO_of, chkS_of, ix, eg, k1, hz1, h6, e]
theorem nr1 (N : Now23 P m Ps) (g : Fl) (hg : g = .bor ∨ g = .fz) (b2 b3 b4 b5 b6 : D) : (mAsg (mLcL (mQ (qIx (qV 1) (qNeg (qC (.int 1))))) [8] lg__law_now_right_3 lt__law_now_right_3 le__law_now_right_3) (gNm 7)) [shelfD .bor P m, pastD .bor g Ps, b2, b3, b4, b5, b6, .un, .un, .un] = .nx [shelfD .bor P m, pastD .bor g Ps, b2, b3, b4, b5, b6, rowsI .own ((lastP Ps).map itemsF), .un, .un] := by
  have hl := N.I.len
  have hn := N.hn
  have e : lcL (lcT [8] lg__law_now_right_3 lt__law_now_right_3 le__law_now_right_3) ((lastP Ps).map (esD .fz)) [] [shelfD .bor P m, pastD .bor g Ps, b2, b3, b4, b5, b6, .un, .un, .un] = .ok (((lastP Ps).map itemsF).map (itsD .own)) [shelfD .bor P m, pastD .bor g Ps, b2, b3, b4, b5, b6, .un, .un, .un] := by
    rw [lcL_pure (f := esD .fz) (fun es => some (itsD .own (itemsF es))) (lastP Ps) [] (by simp; omega) (fun es he => by
      have := lastP_sh N.I.sh es he
      have e3 := items_of_eq .fz es (by omega)
      simp [lg__law_now_right_3, lt__law_now_right_3, le__law_now_right_3, chk_of, chkO_of, e3])]
    simp [Function.comp_def]
  obtain ⟨g1, hg1, eg⟩ := pz_last g Ps
  have ix := ix_last g Ps
  have hset2 : (pz g Ps).set Ps.length (.nd (.lst g1) ((lastP Ps).map (esD .fz))) = pz g Ps := list_set_same eg
  have sz := setL_esZ .fz (lastP Ps)
  unfold pastD rowsI at *
  generalize (lastP Ps).map (esD .fz) = LL at *
  generalize ((lastP Ps).map itemsF).map (itsD .own) = MM at *
  rcases hg with rfl | rfl <;> rcases hg1 with rfl | rfl <;> simp [chk_of, chkO_of, ix, eg, hset2, e, sz]
theorem past_ok23 (N : Now23 P m Ps) : PastOk P := by
  have lP := cur_len N.I.cur
  have hl := N.I.len
  have hn := N.hn
  refine ⟨by omega, fun l hx => ?_⟩
  obtain ⟨s, hs⟩ := List.mem_iff_getElem?.mp hx
  obtain ⟨es, qe, el, hI, hne⟩ := N.last s l hs
  have := N.I.bd l hx
  have := itemsF_len4 el
  exact ⟨hne, by omega, by rw [hI]; omega⟩
theorem nr2 (N : Now23 P m Ps) (pa b2 b3 b4 b5 b6 b7 : D) : (mAsg (mMethS "Shelf" ["past", "moment"] [.bo] F_Shelf_rows (qV 0) aNil) (gNm 6)) [shelfD .bor P m, pa, b2, b3, b4, b5, b6, b7, .un, .un] = .nx [shelfD .bor P m, pa, b2, b3, b4, b5, rowsI .own ((lastP Ps).map itemsF), b7, .un, .un] := by
  have e := sh_rows P m (past_ok23 N)
  rw [N.I.cur] at e
  unfold rowsI
  generalize (lastP Ps).map itemsF = Z at *
  simp [chk_of, chkO_of, e]
theorem set_rowsI (g : Fl) (Is : List (List It)) : D.set g (rowsI .own Is) = rowsI g Is := by simp [rowsI]
theorem nb_rowsI (Is : List (List It)) : D.noBor (rowsI .own Is) = true := by simp [rowsI]
theorem nr3 (N : Now23 P m Ps) (pa b2 b3 b4 b5 : D) : (mIf (mOrT (mNotT (mTE (mCall [.bo, .bo] F__law_same_top (aPth (qV 6) (aPth (qV 7) aNil))))) (mNotT (mTE (mCall [.bo, .bo] F__law_same_top (aVal (mMethS "Shelf" ["past", "moment"] [.bo] F_Shelf_many (qV 0) aNil) (aVal (mQ (qLen (qV 7))) aNil)))))) (mSeq (mRet (mQ (qC (.bl false)))) mSkip) mSkip) [shelfD .bor P m, pa, b2, b3, b4, b5, rowsI .own ((lastP Ps).map itemsF), rowsI .own ((lastP Ps).map itemsF), .un, .un] = .nx [shelfD .bor P m, pa, b2, b3, b4, b5, rowsI .own ((lastP Ps).map itemsF), rowsI .own ((lastP Ps).map itemsF), .un, .un] := by
  have s1 := same_selfX (rowsI .bor ((lastP Ps).map itemsF)) (ok_rowsI _ _ 2)
  have s2 := same_selfX (.int ((lastP Ps).length : Int)) (by simp)
  have lP := cur_len N.I.cur
  have e := sh_many P m
  rw [lP] at e
  have hl := N.I.len
  have hn := N.hn
  have k1 : (lastP Ps).length ≤ 16777216 := by omega
  have a1 := set_rowsI .bor ((lastP Ps).map itemsF)
  have a2 := nb_rowsI ((lastP Ps).map itemsF)
  have hlen : (lastP Ps).length = ((lastP Ps).map itemsF).length := by simp
  rw [hlen] at s2 e k1
  generalize (lastP Ps).map itemsF = Z at *
  unfold rowsI at *
  simp at a1 a2
  simp [chk_of, chkO_of, s1, s2, e, k1]
theorem nr_turn (a0 a1 a2 a3 a4 a5 a7 : D) (xs : List D) (j : Nat) (is : List It) (hx : xs[j]? = some (itsD .own is)) (hc : is.length ≤ 4) : lb__law_now_right_4 6 [j] [a0, a1, a2, a3, a4, a5, .nd (.lst .own) xs, a7, .un, .un] = .nx [a0, a1, a2, a3, a4, a5, .nd (.lst .own) (xs.set j (itsD .own (is ++ [.win 0]))), a7, .un, .un] := by
  have k : is.length < 16777216 := by omega
  have hj : j < xs.length := (List.getElem?_eq_some_iff.mp hx).1
  have hv : xs[j] = .nd (.lst .own) (is.map itD) := (List.getElem?_eq_some_iff.mp hx).2
  simp [lb__law_now_right_4, mBlk, bHdAt, bOut, getS, getP, hv, hj, bVis, bEnd, bOk, bTree, spS, spOk, bBack, bMrg, setS, setP, Kd.fl, chk_of, chkO_of, itsD, k, itD]
theorem nr_for (n : Nat) (a0 a1 a2 a3 a4 a5 a7 : D) : ∀ (c j : Nat) (xs : List D), xs.length = n → j + c = n → (∀ (i : Nat) (d : D), j ≤ i → xs[i]? = some d → ∃ is : List It, d = itsD .own is ∧ is.length ≤ 4) → ∃ (xs' : List D), forA true 6 n [] (gaNm 8) lb__law_now_right_4 c j [a0, a1, a2, a3, a4, a5, .nd (.lst .own) xs, a7, .un, .un] = .nx [a0, a1, a2, a3, a4, a5, .nd (.lst .own) xs', a7, .un, .un] ∧ xs'.length = n
  | 0, j, xs, hl, _, _ => ⟨xs, by simp [forA, okA, seqN, hl], hl⟩
  | c + 1, j, xs, hl, hj, h => by
    obtain ⟨d, hd⟩ : ∃ d, xs[j]? = some d := ⟨xs[j], by simp⟩
    obtain ⟨k, rfl, hk⟩ := h j d (Nat.le_refl _) hd
    have e := nr_turn a0 a1 a2 a3 a4 a5 a7 xs j k hd hk
    obtain ⟨xs', e2, e3⟩ := nr_for n a0 a1 a2 a3 a4 a5 a7 c (j + 1) (xs.set j (itsD .own (k ++ [.win 0]))) (by simpa using hl) (by omega) (fun i y hi hy => by
      rw [List.getElem?_set_ne (by omega)] at hy
      exact h i y (by omega) hy)
    refine ⟨xs', ?_, e3⟩
    have o : okA true 6 n [a0, a1, a2, a3, a4, a5, .nd (.lst .own) xs, a7, .un, .un] = true := by simp [okA, seqN, hl]
    have g : getS [a0, a1, a2, a3, a4, a5, .nd (.lst .own) xs, a7, .un, .un] 6 [j] = some (itsD .own k) := by simp [getS, getP, hd]
    have g2 : gaNm 8 (itsD .own k) 6 [a0, a1, a2, a3, a4, a5, .nd (.lst .own) xs, a7, .un, .un] = some [a0, a1, a2, a3, a4, a5, .nd (.lst .own) xs, a7, .un, .un] := by simp [gaNm]
    unfold forA
    rw [if_pos o, g]
    simp only [g2]
    rw [e]
    exact e2
theorem nr4 (a0 a1 a2 a3 a4 a5 a7 : D) (Is : List (List It)) (hs : ∀ is ∈ Is, is.length ≤ 4) : ∃ (xs' : List D), (mForA true [.hd, .hd, .hd, .hd, .hd, .hd, .hd, .hd, .al, .hd] (qV 6) [] (gaNm 8) lb__law_now_right_4) [a0, a1, a2, a3, a4, a5, rowsI .own Is, a7, .un, .un] = .nx [a0, a1, a2, a3, a4, a5, .nd (.lst .own) xs', a7, .un, .un] ∧ xs'.length = Is.length := by
  obtain ⟨xs', e, hl⟩ := nr_for Is.length a0 a1 a2 a3 a4 a5 a7 Is.length 0 (Is.map (itsD .own)) (by simp) (by omega) (fun i d _ hd => by
    obtain ⟨c, hc, rfl⟩ := List.mem_map.mp (List.mem_of_getElem? hd)
    exact ⟨c, rfl, hs c hc⟩)
  refine ⟨xs', ?_, hl⟩
  have q : qV 6 [a0, a1, a2, a3, a4, a5, rowsI .own Is, a7, .un, .un] = some (.pth 6 []) := rfl
  unfold mForA
  rw [q]
  simp only
  rw [if_pos (show bHdAt [.hd, .hd, .hd, .hd, .hd, .hd, .hd, .hd, .al, .hd] 6 = true from rfl)]
  have b : (([a0, a1, a2, a3, a4, a5, rowsI .own Is, a7, .un, .un] : List D)[6]?).bind (seqN true) = some Is.length := by simp [rowsI, seqN]
  rw [b]
  exact e
theorem nr5 (a0 a1 a2 a3 a4 a5 a7 : D) (xs : List D) (h : xs.length ≤ 10000) : (mExpr (mAppend (qV 6) (mLst mNil))) [a0, a1, a2, a3, a4, a5, .nd (.lst .own) xs, a7, .un, .un] = .nx [a0, a1, a2, a3, a4, a5, .nd (.lst .own) (xs ++ [.nd (.lst .own) []]), a7, .un, .un] := by
  have k : xs.length < 16777216 := by omega
  simp [chk_of, chkO_of, k]
theorem nr6 (N : Now23 P m Ps) (pa b2 b3 b4 b5 b6 : D) : (mIf (mNotT (mTE (mCall [.bo, .bo] F__law_same_top (aVal (mMethS "Shelf" ["past", "moment"] [.bo] F_Shelf_rows (qV 0) aNil) (aPth (qV 7) aNil))))) (mSeq (mRet (mQ (qC (.bl false)))) mSkip) mSkip) [shelfD .bor P m, pa, b2, b3, b4, b5, b6, rowsI .own ((lastP Ps).map itemsF), .un, .un] = .nx [shelfD .bor P m, pa, b2, b3, b4, b5, b6, rowsI .own ((lastP Ps).map itemsF), .un, .un] := by
  have s1 := same_selfX (rowsI .bor ((lastP Ps).map itemsF)) (ok_rowsI _ _ 2)
  have e := sh_rows P m (past_ok23 N)
  rw [N.I.cur] at e
  generalize (lastP Ps).map itemsF = Z at *
  unfold rowsI at *
  simp [chk_of, chkO_of, s1, e]
theorem now_right_ok (N : Now23 P m Ps) (g : Fl) (hg : g = .bor ∨ g = .fz) : F__law_now_right [shelfD .bor P m, pastD .bor g Ps] = .ok (.bl true) [.un, .un] := by
  obtain ⟨b2, b3, b4, b5, b6, e0⟩ := nr0 N g hg
  have e1 := nr1 N g hg b2 b3 b4 b5 b6
  have e2 := nr2 N (pastD .bor g Ps) b2 b3 b4 b5 b6 (rowsI .own ((lastP Ps).map itemsF))
  have e3 := nr3 N (pastD .bor g Ps) b2 b3 b4 b5
  have hl := N.I.len
  have hn := N.hn
  obtain ⟨xs', e4, lx⟩ := nr4 (shelfD .bor P m) (pastD .bor g Ps) b2 b3 b4 b5 (rowsI .own ((lastP Ps).map itemsF)) ((lastP Ps).map itemsF) (fun is hi => by
    obtain ⟨es, he, rfl⟩ := List.mem_map.mp hi
    exact itemsF_len4 (lastP_sh N.I.sh es he))
  rw [List.length_map] at lx
  have e5 := nr5 (shelfD .bor P m) (pastD .bor g Ps) b2 b3 b4 b5 (rowsI .own ((lastP Ps).map itemsF)) xs' (by omega)
  have e6 := nr6 N (pastD .bor g Ps) b2 b3 b4 b5 (.nd (.lst .own) (xs' ++ [.nd (.lst .own) []]))
  rw [F__law_now_right, runF_eq]
  show (((mSeq (mForR (mQ (qNeg (qC (.int 1)))) (mQ (qOp gAdd (qLen (qIx (qV 1) (qNeg (qC (.int 1))))) (qC (.int 1)))) lg__law_now_right_2 lb__law_now_right_2) (mSeq (mAsg (mLcL (mQ (qIx (qV 1) (qNeg (qC (.int 1))))) [8] lg__law_now_right_3 lt__law_now_right_3 le__law_now_right_3) (gNm 7)) (mSeq (mAsg (mMethS "Shelf" ["past", "moment"] [.bo] F_Shelf_rows (qV 0) aNil) (gNm 6)) (mSeq (mIf (mOrT (mNotT (mTE (mCall [.bo, .bo] F__law_same_top (aPth (qV 6) (aPth (qV 7) aNil))))) (mNotT (mTE (mCall [.bo, .bo] F__law_same_top (aVal (mMethS "Shelf" ["past", "moment"] [.bo] F_Shelf_many (qV 0) aNil) (aVal (mQ (qLen (qV 7))) aNil)))))) (mSeq (mRet (mQ (qC (.bl false)))) mSkip) mSkip) (mSeq (mForA true [.hd, .hd, .hd, .hd, .hd, .hd, .hd, .hd, .al, .hd] (qV 6) [] (gaNm 8) lb__law_now_right_4) (mSeq (mExpr (mAppend (qV 6) (mLst mNil))) (mSeq (mIf (mNotT (mTE (mCall [.bo, .bo] F__law_same_top (aVal (mMethS "Shelf" ["past", "moment"] [.bo] F_Shelf_rows (qV 0) aNil) (aPth (qV 7) aNil))))) (mSeq (mRet (mQ (qC (.bl false)))) mSkip) mSkip) (mSeq (mRet (mCall [.bo, .bo] F__law_same_top (aVal (mMethS "Shelf" ["past", "moment"] [.bo] F_Shelf_now (qV 0) aNil) (aVal (mQ (qOp gSub (qLen (qV 1)) (qC (.int 1)))) aNil)))) mSkip)))))))) : MS) [shelfD .bor P m, pastD .bor g Ps, .un, .un, .un, .un, .un, .un, .un, .un]).fr _ = _
  rw [sq e0, sq e1, sq e2, sq e3, sq e4, sq e5, sq e6]
  have s1 := same_selfX (.int m) (by simp)
  have k1 : Ps.length + 1 ≤ 16777216 := by omega
  have em : ((Ps.length : Int) + 1 - 1) = m := by rw [N.I.m]; omega
  have en := sh_now23 (P := P) (m := m)
  have lz := pz_len g Ps
  unfold pastD
  simp [chk_of, chkO_of, en, lz, k1, em, s1]
def dueD (f : Fl) (z : Str) : Option (List It) → D
  | none => anD z .non
  | some is => anD z (itsD f is)
theorem due_ok (N : Now23 P m Ps) (g : Fl) (hg : g = .bor ∨ g = .fz) (s k : Int) : ∃ (z : Str) (o : Option (List It)), PySem.PyData.strOk z = true ∧ (∀ is, o = some is → is.length ≤ 4) ∧ F__law_row_then_or [shelfD .bor P m, .int s, .int k] = .ok (dueD .own z o) [.un, .un, .un] ∧ F__law_due [pastD .bor g Ps, .int s, .int k] = .ok (dueD .own z o) [.un, .un, .un] := by
  have lP := cur_len N.I.cur
  have hl := N.I.len
  have hn := N.hn
  obtain ⟨g1, hg1, eg⟩ := pz_last g Ps
  have ix := ix_last g Ps
  have k1 : (lastP Ps).length ≤ 16777216 := by omega
  have k2 : (pz g Ps).length ≤ 16777216 := by rw [pz_len]; omega
  have lz := pz_len g Ps
  have exS : ∀ {c : Str}, F_Shelf_look_then [shelfD .bor P m, .int s, .int k] = .ex ⟨c, "", none⟩ [.un, .un, .un] → F_Shelf_row_then [shelfD .bor P m, .int s, .int k] = .ex ⟨c, "", none⟩ [.un, .un, .un] := fun h => sh_row_then_ex h
  by_cases c : 0 ≤ s ∧ s < P.length
  · obtain ⟨j, rfl⟩ : ∃ j : Nat, s = j := ⟨s.toNat, by omega⟩
    have hj : j < P.length := by omega
    have q := List.getElem?_eq_getElem hj
    have hne := N.I.h.ne _ (List.getElem_mem hj)
    have c0 : ¬ (j : Int) < 0 := by omega
    have c1 : ¬ ((lastP Ps).length : Int) ≤ (j : Int) := by omega
    by_cases d : 0 ≤ k ∧ k ≤ m
    · obtain ⟨i, rfl⟩ : ∃ i : Nat, k = i := ⟨k.toNat, by omega⟩
      have hm := N.I.m
      have hi : i < Ps.length + 1 := by omega
      have qk := PP_get hi
      obtain ⟨g2, hg2, eg2⟩ := pz_get g Ps i _ qk
      have lR : ((([] :: Ps)[i]?).getD []).length ≤ 16777216 := by
        cases i with
        | zero => simp
        | succ i =>
          simp only [List.getElem?_cons_succ]
          cases q : Ps[i]? with
          | none => simp
          | some R => have := N.lR R (List.mem_of_getElem? q); simp; omega
      have shR : ∀ es ∈ ((([] :: Ps)[i]?).getD []), es.length ≤ 4 := fun es he => by
        cases i with
        | zero => simp at he
        | succ i =>
          simp only [List.getElem?_cons_succ] at he
          cases q : Ps[i]? with
          | none => rw [q] at he; simp at he
          | some R => rw [q] at he; exact N.I.sh R (List.mem_of_getElem? q) es (by simpa using he)
      have op := N.I.h.opn i _ qk j _ q
      have rw_ := N.I.h.row i _ qk j P[j]
      generalize ((([] :: Ps)[i]?).getD []) = R at *
      have hx : ixN (pz g Ps).length (i : Int) = some i := by rw [lz, ixN_int (by omega) (by omega)]; simp
      have d0 : ¬ (i : Int) < 0 := by omega
      have d1 : ¬ ((pz g Ps).length : Int) ≤ (i : Int) := by rw [lz]; omega
      by_cases o : opn P[j] ≤ i
      · have hjR := op.mp o
        have qe := List.getElem?_eq_getElem hjR
        have hr := rw_ _ q qe
        have el := shR _ (List.getElem_mem hjR)
        have il := itemsF_len4 el
        have e1 := sh_row_then P m i j _ q hne d o (by rw [hr]; omega)
        rw [hr] at e1
        have e3 := items_of_eq .fz R[j] (by omega)
        have c2 : ¬ (R.length : Int) ≤ (j : Int) := by omega
        have xj : ixN (R.map (esD .fz)).length (j : Int) = some j := by rw [List.length_map, ixN_int (by omega) (by omega)]; simp
        have hq : (R.map (esD .fz))[j]? = some (esD .fz R[j]) := by simp [qe]
        have hset : (R.map (esD .fz)).set j (esD .fz R[j]) = R.map (esD .fz) := list_set_same hq
        have hset2 : (pz g Ps).set i (.nd (.lst g2) (R.map (esD .fz))) = pz g Ps := list_set_same eg2
        refine ⟨"", some (itemsF R[j]), ok_e, fun is h => by cases h; exact il, ?_, ?_⟩
        · unfold dueD anD itsD at *
          simp [F__law_row_then_or, runF_eq, m__law_row_then_or, chk_of, chkO_of, e1]
        · have lLL : (R.map (esD .fz)).length = R.length := by simp
          generalize R[j] = es at *
          generalize R.length = rn at *
          generalize R.map (esD .fz) = LL at *
          have xj2 : ixN rn (j : Int) = some j := by rw [← lLL]; exact xj
          unfold dueD anD itsD pastD at *
          rcases hg with rfl | rfl <;> rcases hg2 with rfl | rfl <;> simp [F__law_due, runF_eq, m__law_due, chk_of, chkO_of, ix, eg, k1, c0, c1, d0, d1, k2, hx, eg2, lLL, lR, c2, e3, xj2, hq, hset, hset2]
      · have hjR : R.length ≤ j := by
          rcases Nat.lt_or_ge j R.length with h | h
          · exact absurd (op.mpr h) o
          · exact h
        have e1 := exS (sh_lt_out3 P m i j _ q hne d (by omega))
        have c2 : (R.length : Int) ≤ (j : Int) := by omega
        refine ⟨"sheet", none, ok_sheet, (fun is h => by cases h), ?_, ?_⟩
        · unfold dueD anD at *
          simp [F__law_row_then_or, runF_eq, m__law_row_then_or, chk_of, chkO_of, e1, Ex.ds]
        · unfold dueD anD pastD at *
          simp [F__law_due, runF_eq, m__law_due, chk_of, chkO_of, ix, eg, k1, c0, c1, d0, d1, k2, hx, eg2, lR, c2]
    · have hm := N.I.m
      have e1 := exS (sh_lt_out2 P m j k c d)
      refine ⟨"moment", none, ok_moment, (fun is h => by cases h), ?_, ?_⟩
      · unfold dueD anD at *
        simp [F__law_row_then_or, runF_eq, m__law_row_then_or, chk_of, chkO_of, e1, Ex.ds]
      · unfold dueD anD pastD at *
        by_cases d0 : k < 0
        · simp [F__law_due, runF_eq, m__law_due, chk_of, chkO_of, ix, eg, k1, c0, c1, d0]
        · have d1 : ((pz g Ps).length : Int) ≤ k := by rw [lz]; omega
          simp [F__law_due, runF_eq, m__law_due, chk_of, chkO_of, ix, eg, k1, c0, c1, d0, d1, k2]
  · have e1 := exS (sh_lt_out1 P m s k c)
    refine ⟨"sheet", none, ok_sheet, (fun is h => by cases h), ?_, ?_⟩
    · unfold dueD anD at *
      simp [F__law_row_then_or, runF_eq, m__law_row_then_or, chk_of, chkO_of, e1, Ex.ds]
    · unfold dueD anD pastD at *
      by_cases c0 : s < 0
      · simp [F__law_due, runF_eq, m__law_due, chk_of, chkO_of, ix, eg, k1, c0]
      · have c1 : ((lastP Ps).length : Int) ≤ s := by omega
        simp [F__law_due, runF_eq, m__law_due, chk_of, chkO_of, ix, eg, k1, c0, c1]
theorem mr_turn (N : Now23 P m Ps) (g : Fl) (hg : g = .bor ∨ g = .fz) (s k : Int) (a3 a4 a5 : D) : ∃ b4 : D, (tgR (lg__law_moments_right_1 (.int s) [shelfD .bor P m, pastD .bor g Ps, .int k, a3, a4, a5, .un]) lb__law_moments_right_1).tn = .nx [shelfD .bor P m, pastD .bor g Ps, .int k, .int s, b4, a5, .un] := by
  obtain ⟨z, o, hz, ho, e1, e2⟩ := due_ok N g hg s k
  have pl : ∀ r p, plD0 r p (pastD .bor g Ps) = some (.pth r p) := fun r p => rfl
  have sp : D.set .bor (pastD .bor g Ps) = pastD .bor g Ps := by
    have : ∀ Ps : List (List (List Int)), D.setL .bor (Ps.map rowsZ) = Ps.map rowsZ := fun Ps => by induction Ps with | nil => simp | cons a r ih => simp [ih]
    rcases hg with rfl | rfl <;> simp [pastD, pz, this]
  cases o with
  | none =>
    have s1 := same_an z hz .non (by simp)
    refine ⟨anD z .non, ?_⟩
    unfold dueD anD at *
    simp [lg__law_moments_right_1, lb__law_moments_right_1, chk_of, chkO_of, e1, e2, s1, pl, sp]
  | some is =>
    have s1 := same_an z hz (itsD .bor is) (ok_its .bor _ 2)
    have k1 : is.length < 16777216 := by have := ho is rfl; omega
    refine ⟨anD z (itsD .own (is ++ [.win 0])), ?_⟩
    unfold dueD anD itsD at *
    simp [lg__law_moments_right_1, lb__law_moments_right_1, chk_of, chkO_of, e1, e2, s1, pl, sp, k1, itD]
theorem mr0 (N : Now23 P m Ps) (g : Fl) (hg : g = .bor ∨ g = .fz) (k : Int) (a3 a4 a5 : D) : ∃ b3 b4 : D, (mForR (mQ (qNeg (qC (.int 1)))) (mQ (qOp gAdd (qLen (qIx (qV 1) (qNeg (qC (.int 1))))) (qC (.int 1)))) lg__law_moments_right_1 lb__law_moments_right_1) [shelfD .bor P m, pastD .bor g Ps, .int k, a3, a4, a5, .un] = .nx [shelfD .bor P m, pastD .bor g Ps, .int k, b3, b4, a5, .un] := by
  obtain ⟨st', e, b3, b4, rfl⟩ := forL_inv (g := lg__law_moments_right_1) (b := lb__law_moments_right_1) (f := D.int) (fun pre post st => ∃ a3 a4 : D, st = [shelfD .bor P m, pastD .bor g Ps, .int k, a3, a4, a5, .un])
    (fun pre x post st ⟨a3, a4, e⟩ => by
      subst e
      obtain ⟨b4, h⟩ := mr_turn N g hg x k a3 a4 a5
      exact ⟨_, h, .int x, b4, rfl⟩)
    [] ((List.range (((lastP Ps).length : Int) + 1 - -1).toNat).map fun i => (-1 : Int) + (i : Nat)) [shelfD .bor P m, pastD .bor g Ps, .int k, a3, a4, a5, .un] ⟨a3, a4, rfl⟩
  refine ⟨b3, b4, ?_⟩
  have hr := rangeD_eq (-1) (((lastP Ps).length : Int) + 1)
  rw [← hr] at e
  obtain ⟨g1, hg1, eg⟩ := pz_last g Ps
  have ix := ix_last g Ps
  have hl := N.I.len
  have hn := N.hn
  have k1 : (lastP Ps).length ≤ 16777216 := by omega
  obtain ⟨z, hz⟩ : ∃ z : Int, z = ((lastP Ps).length : Int) + 1 := ⟨_, rfl⟩
  have hz1 : ((lastP Ps).length : Int) + 1 = z := hz.symm
  have h6 : -4611686018427387904 ≤ z ∧ z < 4611686018427387904 := by omega
  rw [hz1] at e
  unfold pastD at *
  simp [chk_of, chkO_of, chkS_of, ix, eg, k1, hz1, h6, e]
/-- the rows of a moment, or none -/
def dueR (f : Fl) (z : Str) : Option (List (List It)) → D
  | none => anD z .non
  | some Is => anD z (rowsI f Is)
theorem rows_then_out (P : List (List En)) (m k : Int) (h : ¬ (0 ≤ k ∧ k ≤ m)) : F_Shelf_rows_then [shelfD .bor P m, .int k] = .ex ⟨"NoMoment", "", none⟩ [.un, .un] := by
  by_cases c1 : k < 0
  · simp [F_Shelf_rows_then, runF_eq, m_Shelf_rows_then, chk_of, chkO_of, shelfD, c1, Ex.ds]
  · have c2 : m < k := by omega
    simp [F_Shelf_rows_then, runF_eq, m_Shelf_rows_then, chk_of, chkO_of, shelfD, c1, c2, Ex.ds]
theorem mr12 (N : Now23 P m Ps) (g : Fl) (hg : g = .bor ∨ g = .fz) (k : Int) (a3 a4 a5 : D) : ∃ (z : Str) (o : Option (List (List It))), PySem.PyData.strOk z = true ∧ (∀ Is, o = some Is → ∀ is ∈ Is, is.length ≤ 4) ∧ (∀ Is, o = some Is → Is.length ≤ 100) ∧ mSeq (mAsg (mTup (mCons (mQ (qC (.str "moment"))) (mCons (mQ (qC .non)) mNil))) (gNm 5)) (mIf (mAndT (mTQ (qOp gLe (qC (.int 0)) (qV 2))) (mTQ (qOp gLt (qV 2) (qLen (qV 1))))) (mSeq (mAsg (mTup (mCons (mQ (qC (.str ""))) (mCons (mLcL (mQ (qIx (qV 1) (qV 2))) [6] lg__law_moments_right_2 lt__law_moments_right_2 le__law_moments_right_2) mNil))) (gNm 5)) mSkip) mSkip) [shelfD .bor P m, pastD .bor g Ps, .int k, a3, a4, a5, .un] = .nx [shelfD .bor P m, pastD .bor g Ps, .int k, a3, a4, dueR .own z o, .un] ∧ F__law_rows_then_or [shelfD .bor P m, .int k] = .ok (dueR .own z o) [.un, .un] := by
  have lz := pz_len g Ps
  have hm := N.I.m
  have hn := N.hn
  have lP := cur_len N.I.cur
  have hl := N.I.len
  have k2 : (pz g Ps).length ≤ 16777216 := by rw [lz]; omega
  by_cases d : 0 ≤ k ∧ k ≤ m
  · obtain ⟨i, rfl⟩ : ∃ i : Nat, k = i := ⟨k.toNat, by omega⟩
    have hi : i < Ps.length + 1 := by omega
    have qk := PP_get hi
    obtain ⟨g2, hg2, eg2⟩ := pz_get g Ps i _ qk
    have lR : ((([] :: Ps)[i]?).getD []).length ≤ 100 := by
      cases i with
      | zero => simp
      | succ i =>
        simp only [List.getElem?_cons_succ]
        cases q : Ps[i]? with
        | none => simp
        | some R => have := N.lR R (List.mem_of_getElem? q); simpa using this
    have shR : ∀ es ∈ ((([] :: Ps)[i]?).getD []), es.length ≤ 4 := fun es he => by
      cases i with
      | zero => simp at he
      | succ i =>
        simp only [List.getElem?_cons_succ] at he
        cases q : Ps[i]? with
        | none => rw [q] at he; simp at he
        | some R => rw [q] at he; exact N.I.sh R (List.mem_of_getElem? q) es (by simpa using he)
    have th := N.I.h.thenF i _ qk
    have op := N.I.h.opn i _ qk
    have rw_ := N.I.h.row i _ qk
    generalize ((([] :: Ps)[i]?).getD []) = R at *
    have e1 := sh_rows_then P m i d (by omega) (fun l hx => ⟨N.I.h.ne l hx, fun ho => by
      obtain ⟨s, hs⟩ := List.mem_iff_getElem?.mp hx
      have hR := (op s l hs).mp ho
      have qe := List.getElem?_eq_getElem hR
      rw [rw_ s l _ hs qe]
      have := itemsF_len4 (shR _ (List.getElem_mem hR))
      omega⟩)
    rw [th] at e1
    have hx : ixN (pz g Ps).length (i : Int) = some i := by rw [lz, ixN_int (by omega) (by omega)]; simp
    have hset2 : (pz g Ps).set i (.nd (.lst g2) (R.map (esD .fz))) = pz g Ps := list_set_same eg2
    have sz := setL_esZ .fz R
    have e : ∀ z5 : D, lcL (lcT [6] lg__law_moments_right_2 lt__law_moments_right_2 le__law_moments_right_2) (R.map (esD .fz)) [] [shelfD .bor P m, pastD .bor g Ps, .int i, a3, a4, z5, .un] = .ok ((R.map itemsF).map (itsD .own)) [shelfD .bor P m, pastD .bor g Ps, .int i, a3, a4, z5, .un] := fun z5 => by
      rw [lcL_pure (f := esD .fz) (fun es => some (itsD .own (itemsF es))) R [] (by simp; omega) (fun es he => by
        have := shR es he
        have e3 := items_of_eq .fz es (by omega)
        simp [lg__law_moments_right_2, lt__law_moments_right_2, le__law_moments_right_2, chk_of, chkO_of, e3])]
      simp [Function.comp_def]
    have d0 : (0 : Int) ≤ (i : Int) := by omega
    have d1 : (i : Int) < ((pz g Ps).length : Int) := by rw [lz]; omega
    have d2 : i < (pz g Ps).length := by omega
    have eg3 : (pz g Ps)[i]'d2 = .nd (.lst g2) (R.map (esD .fz)) := (List.getElem?_eq_some_iff.mp eg2).2
    refine ⟨"", some (R.map itemsF), ok_e, fun Is h is hi => ?_, fun Is h => by cases h; simpa using lR, ?_, ?_⟩
    · cases h
      obtain ⟨es, he, rfl⟩ := List.mem_map.mp hi
      exact itemsF_len4 (shR es he)
    · unfold dueR anD rowsI pastD at *
      have eM : (R.map itemsF).map (itsD .own) = R.map (itsD .own ∘ itemsF) := by rw [List.map_map]
      rw [eM] at e
      have nb : D.noBorL (R.map (itsD .own ∘ itemsF)) = true := by rw [← eM]; exact noBorL_itsD _
      generalize R.map (esD .fz) = LL at *
      rcases hg with rfl | rfl <;> rcases hg2 with rfl | rfl <;> simp [nb, chk_of, chkO_of, d1, d2, k2, hx, eg3, hset2, sz, e]
    · unfold dueR anD rowsI at *
      generalize R.map itemsF = MM at *
      simp [F__law_rows_then_or, runF_eq, m__law_rows_then_or, chk_of, chkO_of, e1]
  · have e1 := rows_then_out P m k d
    refine ⟨"moment", none, ok_moment, (fun _ h => by cases h), (fun _ h => by cases h), ?_, ?_⟩
    · unfold dueR anD pastD at *
      by_cases c0 : 0 ≤ k
      · have c1 : ¬ k < ((pz g Ps).length : Int) := by rw [lz]; omega
        simp [chk_of, chkO_of, c0, c1, k2]
      · simp [chk_of, chkO_of, c0]
    · unfold dueR anD at *
      simp [F__law_rows_then_or, runF_eq, m__law_rows_then_or, chk_of, chkO_of, e1, Ex.ds]
theorem mr_last (N : Now23 P m Ps) (g : Fl) (hg : g = .bor ∨ g = .fz) (k : Int) (a2 a3 a4 a5 : D) : ∃ b3 b4 b5 : D, (tgR (lg__law_moments_right_3 (.int k) [shelfD .bor P m, pastD .bor g Ps, a2, a3, a4, a5, .un]) lb__law_moments_right_3).tn = .nx [shelfD .bor P m, pastD .bor g Ps, .int k, b3, b4, b5, .un] := by
  obtain ⟨b3, b4, e0⟩ := mr0 N g hg k a3 a4 a5
  obtain ⟨z, o, hz, ho, hO, e1, e2⟩ := mr12 N g hg k b3 b4 a5
  have lb : lb__law_moments_right_3 = (mSeq (mForR (mQ (qNeg (qC (.int 1)))) (mQ (qOp gAdd (qLen (qIx (qV 1) (qNeg (qC (.int 1))))) (qC (.int 1)))) lg__law_moments_right_1 lb__law_moments_right_1) (mSeq (mAsg (mTup (mCons (mQ (qC (.str "moment"))) (mCons (mQ (qC .non)) mNil))) (gNm 5)) (mSeq (mIf (mAndT (mTQ (qOp gLe (qC (.int 0)) (qV 2))) (mTQ (qOp gLt (qV 2) (qLen (qV 1))))) (mSeq (mAsg (mTup (mCons (mQ (qC (.str ""))) (mCons (mLcL (mQ (qIx (qV 1) (qV 2))) [6] lg__law_moments_right_2 lt__law_moments_right_2 le__law_moments_right_2) mNil))) (gNm 5)) mSkip) mSkip) (mSeq (mAsg (mCall [.bo, .bo] F__law_rows_then_or (aPth (qV 0) (aPth (qV 2) aNil))) (gNm 4)) (mSeq (mIf (mNotT (mTE (mCall [.bo, .bo] F__law_same_top (aPth (qV 4) (aPth (qV 5) aNil))))) (mSeq (mRet (mQ (qC (.bl false)))) mSkip) mSkip) (mSeq (mIf (mAndT (mTQ (qIsN true (qIx (qV 4) (qC (.int 1))))) (mTQ (qOp gGt (qLen (qIx (qV 4) (qC (.int 1)))) (qC (.int 0))))) (mSeq (mExpr (mAppend (qIx (qIx (qV 4) (qC (.int 1))) (qC (.int 0))) (mTup (mCons (mQ (qC (.str "win"))) (mCons (mQ (qC (.int 0))) mNil))))) mSkip) mSkip) mSkip)))))) := rfl
  have as : ∀ (a b c : MS) (st : List D), mSeq a (mSeq b c) st = mSeq (mSeq a b) c st := fun a b c st => by
    unfold mSeq
    cases a st <;> rfl
  have tg : ∀ st, (tgR (lg__law_moments_right_3 (.int k) [shelfD .bor P m, pastD .bor g Ps, a2, a3, a4, a5, .un]) lb__law_moments_right_3).tn = st ↔ (lb__law_moments_right_3 [shelfD .bor P m, pastD .bor g Ps, .int k, a3, a4, a5, .un]).tn = st := fun st => by
    simp [lg__law_moments_right_3, chkO_of]
  cases o with
  | none =>
    have s1 := same_an z hz .non (by simp)
    refine ⟨b3, anD z .non, anD z .non, (tg _).mpr ?_⟩
    rw [lb, sq e0, as, sq e1]
    generalize pastD .bor g Ps = PA
    unfold dueR anD at *
    simp [chk_of, chkO_of, e2, s1]
  | some Is =>
    have s1 := same_an z hz (rowsI .bor Is) (ok_rowsI .bor Is 1)
    have kI := hO Is rfl
    have kI2 : Is.length ≤ 16777216 := by omega
    cases Is with
    | nil =>
      refine ⟨b3, anD z (rowsI .own []), anD z (rowsI .own []), (tg _).mpr ?_⟩
      rw [lb, sq e0, as, sq e1]
      generalize pastD .bor g Ps = PA
      unfold dueR anD rowsI at *
      simp at s1 e2
      simp [chk_of, chkO_of, e2, s1]
    | cons is Is =>
      have k1 : is.length < 16777216 := by have := ho _ rfl is (by simp); omega
      have x0 : ixN (Is.length + 1) 0 = some 0 := by simp [ixN]
      have kI3 : Is.length + 1 ≤ 16777216 := by simpa using kI2
      have kI4 : (0 : Int) < (Is.length : Int) + 1 := by omega
      refine ⟨b3, anD z (.nd (.lst .own) (itsD .own (is ++ [.win 0]) :: Is.map (itsD .own))), anD z (rowsI .own (is :: Is)), (tg _).mpr ?_⟩
      rw [lb, sq e0, as, sq e1]
      generalize pastD .bor g Ps = PA
      unfold dueR anD rowsI at *
      simp at s1 e2
      simp [chk_of, chkO_of, e2, s1, x0, kI3, kI4]
      simp [itsD, itD, k1, chk_of, chkO_of]
theorem b62 (z : Int) (h : 0 ≤ z ∧ z ≤ 30) : -4611686018427387904 ≤ z ∧ z < 4611686018427387904 := by omega
theorem forR_of23 {ma mb : List D → R D} {g : MG} {b : MS} {st st1 st2 : List D} {a z : Int} (h1 : ma st = .ok (.int a) st1) (h2 : mb st1 = .ok (.int z) st2) (a0 : -1000000000 ≤ a) (a1 : a < 1000000000) (z0 : -1000000000 ≤ z) (z1 : z < 1000000000) : mForR ma mb g b st = forL g b (rangeD a z) st2 := by
  have i1 : -4611686018427387904 ≤ a := by omega
  have i2 : a < 4611686018427387904 := by omega
  have i3 : -4611686018427387904 ≤ z := by omega
  have i4 : z < 4611686018427387904 := by omega
  simp [h1, h2, chkS_of, i1, i2, i3, i4]
theorem mm0 (SH : D) (Z : List D) (hZ : Z.length ≤ 25) (ht : ∀ (k : Int) (a2 a3 a4 a5 : D), ∃ b3 b4 b5 : D, (tgR (lg__law_moments_right_3 (.int k) [SH, .nd (.lst .bor) Z, a2, a3, a4, a5, .un]) lb__law_moments_right_3).tn = .nx [SH, .nd (.lst .bor) Z, .int k, b3, b4, b5, .un]) : ∃ b2 b3 b4 b5 : D, (mForR (mQ (qNeg (qC (.int 1)))) (mQ (qOp gAdd (qLen (qV 1)) (qC (.int 1)))) lg__law_moments_right_3 lb__law_moments_right_3) [SH, .nd (.lst .bor) Z, .un, .un, .un, .un, .un] = .nx [SH, .nd (.lst .bor) Z, b2, b3, b4, b5, .un] := by
  obtain ⟨zl, hzl⟩ : ∃ zl : Int, zl = (Z.length : Int) := ⟨_, rfl⟩
  have h0 : 0 ≤ zl ∧ zl ≤ 25 := by omega
  have h1 := b62 (zl + 1) (by omega)
  obtain ⟨st', e, b2, b3, b4, b5, rfl⟩ := forL_inv (g := lg__law_moments_right_3) (b := lb__law_moments_right_3) (f := D.int) (fun pre post st => ∃ a2 a3 a4 a5 : D, st = [SH, .nd (.lst .bor) Z, a2, a3, a4, a5, .un])
    (fun pre x post st ⟨a2, a3, a4, a5, e⟩ => by
      subst e
      obtain ⟨b3, b4, b5, h⟩ := ht x a2 a3 a4 a5
      exact ⟨_, h, .int x, b3, b4, b5, rfl⟩)
    [] ((List.range (zl + 1 - -1).toNat).map fun i => (-1 : Int) + (i : Nat)) [SH, .nd (.lst .bor) Z, .un, .un, .un, .un, .un] ⟨.un, .un, .un, .un, rfl⟩
  refine ⟨b2, b3, b4, b5, ?_⟩
  have hr := rangeD_eq (-1) (zl + 1)
  rw [← hr] at e
  have ql : qLen (qV 1) [SH, .nd (.lst .bor) Z, .un, .un, .un, .un, .un] = some (.sc (.int zl)) := by
    have k : Z.length ≤ 16777216 := by omega
    rw [hzl]
    simp [k]
  clear hzl hZ
  exact (forR_of23 (a := -1) (z := zl + 1) (st := [SH, .nd (.lst .bor) Z, .un, .un, .un, .un, .un]) (st1 := [SH, .nd (.lst .bor) Z, .un, .un, .un, .un, .un]) (st2 := [SH, .nd (.lst .bor) Z, .un, .un, .un, .un, .un]) (by simp) (by simp [-qLen_eq, ql]) (by omega) (by omega) (by omega) (by omega)).trans e
theorem moments_right_ok (N : Now23 P m Ps) (g : Fl) (hg : g = .bor ∨ g = .fz) : F__law_moments_right [shelfD .bor P m, pastD .bor g Ps] = .ok (.bl true) [.un, .un] := by
  have hn := N.hn
  obtain ⟨b2, b3, b4, b5, e⟩ := mm0 (shelfD .bor P m) (pz g Ps) (by rw [pz_len]; omega) (fun k a2 a3 a4 a5 => mr_last N g hg k a2 a3 a4 a5)
  rw [F__law_moments_right, runF_eq]
  show (((mSeq (mForR (mQ (qNeg (qC (.int 1)))) (mQ (qOp gAdd (qLen (qV 1)) (qC (.int 1)))) lg__law_moments_right_3 lb__law_moments_right_3) (mSeq (mRet (mQ (qC (.bl true)))) mSkip)) : MS) [shelfD .bor P m, .nd (.lst .bor) (pz g Ps), .un, .un, .un, .un, .un]).fr _ = _
  rw [sq e]
  generalize pz g Ps = Z
  simp [chk_of]
theorem Inv23.init : Inv23 [] 0 [] := ⟨⟨by simp, fun k Rk _ s l es h => by simp at h, fun k Rk _ s l h => by simp at h, fun Rk h => by simp at h; subst h; simp, by simp⟩, rfl, rfl, by simp [lastP], by simp, by simp⟩
theorem now_of {P : List (List En)} {m : Int} {Ps : List (List (List Int))} (I : Inv23 P m Ps) (hn : Ps.length ≤ 20) (lR : ∀ R ∈ Ps, R.length ≤ 100) : Now23 P m Ps := ⟨I, hn, fun l hl => by
  obtain ⟨s, hs⟩ := List.mem_iff_getElem?.mp hl
  have h := I.h.opn 0 [] rfl s l hs
  simp at h
  omega, lR⟩
structure Lw (P : List (List En)) (m : Int) (Ps : List (List (List Int))) (n : Nat) : Prop where
  I : Inv23 P m Ps
  ln : Ps.length ≤ n
  lR : ∀ R ∈ Ps, R.length ≤ 2 * n
theorem Lw.step {P P' : List (List En)} {m : Int} {Ps : List (List (List Int))} {n : Nat} {R : List (List Int)} (L : Lw P m Ps n) (I : Inv23 P' (m + 1) (Ps ++ [R])) : Lw P' (m + 1) (Ps ++ [R]) (n + 1) := ⟨I, by have := L.ln; simp; omega, fun X hX => by
  rcases List.mem_append.mp hX with hX | hX
  · have := L.lR X hX; omega
  · simp at hX
    subst hX
    have h := I.len
    have e : lastP (Ps ++ [X]) = X := by simp [lastP]
    rw [e] at h
    have := L.ln
    simp at h
    omega⟩
theorem Lw.mono {P : List (List En)} {m : Int} {Ps : List (List (List Int))} {n : Nat} (L : Lw P m Ps n) : Lw P m Ps (n + 1) := ⟨L.I, by have := L.ln; omega, fun R hR => by have := L.lR R hR; omega⟩
theorem Lw.now {P : List (List En)} {m : Int} {Ps : List (List (List Int))} {n : Nat} (L : Lw P m Ps n) (hn : n ≤ 20) : Now23 P m Ps := now_of L.I (by have := L.ln; omega) fun R hR => by have := L.lR R hR; omega
def gb (g : Fl) : Fl := if g = .own then .bor else g
theorem gb_ok {g : Fl} (h : g = .own ∨ g = .fz) : gb g = .bor ∨ gb g = .fz := by rcases h with rfl | rfl <;> simp [gb]
theorem set_past23 {g : Fl} (Ps : List (List (List Int))) : D.set .bor (pastD .own g Ps) = pastD .bor (gb g) Ps := set_pastD .bor g Ps
theorem law_turn23 (s : Sr) (P Q : List (List En)) (m k : Int) (g h : Fl) (hg : g = .own ∨ g = .fz) (hh : h = .own ∨ h = .fz) (Ps Qs : List (List (List Int))) (n : Nat) (hn : n ≤ 18) (L : Lw P m Ps n) (M : Lw Q k Qs n) (ns : List Int) (x i : D) (hi : ∃ z, i = .int z) : ∃ (s' : Sr) (P' Q' : List (List En)) (m' k' : Int) (g' h' : Fl) (Ps' Qs' : List (List (List Int))), (g' = .own ∨ g' = .fz) ∧ (h' = .own ∨ h' = .fz) ∧ Lw P' m' Ps' (n + 1) ∧ Lw Q' k' Qs' (n + 1) ∧ (tgR (lg_law_1 i [.scr ns, srcD s, shelfD .own P m, pastD .own g Ps, shelfD .own Q k, pastD .own h Qs, x]) lb_law_1).tn = .nx [.scr ns, srcD s', shelfD .own P' m', pastD .own g' Ps', shelfD .own Q' k', pastD .own h' Qs', i] := by
  obtain ⟨z, rfl⟩ := hi
  obtain ⟨s1, P', g', R', e1, hg', I1⟩ := step_ok s P m g hg Ps L.I (by have := L.ln; omega)
  have L1 := L.step I1
  obtain ⟨u, s2, u0, u1, e2⟩ := next_ok s1 6 (by decide) (by decide)
  have e3 := now_right_ok (L1.now (by omega)) (gb g') (gb_ok hg')
  have sp := set_past23 (g := g') (Ps ++ [R'])
  have nb := noBor_pastD g' hg' (Ps ++ [R'])
  have pl : ∀ (r : Nat) (p : Pth) (g : Fl) (X : List (List (List Int))), plD0 r p (pastD .own g X) = some (.pth r p) := fun _ _ _ _ => rfl
  by_cases c : u = 0
  · obtain ⟨s3, Q', h', S', e4, hh', I2⟩ := step_ok s2 Q k h hh Qs M.I (by have := M.ln; omega)
    have nb2 := noBor_pastD h' hh' (Qs ++ [S'])
    refine ⟨s3, P', Q', m + 1, k + 1, g', h', Ps ++ [R'], Qs ++ [S'], hg', hh', L1, M.step I2, ?_⟩
    generalize Ps ++ [R'] = A at *
    generalize Qs ++ [S'] = B at *
    simp [lg_law_1, lb_law_1, chk_of, chkO_of, e1, e2, c, e4, e3, sp, nb, nb2, pl]
  · refine ⟨s2, P', Q, m + 1, k, g', h, Ps ++ [R'], Qs, hg', hh, L1, M.mono, ?_⟩
    generalize Ps ++ [R'] = A at *
    simp [lg_law_1, lb_law_1, chk_of, chkO_of, e1, e2, c, e3, sp, nb, pl]
theorem law_loop23 (ns : List Int) (s1 : Sr) (v : Int) (v0 : 0 ≤ v) (v1 : v < 9) : ∃ (s : Sr) (P Q : List (List En)) (m k : Int) (g h : Fl) (Ps Qs : List (List (List Int))) (x : D) (n : Nat), forL lg_law_1 lb_law_1 (rangeD 0 v) [.scr ns, srcD s1, shelfD .own [] 0, pastD .own .own [], shelfD .own [] 0, pastD .own .own [], .un] = .nx [.scr ns, srcD s, shelfD .own P m, pastD .own g Ps, shelfD .own Q k, pastD .own h Qs, x] ∧ (g = .own ∨ g = .fz) ∧ (h = .own ∨ h = .fz) ∧ Lw P m Ps n ∧ Lw Q k Qs n ∧ n ≤ 8 := by
  have L0 : Lw [] 0 [] 0 := ⟨Inv23.init, by simp, by simp⟩
  obtain ⟨st', e, s2, P, Q, m, k, g, h, Ps, Qs, x, n, rfl, hg, hh, L, M, hb⟩ := forL_inv (g := lg_law_1) (b := lb_law_1) (f := D.int) (fun pre post st => ∃ (s : Sr) (P Q : List (List En)) (m k : Int) (g h : Fl) (Ps Qs : List (List (List Int))) (x : D) (n : Nat), st = [.scr ns, srcD s, shelfD .own P m, pastD .own g Ps, shelfD .own Q k, pastD .own h Qs, x] ∧ (g = .own ∨ g = .fz) ∧ (h = .own ∨ h = .fz) ∧ Lw P m Ps n ∧ Lw Q k Qs n ∧ n + post.length ≤ 8)
    (fun pre i post st ⟨s, P, Q, m, k, g, h, Ps, Qs, x, n, e, hg, hh, L, M, hb⟩ => by
      subst e
      simp at hb
      obtain ⟨s', P', Q', m', k', g', h', Ps', Qs', a1, a2, a3, a4, a5⟩ := law_turn23 s P Q m k g h hg hh Ps Qs n (by omega) L M ns x (.int i) ⟨i, rfl⟩
      exact ⟨_, a5, s', P', Q', m', k', g', h', Ps', Qs', .int i, n + 1, rfl, a1, a2, a3, a4, by omega⟩)
    [] ((List.range v.toNat).map fun i => (0 : Int) + (i : Nat)) [.scr ns, srcD s1, shelfD .own [] 0, pastD .own .own [], shelfD .own [] 0, pastD .own .own [], .un] ⟨s1, [], [], 0, 0, .own, .own, [], [], .un, 0, rfl, .inl rfl, .inl rfl, L0, L0, by simp; omega⟩
  have hr : rangeD 0 v = ((List.range v.toNat).map fun i => (0 : Int) + (i : Nat)).map D.int := by
    have := rangeD_eq 0 v
    simpa using this
  rw [← hr] at e
  exact ⟨s2, P, Q, m, k, g, h, Ps, Qs, x, n, e, hg, hh, L, M, by simpa using hb⟩
theorem law_ef (ns : List Int) (s s1 s2 : Sr) (v : Int) (v0 : 0 ≤ v) (v1 : v < 9) (P Q : List (List En)) (m k : Int) (g h : Fl) (Ps Qs : List (List (List Int))) (x : D) (e2 : F__law_next [srcD s, .int 9] = .ok (.int v) [srcD s1, .un]) (e : forL lg_law_1 lb_law_1 (rangeD 0 v) [.scr ns, srcD s1, shelfD .own [] 0, pastD .own .own [], shelfD .own [] 0, pastD .own .own [], .un] = .nx [.scr ns, srcD s2, shelfD .own P m, pastD .own g Ps, shelfD .own Q k, pastD .own h Qs, x]) : (mForR1 (mCall [.io, .bo] F__law_next (aPth (qV 1) (aVal (mQ (qC (.int 9))) aNil))) lg_law_1 lb_law_1) [.scr ns, srcD s, shelfD .own [] 0, pastD .own .own [], shelfD .own [] 0, pastD .own .own [], .un] = .nx [.scr ns, srcD s2, shelfD .own P m, pastD .own g Ps, shelfD .own Q k, pastD .own h Qs, x] := by
  generalize lb_law_1 = LB at *
  unfold mForR1
  exact (forR_of23 (a := 0) (z := v) rfl (by simp [chk_of, chkO_of, e2]) (by omega) (by omega) (by omega) (by omega)).trans e
theorem law_f1 (ns : List Int) (s : Sr) (e1 : F__law_src [.scr ns] = .ok (srcD s) [.un]) (n : MS) : mSeq (mAsg (mCall [.bo] F__law_src (aVal (mScr 0) aNil)) (gNm 1)) (mSeq (mAsg (mMake "Shelf" [] F_Shelf___init__ aNil) (gNm 2)) (mSeq (mAsg (mLst (mCons (mLst mNil) mNil)) (gNm 3)) (mSeq (mAsg (mMake "Shelf" [] F_Shelf___init__ aNil) (gNm 4)) (mSeq (mAsg (mLst (mCons (mLst mNil) mNil)) (gNm 5)) n)))) [.scr ns, .un, .un, .un, .un, .un, .un] = n [.scr ns, srcD s, shelfD .own [] 0, pastD .own .own [], shelfD .own [] 0, pastD .own .own [], .un] := by
  have i1 := sh_init
  have f0 : (mAsg (mCall [.bo] F__law_src (aVal (mScr 0) aNil)) (gNm 1)) [.scr ns, .un, .un, .un, .un, .un, .un] = .nx [.scr ns, srcD s, .un, .un, .un, .un, .un] := by simp [chk_of, chkO_of, e1]
  have f1 : (mAsg (mMake "Shelf" [] F_Shelf___init__ aNil) (gNm 2)) [.scr ns, srcD s, .un, .un, .un, .un, .un] = .nx [.scr ns, srcD s, shelfD .own [] 0, .un, .un, .un, .un] := by simp [chk_of, chkO_of, i1]
  have f2 : (mAsg (mLst (mCons (mLst mNil) mNil)) (gNm 3)) [.scr ns, srcD s, shelfD .own [] 0, .un, .un, .un, .un] = .nx [.scr ns, srcD s, shelfD .own [] 0, pastD .own .own [], .un, .un, .un] := by simp [chk_of, chkO_of, pastD, pz]
  have f3 : (mAsg (mMake "Shelf" [] F_Shelf___init__ aNil) (gNm 4)) [.scr ns, srcD s, shelfD .own [] 0, pastD .own .own [], .un, .un, .un] = .nx [.scr ns, srcD s, shelfD .own [] 0, pastD .own .own [], shelfD .own [] 0, .un, .un] := by simp [chk_of, chkO_of, i1]
  have f4 : (mAsg (mLst (mCons (mLst mNil) mNil)) (gNm 5)) [.scr ns, srcD s, shelfD .own [] 0, pastD .own .own [], shelfD .own [] 0, .un, .un] = .nx [.scr ns, srcD s, shelfD .own [] 0, pastD .own .own [], shelfD .own [] 0, pastD .own .own [], .un] := by simp [chk_of, chkO_of, pastD, pz]
  rw [sq f0, sq f1, sq f2, sq f3, sq f4]
theorem endG (NR MR : Fn) (a0 a1 S1 A1 S2 A2 x T1 B1 T2 B2 : D) (p1 : ∀ r p, plD0 r p S1 = some (.pth r p)) (p2 : ∀ r p, plD0 r p A1 = some (.pth r p)) (p3 : ∀ r p, plD0 r p S2 = some (.pth r p)) (p4 : ∀ r p, plD0 r p A2 = some (.pth r p)) (q1 : D.set .bor S1 = T1) (q2 : D.set .bor A1 = B1) (q3 : D.set .bor S2 = T2) (q4 : D.set .bor A2 = B2) (n1 : NR [T1, B1] = .ok (.bl true) [.un, .un]) (n2 : NR [T2, B2] = .ok (.bl true) [.un, .un]) (n3 : MR [T1, B1] = .ok (.bl true) [.un, .un]) : (mSeq (mRet (mAndV (mCall [.bo, .bo] MR (aPth (qV 2) (aPth (qV 3) aNil))) (mAndV (mCall [.bo, .bo] NR (aPth (qV 4) (aPth (qV 5) aNil))) (mCall [.bo, .bo] NR (aPth (qV 2) (aPth (qV 3) aNil)))))) mSkip [a0, a1, S1, A1, S2, A2, x]).fr [.bo] = .ok (.bl true) [.un] := by
  simp [chk_of, chkO_of, n1, n2, n3, p1, p2, p3, p4, q1, q2, q3, q4]
theorem law_end (ns : List Int) (s2 : Sr) (P Q : List (List En)) (m k : Int) (g h : Fl) (Ps Qs : List (List (List Int))) (x : D) (n : Nat) (hg : g = .own ∨ g = .fz) (hh : h = .own ∨ h = .fz) (L : Lw P m Ps n) (M : Lw Q k Qs n) (hb2 : n ≤ 8) : (mSeq (mRet (mAndV (mCall [.bo, .bo] F__law_moments_right (aPth (qV 2) (aPth (qV 3) aNil))) (mAndV (mCall [.bo, .bo] F__law_now_right (aPth (qV 4) (aPth (qV 5) aNil))) (mCall [.bo, .bo] F__law_now_right (aPth (qV 2) (aPth (qV 3) aNil)))))) mSkip [.scr ns, srcD s2, shelfD .own P m, pastD .own g Ps, shelfD .own Q k, pastD .own h Qs, x]).fr [.bo] = .ok (.bl true) [.un] :=
  endG F__law_now_right F__law_moments_right (.scr ns) (srcD s2) (shelfD .own P m) (pastD .own g Ps) (shelfD .own Q k) (pastD .own h Qs) x (shelfD .bor P m) (pastD .bor (gb g) Ps) (shelfD .bor Q k) (pastD .bor (gb h) Qs) (fun _ _ => rfl) (fun _ _ => rfl) (fun _ _ => rfl) (fun _ _ => rfl) (set_shelfD .bor P m) (set_past23 Ps) (set_shelfD .bor Q k) (set_past23 Qs) (now_right_ok (L.now (Nat.le_trans hb2 (by decide))) (gb g) (gb_ok hg)) (now_right_ok (M.now (Nat.le_trans hb2 (by decide))) (gb h) (gb_ok hh)) (moments_right_ok (L.now (Nat.le_trans hb2 (by decide))) (gb g) (gb_ok hg))
theorem law_key (ns : List Int) : ∃ st, m_law [.scr ns, .un, .un, .un, .un, .un, .un] = mSeq (mRet (mAndV (mCall [.bo, .bo] F__law_moments_right (aPth (qV 2) (aPth (qV 3) aNil))) (mAndV (mCall [.bo, .bo] F__law_now_right (aPth (qV 4) (aPth (qV 5) aNil))) (mCall [.bo, .bo] F__law_now_right (aPth (qV 2) (aPth (qV 3) aNil)))))) mSkip st ∧ (mSeq (mRet (mAndV (mCall [.bo, .bo] F__law_moments_right (aPth (qV 2) (aPth (qV 3) aNil))) (mAndV (mCall [.bo, .bo] F__law_now_right (aPth (qV 4) (aPth (qV 5) aNil))) (mCall [.bo, .bo] F__law_now_right (aPth (qV 2) (aPth (qV 3) aNil)))))) mSkip st).fr [.bo] = .ok (.bl true) [.un] := by
  obtain ⟨s, e1⟩ := src_ok ns
  obtain ⟨v, s1, v0, v1, e2⟩ := next_ok s 9 (by decide) (by decide)
  obtain ⟨s2, P, Q, m, k, g, h, Ps, Qs, x, n, e, hg, hh, L, M, hb2⟩ := law_loop23 ns s1 v v0 v1
  refine ⟨[.scr ns, srcD s2, shelfD .own P m, pastD .own g Ps, shelfD .own Q k, pastD .own h Qs, x], ?_, law_end ns s2 P Q m k g h Ps Qs x n hg hh L M hb2⟩
  have ef := law_ef ns s s1 s2 v v0 v1 P Q m k g h Ps Qs x e2 e
  have hm : m_law = (mSeq (mAsg (mCall [.bo] F__law_src (aVal (mScr 0) aNil)) (gNm 1)) (mSeq (mAsg (mMake "Shelf" [] F_Shelf___init__ aNil) (gNm 2)) (mSeq (mAsg (mLst (mCons (mLst mNil) mNil)) (gNm 3)) (mSeq (mAsg (mMake "Shelf" [] F_Shelf___init__ aNil) (gNm 4)) (mSeq (mAsg (mLst (mCons (mLst mNil) mNil)) (gNm 5)) (mSeq (mForR1 (mCall [.io, .bo] F__law_next (aPth (qV 1) (aVal (mQ (qC (.int 9))) aNil))) lg_law_1 lb_law_1) (mSeq (mRet (mAndV (mCall [.bo, .bo] F__law_moments_right (aPth (qV 2) (aPth (qV 3) aNil))) (mAndV (mCall [.bo, .bo] F__law_now_right (aPth (qV 4) (aPth (qV 5) aNil))) (mCall [.bo, .bo] F__law_now_right (aPth (qV 2) (aPth (qV 3) aNil)))))) mSkip))))))) := rfl
  rw [hm, law_f1 ns s e1, sq ef]
theorem law_true (ns : List Int) (hn : ns.length ≤ 63) : F_law [.scr ns] = .ok (.bl true) [.un] := by
  obtain ⟨st, e1, e2⟩ := law_key ns
  have e3 : F_law [.scr ns] = (m_law [.scr ns, .un, .un, .un, .un, .un, .un]).fr [.bo] := by
    rw [F_law, runF_eq]
    rfl
  rw [e3, e1]
  exact e2

end Law
namespace Law
open PySem L2 PV
theorem all_mk {l : PySem.W.OpenLaw} {w : World} {K : PySem.W.Frag} {h : Heap} {mg : Str → Option Value} {fa : Addr} (X : K.In h) (G : h.Ns mainGlobals mg) (hfa : mg "law" = some (.ref fa))
    {f__law_src : Addr} {od__law_src an__law_src : Option Addr} {sl__law_src : Array (Option Value)} {oc__law_src kV__law_src dc__law_src pm__law_src cd__law_src ct__law_src : Value}
    {f_Shelf___init__ : Addr} {od_Shelf___init__ an_Shelf___init__ : Option Addr} {sl_Shelf___init__ : Array (Option Value)} {oc_Shelf___init__ kV_Shelf___init__ dc_Shelf___init__ pm_Shelf___init__ cd_Shelf___init__ ct_Shelf___init__ : Value}
    {f__law_next : Addr} {od__law_next an__law_next : Option Addr} {sl__law_next : Array (Option Value)} {oc__law_next kV__law_next dc__law_next pm__law_next cd__law_next ct__law_next : Value}
    {f__law_line_by : Addr} {od__law_line_by an__law_line_by : Option Addr} {sl__law_line_by : Array (Option Value)} {oc__law_line_by kV__law_line_by dc__law_line_by pm__law_line_by cd__law_line_by ct__law_line_by : Value}
    {f__law_items_of : Addr} {od__law_items_of an__law_items_of : Option Addr} {sl__law_items_of : Array (Option Value)} {oc__law_items_of kV__law_items_of dc__law_items_of pm__law_items_of cd__law_items_of ct__law_items_of : Value}
    {f_Shelf_step : Addr} {od_Shelf_step an_Shelf_step : Option Addr} {sl_Shelf_step : Array (Option Value)} {oc_Shelf_step kV_Shelf_step dc_Shelf_step pm_Shelf_step cd_Shelf_step ct_Shelf_step : Value}
    {f__law_step : Addr} {od__law_step an__law_step : Option Addr} {sl__law_step : Array (Option Value)} {oc__law_step kV__law_step dc__law_step pm__law_step cd__law_step ct__law_step : Value}
    {f_Shelf_look : Addr} {od_Shelf_look an_Shelf_look : Option Addr} {sl_Shelf_look : Array (Option Value)} {oc_Shelf_look kV_Shelf_look dc_Shelf_look pm_Shelf_look cd_Shelf_look ct_Shelf_look : Value}
    {f_Shelf_row : Addr} {od_Shelf_row an_Shelf_row : Option Addr} {sl_Shelf_row : Array (Option Value)} {oc_Shelf_row kV_Shelf_row dc_Shelf_row pm_Shelf_row cd_Shelf_row ct_Shelf_row : Value}
    {f__law_row_or : Addr} {od__law_row_or an__law_row_or : Option Addr} {sl__law_row_or : Array (Option Value)} {oc__law_row_or kV__law_row_or dc__law_row_or pm__law_row_or cd__law_row_or ct__law_row_or : Value}
    {f__law_whole : Addr} {od__law_whole an__law_whole : Option Addr} {sl__law_whole : Array (Option Value)} {oc__law_whole kV__law_whole dc__law_whole pm__law_whole cd__law_whole ct__law_whole : Value}
    {f__law_same : Addr} {od__law_same an__law_same : Option Addr} {sl__law_same : Array (Option Value)} {oc__law_same kV__law_same dc__law_same pm__law_same cd__law_same ct__law_same : Value}
    {f_Shelf_opened : Addr} {od_Shelf_opened an_Shelf_opened : Option Addr} {sl_Shelf_opened : Array (Option Value)} {oc_Shelf_opened kV_Shelf_opened dc_Shelf_opened pm_Shelf_opened cd_Shelf_opened ct_Shelf_opened : Value}
    {f__law_opened_or : Addr} {od__law_opened_or an__law_opened_or : Option Addr} {sl__law_opened_or : Array (Option Value)} {oc__law_opened_or kV__law_opened_or dc__law_opened_or pm__law_opened_or cd__law_opened_or ct__law_opened_or : Value}
    {f_Shelf_rows : Addr} {od_Shelf_rows an_Shelf_rows : Option Addr} {sl_Shelf_rows : Array (Option Value)} {oc_Shelf_rows kV_Shelf_rows dc_Shelf_rows pm_Shelf_rows cd_Shelf_rows ct_Shelf_rows : Value}
    {f_Shelf_many : Addr} {od_Shelf_many an_Shelf_many : Option Addr} {sl_Shelf_many : Array (Option Value)} {oc_Shelf_many kV_Shelf_many dc_Shelf_many pm_Shelf_many cd_Shelf_many ct_Shelf_many : Value}
    {f_Shelf_now : Addr} {od_Shelf_now an_Shelf_now : Option Addr} {sl_Shelf_now : Array (Option Value)} {oc_Shelf_now kV_Shelf_now dc_Shelf_now pm_Shelf_now cd_Shelf_now ct_Shelf_now : Value}
    {f__law_now_right : Addr} {od__law_now_right an__law_now_right : Option Addr} {sl__law_now_right : Array (Option Value)} {oc__law_now_right kV__law_now_right dc__law_now_right pm__law_now_right cd__law_now_right ct__law_now_right : Value}
    {f_Shelf_look_then : Addr} {od_Shelf_look_then an_Shelf_look_then : Option Addr} {sl_Shelf_look_then : Array (Option Value)} {oc_Shelf_look_then kV_Shelf_look_then dc_Shelf_look_then pm_Shelf_look_then cd_Shelf_look_then ct_Shelf_look_then : Value}
    {f_Shelf_row_then : Addr} {od_Shelf_row_then an_Shelf_row_then : Option Addr} {sl_Shelf_row_then : Array (Option Value)} {oc_Shelf_row_then kV_Shelf_row_then dc_Shelf_row_then pm_Shelf_row_then cd_Shelf_row_then ct_Shelf_row_then : Value}
    {f__law_row_then_or : Addr} {od__law_row_then_or an__law_row_then_or : Option Addr} {sl__law_row_then_or : Array (Option Value)} {oc__law_row_then_or kV__law_row_then_or dc__law_row_then_or pm__law_row_then_or cd__law_row_then_or ct__law_row_then_or : Value}
    {f__law_due : Addr} {od__law_due an__law_due : Option Addr} {sl__law_due : Array (Option Value)} {oc__law_due kV__law_due dc__law_due pm__law_due cd__law_due ct__law_due : Value}
    {f_Shelf_rows_then : Addr} {od_Shelf_rows_then an_Shelf_rows_then : Option Addr} {sl_Shelf_rows_then : Array (Option Value)} {oc_Shelf_rows_then kV_Shelf_rows_then dc_Shelf_rows_then pm_Shelf_rows_then cd_Shelf_rows_then ct_Shelf_rows_then : Value}
    {f__law_rows_then_or : Addr} {od__law_rows_then_or an__law_rows_then_or : Option Addr} {sl__law_rows_then_or : Array (Option Value)} {oc__law_rows_then_or kV__law_rows_then_or dc__law_rows_then_or pm__law_rows_then_or cd__law_rows_then_or ct__law_rows_then_or : Value}
    {f__law_moments_right : Addr} {od__law_moments_right an__law_moments_right : Option Addr} {sl__law_moments_right : Array (Option Value)} {oc__law_moments_right kV__law_moments_right dc__law_moments_right pm__law_moments_right cd__law_moments_right ct__law_moments_right : Value}
    {f_law : Addr} {od_law an_law : Option Addr} {sl_law : Array (Option Value)} {oc_law kV_law dc_law pm_law cd_law ct_law : Value}
    {g_Shelf : Addr} (q_Shelf : PySem.W.nsIn K mainGlobals "Shelf" = some (some (.ref g_Shelf))) (cpg_Shelf : PySem.W.plainGet K g_Shelf Str.empty = true) (chd_Shelf : PySem.W.hasDictIn K g_Shelf = true) (cpo_Shelf : PySem.W.plainOver K g_Shelf = true) (csa_Shelf : PySem.W.findIn K (.ref g_Shelf) "__setattr__" = some (some (.builtin "object.__setattr__")))
    (cna_Shelf_past : PySem.W.findIn K (.ref g_Shelf) "past" = some none)
    (cna_Shelf_moment : PySem.W.findIn K (.ref g_Shelf) "moment" = some none)
    (cmk_Shelf : PySem.W.makesIn K g_Shelf = true) (ckp_Shelf : PySem.W.keepIn K (.ref g_Shelf) = true)
    (a__law_src : PySem.W.nsIn K mainGlobals "_law_src" = some (some (.ref f__law_src))) (l__law_src : K.lookup f__law_src = some ⟨oc__law_src, od__law_src, .func (PySem.W.fnOf "_law_src" "_law_src" (defArgs s__law_src) (defBody s__law_src) (defScope s__law_src) .none kV__law_src dc__law_src pm__law_src an__law_src cd__law_src ct__law_src), sl__law_src⟩) (c__law_src : PySem.W.codeIn K cd__law_src "_law_src" = true) (k__law_src : PySem.W.keepIn K (.ref f__law_src) = true)
    (a_Shelf___init__ : PySem.W.findIn K (.ref g_Shelf) "__init__" = some (some (.ref f_Shelf___init__))) (i_Shelf___init__ : PySem.W.isFn K (.ref f_Shelf___init__) = true) (l_Shelf___init__ : K.lookup f_Shelf___init__ = some ⟨oc_Shelf___init__, od_Shelf___init__, .func (PySem.W.fnOf "__init__" "Shelf.__init__" (defArgs s_Shelf___init__) (defBody s_Shelf___init__) (defScope s_Shelf___init__) .none kV_Shelf___init__ dc_Shelf___init__ pm_Shelf___init__ an_Shelf___init__ cd_Shelf___init__ ct_Shelf___init__), sl_Shelf___init__⟩) (c_Shelf___init__ : PySem.W.codeIn K cd_Shelf___init__ "Shelf.__init__" = true) (k_Shelf___init__ : PySem.W.keepIn K (.ref f_Shelf___init__) = true)
    (a__law_next : PySem.W.nsIn K mainGlobals "_law_next" = some (some (.ref f__law_next))) (l__law_next : K.lookup f__law_next = some ⟨oc__law_next, od__law_next, .func (PySem.W.fnOf "_law_next" "_law_next" (defArgs s__law_next) (defBody s__law_next) (defScope s__law_next) .none kV__law_next dc__law_next pm__law_next an__law_next cd__law_next ct__law_next), sl__law_next⟩) (c__law_next : PySem.W.codeIn K cd__law_next "_law_next" = true) (k__law_next : PySem.W.keepIn K (.ref f__law_next) = true)
    (a__law_line_by : PySem.W.nsIn K mainGlobals "_law_line_by" = some (some (.ref f__law_line_by))) (l__law_line_by : K.lookup f__law_line_by = some ⟨oc__law_line_by, od__law_line_by, .func (PySem.W.fnOf "_law_line_by" "_law_line_by" (defArgs s__law_line_by) (defBody s__law_line_by) (defScope s__law_line_by) .none kV__law_line_by dc__law_line_by pm__law_line_by an__law_line_by cd__law_line_by ct__law_line_by), sl__law_line_by⟩) (c__law_line_by : PySem.W.codeIn K cd__law_line_by "_law_line_by" = true) (k__law_line_by : PySem.W.keepIn K (.ref f__law_line_by) = true)
    (a__law_items_of : PySem.W.nsIn K mainGlobals "_law_items_of" = some (some (.ref f__law_items_of))) (l__law_items_of : K.lookup f__law_items_of = some ⟨oc__law_items_of, od__law_items_of, .func (PySem.W.fnOf "_law_items_of" "_law_items_of" (defArgs s__law_items_of) (defBody s__law_items_of) (defScope s__law_items_of) .none kV__law_items_of dc__law_items_of pm__law_items_of an__law_items_of cd__law_items_of ct__law_items_of), sl__law_items_of⟩) (c__law_items_of : PySem.W.codeIn K cd__law_items_of "_law_items_of" = true) (k__law_items_of : PySem.W.keepIn K (.ref f__law_items_of) = true)
    (a_Shelf_step : PySem.W.findIn K (.ref g_Shelf) "step" = some (some (.ref f_Shelf_step))) (i_Shelf_step : PySem.W.isFn K (.ref f_Shelf_step) = true) (l_Shelf_step : K.lookup f_Shelf_step = some ⟨oc_Shelf_step, od_Shelf_step, .func (PySem.W.fnOf "step" "Shelf.step" (defArgs s_Shelf_step) (defBody s_Shelf_step) (defScope s_Shelf_step) .none kV_Shelf_step dc_Shelf_step pm_Shelf_step an_Shelf_step cd_Shelf_step ct_Shelf_step), sl_Shelf_step⟩) (c_Shelf_step : PySem.W.codeIn K cd_Shelf_step "Shelf.step" = true) (k_Shelf_step : PySem.W.keepIn K (.ref f_Shelf_step) = true)
    (a__law_step : PySem.W.nsIn K mainGlobals "_law_step" = some (some (.ref f__law_step))) (l__law_step : K.lookup f__law_step = some ⟨oc__law_step, od__law_step, .func (PySem.W.fnOf "_law_step" "_law_step" (defArgs s__law_step) (defBody s__law_step) (defScope s__law_step) .none kV__law_step dc__law_step pm__law_step an__law_step cd__law_step ct__law_step), sl__law_step⟩) (c__law_step : PySem.W.codeIn K cd__law_step "_law_step" = true) (k__law_step : PySem.W.keepIn K (.ref f__law_step) = true)
    (a_Shelf_look : PySem.W.findIn K (.ref g_Shelf) "look" = some (some (.ref f_Shelf_look))) (i_Shelf_look : PySem.W.isFn K (.ref f_Shelf_look) = true) (l_Shelf_look : K.lookup f_Shelf_look = some ⟨oc_Shelf_look, od_Shelf_look, .func (PySem.W.fnOf "look" "Shelf.look" (defArgs s_Shelf_look) (defBody s_Shelf_look) (defScope s_Shelf_look) .none kV_Shelf_look dc_Shelf_look pm_Shelf_look an_Shelf_look cd_Shelf_look ct_Shelf_look), sl_Shelf_look⟩) (c_Shelf_look : PySem.W.codeIn K cd_Shelf_look "Shelf.look" = true) (k_Shelf_look : PySem.W.keepIn K (.ref f_Shelf_look) = true)
    (a_Shelf_row : PySem.W.findIn K (.ref g_Shelf) "row" = some (some (.ref f_Shelf_row))) (i_Shelf_row : PySem.W.isFn K (.ref f_Shelf_row) = true) (l_Shelf_row : K.lookup f_Shelf_row = some ⟨oc_Shelf_row, od_Shelf_row, .func (PySem.W.fnOf "row" "Shelf.row" (defArgs s_Shelf_row) (defBody s_Shelf_row) (defScope s_Shelf_row) .none kV_Shelf_row dc_Shelf_row pm_Shelf_row an_Shelf_row cd_Shelf_row ct_Shelf_row), sl_Shelf_row⟩) (c_Shelf_row : PySem.W.codeIn K cd_Shelf_row "Shelf.row" = true) (k_Shelf_row : PySem.W.keepIn K (.ref f_Shelf_row) = true)
    (a__law_row_or : PySem.W.nsIn K mainGlobals "_law_row_or" = some (some (.ref f__law_row_or))) (l__law_row_or : K.lookup f__law_row_or = some ⟨oc__law_row_or, od__law_row_or, .func (PySem.W.fnOf "_law_row_or" "_law_row_or" (defArgs s__law_row_or) (defBody s__law_row_or) (defScope s__law_row_or) .none kV__law_row_or dc__law_row_or pm__law_row_or an__law_row_or cd__law_row_or ct__law_row_or), sl__law_row_or⟩) (c__law_row_or : PySem.W.codeIn K cd__law_row_or "_law_row_or" = true) (k__law_row_or : PySem.W.keepIn K (.ref f__law_row_or) = true)
    (a__law_whole : PySem.W.nsIn K mainGlobals "_law_whole" = some (some (.ref f__law_whole))) (l__law_whole : K.lookup f__law_whole = some ⟨oc__law_whole, od__law_whole, .func (PySem.W.fnOf "_law_whole" "_law_whole" (defArgs s__law_whole) (defBody s__law_whole) (defScope s__law_whole) .none kV__law_whole dc__law_whole pm__law_whole an__law_whole cd__law_whole ct__law_whole), sl__law_whole⟩) (c__law_whole : PySem.W.codeIn K cd__law_whole "_law_whole" = true) (k__law_whole : PySem.W.keepIn K (.ref f__law_whole) = true)
    (a__law_same : PySem.W.nsIn K mainGlobals "_law_same" = some (some (.ref f__law_same))) (l__law_same : K.lookup f__law_same = some ⟨oc__law_same, od__law_same, .func (PySem.W.fnOf "_law_same" "_law_same" (defArgs s__law_same) (defBody s__law_same) (defScope s__law_same) .none kV__law_same dc__law_same pm__law_same an__law_same cd__law_same ct__law_same), sl__law_same⟩) (c__law_same : PySem.W.codeIn K cd__law_same "_law_same" = true) (k__law_same : PySem.W.keepIn K (.ref f__law_same) = true)
    (a_Shelf_opened : PySem.W.findIn K (.ref g_Shelf) "opened" = some (some (.ref f_Shelf_opened))) (i_Shelf_opened : PySem.W.isFn K (.ref f_Shelf_opened) = true) (l_Shelf_opened : K.lookup f_Shelf_opened = some ⟨oc_Shelf_opened, od_Shelf_opened, .func (PySem.W.fnOf "opened" "Shelf.opened" (defArgs s_Shelf_opened) (defBody s_Shelf_opened) (defScope s_Shelf_opened) .none kV_Shelf_opened dc_Shelf_opened pm_Shelf_opened an_Shelf_opened cd_Shelf_opened ct_Shelf_opened), sl_Shelf_opened⟩) (c_Shelf_opened : PySem.W.codeIn K cd_Shelf_opened "Shelf.opened" = true) (k_Shelf_opened : PySem.W.keepIn K (.ref f_Shelf_opened) = true)
    (a__law_opened_or : PySem.W.nsIn K mainGlobals "_law_opened_or" = some (some (.ref f__law_opened_or))) (l__law_opened_or : K.lookup f__law_opened_or = some ⟨oc__law_opened_or, od__law_opened_or, .func (PySem.W.fnOf "_law_opened_or" "_law_opened_or" (defArgs s__law_opened_or) (defBody s__law_opened_or) (defScope s__law_opened_or) .none kV__law_opened_or dc__law_opened_or pm__law_opened_or an__law_opened_or cd__law_opened_or ct__law_opened_or), sl__law_opened_or⟩) (c__law_opened_or : PySem.W.codeIn K cd__law_opened_or "_law_opened_or" = true) (k__law_opened_or : PySem.W.keepIn K (.ref f__law_opened_or) = true)
    (a_Shelf_rows : PySem.W.findIn K (.ref g_Shelf) "rows" = some (some (.ref f_Shelf_rows))) (i_Shelf_rows : PySem.W.isFn K (.ref f_Shelf_rows) = true) (l_Shelf_rows : K.lookup f_Shelf_rows = some ⟨oc_Shelf_rows, od_Shelf_rows, .func (PySem.W.fnOf "rows" "Shelf.rows" (defArgs s_Shelf_rows) (defBody s_Shelf_rows) (defScope s_Shelf_rows) .none kV_Shelf_rows dc_Shelf_rows pm_Shelf_rows an_Shelf_rows cd_Shelf_rows ct_Shelf_rows), sl_Shelf_rows⟩) (c_Shelf_rows : PySem.W.codeIn K cd_Shelf_rows "Shelf.rows" = true) (k_Shelf_rows : PySem.W.keepIn K (.ref f_Shelf_rows) = true)
    (a_Shelf_many : PySem.W.findIn K (.ref g_Shelf) "many" = some (some (.ref f_Shelf_many))) (i_Shelf_many : PySem.W.isFn K (.ref f_Shelf_many) = true) (l_Shelf_many : K.lookup f_Shelf_many = some ⟨oc_Shelf_many, od_Shelf_many, .func (PySem.W.fnOf "many" "Shelf.many" (defArgs s_Shelf_many) (defBody s_Shelf_many) (defScope s_Shelf_many) .none kV_Shelf_many dc_Shelf_many pm_Shelf_many an_Shelf_many cd_Shelf_many ct_Shelf_many), sl_Shelf_many⟩) (c_Shelf_many : PySem.W.codeIn K cd_Shelf_many "Shelf.many" = true) (k_Shelf_many : PySem.W.keepIn K (.ref f_Shelf_many) = true)
    (a_Shelf_now : PySem.W.findIn K (.ref g_Shelf) "now" = some (some (.ref f_Shelf_now))) (i_Shelf_now : PySem.W.isFn K (.ref f_Shelf_now) = true) (l_Shelf_now : K.lookup f_Shelf_now = some ⟨oc_Shelf_now, od_Shelf_now, .func (PySem.W.fnOf "now" "Shelf.now" (defArgs s_Shelf_now) (defBody s_Shelf_now) (defScope s_Shelf_now) .none kV_Shelf_now dc_Shelf_now pm_Shelf_now an_Shelf_now cd_Shelf_now ct_Shelf_now), sl_Shelf_now⟩) (c_Shelf_now : PySem.W.codeIn K cd_Shelf_now "Shelf.now" = true) (k_Shelf_now : PySem.W.keepIn K (.ref f_Shelf_now) = true)
    (a__law_now_right : PySem.W.nsIn K mainGlobals "_law_now_right" = some (some (.ref f__law_now_right))) (l__law_now_right : K.lookup f__law_now_right = some ⟨oc__law_now_right, od__law_now_right, .func (PySem.W.fnOf "_law_now_right" "_law_now_right" (defArgs s__law_now_right) (defBody s__law_now_right) (defScope s__law_now_right) .none kV__law_now_right dc__law_now_right pm__law_now_right an__law_now_right cd__law_now_right ct__law_now_right), sl__law_now_right⟩) (c__law_now_right : PySem.W.codeIn K cd__law_now_right "_law_now_right" = true) (k__law_now_right : PySem.W.keepIn K (.ref f__law_now_right) = true)
    (a_Shelf_look_then : PySem.W.findIn K (.ref g_Shelf) "look_then" = some (some (.ref f_Shelf_look_then))) (i_Shelf_look_then : PySem.W.isFn K (.ref f_Shelf_look_then) = true) (l_Shelf_look_then : K.lookup f_Shelf_look_then = some ⟨oc_Shelf_look_then, od_Shelf_look_then, .func (PySem.W.fnOf "look_then" "Shelf.look_then" (defArgs s_Shelf_look_then) (defBody s_Shelf_look_then) (defScope s_Shelf_look_then) .none kV_Shelf_look_then dc_Shelf_look_then pm_Shelf_look_then an_Shelf_look_then cd_Shelf_look_then ct_Shelf_look_then), sl_Shelf_look_then⟩) (c_Shelf_look_then : PySem.W.codeIn K cd_Shelf_look_then "Shelf.look_then" = true) (k_Shelf_look_then : PySem.W.keepIn K (.ref f_Shelf_look_then) = true)
    (a_Shelf_row_then : PySem.W.findIn K (.ref g_Shelf) "row_then" = some (some (.ref f_Shelf_row_then))) (i_Shelf_row_then : PySem.W.isFn K (.ref f_Shelf_row_then) = true) (l_Shelf_row_then : K.lookup f_Shelf_row_then = some ⟨oc_Shelf_row_then, od_Shelf_row_then, .func (PySem.W.fnOf "row_then" "Shelf.row_then" (defArgs s_Shelf_row_then) (defBody s_Shelf_row_then) (defScope s_Shelf_row_then) .none kV_Shelf_row_then dc_Shelf_row_then pm_Shelf_row_then an_Shelf_row_then cd_Shelf_row_then ct_Shelf_row_then), sl_Shelf_row_then⟩) (c_Shelf_row_then : PySem.W.codeIn K cd_Shelf_row_then "Shelf.row_then" = true) (k_Shelf_row_then : PySem.W.keepIn K (.ref f_Shelf_row_then) = true)
    (a__law_row_then_or : PySem.W.nsIn K mainGlobals "_law_row_then_or" = some (some (.ref f__law_row_then_or))) (l__law_row_then_or : K.lookup f__law_row_then_or = some ⟨oc__law_row_then_or, od__law_row_then_or, .func (PySem.W.fnOf "_law_row_then_or" "_law_row_then_or" (defArgs s__law_row_then_or) (defBody s__law_row_then_or) (defScope s__law_row_then_or) .none kV__law_row_then_or dc__law_row_then_or pm__law_row_then_or an__law_row_then_or cd__law_row_then_or ct__law_row_then_or), sl__law_row_then_or⟩) (c__law_row_then_or : PySem.W.codeIn K cd__law_row_then_or "_law_row_then_or" = true) (k__law_row_then_or : PySem.W.keepIn K (.ref f__law_row_then_or) = true)
    (a__law_due : PySem.W.nsIn K mainGlobals "_law_due" = some (some (.ref f__law_due))) (l__law_due : K.lookup f__law_due = some ⟨oc__law_due, od__law_due, .func (PySem.W.fnOf "_law_due" "_law_due" (defArgs s__law_due) (defBody s__law_due) (defScope s__law_due) .none kV__law_due dc__law_due pm__law_due an__law_due cd__law_due ct__law_due), sl__law_due⟩) (c__law_due : PySem.W.codeIn K cd__law_due "_law_due" = true) (k__law_due : PySem.W.keepIn K (.ref f__law_due) = true)
    (a_Shelf_rows_then : PySem.W.findIn K (.ref g_Shelf) "rows_then" = some (some (.ref f_Shelf_rows_then))) (i_Shelf_rows_then : PySem.W.isFn K (.ref f_Shelf_rows_then) = true) (l_Shelf_rows_then : K.lookup f_Shelf_rows_then = some ⟨oc_Shelf_rows_then, od_Shelf_rows_then, .func (PySem.W.fnOf "rows_then" "Shelf.rows_then" (defArgs s_Shelf_rows_then) (defBody s_Shelf_rows_then) (defScope s_Shelf_rows_then) .none kV_Shelf_rows_then dc_Shelf_rows_then pm_Shelf_rows_then an_Shelf_rows_then cd_Shelf_rows_then ct_Shelf_rows_then), sl_Shelf_rows_then⟩) (c_Shelf_rows_then : PySem.W.codeIn K cd_Shelf_rows_then "Shelf.rows_then" = true) (k_Shelf_rows_then : PySem.W.keepIn K (.ref f_Shelf_rows_then) = true)
    (a__law_rows_then_or : PySem.W.nsIn K mainGlobals "_law_rows_then_or" = some (some (.ref f__law_rows_then_or))) (l__law_rows_then_or : K.lookup f__law_rows_then_or = some ⟨oc__law_rows_then_or, od__law_rows_then_or, .func (PySem.W.fnOf "_law_rows_then_or" "_law_rows_then_or" (defArgs s__law_rows_then_or) (defBody s__law_rows_then_or) (defScope s__law_rows_then_or) .none kV__law_rows_then_or dc__law_rows_then_or pm__law_rows_then_or an__law_rows_then_or cd__law_rows_then_or ct__law_rows_then_or), sl__law_rows_then_or⟩) (c__law_rows_then_or : PySem.W.codeIn K cd__law_rows_then_or "_law_rows_then_or" = true) (k__law_rows_then_or : PySem.W.keepIn K (.ref f__law_rows_then_or) = true)
    (a__law_moments_right : PySem.W.nsIn K mainGlobals "_law_moments_right" = some (some (.ref f__law_moments_right))) (l__law_moments_right : K.lookup f__law_moments_right = some ⟨oc__law_moments_right, od__law_moments_right, .func (PySem.W.fnOf "_law_moments_right" "_law_moments_right" (defArgs s__law_moments_right) (defBody s__law_moments_right) (defScope s__law_moments_right) .none kV__law_moments_right dc__law_moments_right pm__law_moments_right an__law_moments_right cd__law_moments_right ct__law_moments_right), sl__law_moments_right⟩) (c__law_moments_right : PySem.W.codeIn K cd__law_moments_right "_law_moments_right" = true) (k__law_moments_right : PySem.W.keepIn K (.ref f__law_moments_right) = true)
    (a_law : PySem.W.nsIn K mainGlobals "law" = some (some (.ref f_law))) (l_law : K.lookup f_law = some ⟨oc_law, od_law, .func (PySem.W.fnOf "law" "law" (defArgs s_law) (defBody s_law) (defScope s_law) .none kV_law dc_law pm_law an_law cd_law ct_law), sl_law⟩) (c_law : PySem.W.codeIn K cd_law "law" = true) (k_law : PySem.W.keepIn K (.ref f_law) = true)
    (z_bool : PySem.W.nsIn K mainGlobals "bool" = some none)
    (z_int : PySem.W.nsIn K mainGlobals "int" = some none)
    (z_isinstance : PySem.W.nsIn K mainGlobals "isinstance" = some none)
    (z_len : PySem.W.nsIn K mainGlobals "len" = some none)
    (z_list : PySem.W.nsIn K mainGlobals "list" = some none)
    (z_range : PySem.W.nsIn K mainGlobals "range" = some none)
    (z_str : PySem.W.nsIn K mainGlobals "str" = some none)
    (z_tuple : PySem.W.nsIn K mainGlobals "tuple" = some none)
    (z_zip : PySem.W.nsIn K mainGlobals "zip" = some none)
    {g_NoSheet : Addr} (q_NoSheet : PySem.W.nsIn K mainGlobals "NoSheet" = some (some (.ref g_NoSheet)))
    {g_NoMoment : Addr} (q_NoMoment : PySem.W.nsIn K mainGlobals "NoMoment" = some (some (.ref g_NoMoment)))
    (q1_NoSheet : PySem.W.excIn K g_NoSheet [.type "ValueError", .type "Exception", .type "BaseException", .type "object"] "ValueError.__new__" = true) (q2_NoSheet : PySem.W.keepIn K (.ref g_NoSheet) = true) (q3_NoSheet : PySem.W.subIn K (.ref g_NoSheet) (.type "BaseException") = some true) (q4_NoSheet : PySem.W.typeIn K (.ref g_NoSheet) = some (.type "type"))
    (q1_NoMoment : PySem.W.excIn K g_NoMoment [.type "ValueError", .type "Exception", .type "BaseException", .type "object"] "ValueError.__new__" = true) (q2_NoMoment : PySem.W.keepIn K (.ref g_NoMoment) = true) (q3_NoMoment : PySem.W.subIn K (.ref g_NoMoment) (.type "BaseException") = some true) (q4_NoMoment : PySem.W.typeIn K (.ref g_NoMoment) = some (.type "type"))
    (p1_NoSheet : PySem.W.subIn K (.ref g_NoSheet) (.type "BaseException") = some true) (p2_NoSheet : PySem.W.isClsIn K g_NoSheet = true) (p3_NoSheet : PySem.W.typeIn K (.ref g_NoSheet) = some (.type "type"))
    (p_NoSheet_NoSheet : PySem.W.subIn K (.ref g_NoSheet) (.ref g_NoSheet) = some true)
    (p_NoMoment_NoSheet : PySem.W.subIn K (.ref g_NoMoment) (.ref g_NoSheet) = some false)
    (p1_NoMoment : PySem.W.subIn K (.ref g_NoMoment) (.type "BaseException") = some true) (p2_NoMoment : PySem.W.isClsIn K g_NoMoment = true) (p3_NoMoment : PySem.W.typeIn K (.ref g_NoMoment) = some (.type "type"))
    (p_NoSheet_NoMoment : PySem.W.subIn K (.ref g_NoSheet) (.ref g_NoMoment) = some false)
    (p_NoMoment_NoMoment : PySem.W.subIn K (.ref g_NoMoment) (.ref g_NoMoment) = some true)
    : ∃ fd : FuncData, (∀ (s : Shared) (v : Value), BindsTo s fd ⟨[v], []⟩ [("_law_script", v)]) ∧ ∀ base : Heap, K.In base → base.Ns mainGlobals mg → FnOk l.prog w K mg base (L2.CX l.prog w) 9 fa fd ["_law_script"] (spLaw K) := by
  have e := hfa.symm.trans (PySem.W.mg_of X G a_law)
  cases e
  have F__law_src := fun_mk (st := s__law_src) l__law_src c__law_src k__law_src
  have b__law_src := F__law_src.binds (ps := ["_law_script"]) fun _ _ _ _ _ _ us hl => match us, hl with | [_], _ => rfl
  have F_Shelf___init__ := fun_mk (st := s_Shelf___init__) l_Shelf___init__ c_Shelf___init__ k_Shelf___init__
  have b_Shelf___init__ := F_Shelf___init__.binds (ps := ["self"]) fun _ _ _ _ _ _ us hl => match us, hl with | [_], _ => rfl
  have F__law_next := fun_mk (st := s__law_next) l__law_next c__law_next k__law_next
  have b__law_next := F__law_next.binds (ps := ["_law_src_here", "_law_base"]) fun _ _ _ _ _ _ us hl => match us, hl with | [_, _], _ => rfl
  have F__law_line_by := fun_mk (st := s__law_line_by) l__law_line_by c__law_line_by k__law_line_by
  have b__law_line_by := F__law_line_by.binds (ps := ["_law_src_here", "_law_many"]) fun _ _ _ _ _ _ us hl => match us, hl with | [_, _], _ => rfl
  have F__law_items_of := fun_mk (st := s__law_items_of) l__law_items_of c__law_items_of k__law_items_of
  have b__law_items_of := F__law_items_of.binds (ps := ["_law_entries"]) fun _ _ _ _ _ _ us hl => match us, hl with | [_], _ => rfl
  have F_Shelf_step := fun_mk (st := s_Shelf_step) l_Shelf_step c_Shelf_step k_Shelf_step
  have b_Shelf_step := F_Shelf_step.binds (ps := ["self", "changes"]) fun _ _ _ _ _ _ us hl => match us, hl with | [_, _], _ => rfl
  have F__law_step := fun_mk (st := s__law_step) l__law_step c__law_step k__law_step
  have b__law_step := F__law_step.binds (ps := ["_law_src_here", "_law_shelf", "_law_past"]) fun _ _ _ _ _ _ us hl => match us, hl with | [_, _, _], _ => rfl
  have F_Shelf_look := fun_mk (st := s_Shelf_look) l_Shelf_look c_Shelf_look k_Shelf_look
  have b_Shelf_look := F_Shelf_look.binds (ps := ["self", "sheet"]) fun _ _ _ _ _ _ us hl => match us, hl with | [_, _], _ => rfl
  have F_Shelf_row := fun_mk (st := s_Shelf_row) l_Shelf_row c_Shelf_row k_Shelf_row
  have b_Shelf_row := F_Shelf_row.binds (ps := ["self", "sheet"]) fun _ _ _ _ _ _ us hl => match us, hl with | [_, _], _ => rfl
  have F__law_row_or := fun_mk (st := s__law_row_or) l__law_row_or c__law_row_or k__law_row_or
  have b__law_row_or := F__law_row_or.binds (ps := ["_law_shelf", "_law_sheet"]) fun _ _ _ _ _ _ us hl => match us, hl with | [_, _], _ => rfl
  have F__law_whole := fun_mk (st := s__law_whole) l__law_whole c__law_whole k__law_whole
  have b__law_whole := F__law_whole.binds (ps := ["_law_found"]) fun _ _ _ _ _ _ us hl => match us, hl with | [_], _ => rfl
  have F__law_same := fun_mk (st := s__law_same) l__law_same c__law_same k__law_same
  have b__law_same := F__law_same.binds (ps := ["_law_found", "_law_due_here"]) fun _ _ _ _ _ _ us hl => match us, hl with | [_, _], _ => rfl
  have F_Shelf_opened := fun_mk (st := s_Shelf_opened) l_Shelf_opened c_Shelf_opened k_Shelf_opened
  have b_Shelf_opened := F_Shelf_opened.binds (ps := ["self", "sheet"]) fun _ _ _ _ _ _ us hl => match us, hl with | [_, _], _ => rfl
  have F__law_opened_or := fun_mk (st := s__law_opened_or) l__law_opened_or c__law_opened_or k__law_opened_or
  have b__law_opened_or := F__law_opened_or.binds (ps := ["_law_shelf", "_law_sheet"]) fun _ _ _ _ _ _ us hl => match us, hl with | [_, _], _ => rfl
  have F_Shelf_rows := fun_mk (st := s_Shelf_rows) l_Shelf_rows c_Shelf_rows k_Shelf_rows
  have b_Shelf_rows := F_Shelf_rows.binds (ps := ["self"]) fun _ _ _ _ _ _ us hl => match us, hl with | [_], _ => rfl
  have F_Shelf_many := fun_mk (st := s_Shelf_many) l_Shelf_many c_Shelf_many k_Shelf_many
  have b_Shelf_many := F_Shelf_many.binds (ps := ["self"]) fun _ _ _ _ _ _ us hl => match us, hl with | [_], _ => rfl
  have F_Shelf_now := fun_mk (st := s_Shelf_now) l_Shelf_now c_Shelf_now k_Shelf_now
  have b_Shelf_now := F_Shelf_now.binds (ps := ["self"]) fun _ _ _ _ _ _ us hl => match us, hl with | [_], _ => rfl
  have F__law_now_right := fun_mk (st := s__law_now_right) l__law_now_right c__law_now_right k__law_now_right
  have b__law_now_right := F__law_now_right.binds (ps := ["_law_shelf", "_law_past"]) fun _ _ _ _ _ _ us hl => match us, hl with | [_, _], _ => rfl
  have F_Shelf_look_then := fun_mk (st := s_Shelf_look_then) l_Shelf_look_then c_Shelf_look_then k_Shelf_look_then
  have b_Shelf_look_then := F_Shelf_look_then.binds (ps := ["self", "sheet", "moment"]) fun _ _ _ _ _ _ us hl => match us, hl with | [_, _, _], _ => rfl
  have F_Shelf_row_then := fun_mk (st := s_Shelf_row_then) l_Shelf_row_then c_Shelf_row_then k_Shelf_row_then
  have b_Shelf_row_then := F_Shelf_row_then.binds (ps := ["self", "sheet", "moment"]) fun _ _ _ _ _ _ us hl => match us, hl with | [_, _, _], _ => rfl
  have F__law_row_then_or := fun_mk (st := s__law_row_then_or) l__law_row_then_or c__law_row_then_or k__law_row_then_or
  have b__law_row_then_or := F__law_row_then_or.binds (ps := ["_law_shelf", "_law_sheet", "_law_moment"]) fun _ _ _ _ _ _ us hl => match us, hl with | [_, _, _], _ => rfl
  have F__law_due := fun_mk (st := s__law_due) l__law_due c__law_due k__law_due
  have b__law_due := F__law_due.binds (ps := ["_law_past", "_law_sheet", "_law_moment"]) fun _ _ _ _ _ _ us hl => match us, hl with | [_, _, _], _ => rfl
  have F_Shelf_rows_then := fun_mk (st := s_Shelf_rows_then) l_Shelf_rows_then c_Shelf_rows_then k_Shelf_rows_then
  have b_Shelf_rows_then := F_Shelf_rows_then.binds (ps := ["self", "moment"]) fun _ _ _ _ _ _ us hl => match us, hl with | [_, _], _ => rfl
  have F__law_rows_then_or := fun_mk (st := s__law_rows_then_or) l__law_rows_then_or c__law_rows_then_or k__law_rows_then_or
  have b__law_rows_then_or := F__law_rows_then_or.binds (ps := ["_law_shelf", "_law_moment"]) fun _ _ _ _ _ _ us hl => match us, hl with | [_, _], _ => rfl
  have F__law_moments_right := fun_mk (st := s__law_moments_right) l__law_moments_right c__law_moments_right k__law_moments_right
  have b__law_moments_right := F__law_moments_right.binds (ps := ["_law_shelf", "_law_past"]) fun _ _ _ _ _ _ us hl => match us, hl with | [_, _], _ => rfl
  have F_law := fun_mk (st := s_law) l_law c_law k_law
  have b_law := F_law.binds (ps := ["_law_script"]) fun _ _ _ _ _ _ us hl => match us, hl with | [_], _ => rfl
  have m_NoSheet := PySem.W.mg_of X G q_NoSheet
  have ca_NoSheet : CAo mg "NoSheet" = some g_NoSheet := by unfold CAo; rw [m_NoSheet]
  have m_NoMoment := PySem.W.mg_of X G q_NoMoment
  have ca_NoMoment : CAo mg "NoMoment" = some g_NoMoment := by unfold CAo; rw [m_NoMoment]
  have m_Shelf := PySem.W.mg_of X G q_Shelf
  have ca_Shelf : CAo mg "Shelf" = some g_Shelf := by unfold CAo; rw [m_Shelf]
  have T : TX K mg ⟨f__law_src, _, f_Shelf___init__, _, f__law_next, _, f__law_line_by, _, f__law_items_of, _, f_Shelf_step, _, f__law_step, _, f_Shelf_look, _, f_Shelf_row, _, f__law_row_or, _, f__law_whole, _, f__law_same, _, f_Shelf_opened, _, f__law_opened_or, _, f_Shelf_rows, _, f_Shelf_many, _, f_Shelf_now, _, f__law_now_right, _, f_Shelf_look_then, _, f_Shelf_row_then, _, f__law_row_then_or, _, f__law_due, _, f_Shelf_rows_then, _, f__law_rows_then_or, _, f__law_moments_right, _, fa, _, g_Shelf⟩ := ⟨⟨F__law_src, PySem.W.mg_of X G a__law_src, k__law_src, b__law_src⟩, ⟨F_Shelf___init__, b_Shelf___init__⟩, ⟨F__law_next, PySem.W.mg_of X G a__law_next, k__law_next, b__law_next⟩, ⟨F__law_line_by, PySem.W.mg_of X G a__law_line_by, k__law_line_by, b__law_line_by⟩, ⟨F__law_items_of, PySem.W.mg_of X G a__law_items_of, k__law_items_of, b__law_items_of⟩, ⟨F_Shelf_step, b_Shelf_step⟩, ⟨F__law_step, PySem.W.mg_of X G a__law_step, k__law_step, b__law_step⟩, ⟨F_Shelf_look, b_Shelf_look⟩, ⟨F_Shelf_row, b_Shelf_row⟩, ⟨F__law_row_or, PySem.W.mg_of X G a__law_row_or, k__law_row_or, b__law_row_or⟩, ⟨F__law_whole, PySem.W.mg_of X G a__law_whole, k__law_whole, b__law_whole⟩, ⟨F__law_same, PySem.W.mg_of X G a__law_same, k__law_same, b__law_same⟩, ⟨F_Shelf_opened, b_Shelf_opened⟩, ⟨F__law_opened_or, PySem.W.mg_of X G a__law_opened_or, k__law_opened_or, b__law_opened_or⟩, ⟨F_Shelf_rows, b_Shelf_rows⟩, ⟨F_Shelf_many, b_Shelf_many⟩, ⟨F_Shelf_now, b_Shelf_now⟩, ⟨F__law_now_right, PySem.W.mg_of X G a__law_now_right, k__law_now_right, b__law_now_right⟩, ⟨F_Shelf_look_then, b_Shelf_look_then⟩, ⟨F_Shelf_row_then, b_Shelf_row_then⟩, ⟨F__law_row_then_or, PySem.W.mg_of X G a__law_row_then_or, k__law_row_then_or, b__law_row_then_or⟩, ⟨F__law_due, PySem.W.mg_of X G a__law_due, k__law_due, b__law_due⟩, ⟨F_Shelf_rows_then, b_Shelf_rows_then⟩, ⟨F__law_rows_then_or, PySem.W.mg_of X G a__law_rows_then_or, k__law_rows_then_or, b__law_rows_then_or⟩, ⟨F__law_moments_right, PySem.W.mg_of X G a__law_moments_right, k__law_moments_right, b__law_moments_right⟩, ⟨F_law, PySem.W.mg_of X G a_law, k_law, b_law⟩, PySem.W.mg_none_of X G z_bool, PySem.W.mg_none_of X G z_int, PySem.W.mg_none_of X G z_isinstance, PySem.W.mg_none_of X G z_len, PySem.W.mg_none_of X G z_list, PySem.W.mg_none_of X G z_range, PySem.W.mg_none_of X G z_str, PySem.W.mg_none_of X G z_tuple, PySem.W.mg_none_of X G z_zip, ⟨_, ca_NoSheet, m_NoSheet, q1_NoSheet, q2_NoSheet, q3_NoSheet, q4_NoSheet⟩, ⟨_, ca_NoMoment, m_NoMoment, q1_NoMoment, q2_NoMoment, q3_NoMoment, q4_NoMoment⟩, ⟨_, ca_NoSheet, m_NoSheet⟩, ⟨_, ca_NoMoment, m_NoMoment⟩, (hier_cons ca_NoSheet ca_NoSheet (exm_of p1_NoSheet p2_NoSheet p3_NoSheet p_NoSheet_NoSheet) (hier_cons ca_NoSheet ca_NoMoment (exm_of p1_NoMoment p2_NoMoment p3_NoMoment p_NoSheet_NoMoment) (hier_cons ca_NoMoment ca_NoSheet (exm_of p1_NoSheet p2_NoSheet p3_NoSheet p_NoMoment_NoSheet) (hier_cons ca_NoMoment ca_NoMoment (exm_of p1_NoMoment p2_NoMoment p3_NoMoment p_NoMoment_NoMoment) hier_nil)))), ca_Shelf, m_Shelf, ⟨cpg_Shelf, chd_Shelf, cpo_Shelf, csa_Shelf⟩, cna_Shelf_past, cna_Shelf_moment, ⟨a_Shelf_step, i_Shelf_step, k_Shelf_step⟩, ⟨a_Shelf_look, i_Shelf_look, k_Shelf_look⟩, ⟨a_Shelf_row, i_Shelf_row, k_Shelf_row⟩, ⟨a_Shelf_opened, i_Shelf_opened, k_Shelf_opened⟩, ⟨a_Shelf_rows, i_Shelf_rows, k_Shelf_rows⟩, ⟨a_Shelf_many, i_Shelf_many, k_Shelf_many⟩, ⟨a_Shelf_now, i_Shelf_now, k_Shelf_now⟩, ⟨a_Shelf_look_then, i_Shelf_look_then, k_Shelf_look_then⟩, ⟨a_Shelf_row_then, i_Shelf_row_then, k_Shelf_row_then⟩, ⟨a_Shelf_rows_then, i_Shelf_rows_then, k_Shelf_rows_then⟩, ⟨cmk_Shelf, a_Shelf___init__, i_Shelf___init__, ckp_Shelf⟩⟩
  exact ⟨_, fun s v => .of_eq rfl, fun base _ _ => (ok_law T).imp (spF_law law_true)⟩
end Law
open PySem PySem.W PyProof.Rows
set_option maxRecDepth 100000 in
set_option maxHeartbeats 0 in
theorem PySem.Challenge.cw_inkroot_k23_all_moments_kept_holds : PySem.Challenge.rw_inkroot_k23_all_moments_kept.Holds := by
  w_on; o_law; k_head; (case hw => w_witness2)
  k_fill
  refine PV.law_walk (l := PySem.Challenge.rw_inkroot_k23_all_moments_kept) (k := 9) rfl rfl ⟨rfl, by decide, by decide⟩ (fun w h Y => PySem.W.kIn_of Y) ?F
  case F =>
    intro w mg fa h KX G hmg
    refine' Law.all_mk KX G hmg ?q_Shelf ?cpg_Shelf ?chd_Shelf ?cpo_Shelf ?csa_Shelf ?cna_Shelf_past ?cna_Shelf_moment ?cmk_Shelf ?ckp_Shelf ?a__law_src ?l__law_src ?c__law_src ?k__law_src ?a_Shelf___init__ ?i_Shelf___init__ ?l_Shelf___init__ ?c_Shelf___init__ ?k_Shelf___init__ ?a__law_next ?l__law_next ?c__law_next ?k__law_next ?a__law_line_by ?l__law_line_by ?c__law_line_by ?k__law_line_by ?a__law_items_of ?l__law_items_of ?c__law_items_of ?k__law_items_of ?a_Shelf_step ?i_Shelf_step ?l_Shelf_step ?c_Shelf_step ?k_Shelf_step ?a__law_step ?l__law_step ?c__law_step ?k__law_step ?a_Shelf_look ?i_Shelf_look ?l_Shelf_look ?c_Shelf_look ?k_Shelf_look ?a_Shelf_row ?i_Shelf_row ?l_Shelf_row ?c_Shelf_row ?k_Shelf_row ?a__law_row_or ?l__law_row_or ?c__law_row_or ?k__law_row_or ?a__law_whole ?l__law_whole ?c__law_whole ?k__law_whole ?a__law_same ?l__law_same ?c__law_same ?k__law_same ?a_Shelf_opened ?i_Shelf_opened ?l_Shelf_opened ?c_Shelf_opened ?k_Shelf_opened ?a__law_opened_or ?l__law_opened_or ?c__law_opened_or ?k__law_opened_or ?a_Shelf_rows ?i_Shelf_rows ?l_Shelf_rows ?c_Shelf_rows ?k_Shelf_rows ?a_Shelf_many ?i_Shelf_many ?l_Shelf_many ?c_Shelf_many ?k_Shelf_many ?a_Shelf_now ?i_Shelf_now ?l_Shelf_now ?c_Shelf_now ?k_Shelf_now ?a__law_now_right ?l__law_now_right ?c__law_now_right ?k__law_now_right ?a_Shelf_look_then ?i_Shelf_look_then ?l_Shelf_look_then ?c_Shelf_look_then ?k_Shelf_look_then ?a_Shelf_row_then ?i_Shelf_row_then ?l_Shelf_row_then ?c_Shelf_row_then ?k_Shelf_row_then ?a__law_row_then_or ?l__law_row_then_or ?c__law_row_then_or ?k__law_row_then_or ?a__law_due ?l__law_due ?c__law_due ?k__law_due ?a_Shelf_rows_then ?i_Shelf_rows_then ?l_Shelf_rows_then ?c_Shelf_rows_then ?k_Shelf_rows_then ?a__law_rows_then_or ?l__law_rows_then_or ?c__law_rows_then_or ?k__law_rows_then_or ?a__law_moments_right ?l__law_moments_right ?c__law_moments_right ?k__law_moments_right ?a_law ?l_law ?c_law ?k_law ?z_bool ?z_int ?z_isinstance ?z_len ?z_list ?z_range ?z_str ?z_tuple ?z_zip ?q_NoSheet ?q_NoMoment ?q1_NoSheet ?q2_NoSheet ?q3_NoSheet ?q4_NoSheet ?q1_NoMoment ?q2_NoMoment ?q3_NoMoment ?q4_NoMoment ?p1_NoSheet ?p2_NoSheet ?p3_NoSheet ?p_NoSheet_NoSheet ?p_NoMoment_NoSheet ?p1_NoMoment ?p2_NoMoment ?p3_NoMoment ?p_NoSheet_NoMoment ?p_NoMoment_NoMoment
    (case q_Shelf => first | k_is | rfl)
    (case cpg_Shelf => first | k_is | rfl)
    (case chd_Shelf => first | k_is | rfl)
    (case cpo_Shelf => first | k_is | rfl)
    (case csa_Shelf => first | k_is | rfl)
    (case cna_Shelf_past => first | k_is | rfl)
    (case cna_Shelf_moment => first | k_is | rfl)
    (case cmk_Shelf => first | k_is | rfl)
    (case ckp_Shelf => first | k_is | rfl)
    (case a__law_src => first | k_is | rfl)
    (case l__law_src => first | k_is | rfl)
    (case c__law_src => first | k_is | rfl)
    (case k__law_src => first | k_is | rfl)
    (case a_Shelf___init__ => first | k_is | rfl)
    (case i_Shelf___init__ => first | k_is | rfl)
    (case l_Shelf___init__ => first | k_is | rfl)
    (case c_Shelf___init__ => first | k_is | rfl)
    (case k_Shelf___init__ => first | k_is | rfl)
    (case a__law_next => first | k_is | rfl)
    (case l__law_next => first | k_is | rfl)
    (case c__law_next => first | k_is | rfl)
    (case k__law_next => first | k_is | rfl)
    (case a__law_line_by => first | k_is | rfl)
    (case l__law_line_by => first | k_is | rfl)
    (case c__law_line_by => first | k_is | rfl)
    (case k__law_line_by => first | k_is | rfl)
    (case a__law_items_of => first | k_is | rfl)
    (case l__law_items_of => first | k_is | rfl)
    (case c__law_items_of => first | k_is | rfl)
    (case k__law_items_of => first | k_is | rfl)
    (case a_Shelf_step => first | k_is | rfl)
    (case i_Shelf_step => first | k_is | rfl)
    (case l_Shelf_step => first | k_is | rfl)
    (case c_Shelf_step => first | k_is | rfl)
    (case k_Shelf_step => first | k_is | rfl)
    (case a__law_step => first | k_is | rfl)
    (case l__law_step => first | k_is | rfl)
    (case c__law_step => first | k_is | rfl)
    (case k__law_step => first | k_is | rfl)
    (case a_Shelf_look => first | k_is | rfl)
    (case i_Shelf_look => first | k_is | rfl)
    (case l_Shelf_look => first | k_is | rfl)
    (case c_Shelf_look => first | k_is | rfl)
    (case k_Shelf_look => first | k_is | rfl)
    (case a_Shelf_row => first | k_is | rfl)
    (case i_Shelf_row => first | k_is | rfl)
    (case l_Shelf_row => first | k_is | rfl)
    (case c_Shelf_row => first | k_is | rfl)
    (case k_Shelf_row => first | k_is | rfl)
    (case a__law_row_or => first | k_is | rfl)
    (case l__law_row_or => first | k_is | rfl)
    (case c__law_row_or => first | k_is | rfl)
    (case k__law_row_or => first | k_is | rfl)
    (case a__law_whole => first | k_is | rfl)
    (case l__law_whole => first | k_is | rfl)
    (case c__law_whole => first | k_is | rfl)
    (case k__law_whole => first | k_is | rfl)
    (case a__law_same => first | k_is | rfl)
    (case l__law_same => first | k_is | rfl)
    (case c__law_same => first | k_is | rfl)
    (case k__law_same => first | k_is | rfl)
    (case a_Shelf_opened => first | k_is | rfl)
    (case i_Shelf_opened => first | k_is | rfl)
    (case l_Shelf_opened => first | k_is | rfl)
    (case c_Shelf_opened => first | k_is | rfl)
    (case k_Shelf_opened => first | k_is | rfl)
    (case a__law_opened_or => first | k_is | rfl)
    (case l__law_opened_or => first | k_is | rfl)
    (case c__law_opened_or => first | k_is | rfl)
    (case k__law_opened_or => first | k_is | rfl)
    (case a_Shelf_rows => first | k_is | rfl)
    (case i_Shelf_rows => first | k_is | rfl)
    (case l_Shelf_rows => first | k_is | rfl)
    (case c_Shelf_rows => first | k_is | rfl)
    (case k_Shelf_rows => first | k_is | rfl)
    (case a_Shelf_many => first | k_is | rfl)
    (case i_Shelf_many => first | k_is | rfl)
    (case l_Shelf_many => first | k_is | rfl)
    (case c_Shelf_many => first | k_is | rfl)
    (case k_Shelf_many => first | k_is | rfl)
    (case a_Shelf_now => first | k_is | rfl)
    (case i_Shelf_now => first | k_is | rfl)
    (case l_Shelf_now => first | k_is | rfl)
    (case c_Shelf_now => first | k_is | rfl)
    (case k_Shelf_now => first | k_is | rfl)
    (case a__law_now_right => first | k_is | rfl)
    (case l__law_now_right => first | k_is | rfl)
    (case c__law_now_right => first | k_is | rfl)
    (case k__law_now_right => first | k_is | rfl)
    (case a_Shelf_look_then => first | k_is | rfl)
    (case i_Shelf_look_then => first | k_is | rfl)
    (case l_Shelf_look_then => first | k_is | rfl)
    (case c_Shelf_look_then => first | k_is | rfl)
    (case k_Shelf_look_then => first | k_is | rfl)
    (case a_Shelf_row_then => first | k_is | rfl)
    (case i_Shelf_row_then => first | k_is | rfl)
    (case l_Shelf_row_then => first | k_is | rfl)
    (case c_Shelf_row_then => first | k_is | rfl)
    (case k_Shelf_row_then => first | k_is | rfl)
    (case a__law_row_then_or => first | k_is | rfl)
    (case l__law_row_then_or => first | k_is | rfl)
    (case c__law_row_then_or => first | k_is | rfl)
    (case k__law_row_then_or => first | k_is | rfl)
    (case a__law_due => first | k_is | rfl)
    (case l__law_due => first | k_is | rfl)
    (case c__law_due => first | k_is | rfl)
    (case k__law_due => first | k_is | rfl)
    (case a_Shelf_rows_then => first | k_is | rfl)
    (case i_Shelf_rows_then => first | k_is | rfl)
    (case l_Shelf_rows_then => first | k_is | rfl)
    (case c_Shelf_rows_then => first | k_is | rfl)
    (case k_Shelf_rows_then => first | k_is | rfl)
    (case a__law_rows_then_or => first | k_is | rfl)
    (case l__law_rows_then_or => first | k_is | rfl)
    (case c__law_rows_then_or => first | k_is | rfl)
    (case k__law_rows_then_or => first | k_is | rfl)
    (case a__law_moments_right => first | k_is | rfl)
    (case l__law_moments_right => first | k_is | rfl)
    (case c__law_moments_right => first | k_is | rfl)
    (case k__law_moments_right => first | k_is | rfl)
    (case a_law => first | k_is | rfl)
    (case l_law => first | k_is | rfl)
    (case c_law => first | k_is | rfl)
    (case k_law => first | k_is | rfl)
    (case z_bool => first | k_is | rfl)
    (case z_int => first | k_is | rfl)
    (case z_isinstance => first | k_is | rfl)
    (case z_len => first | k_is | rfl)
    (case z_list => first | k_is | rfl)
    (case z_range => first | k_is | rfl)
    (case z_str => first | k_is | rfl)
    (case z_tuple => first | k_is | rfl)
    (case z_zip => first | k_is | rfl)
    (case q_NoSheet => first | k_is | rfl)
    (case q_NoMoment => first | k_is | rfl)
    (case q1_NoSheet => k_exc)
    (case q2_NoSheet => first | k_is | rfl)
    (case q3_NoSheet => first | k_is | rfl)
    (case q4_NoSheet => first | k_is | rfl)
    (case q1_NoMoment => k_exc)
    (case q2_NoMoment => first | k_is | rfl)
    (case q3_NoMoment => first | k_is | rfl)
    (case q4_NoMoment => first | k_is | rfl)
    (case p1_NoSheet => first | k_is | rfl)
    (case p2_NoSheet => first | k_is | rfl)
    (case p3_NoSheet => first | k_is | rfl)
    (case p_NoSheet_NoSheet => first | k_is | rfl)
    (case p_NoMoment_NoSheet => first | k_is | rfl)
    (case p1_NoMoment => first | k_is | rfl)
    (case p2_NoMoment => first | k_is | rfl)
    (case p3_NoMoment => first | k_is | rfl)
    (case p_NoSheet_NoMoment => first | k_is | rfl)
    (case p_NoMoment_NoMoment => first | k_is | rfl)
#print axioms PySem.Challenge.cw_inkroot_k23_all_moments_kept_holds
